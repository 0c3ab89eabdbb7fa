import PyProof.Rows.All
import Wide.All
import OpenK.AllK
import Wide.FinOn
import HandS.ForExc
import HandS.GenList
import HandS.TupAny
import HandS.Defaults
import HandS.WordsExc
import HandS.ForMost
import HandS.ExcInit
import HandS.ExcIs
import HandS.ExcField
import HandS.ClsMeth
import KE.KExcSuper
import HandS.SetBool
import HandS.TupSets
import HandS.Strs
import HandS.DictComp
import HandS.More
import HandS.Conv
import HandS.Deep
import PyProof.ListStr
import HandS.Evl
import HandS.IsInst
import HandS.Steps
import HandS.Property
import HandS.HeadHook1
import HandS.HeadHook2
import PySem.Challenge.RW_looseorder_k26_whole_orders_listed_and_n
import HandS.Wide
import HandS.ExcOwn
import KE.KExcIs
import KE.KStateDown
import HandS.Head0
import HandS.Head1
import HandS.Head2
import HandS.HeadEnd
set_option Elab.async false
set_option linter.all false
set_option maxRecDepth 100000
set_option maxHeartbeats 1000000
namespace LG
open PySem L2 GenW PySem.Spec PyProof.Rows

section
variable {prog : Program} {w : World} {A : Around} {R : GenEnd} {Y : Protocol} {n : Nat} {s₀ s : Shared} {c : Code} {fs : List Frame} {env : Env} {K : Flow → Sem PySem.Fin} {J : Value → Sem PySem.Fin} {gd : Bool → Bool} {lv : List Value → List Value}

theorem sg_if {test : Expr} {body orelse : List Stmt} {pos : Pos}
    (h : wpAny (model prog w) (A.over c fs) (isTrue test env (eval test env)) (fun b s' =>
       if b = true then Seg (model prog w) A R Y n s₀ c ((execs body env).wrap K J gd lv) fs s' else Seg (model prog w) A R Y n s₀ c ((execs orelse env).wrap K J gd lv) fs s')
       (fun _ _ => False) s) :
    Seg (model prog w) A R Y n s₀ c ((exec (.If test body orelse pos) env).wrap K J gd lv) fs s := by
  rw [exec_If]
  refine seg_bind_wrap (wpAny_standAt ?_)
  refine seg_bind_wrap (wpAny_mono h (fun b s' hb => ?_) fun _ _ z => False.elim z)
  cases b <;> exact hb

/-- what a loop's call does with its result -/
abbrev loopBack (env : Env) (K : Flow → Sem PySem.Fin) (J : Value → Sem PySem.Fin) (gd : Bool → Bool) (lv : List Value → List Value) : Result → Sem PySem.Fin := fun r =>
  ((match r with | .ok f => (.pure f : Sem Flow) | .error e => .raise e).onRaise (cameBack env)).wrap K J gd lv

theorem sg_for {target iter : Expr} {body orelse : List Stmt} {pos : Pos} (hs : ∀ x, foldedSetIterable iter env x = pure x)
    (h : wpAny (model prog w) (A.over c fs) (eval iter env) (fun xv s1 => wpAny (model prog w) (A.over c fs) (pyIter xv) (fun it s2 =>
      ∀ p, Seg (model prog w) A R Y n s₀ (.forLoop target it body orelse env) ((model prog w).den (.forLoop target it body orelse env)) (.ret (loopBack env K J gd lv) none (gd false) (lv []) c p [] :: fs) s2) (fun _ _ => False) s1) (fun _ _ => False) s) :
    Seg (model prog w) A R Y n s₀ c ((exec (.For target iter body orelse pos) env).wrap K J gd lv) fs s := by
  rw [exec_For]
  refine seg_bind_wrap (wpAny_standAt ?_)
  refine seg_bind_wrap (wpAny_mono h (fun xv s1 h1 => ?_) fun _ _ z => False.elim z)
  refine seg_bind_wrap (wpAny_of_eq (hs xv) ?_)
  refine seg_bind_wrap (wpAny_standAt ?_)
  refine seg_bind_wrap (wpAny_holding (wpAny_mono h1 (fun it s2 h2 => ?_) fun _ _ z => False.elim z))
  exact seg_call h2

/-- a turn of a for loop in a generator's body -/
theorem sg_turn {target : Expr} {it : Value} {body : List Stmt}
    (h : wpAny (model prog w) (A.over (.forLoop target it body [] env) fs) (pyNext it) (fun r s' => match r with
      | none => Seg (model prog w) A R Y n s₀ (.block [] env) (.pure (.done .next)) fs s'
      | some v => wpAny (model prog w) (A.over (.forLoop target it body [] env) fs) (letOwnedTupleGo target it v) (fun _ s1 => wpAny (model prog w) (A.over (.forLoop target it body [] env) fs) (assign target env v) (fun _ s2 =>
          ∀ J', Seg (model prog w) A R Y n s₀ (.forLoop target it body [] env) ((execs body env).wrap (fun f => match f with
            | .next | .cont => .pure (.again (.forLoop target it body [] env))
            | .brk => .pure (.done .next)
            | .ret v => .pure (.done (.ret v))) J' id id) fs s2) (fun _ _ => False) s1) (fun _ _ => False) s') (fun _ _ => False) s) :
    Seg (model prog w) A R Y n s₀ (.forLoop target it body [] env) ((model prog w).den (.forLoop target it body [] env)) fs s := by
  show Seg _ A R Y n s₀ _ ((forTurn target it body [] env).onRaise (fun x => do noteFrame x env; theTreesLotGoes x)) fs s
  rw [Sem.onRaise_eq_wrap]
  unfold forTurn
  refine seg_bind_wrap (wpAny_standAt ?_)
  refine seg_bind_wrap (wpAny_onRaise (wpAny_mono h (fun r s' hr => ?_) fun _ _ z => False.elim z))
  cases r with
  | none =>
    refine seg_again rfl ?_
    show Seg _ A R Y n s₀ _ (((execs [] env).onRaise (fun x => do noteFrame x env; theTreesLotGoes x)) >>= fun f => pure (.done f)) fs s'
    exact hr
  | some v =>
    refine seg_bind_wrap (wpAny_mono hr (fun _ s1 h1 => ?_) fun _ _ z => False.elim z)
    refine seg_bind_wrap (wpAny_mono h1 (fun _ s2 h2 => ?_) fun _ _ z => False.elim z)
    rw [Sem.bind_eq_wrap', Sem.wrap_wrap]
    rw [Sem.wrap_congr (execs body env) _ _ (K' := fun f => match f with
            | .next | .cont => .pure (.again (.forLoop target it body [] env))
            | .brk => .pure (.done .next)
            | .ret v => .pure (.done (.ret v))) (fun f => by cases f <;> rfl) (fun e => rfl)]
    exact h2 _
end
end LG

set_option Elab.async false
set_option linter.all false
set_option maxRecDepth 100000
set_option maxHeartbeats 1000000
namespace LG
open PySem L2 GenW PySem.Spec PyProof.Rows

/-! ### the heap cut at an address -/
def cutH (h : Heap) (L : Nat) : Heap := { h with objs := h.objs.extract 0 L }
theorem cut_size {h : Heap} {L : Nat} (hl : L ≤ h.objs.size) : (cutH h L).objs.size = L := by
  show (h.objs.extract 0 L).size = L
  rw [Array.size_extract]; omega
theorem cut_lt {h : Heap} {L b : Nat} (hb : b < L) : (cutH h L).get? b = h.get? b := by
  unfold Heap.get?
  have e : (cutH h L).objs[b]? = h.objs[b]? := by
    show (h.objs.extract 0 L)[b]? = h.objs[b]?
    rw [Array.getElem?_extract]
    by_cases hs : b < h.objs.size
    · rw [if_pos (by omega)]; simp
    · rw [if_neg (by omega)]; rw [Array.getElem?_eq_none (by omega)]
  rw [e]
theorem cut_of {h : Heap} {L b : Nat} {o : Obj} (e : (cutH h L).get? b = some o) : b < L ∧ h.get? b = some o := by
  have hb : b < (cutH h L).objs.size := Heap.lt_size e
  have hs : (cutH h L).objs.size ≤ L := by
    show (h.objs.extract 0 L).size ≤ L
    rw [Array.size_extract]; omega
  have hl : b < L := Nat.lt_of_lt_of_le hb hs
  rw [cut_lt hl] at e
  exact ⟨hl, e⟩
theorem cut_funs {base h : Heap} {L : Nat} : ∀ {l : List Env}, h.FunFrames base l → (∀ b ∈ frs l, b < L) → (cutH h L).FunFrames base l
  | [], _, _ => trivial
  | env :: r, hl, hb => by
    obtain ⟨hk, ⟨a, o, hf, hn, ho, hd⟩, hr⟩ := hl
    have ha : a < L := hb a (by unfold frs; rw [List.filterMap_cons, hf]; exact List.mem_cons_self)
    refine ⟨hk, ⟨a, o, hf, hn, by rw [cut_lt ha]; exact ho, hd⟩, cut_funs hr fun b z => hb b ?_⟩
    unfold frs; rw [List.filterMap_cons, hf]; exact List.mem_cons_of_mem _ z

/-! ### pins: all that stands behind the frame -/
def isCellD : Data → Bool
  | .cell _ => true
  | _ => false
theorem isCellD_no {d : Data} (h : isCellD d = false) : ∀ v, d ≠ .cell v := fun v e => by rw [e] at h; cases h
theorem isCellD_of {d : Data} (h : ∀ v, d ≠ .cell v) : isCellD d = false := by
  cases d <;> first | rfl | exact absurd rfl (h _)
def behind (h : Heap) (L : Nat) : List (Addr × Obj) := (List.range h.objs.size).filterMap fun b => if b ≤ L then none else (h.get? b).bind fun o => if isCellD o.data then none else some (b, o)
theorem behind_mem {h : Heap} {L b : Nat} {o : Obj} (e : h.get? b = some o) (hb : L < b) (hc : ∀ v, o.data ≠ .cell v) : (b, o) ∈ behind h L := by
  refine List.mem_filterMap.mpr ⟨b, List.mem_range.mpr (Heap.lt_size e), ?_⟩
  rw [if_neg (by omega), e]
  show (if isCellD o.data = true then none else some (b, o)) = _
  rw [isCellD_of hc]; rfl
theorem of_behind {h : Heap} {L : Nat} {p : Addr × Obj} (hp : p ∈ behind h L) : L < p.1 ∧ h.get? p.1 = some p.2 ∧ ∀ v, p.2.data ≠ .cell v := by
  obtain ⟨b, _, e⟩ := List.mem_filterMap.mp hp
  split at e
  · cases e
  · rename_i hb
    cases q : h.get? b with
    | none => rw [q] at e; cases e
    | some o =>
      rw [q] at e
      have e2 : (if isCellD o.data = true then none else some (b, o)) = some p := e
      split at e2
      · cases e2
      · rename_i hc
        cases e2
        exact ⟨by omega, q, isCellD_no (by simpa using hc)⟩

/-! ### the frame of a generator that runs -/
/-- what does not change: the frame's environment -/
structure GF (N : List Str) (env : Env) : Prop where
  kind : env.scope.kind = .function
  glob : env.globals = mainGlobals
  blt : env.builtins = builtinsNs
  cells : env.cells = []
  noc : ∀ x, env.kindOf x ≠ some .cell ∧ env.kindOf x ≠ some .free
  frame : env.frame = some env.locals
  nd : N.Nodup
  loc : ∀ x ∈ N, env.kindOf x = some .local
/-- the names' values in the frame -/
def GL (N : List Str) (env : Env) (σ : L2.St) (h : Heap) : Prop :=
  σ.length = N.length ∧ ∃ m, h.Ns env.locals m ∧ ∀ (i : Nat) (x : Str) (v : V), N[i]? = some x → σ[i]? = some (some v) → ∃ u, RelV v u ∧ m x = some u
/-- what stands besides: base, the callers' frames, the data B -/
structure GB (P : Program) (w : World) (K : PySem.W.Frag) (mg : Str → Option Value) (base : Heap) (outer : List Env) (L : Addr) (B : Hp) (s : Shared) : Prop where
  mod : Mod K mg base
  bs : ∀ b o, base.get? b = some o → s.heap.get? b = some o ∧ B b = none
  bsz : base.objs.size ≤ L
  funs : s.heap.FunFrames base outer
  frl : ∀ b ∈ frs outer, b < L ∧ B b = none
  hok : HOk P w B s.heap
  low : ∀ b o, B b = some o → b < L
  bare : AllBare s.gens
/-- all that stood stands, but L, what B tracks, and cells behind L; the frames up to their slots -/
def Kp (fr : List Addr) (L : Addr) (B : Hp) (h h' : Heap) : Prop := ∀ b o, h.get? b = some o → B b = none → b ≠ L → (b < L ∨ ∀ v, o.data ≠ .cell v) →
  (b ∉ fr → h'.get? b = some o) ∧ (b ∈ fr → ∃ sl, h'.get? b = some { o with slots := sl })
theorem Kp.refl {fr : List Addr} {L : Addr} {B : Hp} {h : Heap} : Kp fr L B h h := fun b o e _ _ _ => ⟨fun _ => e, fun _ => ⟨o.slots, e⟩⟩

def gX (P : Program) (w : World) (K : PySem.W.Frag) (mg : Str → Option Value) (base : Heap) (N : List Str) (env : Env) (A : Around) (outer : List Env) (B : Hp) (s : Shared) : Cx where
  prog := P
  w := w
  K := K
  mg := mg
  base := base
  A := A
  N := N
  s_0 := { s with heap := cutH s.heap env.locals }
  H_0 := B
  env := env
  outer := outer
  stack := env :: outer
  ex := []
  fn := fun _ => false
  calm := true
  pn := []
  xe := fun _ _ => False

section
variable {P : Program} {w : World} {K : PySem.W.Frag} {mg : Str → Option Value} {base : Heap} {N : List Str} {env : Env} {A : Around} {outer : List Env} {B : Hp} {σ : L2.St} {s : Shared}
theorem g_inv (F : GF N env) (G : GB P w K mg base outer env.locals B s) (l : GL N env σ s.heap) (hd : A.handled = none) (hf : A.frames = some (env :: outer)) :
    Inv (gX P w K mg base N env A outer B s) (behind s.heap env.locals) σ B s := by
  obtain ⟨hlen, m, hn, hv⟩ := l
  have hL : env.locals < s.heap.objs.size := hn.lt
  have noex : ∀ b : Addr, b ∉ (gX P w K mg base N env A outer B s).ex := fun b z => by cases (show b ∈ ([] : List Addr) from z)
  have nocell : ∀ {x : Str} {c : Addr}, env.cells.lookup x = some c → False := fun {x c} e => by rw [F.cells] at e; cases e
  have ok : (gX P w K mg base N env A outer B s).Ok := by
    refine ⟨G.mod, F.kind, F.glob, F.blt, Nat.le_of_eq (cut_size (Nat.le_of_lt hL)), fun x y c e _ => (nocell e).elim, fun x hx => ?_, fun x c _ e => (nocell e).elim, fun _ => hd, hf, .inr ⟨rfl, F.frame⟩,
      fun b z => (noex b z).elim, fun b o e => ?_, ?_, fun b o _ => noex b, fun b z => (noex b z).elim, cut_funs G.funs fun b z => (G.frl b z).1, fun b z => (G.frl b z).2⟩
    · rcases hx with hx | hx
      · exact ((F.noc x).1 hx).elim
      · exact ((F.noc x).2 hx).elim
    · obtain ⟨h1, h2⟩ := G.bs b o e
      refine ⟨?_, h2⟩
      show (cutH s.heap env.locals).get? b = some o
      rw [cut_lt (Nat.lt_of_lt_of_le (Heap.lt_size e) G.bsz)]; exact h1
    · show base.objs.size ≤ (cutH s.heap env.locals).objs.size
      rw [cut_size (Nat.le_of_lt hL)]; exact G.bsz
  have old : ∀ b o, (cutH s.heap env.locals).get? b = some o → s.heap.get? b = some o := fun b o e => (cut_of e).2
  have freeB : ∀ b, env.locals ≤ b → B b = none := fun b hb => by
    cases q : B b with
    | none => rfl
    | some o => exact absurd (G.low b o q) (Nat.not_lt.mpr hb)
  refine ⟨ok, rfl, G.bare, Un.kept old, ⟨m, hn, fun i x v e1 e2 e3 => ?_⟩, fun x c e => (nocell e).elim, freeB _ (Nat.le_refl _), fun x c e => (nocell e).elim, fun p hp => ?_, G.hok, hlen⟩
  · obtain ⟨u, r, hm⟩ := hv i x v e1 e2
    exact ⟨u, r, .inl ⟨F.loc x (List.mem_of_getElem? e1), hm⟩⟩
  · have hp2 : p ∈ behind s.heap env.locals := by simpa [gX] using hp
    obtain ⟨h1, h2, h3⟩ := of_behind hp2
    exact ⟨h2, freeB _ (Nat.le_of_lt h1), Nat.ne_of_gt h1, fun z => absurd (G.frl _ z).1 (Nat.not_lt.mpr (Nat.le_of_lt h1)), h3⟩
/-- read back -/
theorem g_back {σ' : L2.St} {H' : Hp} {s' : Shared} (F : GF N env) (G : GB P w K mg base outer env.locals B s) (I : Inv (gX P w K mg base N env A outer B s) (behind s.heap env.locals) σ' H' s') :
    Kp (frs outer) env.locals B s.heap s'.heap ∧ GL N env σ' s'.heap ∧ HOk P w H' s'.heap ∧ s'.os = s.os ∧ AllBare s'.gens ∧ (∀ b o, s.heap.get? b = some o → B b = none → (b < env.locals ∨ ∀ v, o.data ≠ .cell v) → H' b = none) := by
  refine ⟨fun b o e nb nL hc => ?_, ⟨I.len, ?_⟩, I.hok, I.os, I.bare, fun b o e nb hc => ?_⟩
  · by_cases hb : b < env.locals
    · have e0 : (gX P w K mg base N env A outer B s).s_0.heap.get? b = some o := by
        show (cutH s.heap env.locals).get? b = some o
        rw [cut_lt hb]; exact e
      have nx : b ∉ (gX P w K mg base N env A outer B s).ex := fun z => by cases (show b ∈ ([] : List Addr) from z)
      exact ⟨fun z => I.base.keep b o e0 nb z nx, fun z => I.base.slot b o e0 nb z nx⟩
    · have hb2 : env.locals < b := Nat.lt_of_le_of_ne (Nat.le_of_not_lt hb) (Ne.symm nL)
      have hc2 : ∀ v, o.data ≠ .cell v := by
        rcases hc with z | z
        · exact absurd z hb
        · exact z
      have nf : b ∉ frs outer := fun z => hb (G.frl b z).1
      have p := I.pin (b, o) (List.mem_append_right _ (behind_mem e hb2 hc2))
      exact ⟨fun _ => p.1, fun z => (nf z).elim⟩
  · obtain ⟨m, hn, hv⟩ := I.loc
    refine ⟨m, hn, fun i x v e1 e2 => ?_⟩
    have hx : env.kindOf x = some .local := F.loc x (List.mem_of_getElem? e1)
    obtain ⟨u, r, lk⟩ := hv i x v e1 e2 (.inl hx)
    refine ⟨u, r, ?_⟩
    rcases lk with z | ⟨_, c, e, _⟩
    · exact z.2
    · have e2 : env.cells.lookup x = some c := e
      rw [F.cells] at e2; cases e2
  · by_cases hb : b < env.locals
    · refine I.base.free b o ?_ nb fun z => by cases (show b ∈ ([] : List Addr) from z)
      show (cutH s.heap env.locals).get? b = some o
      rw [cut_lt hb]; exact e
    · by_cases hL : b = env.locals
      · rw [hL]; exact I.free
      · have hb2 : env.locals < b := Nat.lt_of_le_of_ne (Nat.le_of_not_lt hb) (Ne.symm hL)
        exact (I.pin (b, o) (List.mem_append_right _ (behind_mem e hb2 (hc.resolve_left hb)))).2.1
end
end LG

set_option Elab.async false
set_option linter.all false
set_option maxRecDepth 100000
set_option maxHeartbeats 1000000
namespace LG
open PySem L2 GenW PyProof.Rows
open Sem (wp)
theorem runs_hsz {M : Model} {Γ : Ctx} {p : Pos} {t : Sem PySem.Fin} {fs : List Frame} {s s' : Shared} {e : End} (h : Runs M Γ p t fs s e s') : s.heap.objs.size ≤ s'.heap.objs.size := by
  induction h <;> (try simp only [Shared.setGen, Heap.size_push, Heap.size_update] at *) <;> (try omega)

theorem returns_hsz {M : Model} {Γ : Ctx} {p : Pos} {s s' : Shared} {r : Result} (h : Returns M Γ p s r s') : s.heap.objs.size ≤ s'.heap.objs.size := runs_hsz h
theorem wakes_hsz {M : Model} {Γ : Ctx} {p : Pos} {g : Nat} {r : Resume} {s s' : Shared} {res : GenResult} (h : Wakes M Γ p g r s res s') : s.heap.objs.size ≤ s'.heap.objs.size := by
  unfold Wakes at h
  split at h
  · exact h.elim
  · split at h
    · obtain ⟨_, s1, hr, _, _, rfl⟩ := h
      have q : (s.setGen g .running).heap.objs.size ≤ s1.heap.objs.size := runs_hsz hr
      exact q
    · rw [h.2]; exact Nat.le_refl _
    · rw [h.2]; exact Nat.le_refl _
  · obtain ⟨_, s1, hr, _, _, rfl⟩ := h
    have q : (s.setGen g .running).heap.objs.size ≤ s1.heap.objs.size := runs_hsz hr
    exact q
  all_goals (rw [h.2]; exact Nat.le_refl _)
theorem wp_hsz {α : Type} (M : Model) (Γ : Ctx) (k : Nat) (t : Sem α) : ∀ (Q E) (p : Pos) (s : Shared), k ≤ s.heap.objs.size → wp M Γ t Q E p s →
    wp M Γ t (fun a p' s' => k ≤ s'.heap.objs.size ∧ Q a p' s') (fun e p' s' => k ≤ s'.heap.objs.size ∧ E e p' s') p s := by
  induction t with
  | pure _ => exact fun _ _ _ _ hk h => ⟨hk, h⟩
  | raise _ => exact fun _ _ _ _ hk h => ⟨hk, h⟩
  | unsupported _ => exact fun _ _ _ _ _ h => h
  | finish _ => exact fun _ _ _ _ _ h => h
  | rule _ _ ih => exact fun Q E p s hk h => ih () Q E p s hk h
  | «at» p' _ ih => exact fun Q E _ s hk h => ih () Q E p' s hk h
  | load _ _ _ ih => exact fun Q E p s hk ⟨o, ho, h⟩ => ⟨o, ho, ih o Q E p s hk h⟩
  | update _ _ f _ ih => exact fun Q E p s hk h => ⟨h.1, ih () Q E p _ (by show k ≤ (s.heap.update _ f).objs.size; rw [Heap.size_update]; exact hk) h.2⟩
  | loadIfAlive _ _ ih => exact fun Q E p s hk h => ih _ Q E p s hk h
  | point _ _ ih => exact fun Q E p s hk h => ih () Q E p s hk h
  | register _ _ => exact fun _ _ _ _ _ h => h
  | alloc o _ ih => exact fun Q E p s hk h => ih _ Q E p _ (by show k ≤ (s.heap.push o).objs.size; rw [Heap.size_push]; omega) h
  | fresh _ ih => exact fun Q E p s hk h => ih _ Q E p _ hk h
  | ask _ ih => exact fun Q E p s hk h => ih _ Q E p s hk h
  | choose _ _ _ ih => exact fun Q E p s hk h => ⟨h.1, ih _ Q E p _ hk h.2⟩
  | os _ _ _ ih => exact fun Q E p s hk h => ih _ Q E p _ hk h
  | call _ _ _ _ _ ih => exact fun Q E p s hk ⟨r, s', hr, h⟩ => ⟨r, s', hr, ih r Q E p s' (Nat.le_trans hk (returns_hsz hr)) h⟩
  | handled _ _ ih => exact fun Q E p s hk h => ih _ Q E p s hk h
  | genState _ _ ih => exact fun Q E p s hk ⟨st, hs, h⟩ => ⟨st, hs, ih _ Q E p s hk h⟩
  | newGen _ _ ih => exact fun Q E p s hk h => ih _ Q E p _ hk h
  | resume _ _ _ _ ih => exact fun Q E p s hk ⟨res, s', hw, h⟩ => ⟨res, s', hw, ih res Q E p s' (Nat.le_trans hk (wakes_hsz hw)) h⟩
  | yield _ _ _ _ => exact fun _ _ _ _ _ h => h
  | stack _ ih => exact fun Q E p s hk h => ih _ Q E p s hk h
  | fork _ _ => exact fun _ _ _ _ _ h => h
  | thread _ ih => exact fun Q E p s hk h => ih _ Q E p s hk h
  | await _ _ _ _ _ => exact fun _ _ _ _ _ h => h
/-- the heap never shrinks -/
theorem wpAny_hsz {α : Type} {M : Model} {A : Around} {s : Shared} {t : Sem α} {Q : α → Shared → Prop} {E : Value → Shared → Prop}
    (h : wpAny M A t (fun a s' => s.heap.objs.size ≤ s'.heap.objs.size → Q a s') (fun e s' => s.heap.objs.size ≤ s'.heap.objs.size → E e s') s) : wpAny M A t Q E s :=
  wpAny_mono (Q := fun a s' => s.heap.objs.size ≤ s'.heap.objs.size ∧ (s.heap.objs.size ≤ s'.heap.objs.size → Q a s')) (E := fun e s' => s.heap.objs.size ≤ s'.heap.objs.size ∧ (s.heap.objs.size ≤ s'.heap.objs.size → E e s'))
    (fun Γ p hΓ => wp_hsz M Γ s.heap.objs.size t _ _ p s (Nat.le_refl _) (h Γ p hΓ)) (fun _ _ x => x.2 x.1) fun _ _ x => x.2 x.1

/-! ### what a generator owes, what it may lean on -/
/-- the kinds of object that a generator keeps for itself -/
def Pk (o : Obj) : Prop := (∃ es ep, o.data = .dict es ep) ∨ o.cls = .type "tuple_iterator" ∨ o.cls = .type "generator"
theorem Pk.slots {o : Obj} {sl : Array (Option Value)} (h : Pk { o with slots := sl }) : Pk o := h
/-- from a wake (or another state) to a state: what the generator leaves as it is; nw: the heap's size at its first wake; L: its frame; B: what it keeps only in meaning -/
structure Guar (P : Program) (w : World) (fr : List Addr) (L nw : Addr) (B : Hp) (s s' : Shared) : Prop where
  os : s'.os = s.os
  sz : s.heap.objs.size ≤ s'.heap.objs.size
  kp : ∀ b o, s.heap.get? b = some o → B b = none → b ≠ L → (b < nw ∨ ¬ Pk o) → (b < L ∨ ∀ v, o.data ≠ .cell v) →
    (b ∉ fr → s'.heap.get? b = some o) ∧ (b ∈ fr → ∃ sl, s'.heap.get? b = some { o with slots := sl })
theorem Guar.refl {P : Program} {w : World} {fr : List Addr} {L nw : Addr} {B : Hp} {s : Shared} : Guar P w fr L nw B s s := ⟨rfl, Nat.le_refl _, fun b o e _ _ _ _ => ⟨fun _ => e, fun _ => ⟨o.slots, e⟩⟩⟩
theorem Guar.trans {P : Program} {w : World} {fr : List Addr} {L nw : Addr} {B : Hp} {s s1 s2 : Shared} (x : Guar P w fr L nw B s s1) (y : Guar P w fr L nw B s1 s2) : Guar P w fr L nw B s s2 := by
  refine ⟨y.os.trans x.os, Nat.le_trans x.sz y.sz, fun b o e nb nL hp hc => ?_⟩
  obtain ⟨k1, k2⟩ := x.kp b o e nb nL hp hc
  refine ⟨fun z => (y.kp b o (k1 z) nb nL hp hc).1 z, fun z => ?_⟩
  obtain ⟨sl, e1⟩ := k2 z
  obtain ⟨sl2, e2⟩ := (y.kp b _ e1 nb nL hp hc).2 z
  exact ⟨sl2, e2⟩
theorem Guar.of_kp {P : Program} {w : World} {fr : List Addr} {L nw : Addr} {B : Hp} {s s' : Shared} (os : s'.os = s.os) (sz : s.heap.objs.size ≤ s'.heap.objs.size) (k : Kp fr L B s.heap s'.heap) : Guar P w fr L nw B s s' :=
  ⟨os, sz, fun b o e nb nL _ hc => k b o e nb nL hc⟩
/-- one object of the generator's own has changed -/
theorem Guar.same_but {P : Program} {w : World} {fr : List Addr} {L nw c : Addr} {B : Hp} {s s' : Shared} (os : s'.os = s.os) (sb : Heap.SameBut c s.heap s'.heap) (hc : c = L ∨ (nw ≤ c ∧ ∃ o, s.heap.get? c = some o ∧ Pk o)) : Guar P w fr L nw B s s' := by
  refine ⟨os, Nat.le_of_eq sb.1.symm, fun b o e _ nL hp _ => ?_⟩
  have hb : b ≠ c := fun z => by
    subst z
    rcases hc with z | ⟨z, o', e', pk⟩
    · exact nL z
    · rw [e] at e'; cases e'
      rcases hp with y | y
      · exact absurd y (Nat.not_lt.mpr z)
      · exact y pk
  have e2 : s'.heap.get? b = some o := (sb.2 b hb).trans e
  exact ⟨fun _ => e2, fun _ => ⟨o.slots, e2⟩⟩
/-- while the generator sleeps -/
structure Rely (P : Program) (w : World) (K : PySem.W.Frag) (mg : Str → Option Value) (base : Heap) (outer : List Env) (L : Addr) (Ch : Addr → Prop) (g : Nat) (B : Hp) (s s' : Shared) : Prop where
  os : s'.os = s.os
  sz : s.heap.objs.size ≤ s'.heap.objs.size
  keep : ∀ b o, s.heap.get? b = some o → ¬ Ch b → s'.heap.get? b = some o
  there : ∀ b, Ch b → ∃ o, s'.heap.get? b = some o ∧ ∀ v, o.data ≠ .cell v
  gens : ∀ i x, g < i → s.gens[i]? = some x → s'.gens[i]? = some x
  gsz : s.gens.size ≤ s'.gens.size
  gb : GB P w K mg base outer L B s'
/-- a row of ints at an address -/
def RowAt (h : Heap) (p : Addr) (row : List Int) : Prop := ∃ its : List Value, Vals (row.map V.int) its ∧ IsTup h p its.toArray
def gYld (P : Program) (w : World) (K : PySem.W.Frag) (mg : Str → Option Value) (base : Heap) (outer : List Env) (L nw : Addr) (Ch : Addr → Prop) (g : Nat) (B B0 : Hp) (out : List (List Int)) : Protocol := fun n s0 v s1 kap =>
  ∃ row p, out[out.length - 1 - n]? = some row ∧ v = .ref p ∧ s0.heap.objs.size ≤ p ∧ RowAt s1.heap p row ∧ Guar P w (frs outer) L nw B0 s0 s1 ∧ HOk P w B0 s1.heap ∧ AllBare s1.gens ∧ s0.gens.size ≤ s1.gens.size ∧ (∃ o, s1.heap.get? L = some o ∧ Pk o) ∧
    ∀ s2, Rely P w K mg base outer L Ch g B s1 s2 → kap (.send .none) s2
def gFin (P : Program) (w : World) (outer : List Env) (L nw : Addr) (B0 : Hp) : Nat → Shared → Shared → Prop := fun n s0 s1 => n = 0 ∧ Guar P w (frs outer) L nw B0 s0 s1 ∧ HOk P w B0 s1.heap ∧ AllBare s1.gens ∧ s0.gens.size ≤ s1.gens.size
def gEnd (P : Program) (w : World) (outer : List Env) (L nw : Addr) (B0 : Hp) : GenEnd := fun n s0 r s1 =>
  ((r = .ok (.ret .none) ∨ r = .ok .next) ∧ gFin P w outer L nw B0 n s0 s1) ∨ ∃ e, r = .error e ∧ (fun (_ : Value) (_ : Shared) => False) e s1
end LG

set_option Elab.async false
set_option linter.all false
set_option maxRecDepth 100000
set_option maxHeartbeats 1000000
namespace LG
open PySem L2 GenW PySem.Spec PyProof.Rows

/-! ### data that do not change: frozen tuples -/
def Fz (B : Hp) : Prop := ∀ b u, B b = some u → ∃ o xs, u = .frz o (.tup xs)
theorem fz_ok {P : Program} {w : World} {B : Hp} {h h' : Heap} (z : Fz B) (hok : HOk P w B h) (k : ∀ b o, B b ≠ none → h.get? b = some o → h'.get? b = some o) : HOk P w B h' := fun b u e => by
  obtain ⟨o, xs, rfl⟩ := z b u e
  obtain ⟨e1, hz, its, r, t⟩ := hok b _ e
  have e2 := k b o (by rw [e]; exact fun z => nomatch z) e1
  refine ⟨e2, hz, its, r, ?_⟩
  obtain ⟨o', e3, q⟩ := t
  rw [e1] at e3; cases e3
  exact ⟨o, e2, q⟩

section
variable {P : Program} {w : World} {K : PySem.W.Frag} {mg : Str → Option Value} {base : Heap} {N : List Str} {env : Env} {A : Around} {outer : List Env} {B : Hp} {σ : L2.St} {s s' : Shared} {L nw : Addr}
theorem funs_next {fr : List Addr} {h h' : Heap} : ∀ {l : List Env}, h.FunFrames base l → (∀ b ∈ frs l, ∀ o, h.get? b = some o → ∃ sl, h'.get? b = some { o with slots := sl }) → h'.FunFrames base l
  | [], _, _ => trivial
  | env :: r, hl, k => by
    obtain ⟨hk, ⟨a, o, hf, hn, ho, hd⟩, hr⟩ := hl
    have ha : a ∈ frs (env :: r) := by unfold frs; rw [List.filterMap_cons, hf]; exact List.mem_cons_self
    obtain ⟨sl, e⟩ := k a ha o ho
    refine ⟨hk, ⟨a, _, hf, hn, e, hd⟩, funs_next (fr := fr) hr fun b z => k b ?_⟩
    unfold frs; rw [List.filterMap_cons, hf]; exact List.mem_cons_of_mem _ z
/-- base, frames and data behind a step -/
theorem gb_next (G : GB P w K mg base outer L B s) (k : Guar P w (frs outer) L nw B s s') (hw : L < nw) (hok : HOk P w B s'.heap) (hb : AllBare s'.gens) : GB P w K mg base outer L B s' := by
  refine ⟨G.mod, fun b o e => ?_, G.bsz, funs_next (fr := []) G.funs fun b hb o e => ?_, G.frl, hok, G.low, hb⟩
  · obtain ⟨h1, h2⟩ := G.bs b o e
    have hl : b < L := Nat.lt_of_lt_of_le (Heap.lt_size e) G.bsz
    have nf : b ∉ frs outer := fun z => by
      have := (G.funs.mem z).1
      rw [e] at this; cases this
    exact ⟨(k.kp b o h1 h2 (Nat.ne_of_lt hl) (.inl (Nat.lt_trans hl hw)) (.inl hl)).1 nf, h2⟩
  · have hl := (G.frl b hb).1
    exact (k.kp b o e (G.frl b hb).2 (Nat.ne_of_lt hl) (.inl (Nat.lt_trans hl hw)) (.inl hl)).2 hb
theorem gb_limit (G : GB P w K mg base outer L B s) : s.heap.NoLimit := G.mod.nolimit.keeps fun b o e => (G.bs b o e).1
theorem gb_kin (G : GB P w K mg base outer L B s) : K.In s.heap := G.mod.kin.keeps fun b o e => (G.bs b o e).1
theorem gb_env0 (G : GB P w K mg base outer L B s) (hf : A.frames = some outer) (hs : base.objs.size ≤ s.heap.objs.size) : Env0 P w K mg base A outer s B :=
  ⟨hf, G.mod, G.bs, hs, G.funs, fun b z => (G.frl b z).2, G.hok, G.bare⟩

/-! ### an expression, a test, arguments by the layer's rules -/
structure After (P : Program) (w : World) (fr : List Addr) (env : Env) (N : List Str) (B : Hp) (σ : L2.St) (H' : Hp) (s s' : Shared) : Prop where
  kp : Kp fr env.locals B s.heap s'.heap
  gl : GL N env σ s'.heap
  hok : HOk P w H' s'.heap
  os : s'.os = s.os
  bare : AllBare s'.gens
  sz : s.heap.objs.size ≤ s'.heap.objs.size
  gsz : s.gens.size ≤ s'.gens.size
  fr : ∀ b o, s.heap.get? b = some o → B b = none → (b < env.locals ∨ ∀ v, o.data ≠ .cell v) → H' b = none
theorem After.guar {H' : Hp} (a : After P w (frs outer) env N B σ H' s s') : Guar P w (frs outer) env.locals nw B s s' := .of_kp a.os a.sz a.kp
theorem g_pe {e : Expr} {t : TE} {Q : VK} (F : GF N env) (G : GB P w K mg base outer env.locals B s) (l : GL N env σ s.heap) (hd : A.handled = none) (hf : A.frames = some (env :: outer))
    (he : PE (gX P w K mg base N env A outer B s) e t) (ht : t σ B Q) :
    wpAny (model P w) A (eval e env) (fun u s' => ∃ v H', After P w (frs outer) env N B σ H' s s' ∧ RelV v u ∧ Q v H') (fun _ _ => False) s := by
  refine wpAny_hsz (wpAny_gsz (n := s.gens.size) (Nat.le_refl _) (wpAny_mono (he.run (behind s.heap env.locals) s σ B Q (g_inv F G l hd hf) ht) (fun u s' hu => ?_) fun _ _ z => False.elim z))
  intro gz hz
  obtain ⟨v, H', I, r, q⟩ := hu
  obtain ⟨k1, k2, k3, k4, k5, k6⟩ := g_back F G I
  exact ⟨v, H', ⟨k1, k2, k3, k4, k5, hz, gz, k6⟩, r, q⟩
theorem g_pt {e : Expr} {t : TT} {Q : Bool → Hp → Prop} (F : GF N env) (G : GB P w K mg base outer env.locals B s) (l : GL N env σ s.heap) (hd : A.handled = none) (hf : A.frames = some (env :: outer))
    (he : PT (gX P w K mg base N env A outer B s) e t) (ht : t σ B Q) :
    wpAny (model P w) A (isTrue e env (eval e env)) (fun b s' => ∃ H', After P w (frs outer) env N B σ H' s s' ∧ Q b H') (fun _ _ => False) s := by
  refine wpAny_hsz (wpAny_gsz (n := s.gens.size) (Nat.le_refl _) (wpAny_mono (he.run (behind s.heap env.locals) s σ B Q (g_inv F G l hd hf) ht) (fun u s' hu => ?_) fun _ _ z => False.elim z))
  intro gz hz
  obtain ⟨H', I, q⟩ := hu
  obtain ⟨k1, k2, k3, k4, k5, k6⟩ := g_back F G I
  exact ⟨H', ⟨k1, k2, k3, k4, k5, hz, gz, k6⟩, q⟩
theorem g_pa {es : List Expr} {t : TA} {pos : Pos} {Q : List V → Hp → Prop} (F : GF N env) (G : GB P w K mg base outer env.locals B s) (l : GL N env σ s.heap) (hd : A.handled = none) (hf : A.frames = some (env :: outer))
    (he : PA (gX P w K mg base N env A outer B s) es t) (ht : t σ B Q) :
    wpAny (model P w) A (spliced (backTo pos (starEach es env))) (fun us s' => ∃ vs H', After P w (frs outer) env N B σ H' s s' ∧ Vals vs us ∧ Q vs H') (fun _ _ => False) s := by
  refine wpAny_hsz (wpAny_gsz (n := s.gens.size) (Nat.le_refl _) (wpAny_mono (he.run pos (behind s.heap env.locals) s σ B Q (g_inv F G l hd hf) ht) (fun u s' hu => ?_) fun _ _ z => False.elim z))
  intro gz hz
  obtain ⟨v, H', I, r, q⟩ := hu
  obtain ⟨k1, k2, k3, k4, k5, k6⟩ := g_back F G I
  exact ⟨v, H', ⟨k1, k2, k3, k4, k5, hz, gz, k6⟩, r, q⟩
end
end LG

set_option Elab.async false
set_option linter.all false
set_option maxRecDepth 100000
set_option maxHeartbeats 1000000
namespace LG
open PySem L2 GenW PySem.Spec PyProof.Rows

/-- a generator def's names: all of its own are plain locals -/
structure NScope (N ps : List Str) (sc : Scope) : Prop where
  kind : sc.kind = .function
  co : sc.isCoroutine = false
  gen : sc.isGenerator = true
  nd : N.Nodup
  pre : N.take ps.length = ps
  plain : ∀ y ∈ sc.names, y.2 ≠ .cell ∧ y.2 ≠ .free
  loc : ∀ x ∈ N, sc.names.lookup x = some .local
theorem no_cells : ∀ (l : List (Str × NameKind)) (n : Nat) (acc : List (Str × Addr)), (∀ y ∈ l, y.2 ≠ .cell) → cellsFrom n l acc = acc
  | [], _, _, _ => rfl
  | (x, k) :: r, n, acc, h => by
    have hk : (k == NameKind.cell) = false := by
      have := h (x, k) List.mem_cons_self
      cases k <;> first | rfl | exact absurd rfl this
    show (if (k == NameKind.cell) = true then _ else _) = acc
    rw [hk, if_neg Bool.false_ne_true]
    exact no_cells r n acc fun y hy => h y (List.mem_cons_of_mem _ hy)
theorem gf_of {N ps : List Str} {sc : Scope} {qual : Str} {L f : Addr} {cd : Value} (S : NScope N ps sc) : GF N (envOfC qual sc L f cd) where
  kind := S.kind
  glob := rfl
  blt := rfl
  cells := no_cells _ _ _ fun y hy => (S.plain y hy).1
  noc := fun x => ⟨fun e => (S.plain _ (PySem.mem_of_lookup e)).1 rfl, fun e => (S.plain _ (PySem.mem_of_lookup e)).2 rfl⟩
  frame := rfl
  nd := S.nd
  loc := S.loc

/-- a generator that has not begun -/
structure Made (N : List Str) (vs : List V) (env : Env) (body : List Stmt) (s s' : Shared) (a : Addr) : Prop where
  hL : env.locals = s.heap.objs.size
  la : env.locals < a
  lt : a < s'.heap.objs.size
  gen : s'.heap.IsGen a s.gens.size
  fresh : s'.gens[s.gens.size]? = some (.fresh (.func body env))
  gens : ∀ (i : Nat) x, s.gens[i]? = some x → s'.gens[i]? = some x
  os : s'.os = s.os
  bare : AllBare s'.gens
  keep : ∀ b o, s.heap.get? b = some o → s'.heap.get? b = some o
  gl : GL N env (start N vs) s'.heap
section
variable {P : Program} {w : World} {K : PySem.W.Frag} {A : Around} {s : Shared} {x qual : Str} {params : Arguments} {body : List Stmt} {scope : Scope} {dvs : List V} {kws : List (Str × V)} {f : Addr} {fd : FuncData} {N ps : List Str}
theorem make_gen {us : List Value} {vs : List V} (F : FunD K x qual params body scope dvs kws f fd) (S : NScope N ps scope) (b : Binds K fd ps []) (kin : K.In s.heap) (lim : s.heap.NoLimit) (bare : AllBare s.gens) (hd : A.depth < recursionLimit)
    (hl : vs.length = ps.length) (r : Vals vs us) :
    codeAny (model P w) A (.call (.ref f) ⟨us, []⟩) (fun q s' => ∃ (a : Addr) (cdv : Value), q = .ok (.ret (.ref a)) ∧ Made N vs (envOfC qual scope s.heap.objs.size f cdv) body s s' a) s := by
  obtain ⟨oc, od, dV, kV, doc, pm, an, cdv, ct, osl, rfl, lk, hcd, _, _⟩ := F.ex
  have lu : us.length = ps.length := by rw [← r.length]; exact hl
  have bt := b s us kin (by rw [List.append_nil]; exact lu)
  rw [List.append_nil] at bt
  have ndp : ps.Nodup := by rw [← S.pre]; exact S.nd.sublist (List.take_sublist _ _)
  have inN : ∀ y ∈ ps, y ∈ N := fun y hy => by rw [← S.pre] at hy; exact List.mem_of_mem_take hy
  refine codeAny_call_generator hd (kin _ _ lk) rfl S.co S.gen rfl (PySem.W.codeRec_of kin hcd) (bt _ _ _ _ (wpAny_newFunctionEnv_cells S.kind (fun y hy => .inl (S.loc _ (inN _ (List.of_mem_zip (a := y.1) (b := y.2) hy).1))) fun env he s1 z => ?_))
  subst he
  obtain ⟨h1, tk, e1, k1⟩ := z.done
  have k1' : ∀ b o, s.heap.get? b = some o → s1.heap.get? b = some o := z.toInCall.keep
  have lt1 : s.heap.objs.size < s1.heap.objs.size := z.toInCall.ns.lt
  have g1 : s1.gens = s.gens := by rw [e1]
  have o1 : s1.os = s.os := by rw [e1]
  refine ⟨lim.keeps k1', s1.heap.objs.size, cdv, rfl, rfl, lt1, ?_, ?_, ?_, fun i y e => ?_, o1, ?_, fun c o e => Heap.get?_push_of_some _ (k1' c o e), ?_, ?_⟩
  · show _ < (s1.heap.push _).objs.size
    rw [Heap.size_push]; exact Nat.lt_succ_self _
  · rw [← g1]
    exact ⟨_, _, _, Heap.get?_push_size _ rfl, rfl, rfl, rfl⟩
  · show (s1.gens.push _)[s.gens.size]? = _
    rw [← g1]
    exact Array.getElem?_push_size ..
  · show (s1.gens.push _)[i]? = _
    rw [g1]
    have hi : i < s.gens.size := (Array.getElem?_eq_some_iff.mp e).1
    rw [Array.getElem?_push_lt hi]
    rw [← e, Array.getElem?_eq_getElem hi]
  · show AllBare (s1.gens.push _)
    exact AllBare.push (by rw [g1]; exact bare) rfl
  · show (start N vs).length = N.length
    unfold L2.start
    have hn : ps.length ≤ N.length := by have := congrArg List.length S.pre; rw [List.length_take] at this; omega
    rw [List.length_append, List.length_map, List.length_replicate]; omega
  · refine ⟨_, z.toInCall.ns.push _, fun i y v e2 e3 => ?_⟩
    have hi : i < vs.length := by
      unfold L2.start at e3
      by_cases hi : i < vs.length
      · exact hi
      · rw [List.getElem?_append_right (by simpa using hi), List.getElem?_replicate] at e3
        split at e3 <;> cases e3
    have ev : vs[i]? = some v := by
      unfold L2.start at e3
      rw [List.getElem?_append_left (by simpa using hi), List.getElem?_map] at e3
      cases q : vs[i]? with
      | none => rw [q] at e3; cases e3
      | some c => rw [q] at e3; cases e3; rfl
    obtain ⟨u, hu, ru⟩ := r.get ev
    have hp : ps[i]? = some y := by
      rw [← S.pre, List.getElem?_take_of_lt (by omega)]; exact e2
    exact ⟨u, ru, bindL_get ndp hp hu (S.loc _ (List.mem_of_getElem? e2))⟩
end
end LG

set_option Elab.async false
set_option linter.all false
set_option maxRecDepth 100000
set_option maxHeartbeats 2000000
namespace LG
open PySem L2 GenW PySem.Spec PyProof.Rows

/-- the facts at a point of a generator's run, s0 the state at its last wake -/
structure At (P : Program) (w : World) (K : PySem.W.Frag) (mg : Str → Option Value) (base : Heap) (outer : List Env) (N : List Str) (env : Env) (nw : Addr) (ng : Nat) (Ch : Addr → Prop) (B B0 : Hp) (s0 s : Shared) (σ : L2.St) : Prop where
  gb : GB P w K mg base outer env.locals B s
  gl : GL N env σ s.heap
  gu : Guar P w (frs outer) env.locals nw B0 s0 s
  hb : HOk P w B0 s.heap
  gz : s0.gens.size ≤ s.gens.size
  nz : nw ≤ s.heap.objs.size
  ngz : ng ≤ s.gens.size
  chl : ∀ b, Ch b → b < nw ∧ b ≠ env.locals ∧ B b = none
  ch : ∀ b, Ch b → ∃ o, s.heap.get? b = some o ∧ ∀ v, o.data ≠ .cell v
section
variable {P : Program} {w : World} {K : PySem.W.Frag} {mg : Str → Option Value} {base : Heap} {outer : List Env} {N : List Str} {env : Env} {nw : Addr} {ng : Nat} {Ch : Addr → Prop} {B B0 : Hp} {s0 s s' : Shared} {σ σ' : L2.St}
theorem At.bare (X : At P w K mg base outer N env nw ng Ch B B0 s0 s σ) : AllBare s.gens := X.gb.bare
theorem hok_but {H : Hp} {h h' : Heap} {L : Addr} (hL : H L = none) (x : HOk P w H h) (k : ∀ b o, b ≠ L → h.get? b = some o → h'.get? b = some o) : HOk P w H h' := fun a o e =>
  (x a o e).stay (fun b u hb q => k b u (fun z => by
    subst z
    rcases hb with y | y
    · rw [y, e] at hL; cases hL
    · rw [hL] at y; cases y) q) (fun _ q => q) fun _ _ q => q
/-- a raw step: only the frame's own object may have changed -/
theorem At.raw (X : At P w K mg base outer N env nw ng Ch B B0 s0 s σ) (hw : env.locals < nw) (h0 : B0 env.locals = none) (os : s'.os = s.os) (gs : s'.gens = s.gens) (k : ∀ b o, b ≠ env.locals → s.heap.get? b = some o → s'.heap.get? b = some o)
    (sz : s.heap.objs.size ≤ s'.heap.objs.size) (gl : GL N env σ' s'.heap) : At P w K mg base outer N env nw ng Ch B B0 s0 s' σ' := by
  have hL : B env.locals = none := by
    cases q : B env.locals with
    | none => rfl
    | some o => exact absurd (X.gb.low _ _ q) (Nat.lt_irrefl _)
  have g1 : ∀ (B1 : Hp), Guar P w (frs outer) env.locals nw B1 s s' := fun B1 => ⟨os, sz, fun b o e _ nL _ _ => ⟨fun _ => k b o nL e, fun _ => ⟨o.slots, k b o nL e⟩⟩⟩
  refine ⟨gb_next X.gb (g1 B) hw (hok_but hL X.gb.hok k) (by rw [gs]; exact X.bare), gl, X.gu.trans (g1 B0), hok_but h0 X.hb k, by rw [gs]; exact X.gz, Nat.le_trans X.nz sz, by rw [gs]; exact X.ngz, X.chl, fun b hb => let ⟨o, e, c⟩ := X.ch b hb; ⟨o, k b o (X.chl b hb).2.1 e, c⟩⟩

theorem gl_slots {h h' : Heap} {L : Addr} (e : env.locals = L) (x : GL N env σ h) (k : ∀ o, h.get? L = some o → ∃ sl, h'.get? L = some { o with slots := sl }) : GL N env σ h' := by
  obtain ⟨hl, m, ⟨o, es, ep, ho, hd, r⟩, hv⟩ := x
  obtain ⟨sl, e2⟩ := k o (by rw [← e]; exact ho)
  exact ⟨hl, m, ⟨{ o with slots := sl }, es, ep, by rw [e]; exact e2, hd, r⟩, hv⟩
/-- behind a turn of an inner generator -/
theorem At.inner {L' nw' : Addr} (X : At P w K mg base outer N env nw ng Ch B B0 s0 s σ) (F : GF N env) (hw : env.locals < nw) (hL' : nw ≤ L') (hw' : nw ≤ nw') (hpk : ∃ o, s.heap.get? L' = some o ∧ Pk o) (low0 : ∀ b o, B0 b = some o → b < env.locals) (fr0 : ∀ b ∈ frs outer, B0 b = none)
    (G : Guar P w (frs (env :: outer)) L' nw' (fun _ => none) s s') (bare : AllBare s'.gens) (gsz : s.gens.size ≤ s'.gens.size) : At P w K mg base outer N env nw ng Ch B B0 s0 s' σ := by
  have hfr : frs (env :: outer) = env.locals :: frs outer := by unfold frs; rw [List.filterMap_cons, F.frame]
  have hLL : env.locals < L' := Nat.lt_of_lt_of_le hw hL'
  -- what lies below the frame
  have low : ∀ b o, s.heap.get? b = some o → b < env.locals → (b ∉ frs outer → s'.heap.get? b = some o) ∧ (b ∈ frs outer → ∃ sl, s'.heap.get? b = some { o with slots := sl }) := fun b o e hb => by
    obtain ⟨k1, k2⟩ := G.kp b o e rfl (Nat.ne_of_lt (Nat.lt_trans hb hLL)) (.inl (Nat.lt_of_lt_of_le (Nat.lt_trans hb hw) hw')) (.inl (Nat.lt_trans hb hLL))
    refine ⟨fun z => k1 ?_, fun z => k2 ?_⟩
    · rw [hfr]
      intro q
      rcases List.mem_cons.mp q with q | q
      · exact Nat.ne_of_lt hb q
      · exact z q
    · rw [hfr]; exact List.mem_cons_of_mem _ z
  have own : ∀ o, s.heap.get? env.locals = some o → ∃ sl, s'.heap.get? env.locals = some { o with slots := sl } := fun o e =>
    (G.kp _ o e rfl (Nat.ne_of_lt hLL) (.inl (Nat.lt_of_lt_of_le hw hw')) (.inl hLL)).2 (by rw [hfr]; exact List.mem_cons_self)
  have hokL : ∀ {H : Hp}, HOk P w H s.heap → (∀ b o, H b = some o → b < env.locals) → (∀ b ∈ frs outer, H b = none) → HOk P w H s'.heap := fun {H} x lw hf a o e =>
    (x a o e).stay (fun b u hb q => by
      have hb2 : H b ≠ none := by
        rcases hb with y | y
        · rw [y, e]; exact fun z => nomatch z
        · rw [y]; exact fun z => nomatch z
      cases q2 : H b with
      | none => exact absurd q2 hb2
      | some u2 => exact (low b u q (lw b u2 q2)).1 fun z => hb2 (hf b z)) (fun _ q => q) fun _ _ q => q
  have g1 : ∀ (B1 : Hp), Guar P w (frs outer) env.locals nw B1 s s' := fun B1 => by
    refine ⟨G.os, G.sz, fun b o e _ nL hp hc => ?_⟩
    have hb' : b ≠ L' := fun z => by
      subst z
      obtain ⟨o', e', pk⟩ := hpk
      rw [e] at e'; cases e'
      rcases hp with y | y
      · exact absurd y (Nat.not_lt.mpr hL')
      · exact y pk
    have hn : b ∉ frs outer → b ∉ frs (env :: outer) := fun z q => by
      rw [hfr] at q
      rcases List.mem_cons.mp q with q | q
      · exact nL q
      · exact z q
    obtain ⟨k1, k2⟩ := G.kp b o e rfl hb' (hp.imp (fun z => Nat.lt_of_lt_of_le z hw') id) (hc.imp (fun z => Nat.lt_trans z hLL) id)
    exact ⟨fun z => k1 (hn z), fun z => k2 (by rw [hfr]; exact List.mem_cons_of_mem _ z)⟩
  have chK : Guar P w (frs outer) env.locals nw B s s' → ∀ b, Ch b → ∃ o, s'.heap.get? b = some o ∧ ∀ v, o.data ≠ .cell v := fun gu b hb => by
    obtain ⟨o, e, c⟩ := X.ch b hb
    obtain ⟨h1, h2, h3⟩ := X.chl b hb
    obtain ⟨k1, k2⟩ := gu.kp b o e h3 h2 (.inl h1) (.inr c)
    by_cases z : b ∈ frs outer
    · obtain ⟨sl, e2⟩ := k2 z
      exact ⟨_, e2, c⟩
    · exact ⟨o, k1 z, c⟩
  exact ⟨gb_next X.gb (g1 B) hw (hokL X.gb.hok X.gb.low fun b z => (X.gb.frl b z).2) bare, gl_slots rfl X.gl own, X.gu.trans (g1 B0), hokL X.hb low0 fr0, Nat.le_trans X.gz gsz, Nat.le_trans X.nz G.sz, Nat.le_trans X.ngz gsz, X.chl, chK (g1 B)⟩
/-- behind a step by the layer's rules -/
theorem At.after {σ1 : L2.St} {H' : Hp} (X : At P w K mg base outer N env nw ng Ch B B0 s0 s σ1) (hw : env.locals < nw) (h0 : Fz B) (hB0 : B0 = fun _ => none) (a : After P w (frs outer) env N B σ H' s s') (hx : ∀ b u, B b = some u → H' b = some u) : At P w K mg base outer N env nw ng Ch B B0 s0 s' σ := by
  have hokB : HOk P w B s'.heap := fun b u e => by
    obtain ⟨o, xs, rfl⟩ := h0 b u e
    exact a.hok b _ (hx b _ e)
  have ex : ∀ b o, B b ≠ none → s.heap.get? b = some o → s'.heap.get? b = some o := fun b o hb e => by
    cases q : B b with
    | none => exact absurd q hb
    | some u =>
      obtain ⟨o', xs, rfl⟩ := h0 b u q
      obtain ⟨e1, _⟩ := X.gb.hok b _ q
      obtain ⟨e2, _⟩ := hokB b _ q
      rw [e] at e1; cases e1
      exact e2
  have g1 : ∀ (B1 : Hp), Guar P w (frs outer) env.locals nw B1 s s' := fun B1 => by
    refine ⟨a.os, a.sz, fun b o e _ nL _ hc => ?_⟩
    by_cases q : B b = none
    · exact a.kp b o e q nL hc
    · exact ⟨fun _ => ex b o q e, fun z => absurd (X.gb.frl b z).2 q⟩
  subst hB0
  have chK : Guar P w (frs outer) env.locals nw B s s' → ∀ b, Ch b → ∃ o, s'.heap.get? b = some o ∧ ∀ v, o.data ≠ .cell v := fun gu b hb => by
    obtain ⟨o, e, c⟩ := X.ch b hb
    obtain ⟨h1, h2, h3⟩ := X.chl b hb
    obtain ⟨k1, k2⟩ := gu.kp b o e h3 h2 (.inl h1) (.inr c)
    by_cases z : b ∈ frs outer
    · obtain ⟨sl, e2⟩ := k2 z
      exact ⟨_, e2, c⟩
    · exact ⟨o, k1 z, c⟩
  exact ⟨gb_next X.gb (g1 B) hw hokB a.bare, a.gl, X.gu.trans (g1 _), (fun b o e => nomatch e), Nat.le_trans X.gz a.gsz, Nat.le_trans X.nz a.sz, Nat.le_trans X.ngz a.gsz, X.chl, chK (g1 B)⟩
end
end LG

set_option Elab.async false
set_option linter.all false
set_option maxRecDepth 100000
set_option maxHeartbeats 2000000
namespace LG
open PySem L2 GenW PySem.Spec PyProof.Rows

/-- a generator of ours that sleeps (or has not begun): m items are to come -/
def Live (P : Program) (w : World) (K : PySem.W.Frag) (mg : Str → Option Value) (base : Heap) (outer : List Env) (L nw : Addr) (Ch : Addr → Prop) (a : Addr) (g : Nat) (B B0 : Hp) (out : List (List Int)) (A : Around) (m : Nat) (s : Shared) : Prop :=
  s.heap.IsGen a g ∧ ∃ gs, s.gens[g]? = some gs ∧ gs.Goes (model P w) A.in1 (gEnd P w outer L nw B0) (gYld P w K mg base outer L nw Ch g B B0 out) m (.send .none) (s.setGen g .running)

theorem set_at {s : Shared} {g : Nat} {x : GenState} (h : g < s.gens.size) : (s.setGen g x).gens[g]? = some x := by
  show (s.gens.setIfInBounds g x)[g]? = some x
  simp [h]
theorem set_other {s : Shared} {g i : Nat} {x : GenState} (h : i ≠ g) : (s.setGen g x).gens[i]? = s.gens[i]? := by
  show (s.gens.setIfInBounds g x)[i]? = s.gens[i]?
  rw [Array.getElem?_setIfInBounds_ne (Ne.symm h)]
theorem gl_store {N : List Str} {env : Env} {σ : L2.St} {h' : Heap} {m : Str → Option Value} {j : Nat} {x : Str} {v : V} {u : Value} (nd : N.Nodup) (hj : N[j]? = some x) (hl : σ.length = N.length) (r : RelV v u)
    (hv : ∀ (i : Nat) (y : Str) (z : V), N[i]? = some y → σ[i]? = some (some z) → ∃ q, RelV z q ∧ m y = some q) (hn : h'.Ns env.locals (fun y => if y = x then some u else m y)) : GL N env (σ.set j (some v)) h' := by
  refine ⟨by rw [List.length_set]; exact hl, _, hn, fun i y z e1 e2 => ?_⟩
  have hjl : j < σ.length := by rw [hl]; exact (List.getElem?_eq_some_iff.mp hj).1
  by_cases hij : i = j
  · subst hij
    rw [hj] at e1; cases e1
    rw [List.getElem?_set_self hjl] at e2
    cases e2
    exact ⟨u, r, if_pos rfl⟩
  · rw [List.getElem?_set_ne (Ne.symm hij)] at e2
    obtain ⟨q, r2, e3⟩ := hv i y z e1 e2
    refine ⟨q, r2, ?_⟩
    have hy : y ≠ x := fun z => hij (nodup_ix nd e1 (z ▸ hj))
    show (if y = x then some u else m y) = some q
    rw [if_neg hy]; exact e3

section
variable {P : Program} {w : World} {K : PySem.W.Frag} {mg : Str → Option Value} {base : Heap} {outer : List Env} {N : List Str} {env : Env} {nw : Addr} {ng : Nat} {Ch : Addr → Prop} {g : Nat} {B B0 : Hp} {OUT : List (List Int)} {A Ae : Around} {fs : List Frame}
  {x : Str} {px yp ep : Pos} {e : Expr} {j : Nat} {σ : L2.St} {fr : List Int → List Int} {L' nw' a' : Addr} {g' : Nat} {B' : Hp} {out : List (List Int)}
theorem At.setG {s : Shared} {σ : L2.St} {i : Nat} {y : GenState} (X : At P w K mg base outer N env nw ng Ch B B0 s s σ) (hy : y.bare = true) : At P w K mg base outer N env nw ng Ch B B0 (s.setGen i y) (s.setGen i y) σ :=
  ⟨⟨X.gb.mod, X.gb.bs, X.gb.bsz, X.gb.funs, X.gb.frl, X.gb.hok, X.gb.low, allBare_setGen X.gb.bare hy⟩, X.gl, .refl, X.hb, Nat.le_refl _, X.nz, by rw [setGen_size]; exact X.ngz, X.chl, X.ch⟩
theorem At.chIn {s0 s : Shared} {σ : L2.St} (X : At P w K mg base outer N env nw ng Ch B B0 s0 s σ) : ∀ b, (b = env.locals ∨ Ch b) → ∃ o, s.heap.get? b = some o ∧ ∀ v, o.data ≠ .cell v := fun b hb => by
  rcases hb with rfl | hb
  · obtain ⟨_, m1, ⟨o, es, ep, ho, hd, _⟩, _⟩ := X.gl
    exact ⟨o, ho, fun v z => by rw [hd] at z; cases z⟩
  · exact X.ch b hb
/-- what an inner generator leans on, at a state of its consumer's -/
theorem gb_in {s0 s : Shared} {σ : L2.St} (F : GF N env) (hLL : env.locals < L') (hz' : ∀ b u, B' b = some u → b < L' ∧ b ≠ env.locals ∧ b ∉ frs outer ∧ base.get? b = none) (X : At P w K mg base outer N env nw ng Ch B B0 s0 s σ) (hok : HOk P w B' s.heap) : GB P w K mg base (env :: outer) L' B' s := by
  have hfr : frs (env :: outer) = env.locals :: frs outer := by unfold frs; rw [List.filterMap_cons, F.frame]
  refine ⟨X.gb.mod, fun b o e => ⟨(X.gb.bs b o e).1, ?_⟩, Nat.le_trans X.gb.bsz (Nat.le_of_lt hLL), ?_, fun b z => ?_, hok, fun b o e => (hz' b o e).1, X.gb.bare⟩
  · cases q : B' b with
    | none => rfl
    | some u => rw [(hz' b u q).2.2.2] at e; cases e
  · obtain ⟨_, mm, hns, _⟩ := X.gl
    exact .cons (by rw [F.kind]; decide) F.frame hns (Heap.get?_none_of_le X.gb.bsz) X.gb.funs
  · rw [hfr] at z
    have hbl : b < L' := by
      rcases List.mem_cons.mp z with z | z
      · rw [z]; exact hLL
      · exact Nat.lt_trans (X.gb.frl b z).1 hLL
    refine ⟨hbl, ?_⟩
    cases q : B' b with
    | none => rfl
    | some u =>
      obtain ⟨_, h3, h4, _⟩ := hz' b u q
      rcases List.mem_cons.mp z with z | z
      · exact absurd z h3
      · exact absurd z h4
/-- for x in (a generator of ours): yield e -/
theorem for_gen (F : GF N env) (hw : env.locals < nw)
    (hov : A.over (.forLoop (.Name x px) (.ref a') [.Expr (.Yield (some e) yp) ep] [] env) fs = Ae) (hf : Ae.frames = some (env :: outer)) (hh : Ae.handled = none) (hd : Ae.depth < recursionLimit)
    (hsp : splitAtGen fs = none) (hgu : fs.any Frame.guarded = false) (hj : N[j]? = some x) (hco : env.scope.isCoroutine = false) (hi : interactive env = false)
    (hE : ∀ s p row, row ∈ out → GL N env (σ.set j (some (.ref p))) s.heap → RowAt s.heap p row → wpAny (model P w) Ae (eval e env) (fun u s' => ∃ q h' tk, u = .ref q ∧ s' = { s with heap := h', toks := tk } ∧
      (∀ b o, s.heap.get? b = some o → h'.get? b = some o) ∧ s.heap.objs.size ≤ h'.objs.size ∧ RowAt h' q (fr row) ∧ (q = p ∨ s.heap.objs.size ≤ q)) (fun _ _ => False) s)
    (h0 : B0 env.locals = none) (low0 : ∀ b o, B0 b = some o → b < env.locals) (fr0 : ∀ b ∈ frs outer, B0 b = none)
    (hCh : ∀ b, Ch b → b < nw ∧ b ≠ env.locals) (hgg : g < g') (hL' : nw ≤ L') (hnw : nw ≤ nw') (hLa : L' < a') (hz' : Fz B')
    (hB' : ∀ b u, B' b = some u → b < L' ∧ b < nw' ∧ b ≠ env.locals ∧ b ∉ frs outer ∧ ¬ Ch b ∧ base.get? b = none) (pre rest : List (List Int)) (hO : OUT = pre ++ (out.map fr ++ rest))
    (c : Addr) (oc : Obj) (hc : c < L' ∧ c < nw' ∧ c ≠ env.locals ∧ c ∉ frs outer ∧ ¬ Ch c)
    (han : a' < nw') (hb0 : ∀ s, GB P w K mg base outer env.locals B s → HOk P w B0 s.heap)
    (hend : ∀ s0 s v0, At P w K mg base outer N env nw ng Ch B B0 s0 s (σ.set j v0) → s.heap.get? c = some oc → Seg (model P w) A (gEnd P w outer env.locals nw B0) (gYld P w K mg base outer env.locals nw Ch g B B0 OUT) rest.length s0 (.block [] env) (.pure (.done .next)) fs s) :
    ∀ (m i n : Nat) (s0 s : Shared) (v0 : Option V), m + i = out.length → n = m + rest.length → At P w K mg base outer N env nw ng Ch B B0 s0 s (σ.set j v0) → s.heap.get? c = some oc → HOk P w B' s.heap → (∃ o, s.heap.get? L' = some o ∧ Pk o) →
      Live P w K mg base (env :: outer) L' nw' (fun b => b = env.locals ∨ Ch b) a' g' B' (fun _ => none) out Ae m s →
      Seg (model P w) A (gEnd P w outer env.locals nw B0) (gYld P w K mg base outer env.locals nw Ch g B B0 OUT) n s0 (.forLoop (.Name x px) (.ref a') [.Expr (.Yield (some e) yp) ep] [] env)
        ((model P w).den (.forLoop (.Name x px) (.ref a') [.Expr (.Yield (some e) yp) ep] [] env)) fs s := by
  have hfr : frs (env :: outer) = env.locals :: frs outer := by unfold frs; rw [List.filterMap_cons, F.frame]
  have hLL : env.locals < L' := Nat.lt_of_lt_of_le hw hL'
  have nB' : ∀ b, B' b ≠ none → b ≠ L' ∧ b < nw' ∧ b < L' ∧ b ∉ frs (env :: outer) ∧ ¬ (b = env.locals ∨ Ch b) := fun b hb => by
    cases q : B' b with
    | none => exact absurd q hb
    | some u =>
      obtain ⟨h1, h2, h3, h4, h5, _⟩ := hB' b u q
      refine ⟨Nat.ne_of_lt h1, h2, h1, ?_, ?_⟩
      · rw [hfr]
        intro z
        rcases List.mem_cons.mp z with z | z
        · exact h3 z
        · exact h4 z
      · rintro (z | z)
        · exact h3 z
        · exact h5 z
  have hxl : env.kindOf x = some .local := F.loc x (List.mem_of_getElem? hj)
  have hB3 : ∀ b u, B' b = some u → b < L' ∧ b ≠ env.locals ∧ b ∉ frs outer ∧ base.get? b = none := fun b u q => ⟨(hB' b u q).1, (hB' b u q).2.2.1, (hB' b u q).2.2.2.1, (hB' b u q).2.2.2.2.2⟩
  have inGu : ∀ {s s1 s2 : Shared}, HOk P w B' s.heap → Guar P w (frs (env :: outer)) L' nw' (fun _ => none) s s1 → (∀ b o, ¬ (b = env.locals ∨ Ch b) → s1.heap.get? b = some o → s2.heap.get? b = some o) → HOk P w B' s2.heap := fun {s s1 s2} hB gu k => by
    refine fz_ok hz' hB fun b o hb e => ?_
    obtain ⟨h1, h2, h3, h4, h5⟩ := nB' b hb
    exact k b o h5 ((gu.kp b o e rfl h1 (.inl h2) (.inl h3)).1 h4)
  have cGu : ∀ {s s1 : Shared}, s.heap.get? c = some oc → Guar P w (frs (env :: outer)) L' nw' (fun _ => none) s s1 → s1.heap.get? c = some oc := fun {s s1} e gu => by
    obtain ⟨h1, h2, h3, h4, _⟩ := hc
    refine (gu.kp c oc e rfl (Nat.ne_of_lt h1) (.inl h2) (.inl h1)).1 ?_
    rw [hfr]
    intro z
    rcases List.mem_cons.mp z with z | z
    · exact h3 z
    · exact h4 z
  intro m
  induction m with
  | zero =>
    intro i n s0 s v0 hm hn X hcc hB hpk hl
    obtain ⟨hg, gs, hgs, hgo⟩ := hl
    refine sg_turn ?_
    rw [hov]
    refine wpAny_hsz (next_genG hh (gb_limit X.gb) hd hg hgs hgo (fun v s1 gs' _ hv => ?_) (fun s1 hp h' hk => ?_) fun _ _ z => False.elim z)
    · obtain ⟨row, p, _, _, _, _, gu1, _, ba1, gz1, _, kap⟩ := hv
      have gu2 : Guar P w (frs (env :: outer)) L' nw' (fun _ => none) s s1 := ⟨gu1.os, gu1.sz, gu1.kp⟩
      have X1 := X.inner F hw hL' hnw hpk low0 fr0 gu2 ba1 (by
          have q : (s.setGen g' .running).gens.size = s.gens.size := setGen_size _ _ _
          rw [← q]; exact gz1)
      exact False.elim (kap s1 ⟨rfl, Nat.le_refl _, fun _ _ e _ => e, X1.chIn, fun _ _ _ e => e, Nat.le_refl _, gb_in F hLL hB3 X1 (inGu hB gu2 fun _ _ _ e => e)⟩)
    · intro hsz
      obtain ⟨_, gu1, _, ba1, gz1⟩ := hp
      have q : (s.setGen g' .running).gens.size = s.gens.size := setGen_size _ _ _
      have q2 : (s1.setGen g' .finished).gens.size = s1.gens.size := setGen_size _ _ _
      have gu2 : Guar P w (frs (env :: outer)) L' nw' (fun _ => none) s { s1.setGen g' .finished with heap := h' } := by
        refine ⟨gu1.os, hsz, fun b o e nb nL hp hc => ?_⟩
        obtain ⟨k1, k2⟩ := gu1.kp b o e nb nL hp hc
        exact ⟨fun z => hk b o (k1 z), fun z => let ⟨sl, e2⟩ := k2 z; ⟨sl, hk b _ e2⟩⟩
      have X1 := X.inner F hw hL' hnw hpk low0 fr0 gu2 (allBare_setGen (s := s1) ba1 rfl) (by
        show s.gens.size ≤ (s1.setGen g' .finished).gens.size
        rw [q2, ← q]; exact gz1)
      have en : n = rest.length := by omega
      rw [en]
      exact hend s0 _ v0 X1 (cGu hcc gu2)
  | succ m ih =>
    intro i n s0 s v0 hm hn X hcc hB hpk hl
    obtain ⟨hg, gs, hgs, hgo⟩ := hl
    refine sg_turn ?_
    rw [hov]
    refine next_genG hh (gb_limit X.gb) hd hg hgs hgo (fun v s1 gs' hbr hv => ?_) (fun s1 hp h' hk => absurd hp.1 (Nat.succ_ne_zero m)) fun _ _ z => False.elim z
    obtain ⟨row, p, hrow, rfl, hps, hra, gu1, _, ba1, gz1, ⟨oL, eL, pkL⟩, kap⟩ := hv
    have q : (s.setGen g' .running).gens.size = s.gens.size := setGen_size _ _ _
    have q2 : (s1.setGen g' gs').gens.size = s1.gens.size := setGen_size _ _ _
    have hglt : g' < s.gens.size := (Array.getElem?_eq_some_iff.mp hgs).1
    have hglt1 : g' < s1.gens.size := by have := gz1; rw [q] at this; omega
    have gu2 : Guar P w (frs (env :: outer)) L' nw' (fun _ => none) s (s1.setGen g' gs') := ⟨gu1.os, gu1.sz, gu1.kp⟩
    have ba2 : AllBare (s1.setGen g' gs').gens := allBare_setGen ba1 hbr
    have X1 := X.inner F hw hL' hnw hpk low0 fr0 gu2 ba2 (by rw [q2, ← q]; exact gz1)
    have nfrE : a' ∉ frs (env :: outer) := fun z => by
      rw [hfr] at z
      rcases List.mem_cons.mp z with z | z
      · exact Nat.ne_of_gt (Nat.lt_trans hLL hLa) z
      · exact absurd (X.gb.frl _ z).1 (Nat.not_lt.mpr (Nat.le_of_lt (Nat.lt_trans hLL hLa)))
    -- the generator's own object stands
    have hg1 : s1.heap.IsGen a' g' := by
      obtain ⟨o, nm, qn, ho, hc, hd2, hs2⟩ := hg
      refine ⟨o, nm, qn, (gu1.kp a' o ho rfl (Nat.ne_of_gt hLa) (.inl han) (.inr ?_)).1 nfrE, hc, hd2, hs2⟩
      intro v z; rw [hd2] at z; cases z
    show wpAny _ Ae (letOwnedTupleGo (.Name x px) (.ref a') (.ref p)) _ _ _
    refine wpAny_pure ?_
    refine wpAny_assign_Name ?_
    obtain ⟨hlen, mm, hns, hval⟩ := X1.gl
    refine wpAny_storeName_local hxl hns (fun h2 hn2 sb => ?_) (by rw [F.kind]; rfl)
    intro J'
    have gl2 : GL N env (σ.set j (some (.ref p))) h2 := by
      have := gl_store (σ := σ.set j v0) F.nd hj hlen (show RelV (.ref p) (.ref p) from rfl) hval hn2
      rw [List.set_set] at this
      exact this
    have kp2 : ∀ b o, b ≠ env.locals → (s1.setGen g' gs').heap.get? b = some o → h2.get? b = some o := fun b o nb e => (sb.2 b nb).trans e
    have X2 := X1.raw (s' := { s1.setGen g' gs' with heap := h2, toks := (s1.setGen g' gs').toks + 1 }) hw h0 rfl rfl kp2 (Nat.le_of_eq sb.1.symm) gl2
    have hpL : p ≠ env.locals := fun z => by
      have h1 := X.gl.2
      obtain ⟨m1, hn1, _⟩ := h1
      exact absurd hn1.lt (Nat.not_lt.mpr (by rw [← z]; exact hps))
    have hra2 : RowAt h2 p row := by
      obtain ⟨its, r, o, ho, t⟩ := hra
      exact ⟨its, r, o, kp2 p o hpL ho, t⟩
    refine seg_execs_cons ?_
    obtain ⟨n, rfl⟩ : ∃ k, n = k + 1 := ⟨n - 1, by omega⟩
    refine seg_Expr_Yield hsp rfl hgu ?_ hco hi
    rw [hov]
    refine wpAny_mono (hE _ p row (List.mem_of_getElem? hrow) gl2 hra2) (fun u s3 hu => ?_) fun _ _ z => False.elim z
    obtain ⟨qq, h3, tk3, rfl, rfl, k3, sz3, hra3, hqn⟩ := hu
    have gl3 : GL N env (σ.set j (some (.ref p))) h3 := by
      obtain ⟨l1, m1, hn1, hv1⟩ := gl2
      exact ⟨l1, m1, hn1.keeps k3, hv1⟩
    have X3 := X2.raw (s' := { { s1.setGen g' gs' with heap := h2, toks := (s1.setGen g' gs').toks + 1 } with heap := h3, toks := tk3 }) hw h0 rfl rfl (fun b o _ e => k3 b o e) sz3 gl3
    intro kp hkp
    have hi1 : i < out.length := by omega
    have hidx : out[i]? = some row := by
      have e1 : out.length - 1 - (m + 1 - 1) = i := by omega
      rw [e1] at hrow; exact hrow
    refine ⟨fr row, qq, ?_, rfl, ?_, hra3, X3.gu, X3.hb, X3.bare, X3.gz, ?_, fun s4 ry => ?_⟩
    · have e1 : OUT.length - 1 - n = pre.length + i := by
        rw [hO, List.length_append, List.length_append, List.length_map]; omega
      rw [e1, hO, List.getElem?_append_right (Nat.le_add_right _ _), Nat.add_sub_cancel_left, List.getElem?_append_left (by rw [List.length_map]; exact hi1), List.getElem?_map, hidx]
      rfl
    · rcases hqn with z | z
      · rw [z]; exact Nat.le_trans X.gu.sz hps
      · exact Nat.le_trans X2.gu.sz z
    · obtain ⟨_, m1, ⟨o, es, ep2, ho, hdd, _⟩, _⟩ := gl3
      exact ⟨o, ho, .inl ⟨es, ep2, hdd⟩⟩
    · refine hkp .none s4 ?_
      show Seg _ _ _ _ n s4 _ (.pure (.again (.forLoop _ _ _ _ _))) fs s4
      refine seg_again rfl ?_
      -- the state behind the sleep
      have chL : ¬ Ch env.locals := fun z => (hCh _ z).2 rfl
      have kall : ∀ b o, ¬ (b = env.locals ∨ Ch b) → s1.heap.get? b = some o → s4.heap.get? b = some o := fun b o hb e =>
        ry.keep b o (k3 b o (kp2 b o (fun z => hb (.inl z)) e)) fun z => hb (.inr z)
      have gl4 : GL N env (σ.set j (some (.ref p))) s4.heap := by
        obtain ⟨l1, m1, ⟨o, es, ep2, ho, r⟩, hv1⟩ := gl3
        exact ⟨l1, m1, ⟨o, es, ep2, ry.keep _ o ho chL, r⟩, hv1⟩
      have X4 : At P w K mg base outer N env nw ng Ch B B0 s4 s4 (σ.set j (some (.ref p))) := ⟨ry.gb, gl4, .refl, hb0 _ ry.gb, Nat.le_refl _, Nat.le_trans X3.nz ry.sz, Nat.le_trans X3.ngz ry.gsz, X3.chl, ry.there⟩
      have hB4 : HOk P w B' s4.heap := inGu hB (s1 := s1) ⟨gu1.os, gu1.sz, gu1.kp⟩ kall
      have eg4 : s4.gens[g']? = some gs' := ry.gens g' gs' hgg (set_at hglt1)
      have hglt4 : g' < s4.gens.size := (Array.getElem?_eq_some_iff.mp eg4).1
      have nC : ∀ b, nw ≤ b → ¬ (b = env.locals ∨ Ch b) := fun b hb z => by
        rcases z with z | z
        · exact absurd hw (Nat.not_lt.mpr (by rw [← z]; exact hb))
        · exact absurd (hCh b z).1 (Nat.not_lt.mpr hb)
      refine ih (i + 1) n s4 s4 (some (.ref p)) (by omega) (by omega) X4 (kall c oc (fun z => z.elim hc.2.2.1 hc.2.2.2.2) (cGu hcc (s1 := s1) ⟨gu1.os, gu1.sz, gu1.kp⟩)) hB4 ⟨oL, kall L' oL (nC L' hL') eL, pkL⟩ ⟨?_, gs', eg4, ?_⟩
      · obtain ⟨o, nm, qn, ho, r⟩ := hg1
        exact ⟨o, nm, qn, kall a' o (nC a' (Nat.le_trans hL' (Nat.le_of_lt hLa))) ho, r⟩
      · have := kap (s4.setGen g' .running) ⟨ry.os, Nat.le_trans (Nat.le_of_eq sb.1.symm) (Nat.le_trans sz3 ry.sz), fun b o e hb => kall b o hb e, X4.chIn, fun i2 y hi2 e => ?_, ?_, ?_⟩
        · exact this
        · rw [set_other (Nat.ne_of_gt hi2)]
          refine ry.gens i2 y (Nat.lt_trans hgg hi2) ?_
          show (s1.setGen g' gs').gens[i2]? = some y
          rw [set_other (Nat.ne_of_gt hi2)]; exact e
        · rw [setGen_size]
          have h1 : (s1.setGen g' gs').gens.size ≤ s4.gens.size := ry.gsz
          rw [q2] at h1; exact h1
        · have X5 : At P w K mg base outer N env nw ng Ch B B0 (s4.setGen g' .running) (s4.setGen g' .running) (σ.set j (some (.ref p))) := X4.setG rfl
          exact gb_in F hLL hB3 X5 hB4
end
end LG

set_option Elab.async false
set_option linter.all false
set_option maxRecDepth 100000
set_option maxHeartbeats 2000000
namespace LG
open PySem L2 GenW PySem.Spec PyProof.Rows

section
variable {P : Program} {w : World} {K : PySem.W.Frag} {mg : Str → Option Value} {base : Heap} {outer : List Env} {N : List Str} {env : Env} {nw : Addr} {ng : Nat} {Ch : Addr → Prop} {g : Nat} {B B0 : Hp} {OUT : List (List Int)} {A Ae : Around} {fs : List Frame} {σ : L2.St} {s0 s s' : Shared}

/-- an object of the generator's own (an iterator) has turned, new ones may have been laid -/
theorem At.own {c : Addr} (X : At P w K mg base outer N env nw ng Ch B B0 s0 s σ) (hw : env.locals < nw) (low0 : ∀ b o, B0 b = some o → b < env.locals) (hc : nw ≤ c) (hpk : ∀ o, s.heap.get? c = some o → Pk o) (os : s'.os = s.os) (gs : s'.gens = s.gens)
    (k : ∀ b o, b ≠ c → s.heap.get? b = some o → s'.heap.get? b = some o) (sz : s.heap.objs.size ≤ s'.heap.objs.size) : At P w K mg base outer N env nw ng Ch B B0 s0 s' σ := by
  have ncl : ∀ b, b < env.locals → b ≠ c := fun b hb => Nat.ne_of_lt (Nat.lt_of_lt_of_le (Nat.lt_trans hb hw) hc)
  have none_c : ∀ {H : Hp}, (∀ b o, H b = some o → b < env.locals) → H c = none := fun {H} lw => by
    cases q : H c with
    | none => rfl
    | some o => exact absurd rfl (ncl c (lw c o q))
  have g1 : ∀ (B1 : Hp), Guar P w (frs outer) env.locals nw B1 s s' := fun B1 => ⟨os, sz, fun b o e _ nL hp _ => by
    have hb : b ≠ c := fun z => by
      subst z
      rcases hp with y | y
      · exact absurd y (Nat.not_lt.mpr hc)
      · exact y (hpk o e)
    exact ⟨fun _ => k b o hb e, fun _ => ⟨o.slots, k b o hb e⟩⟩⟩
  obtain ⟨l1, m, hn, hv⟩ := X.gl
  obtain ⟨o, es, ep, ho, r⟩ := hn
  exact ⟨gb_next X.gb (g1 B) hw (hok_but (none_c X.gb.low) X.gb.hok k) (by rw [gs]; exact X.bare), ⟨l1, m, ⟨o, es, ep, k _ o (Nat.ne_of_lt (Nat.lt_of_lt_of_le hw hc)) ho, r⟩, hv⟩, X.gu.trans (g1 B0), hok_but (none_c low0) X.hb k, by rw [gs]; exact X.gz, Nat.le_trans X.nz sz, by rw [gs]; exact X.ngz, X.chl, fun b hb => let ⟨o, e, d⟩ := X.ch b hb; ⟨o, k b o (Nat.ne_of_lt (Nat.lt_of_lt_of_le (X.chl b hb).1 hc)) e, d⟩⟩

/-- behind a sleep -/
theorem At.slept (X : At P w K mg base outer N env nw ng Ch B B0 s0 s σ) (hb0 : ∀ s, GB P w K mg base outer env.locals B s → HOk P w B0 s.heap) (chL : ¬ Ch env.locals) (ry : Rely P w K mg base outer env.locals Ch g B s s') : At P w K mg base outer N env nw ng Ch B B0 s' s' σ := by
  obtain ⟨l1, m1, ⟨o, es, ep2, ho, r⟩, hv1⟩ := X.gl
  exact ⟨ry.gb, ⟨l1, m1, ⟨o, es, ep2, ry.keep _ o ho chL, r⟩, hv1⟩, .refl, hb0 _ ry.gb, Nat.le_refl _, Nat.le_trans X.nz ry.sz, Nat.le_trans X.ngz ry.gsz, X.chl, ry.there⟩

/-- yield e, e a new row -/
theorem yield_at {c : Code} {e : Expr} {yp ep : Pos} {row : List Int} {n : Nat} {K' : Flow → Sem PySem.Fin} {J : Value → Sem PySem.Fin} {gd : Bool → Bool} {lv : List Value → List Value} (hw : env.locals < nw) (hov : A.over c fs = Ae) (hsp : splitAtGen fs = none) (hgu : fs.any Frame.guarded = false) (hgd : gd false = false) (hco : env.scope.isCoroutine = false) (hi : interactive env = false)
    (h0 : B0 env.locals = none) (hb0 : ∀ s, GB P w K mg base outer env.locals B s → HOk P w B0 s.heap) (chL : ¬ Ch env.locals)
    (X : At P w K mg base outer N env nw ng Ch B B0 s0 s σ)
    (hE : wpAny (model P w) Ae (eval e env) (fun u s' => ∃ q h' tk, u = .ref q ∧ s' = { s with heap := h', toks := tk } ∧ (∀ b o, s.heap.get? b = some o → h'.get? b = some o) ∧ s.heap.objs.size ≤ h'.objs.size ∧ RowAt h' q row ∧ s0.heap.objs.size ≤ q) (fun _ _ => False) s)
    (hO : OUT[OUT.length - 1 - n]? = some row)
    (hk : ∀ s4, At P w K mg base outer N env nw ng Ch B B0 s4 s4 σ → (∀ b o, ¬ Ch b → s.heap.get? b = some o → s4.heap.get? b = some o) → Seg (model P w) A (gEnd P w outer env.locals nw B0) (gYld P w K mg base outer env.locals nw Ch g B B0 OUT) n s4 c (K' .next) fs s4) :
    Seg (model P w) A (gEnd P w outer env.locals nw B0) (gYld P w K mg base outer env.locals nw Ch g B B0 OUT) (n + 1) s0 c ((exec (.Expr (.Yield (some e) yp) ep) env).wrap K' J gd lv) fs s := by
  refine seg_Expr_Yield hsp hgd hgu ?_ hco hi
  rw [hov]
  refine wpAny_mono hE (fun u s3 hu => ?_) fun _ _ z => False.elim z
  obtain ⟨qq, h3, tk3, rfl, rfl, k3, sz3, hra3, hqn⟩ := hu
  have gl3 : GL N env σ h3 := by
    obtain ⟨l1, m1, hn1, hv1⟩ := X.gl
    exact ⟨l1, m1, hn1.keeps k3, hv1⟩
  have X3 := X.raw (s' := { s with heap := h3, toks := tk3 }) hw h0 rfl rfl (fun b o _ e => k3 b o e) sz3 gl3
  intro kp hkp
  refine ⟨row, qq, hO, rfl, hqn, hra3, X3.gu, X3.hb, X3.bare, X3.gz, ?_, fun s4 ry => ?_⟩
  · obtain ⟨_, m1, ⟨o, es, ep2, ho, hdd, _⟩, _⟩ := gl3
    exact ⟨o, ho, .inl ⟨es, ep2, hdd⟩⟩
  · refine hkp .none s4 ?_
    exact hk s4 (X3.slept hb0 chL ry) fun b o hb e => ry.keep b o (k3 b o e) hb

theorem At.now (X : At P w K mg base outer N env nw ng Ch B B0 s0 s σ) : At P w K mg base outer N env nw ng Ch B B0 s s σ := ⟨X.gb, X.gl, .refl, X.hb, Nat.le_refl _, X.nz, X.ngz, X.chl, X.ch⟩
/-- new objects were laid, generators were made -/
theorem At.grow (X : At P w K mg base outer N env nw ng Ch B B0 s0 s σ) (hw : env.locals < nw) (h0 : B0 env.locals = none) (os : s'.os = s.os) (gs : s.gens.size ≤ s'.gens.size) (ba : AllBare s'.gens) (k : ∀ b o, s.heap.get? b = some o → s'.heap.get? b = some o)
    (sz : s.heap.objs.size ≤ s'.heap.objs.size) : At P w K mg base outer N env nw ng Ch B B0 s0 s' σ := by
  have g1 : ∀ (B1 : Hp), Guar P w (frs outer) env.locals nw B1 s s' := fun B1 => ⟨os, sz, fun b o e _ nL _ _ => ⟨fun _ => k b o e, fun _ => ⟨o.slots, k b o e⟩⟩⟩
  obtain ⟨l1, m, hn, hv⟩ := X.gl
  exact ⟨gb_next X.gb (g1 B) hw (X.gb.hok.kept k) ba, ⟨l1, m, hn.keeps k, hv⟩, X.gu.trans (g1 B0), X.hb.kept k, Nat.le_trans X.gz gs, Nat.le_trans X.nz sz, Nat.le_trans X.ngz gs, X.chl, fun b hb => let ⟨o, e, d⟩ := X.ch b hb; ⟨o, k b o e, d⟩⟩

/-- f(e, ..), f a generator def of ours: a generator that has not begun -/
theorem g_mk {x qual y : Str} {params : Arguments} {body : List Stmt} {scope : Scope} {dvs : List V} {kws : List (Str × V)} {f : Addr} {fd : FuncData} {N' ps : List Str} {p pos' : Pos} {e : Expr} {es : List Expr} {ta : TA} {Q : List V → Hp → Prop}
    (F : GF N env) (G : GB P w K mg base outer env.locals B s) (l : GL N env σ s.heap) (hd : Ae.handled = none) (hf : Ae.frames = some (env :: outer)) (hdp : Ae.depth < recursionLimit)
    (FR : FunD K x qual params body scope dvs kws f fd) (S : NScope N' ps scope) (b : Binds K fd ps []) (hg : env.kindOf y = some .globalImplicit) (hm : mg y = some (.ref f))
    (ha : PA (gX P w K mg base N env Ae outer B s) (e :: es) ta) (ht : ta σ B Q) (hl : ∀ vs H', Q vs H' → vs.length = ps.length)
    (hdb : (y == ("__debug__" : Str)) = false := by decide) (he : starEach (e :: es) env = (false, eval e env) :: starEach es env := by rfl) (hpl : (backTo pos' (starEach es env)).any (·.1) = false := by rfl) :
    wpAny (model P w) Ae (eval (.Call (.Name y p) (e :: es) [] pos') env) (fun u s' => ∃ vs H' s1 a cdv, After P w (frs outer) env N B σ H' s s1 ∧ Q vs H' ∧ u = .ref a ∧ Made N' vs (envOfC qual scope s1.heap.objs.size f cdv) body s1 s' a ∧ K.In s1.heap) (fun _ _ => False) s := by
  have I := g_inv F G l hd hf
  refine wpAny_Call_Name_kw (ld_glob I hg hm ?_ hdb)
  refine PySem.W.callWith_K (h₀ := base) G.mod.kin FR.kp (wpAny_mono (g_pa (pos := pos') F G l hd hf ha ht) (fun us s1 hus => ?_) fun _ _ z => False.elim z) he hpl
  obtain ⟨vs, H', af, r, q⟩ := hus
  have kp1 : ∀ b o, base.get? b = some o → s1.heap.get? b = some o := fun b o e => by
    obtain ⟨h1, h2⟩ := G.bs b o e
    have hlt : b < env.locals := Nat.lt_of_lt_of_le (Heap.lt_size e) G.bsz
    refine (af.kp b o h1 h2 (Nat.ne_of_lt hlt) (.inl hlt)).1 fun z => ?_
    have := (G.funs.mem z).1
    rw [e] at this; cases this
  have kin1 : K.In s1.heap := G.mod.kin.keeps kp1
  refine ⟨kin1, ?_⟩
  refine wpAny_call (codeAny_mono (make_gen FR S b kin1 (G.mod.nolimit.keeps kp1) af.bare hdp (hl vs H' q) r) fun qr s2 hq => ?_)
  obtain ⟨a, cdv, rfl, M⟩ := hq
  exact ⟨vs, H', s1, a, cdv, af, q, rfl, M, kin1⟩
end
end LG

set_option Elab.async false
set_option linter.all false
set_option maxRecDepth 100000
set_option maxHeartbeats 4000000
namespace LG
open PySem L2 GenW PySem.Spec PyProof.Rows

/-! ### the mathematics -/
def isFirst (left : List Int) (cs : List (Int × Int)) (r : Int) : Bool := !(left.any fun o => cs.contains (o, r))
def without (left : List Int) (r : Int) : List Int := left.filter fun o => !decide (o = r)
def rowsN : Nat → List Int → List (Int × Int) → List (List Int)
  | 0, left, _ => if left = [] then [[]] else []
  | d + 1, left, cs => (if left = [] then [[]] else []) ++ (left.flatMap fun r => if isFirst left cs r then (rowsN d (without left r) cs).map (r :: ·) else [])
theorem without_lt {left : List Int} {r : Int} (h : r ∈ left) : (without left r).length < left.length := by
  unfold without
  refine List.length_filter_lt_length_iff_exists.mpr ⟨r, h, by simp⟩

/-! ### data -/
def ITup (K : PySem.W.Frag) (H : Hp) (a : Addr) (xs : List Int) : Prop := SqT K H a (xs.map V.int)
def PTup (K : PySem.W.Frag) (H : Hp) (b : Addr) (cs : List (Int × Int)) : Prop := ∃ ps : List Addr, SqT K H b (ps.map V.ref) ∧ Paired (fun p (c : Int × Int) => SqT K H p [V.int c.1, V.int c.2]) ps cs
theorem sqt_same {K : PySem.W.Frag} {H H' : Hp} {a : Addr} {xs : List V} (e : Same H H') (h : SqT K H a xs) : SqT K H' a xs := by
  rcases h with (h | ⟨o, h⟩) | h
  · exact .inl (.inl (e _ _ h))
  · exact .inl (.inr ⟨o, e _ _ h⟩)
  · exact .inr h
theorem ITup.same {K : PySem.W.Frag} {H H' : Hp} {a : Addr} {xs : List Int} (e : Same H H') (h : ITup K H a xs) : ITup K H' a xs := sqt_same e h
theorem PTup.same {K : PySem.W.Frag} {H H' : Hp} {b : Addr} {cs : List (Int × Int)} (e : Same H H') (h : PTup K H b cs) : PTup K H' b cs := by
  obtain ⟨ps, h1, h2⟩ := h
  exact ⟨ps, sqt_same e h1, Paired.mapP h2 fun _ _ z => sqt_same e z⟩
def spFirst (K : PySem.W.Frag) : Sp := fun vs H Q _ => ∃ a b left cs r, vs = [.ref a, .ref b, .int r] ∧ ITup K H a left ∧ PTup K H b cs ∧ ∀ H', Same H H' → Q (.bl (isFirst left cs r)) H'
def spWithout (K : PySem.W.Frag) : Sp := fun vs H Q _ => ∃ a left r, vs = [.ref a, .int r] ∧ ITup K H a left ∧ left.length ≤ 1000 ∧ ∀ H' p, Same H H' → H p = none → H' p = some (.tup ((without left r).map V.int)) → Q (.ref p) H'

/-! ### the text of rows_from -/
def scRows : Scope := { kind := .function, names := [("left", .local), ("couples", .local), ("role", .local), ("row", .local), ("is_first", .globalImplicit), ("rows_from", .globalImplicit), ("without_role", .globalImplicit)], isGenerator := true, isCoroutine := false, more := [] }
abbrev NR : List Str := ["left", "couples", "role", "row"]
theorem scR : NScope NR ["left", "couples"] scRows := ⟨rfl, rfl, rfl, by decide +kernel, rfl, by decide +kernel, by decide +kernel⟩
def eRow (p : Nat → Pos) : Expr := .BinOp (.Tuple [.Name "role" (p 21)] 0 (p 22)) .Add (.Name "row" (p 23)) (p 24)
def stYield (p : Nat → Pos) : Stmt := .Expr (.Yield (some (eRow p)) (p 25)) (p 26)
def eMk (p : Nat → Pos) : Expr := .Call (.Name "rows_from" (p 14)) [.Call (.Name "without_role" (p 15)) [.Name "left" (p 16), .Name "role" (p 17)] [] (p 18), .Name "couples" (p 19)] [] (p 20)
def stIn (p : Nat → Pos) : Stmt := .For (.Name "row" (p 13)) (eMk p) [stYield p] [] (p 27)
def eFirst (p : Nat → Pos) : Expr := .Call (.Name "is_first" (p 8)) [.Name "left" (p 9), .Name "couples" (p 10), .Name "role" (p 11)] [] (p 12)
def stIf (p : Nat → Pos) : Stmt := .If (eFirst p) [stIn p] [] (p 28)
def stOut (p : Nat → Pos) : Stmt := .For (.Name "role" (p 6)) (.Name "left" (p 7)) [stIf p] [] (p 29)
def bodyRows (p : Nat → Pos) : List Stmt := [.If (.UnaryOp .Not (.Name "left" (p 0)) (p 1)) [.Expr (.Yield (some (.Tuple [] 0 (p 2))) (p 3)) (p 4)] [] (p 5), stOut p]

/-- (role,) + row -/
theorem eval_row {P : Program} {w : World} {A : Around} {L f : Addr} {cdv : Value} {s : Shared} {σ : L2.St} {p : Nat → Pos} {q : Addr} {r : Int} {row : List Int} (hσ : σ[2]? = some (some (.int r))) (hq : σ[3]? = some (some (.ref q))) (hz : row.length ≤ 1000)
    (l : GL NR (envOfC "rows_from" scRows L f cdv) σ s.heap) (hr : RowAt s.heap q row) :
    wpAny (model P w) A (eval (eRow p) (envOfC "rows_from" scRows L f cdv)) (fun u s' => ∃ q' h' tk, u = .ref q' ∧ s' = { s with heap := h', toks := tk } ∧ (∀ b o, s.heap.get? b = some o → h'.get? b = some o) ∧ s.heap.objs.size ≤ h'.objs.size ∧ RowAt h' q' (r :: row) ∧ (q' = q ∨ s.heap.objs.size ≤ q')) (fun _ _ => False) s := by
  obtain ⟨_, m, hn, hv⟩ := l
  obtain ⟨u, ⟨tk, rfl⟩, hu⟩ := hv 2 "role" _ rfl hσ
  obtain ⟨u2, rfl, hu2⟩ := hv 3 "row" _ rfl hq
  obtain ⟨its, rv, ht⟩ := hr
  refine wpAny_BinOp ?_
  refine wpAny_Tuple_spliced ?_
  refine Calls.spliced_cons (wpAny_Name (wpAny_loadName_local rfl rfl hn hu ?_) (by decide))
  refine Calls.spliced_nil ⟨by show 1 ≤ sizeLine; decide, ?_⟩
  have k1 : ∀ b o, s.heap.get? b = some o → (s.heap.push { cls := .type "tuple", data := .seq [Value.int r tk].toArray }).get? b = some o := fun b o e => Heap.get?_push_of_some _ e
  refine wpAny_Name (wpAny_loadName_local rfl rfl (hn.keeps k1) hu2 ?_) (by decide)
  refine HT.cat_tup (vs := [Value.int r tk]) (ws := its) (IsTup.new _ _) (ht.keeps k1) (by simp) (fun e => ?_) (fun e => ?_) ?_
  · have er : row = [] := by
      have := rv.length
      rw [e, List.length_map] at this
      exact List.eq_nil_of_length_eq_zero this
    subst er
    exact ⟨_, _, s.toks, rfl, rfl, k1, by rw [Heap.size_push]; omega, ⟨[Value.int r tk], .cons ⟨tk, rfl⟩ .nil, IsTup.new _ _⟩, .inr (Nat.le_refl _)⟩
  · refine ⟨_, _, s.toks, rfl, rfl, fun b o e2 => Heap.get?_push_of_some _ (k1 b o e2), by rw [Heap.size_push, Heap.size_push]; omega, ⟨Value.int r tk :: its, .cons ⟨tk, rfl⟩ rv, IsTup.new _ _⟩, .inr ?_⟩
    show s.heap.objs.size ≤ (s.heap.push _).objs.size
    rw [Heap.size_push]; exact Nat.le_succ _
  · have h1 : its.length = row.length := by rw [← rv.length, List.length_map]
    show 1 + its.length ≤ sizeLine
    rw [h1]
    exact Nat.le_trans (Nat.add_le_add_left hz 1) (by decide)
end LG

set_option Elab.async false
set_option linter.all false
set_option maxRecDepth 100000
set_option maxHeartbeats 8000000
namespace LG
open PySem L2 GenW PySem.Spec PyProof.Rows

theorem rows_len : ∀ {d : Nat} {left : List Int} {cs : List (Int × Int)} {row : List Int}, row ∈ rowsN d left cs → row.length ≤ d
  | 0, left, cs, row, h => by
    unfold rowsN at h
    split at h
    · rw [List.mem_singleton.mp h]; exact Nat.le_refl _
    · cases h
  | d + 1, left, cs, row, h => by
    unfold rowsN at h
    rcases List.mem_append.mp h with h | h
    · split at h
      · rw [List.mem_singleton.mp h]; exact Nat.zero_le _
      · cases h
    · obtain ⟨r, _, h2⟩ := List.mem_flatMap.mp h
      split at h2
      · obtain ⟨q, h3, rfl⟩ := List.mem_map.mp h2
        have := rows_len h3
        show q.length + 1 ≤ d + 1
        omega
      · cases h2
/-- what the loop over the roles yields -/
def flat (d : Nat) (left : List Int) (cs : List (Int × Int)) (l : List Int) : List (List Int) := l.flatMap fun r => if isFirst left cs r then (rowsN d (without left r) cs).map (r :: ·) else []
theorem flat_cons {d : Nat} {left : List Int} {cs : List (Int × Int)} {r : Int} {l : List Int} : flat d left cs (r :: l) = (if isFirst left cs r then (rowsN d (without left r) cs).map (r :: ·) else []) ++ flat d left cs l := rfl

/-- what the module holds for rows_from -/
structure RX (P : Program) (w : World) (K : PySem.W.Frag) (mg : Str → Option Value) (base : Heap) (p : Nat → Pos) (params : Arguments) (fR fI fW : Addr) (fdR fdI fdW : FuncData) : Prop where
  FR : FunD K "rows_from" "rows_from" params (bodyRows p) scRows [] [] fR fdR
  bR : Binds K fdR ["left", "couples"] []
  gR : mg "rows_from" = some (.ref fR)
  GI : FnOk P w K mg base CX0 2 fI fdI ["left", "couples", "role"] (spFirst K)
  kI : PySem.W.keepIn K (.ref fI) = true
  bI : Binds K fdI ["left", "couples", "role"] []
  gI : mg "is_first" = some (.ref fI)
  GW : FnOk P w K mg base CX0 2 fW fdW ["left", "role"] (spWithout K)
  kW : PySem.W.keepIn K (.ref fW) = true
  bW : Binds K fdW ["left", "role"] []
  gW : mg "without_role" = some (.ref fW)

section
variable {P : Program} {w : World} {K : PySem.W.Frag} {mg : Str → Option Value} {base : Heap} {p : Nat → Pos} {params : Arguments} {fR fI fW : Addr} {fdR fdI fdW : FuncData}

abbrev envR (L fR : Addr) (cdv : Value) : Env := envOfC "rows_from" scRows L fR cdv
/-- the two names that do not change, in slots 0 and 1 -/
def Two (σ : L2.St) (aL aC : Addr) : Prop := σ.length = 4 ∧ σ[0]? = some (some (.ref aL)) ∧ σ[1]? = some (some (.ref aC))
theorem Two.set {σ : L2.St} {aL aC : Addr} {i : Nat} {v : Option V} (h : Two σ aL aC) (hi : 2 ≤ i) : Two (σ.set i v) aL aC :=
  ⟨by rw [List.length_set]; exact h.1, by rw [List.getElem?_set_ne (by omega)]; exact h.2.1, by rw [List.getElem?_set_ne (by omega)]; exact h.2.2⟩
theorem room_in1 {k : Nat} {A : Around} {env : Env} (r : Room (k + 1) A) : Room k (A.deeper env).in1 := ⟨r.hd, by have := r.dp; show A.depth + 1 + 3 * k + 5 < _; omega, by have := r.un; show A.units + 3 + 1 + 16 * k + 200 < _; omega⟩
theorem tup_at {outer : List Env} {N : List Str} {env : Env} {B : Hp} {σ : L2.St} {s : Shared} {A : Around} {a : Addr} {xs : List V} (F : GF N env) (G : GB P w K mg base outer env.locals B s) (l : GL N env σ s.heap) (hd : A.handled = none) (hf : A.frames = some (env :: outer)) (h : SqT K B a xs) :
    ∃ its : List Value, Vals xs its ∧ IsTup s.heap a its.toArray ∧ xs.length ≤ sizeLine := (g_inv F G l hd hf).tuple h


theorem rows_step (RXh : RX P w K mg base p params fR fI fW fdR fdI fdW) {d : Nat} {left : List Int} {cs : List (Int × Int)} {A : Around} {outer : List Env} {L : Addr} {cdv : Value} {nw : Addr} {Ch : Addr → Prop} {g : Nat} {B : Hp} {s : Shared} {aL aC : Addr}
    (hd : d ≤ 900) (hl9 : left.length ≤ 901) (hr : Room 3 A) (hf : A.frames = some outer) (G : GB P w K mg base outer L B s) (l : GL NR (envR L fR cdv) (L2.start NR [.ref aL, .ref aC]) s.heap) (hz : Fz B) (hL : ITup K B aL left) (hC : PTup K B aC cs) (hw : L < nw) (hnw : nw ≤ s.heap.objs.size)
    (hCh : ∀ b, Ch b → b < nw ∧ b ≠ L ∧ B b = none) (hCe : ∀ b, Ch b → ∃ o, s.heap.get? b = some o ∧ ∀ v, o.data ≠ .cell v) (hg : g < s.gens.size)
    (inner : ∀ r ∈ left, ∀ (L' : Addr) (cdv' : Value) (nw' : Addr) (Ch' : Addr → Prop) (g' : Nat) (B' : Hp) (s' : Shared) (aL' : Addr),
      GB P w K mg base (envR L fR cdv :: outer) L' B' s' → GL NR (envR L' fR cdv') (L2.start NR [.ref aL', .ref aC]) s'.heap → Fz B' → ITup K B' aL' (without left r) → PTup K B' aC cs → L' < nw' → nw' ≤ s'.heap.objs.size →
      (∀ b, Ch' b → b < nw' ∧ b ≠ L' ∧ B' b = none) → (∀ b, Ch' b → ∃ o, s'.heap.get? b = some o ∧ ∀ v, o.data ≠ .cell v) → g' < s'.gens.size →
      Seg (model P w) (A.deeper (envR L fR cdv)).in1 (gEnd P w (envR L fR cdv :: outer) L' nw' fun _ => none) (gYld P w K mg base (envR L fR cdv :: outer) L' nw' Ch' g' B' (fun _ => none) (rowsN d (without left r) cs)) (rowsN d (without left r) cs).length s'
        (.func (bodyRows p) (envR L' fR cdv')) ((model P w).den (.func (bodyRows p) (envR L' fR cdv'))) [] s') :
    Seg (model P w) A (gEnd P w outer L nw fun _ => none) (gYld P w K mg base outer L nw Ch g B (fun _ => none) (rowsN (d + 1) left cs)) (rowsN (d + 1) left cs).length s (.func (bodyRows p) (envR L fR cdv)) ((model P w).den (.func (bodyRows p) (envR L fR cdv))) [] s := by
  have F : GF NR (envR L fR cdv) := gf_of scR
  have hAf : (A.deeper (envR L fR cdv)).frames = some (envR L fR cdv :: outer) := Around.frames_deeper hf
  have hAh : (A.deeper (envR L fR cdv)).handled = none := hr.hd
  have hr2 : Room 2 (A.deeper (envR L fR cdv)) := hr.deeper _
  have hAd : (A.deeper (envR L fR cdv)).depth < recursionLimit := by have := hr2.dp; omega
  have chL : ¬ Ch L := fun z => (hCh L z).2.1 rfl
  have X0 : At P w K mg base outer NR (envR L fR cdv) nw s.gens.size Ch B (fun _ => none) s s (L2.start NR [.ref aL, .ref aC]) := ⟨G, l, .refl, (fun _ _ e => nomatch e), Nat.le_refl _, hnw, Nat.le_refl _, hCh, hCe⟩
  have two0 : Two (L2.start NR [.ref aL, .ref aC]) aL aC := ⟨rfl, rfl, rfl⟩
  generalize hOUT : rowsN (d + 1) left cs = OUT
  have hOUT2 : OUT = (if left = [] then [[]] else []) ++ flat d left cs left := by rw [← hOUT]; rfl
  have hb0 : ∀ s, GB P w K mg base outer (envR L fR cdv).locals B s → HOk P w (fun _ => none) s.heap := fun s _ _ _ e => nomatch e
  -- the loop over the roles
  have forpart : ∀ (ng : Nat) (s0 s : Shared) (σ : L2.St) (K1 : Flow → Sem PySem.Fin) (J1 : Value → Sem PySem.Fin) (gd1 : Bool → Bool) (lv1 : List Value → List Value), g < ng → Two σ aL aC → At P w K mg base outer NR (envR L fR cdv) nw ng Ch B (fun _ => none) s0 s σ → gd1 false = false →
      (∀ s0 s σ, At P w K mg base outer NR (envR L fR cdv) nw ng Ch B (fun _ => none) s0 s σ → Seg (model P w) A (gEnd P w outer L nw fun _ => none) (gYld P w K mg base outer L nw Ch g B (fun _ => none) OUT) 0 s0 (.func (bodyRows p) (envR L fR cdv)) (K1 .next) [] s) →
      Seg (model P w) A (gEnd P w outer L nw fun _ => none) (gYld P w K mg base outer L nw Ch g B (fun _ => none) OUT) (flat d left cs left).length s0 (.func (bodyRows p) (envR L fR cdv)) ((exec (stOut p) (envR L fR cdv)).wrap K1 J1 gd1 lv1) [] s := by
    intro ng s0 s σ K1 J1 gd1 lv1 hng two X hgd fin
    refine sg_for (fun _ => rfl) ?_
    rw [over_func]
    refine wpAny_mono (g_pe (Q := fun v H' => v = .ref aL ∧ H' = B) F X.gb X.gl hAh hAf (pv 0) ⟨.ref aL, two.2.1, rfl, rfl⟩) (fun xv s1 hx => ?_) fun _ _ z => False.elim z
    obtain ⟨v, H', af, rv, rfl, rfl⟩ := hx
    obtain rfl : xv = Value.ref aL := rv
    have X1 := X.after hw hz rfl af (fun _ _ e => e)
    obtain ⟨its, vals, tup, _⟩ := tup_at F X1.gb X1.gl hAh hAf hL
    refine iter_tuple tup ?_
    intro pp
    have k2 : ∀ b o, s1.heap.get? b = some o → (s1.heap.push { cls := .type "tuple_iterator", data := .fields #[.ref aL, .int 0 0] }).get? b = some o := fun b o e => Heap.get?_push_of_some _ e
    have X2 : At P w K mg base outer NR (envR L fR cdv) nw ng Ch H' (fun _ => none) s0 { s1 with heap := s1.heap.push { cls := .type "tuple_iterator", data := .fields #[.ref aL, .int 0 0] } } σ :=
      X1.raw hw rfl rfl rfl (fun b o _ e => k2 b o e) (by rw [Heap.size_push]; exact Nat.le_succ _) (by
        obtain ⟨q1, m, hn, hv⟩ := X1.gl
        exact ⟨q1, m, hn.keeps k2, hv⟩)
    have hit0 : IsTupIter (s1.heap.push { cls := .type "tuple_iterator", data := .fields #[.ref aL, .int 0 0] }) s1.heap.objs.size aL 0 := ⟨_, Heap.get?_push_size _ rfl, rfl, rfl⟩
    have hitn : nw ≤ s1.heap.objs.size := X1.nz
    generalize s1.heap.objs.size = it at hit0 hitn ⊢
    generalize hfs : (Frame.ret (loopBack (envR L fR cdv) K1 J1 gd1 lv1) none (gd1 false) (lv1 []) (.func (bodyRows p) (envR L fR cdv)) pp [] :: ([] : List Frame)) = fs1
    have hov1 : ∀ (c : Code), c.weight = 0 → c.cUnits = 0 → A.over c fs1 = A.deeper (envR L fR cdv) := fun c h1 h2 => by
      rw [← hfs]
      exact (over_loop h1 h2).trans over_func
    have hsp1 : splitAtGen fs1 = none := by rw [← hfs]; rfl
    have hgu1 : fs1.any Frame.guarded = false := by
      rw [← hfs]
      show (gd1 false || false) = false
      rw [hgd]; rfl
    -- the turns
    have loop : ∀ (rem : List Int) (i : Nat) (s0 s : Shared) (σ : L2.St), left.drop i = rem → Two σ aL aC → At P w K mg base outer NR (envR L fR cdv) nw ng Ch H' (fun _ => none) s0 s σ → IsTupIter s.heap it aL i →
        Seg (model P w) A (gEnd P w outer L nw fun _ => none) (gYld P w K mg base outer L nw Ch g H' (fun _ => none) OUT) (flat d left cs rem).length s0 (.forLoop (.Name "role" (p 6)) (.ref it) [stIf p] [] (envR L fR cdv))
          ((model P w).den (.forLoop (.Name "role" (p 6)) (.ref it) [stIf p] [] (envR L fR cdv))) fs1 s := by
      intro rem
      induction rem with
      | nil =>
        intro i s0 s σ hdrop two X hit
        refine sg_turn ?_
        rw [hov1 _ rfl rfl]
        obtain ⟨its, vals, tup, _⟩ := tup_at F X.gb X.gl hAh hAf hL
        have hi : left.length ≤ i := by
          have := congrArg List.length hdrop
          rw [List.length_drop, List.length_nil] at this; omega
        have hnone : its.toArray[i]? = none := by
          rw [List.getElem?_toArray]
          refine List.getElem?_eq_none ?_
          rw [← vals.length, List.length_map]; exact hi
        refine wpAny_hsz (next_tuple_end hAh hit tup hnone fun h' eb => ?_)
        intro hsz
        have X3 : At P w K mg base outer NR (envR L fR cdv) nw ng Ch H' (fun _ => none) s0 { s with heap := h' } σ :=
          X.own (c := it) hw (fun _ _ e => nomatch e) hitn (fun o e => by
            obtain ⟨o', e', hc, _⟩ := hit
            rw [e] at e'; cases e'
            exact .inr (.inl hc)) rfl rfl (fun b o nb e => eb b o nb e) hsz
        rw [← hfs]
        refine seg_leaf (.ok .next) ?_
        exact fin s0 _ σ X3
      | cons r rem ih =>
        intro i s0 s σ hdrop two X hit
        refine sg_turn ?_
        rw [hov1 _ rfl rfl]
        obtain ⟨its, vals, tup, _⟩ := tup_at F X.gb X.gl hAh hAf hL
        have hri : left[i]? = some r := by
          have q : (left.drop i)[0]? = some r := by rw [hdrop]; rfl
          rw [List.getElem?_drop, Nat.add_zero] at q; exact q
        have hrem : left.drop (i + 1) = rem := by
          have q : (left.drop i).drop 1 = rem := by rw [hdrop]; rfl
          rw [List.drop_drop] at q; exact q
        have hrl : r ∈ left := List.mem_of_getElem? hri
        obtain ⟨u, hu, tk, rfl⟩ := vals.get (i := i) (x := .int r) (by rw [List.getElem?_map, hri]; rfl)
        refine next_tuple_item hit tup (x := .int r tk) (by rw [List.getElem?_toArray]; exact hu) (fun h' hit' sb => ?_)
        have X2 : At P w K mg base outer NR (envR L fR cdv) nw ng Ch H' (fun _ => none) s0 { s with heap := h' } σ :=
          X.own (c := it) hw (fun _ _ e => nomatch e) hitn (fun o e => by
            obtain ⟨o', e', hc, _⟩ := hit
            rw [e] at e'; cases e'
            exact .inr (.inl hc)) rfl rfl (fun b o nb e => (sb.2 b nb).trans e) (Nat.le_of_eq sb.1.symm)
        show wpAny _ _ (letOwnedTupleGo (.Name "role" (p 6)) (.ref it) (.int r tk)) _ _ _
        refine wpAny_pure ?_
        refine wpAny_assign_Name ?_
        obtain ⟨hlen, mm, hns, hval⟩ := X2.gl
        refine wpAny_storeName_local (name := "role") rfl hns (fun h3 hn3 sb3 => ?_) rfl
        intro J'
        have gl3 : GL NR (envR L fR cdv) (σ.set 2 (some (.int r))) h3 := gl_store F.nd (j := 2) rfl hlen ⟨tk, rfl⟩ hval hn3
        have X3 := X2.raw (s' := { { s with heap := h' } with heap := h3, toks := s.toks + 1 }) hw rfl rfl rfl (fun b o nb e => (sb3.2 b nb).trans e) (Nat.le_of_eq sb3.1.symm) gl3
        have two3 : Two (σ.set 2 (some (.int r))) aL aC := two.set (Nat.le_refl 2)
        have hσ2 : (σ.set 2 (some (.int r)))[2]? = some (some (.int r)) := List.getElem?_set_self (by rw [two.1]; decide)
        have itL : it ≠ (envR L fR cdv).locals := Nat.ne_of_gt (Nat.lt_of_lt_of_le hw hitn)
        have itB : H' it = none := by
          cases q : H' it with
          | none => rfl
          | some o => exact absurd (X.gb.low it o q) (Nat.not_lt.mpr (Nat.le_of_lt (Nat.lt_of_lt_of_le hw hitn)))
        have itF : it ∉ frs outer := fun z => absurd (X.gb.frl it z).1 (Nat.not_lt.mpr (Nat.le_of_lt (Nat.lt_of_lt_of_le hw hitn)))
        have itC : ¬ Ch it := fun z => absurd (hCh it z).1 (Nat.not_lt.mpr hitn)
        obtain ⟨oi, ei, ci, di⟩ := hit'
        have nci : ∀ v, oi.data ≠ .cell v := fun v z => by rw [di] at z; cases z
        have ei3 : h3.get? it = some oi := (sb3.2 it itL).trans ei
        have hov := hov1 (.forLoop (.Name "role" (p 6)) (.ref it) [stIf p] [] (envR L fR cdv)) rfl rfl
        refine seg_execs_cons ?_
        refine sg_if ?_
        rw [hov]
        refine wpAny_mono (g_pt (Q := fun b H1 => b = isFirst left cs r ∧ Same H' H1) F X3.gb X3.gl hAh hAf (pt_val (pe_call RXh.GI hr2 rfl RXh.gI RXh.kI RXh.bI .nil pass0 (pa_cons (pv 0) (pa_cons (pv 1) (pa_cons (pv 2) pa_nil)))))
          ⟨.ref aL, two3.2.1, .ref aC, two3.2.2, .int r, hσ2, aL, aC, left, cs, r, rfl, hL, hC, fun H1 sm => ⟨_, rfl, rfl, sm⟩⟩) (fun b s4 hb => ?_) fun _ _ z => False.elim z
        obtain ⟨H1, af4, rfl, sm⟩ := hb
        have X4 := X3.after hw hz rfl af4 sm
        have ei4 : s4.heap.get? it = some oi := (af4.kp it oi ei3 itB itL (.inr nci)).1 itF
        cases hfi : isFirst left cs r with
        | false =>
          rw [if_neg Bool.false_ne_true]
          refine seg_execs_nil ?_
          refine seg_execs_nil ?_
          refine seg_again rfl ?_
          have := ih (i + 1) s0 s4 _ hrem two3 X4 ⟨oi, ei4, ci, di⟩
          rw [flat_cons, hfi]
          exact this
        | true =>
          rw [if_pos rfl]
          refine seg_execs_cons ?_
          refine sg_for (fun _ => rfl) ?_
          rw [hov]
          refine wpAny_mono (g_mk (Q := fun vs H2 => ∃ pW, vs = [.ref pW, .ref aC] ∧ Same H' H2 ∧ H2 pW = some (.tup ((without left r).map V.int)) ∧ H' pW = none) F X4.gb X4.gl hAh hAf hAd RXh.FR scR RXh.bR rfl RXh.gR
            (pa_cons (pe_call RXh.GW hr2 rfl RXh.gW RXh.kW RXh.bW .nil pass0 (pa_cons (pv 0) (pa_cons (pv 2) pa_nil))) (pa_cons (pv 1) pa_nil))
            ⟨.ref aL, two3.2.1, .int r, hσ2, aL, left, r, rfl, hL, (by omega), fun H2 pW sm2 np hp => ⟨.ref aC, two3.2.2, pW, rfl, sm2, hp, np⟩⟩ (fun vs H2 h => by obtain ⟨pW, rfl, _⟩ := h; rfl)) (fun xv s6 hx => ?_) fun _ _ z => False.elim z
          obtain ⟨vs, H2, s5, a', cdv', af5, ⟨pW, rfl, sm2, hpW, npW⟩, rfl, M, _⟩ := hx
          have X5 := X4.after hw hz rfl af5 sm2
          have ei5 : s5.heap.get? it = some oi := (af5.kp it oi ei4 itB itL (.inr nci)).1 itF
          refine wpAny_pyIter_gen M.gen ?_
          intro pp2
          have szM : s5.heap.objs.size ≤ s6.heap.objs.size := Nat.le_of_lt (Nat.lt_trans (Nat.lt_of_le_of_lt (Nat.le_of_eq M.hL.symm) M.la) M.lt)
          have gsM : s5.gens.size < s6.gens.size := (Array.getElem?_eq_some_iff.mp M.fresh).1
          have X6 := X5.grow hw rfl M.os (Nat.le_of_lt gsM) M.bare M.keep szM
          obtain ⟨lenW, itsW, valsW, oW, eW, cW, nW, dW⟩ := af5.hok pW _ hpW
          have newW : ∀ b o, s4.heap.get? b = some o → H' b = none → (b < (envR L fR cdv).locals ∨ ∀ v, o.data ≠ .cell v) → b ≠ pW := fun b o e hb hc z => by
            have q := af5.fr b o e hb hc
            rw [z, hpW] at q; cases q
          generalize hB' : upd H' pW (.frz oW (.tup ((without left r).map V.int))) = B'
          have hz' : Fz B' := fun b u e => by
            rw [← hB'] at e
            by_cases z : b = pW
            · subst z; rw [upd_same] at e; cases e; exact ⟨oW, _, rfl⟩
            · rw [upd_ne z] at e; exact hz b u e
          have sB' : Same H' B' := fun b u e => by
            rw [← hB', upd_ne (ne_of_none e npW)]; exact e
          have okB6 : HOk P w B' s6.heap := fun b u e => by
            rw [← hB'] at e ⊢
            by_cases z : b = pW
            · subst z; rw [upd_same] at e; cases e
              exact ⟨M.keep _ _ eW, lenW, itsW, valsW, oW, M.keep _ _ eW, cW, nW, dW⟩
            · rw [upd_ne z] at e
              obtain ⟨o, xs, rfl⟩ := hz b u e
              obtain ⟨e1, q1, q2, q3, q4⟩ := X6.gb.hok b _ e
              exact ⟨e1, q1, q2, q3, q4⟩
          have ltW : pW < s5.heap.objs.size := Heap.lt_size eW
          have lowB : ∀ b u, B' b = some u → b = pW ∨ H' b = some u := fun b u e => by
            rw [← hB'] at e
            by_cases z : b = pW
            · exact .inl z
            · rw [upd_ne z] at e; exact .inr e
          have hLL : L < s5.heap.objs.size := Nat.lt_of_lt_of_le hw X5.nz
          have hBq : ∀ b u, B' b = some u → b < s5.heap.objs.size ∧ b < s6.heap.objs.size ∧ b ≠ (envR L fR cdv).locals ∧ b ∉ frs outer ∧ ¬ Ch b ∧ base.get? b = none := fun b u e => by
            rcases lowB b u e with rfl | e
            · refine ⟨ltW, Nat.lt_of_lt_of_le ltW szM, fun z => ?_, fun z => ?_, fun z => ?_, ?_⟩
              · obtain ⟨_, m1, ⟨o, es, ep, ho, hdd, _⟩, _⟩ := X4.gl
                exact newW _ o ho (by
                  cases q : H' (envR L fR cdv).locals with
                  | none => rfl
                  | some o => exact absurd (X4.gb.low _ _ q) (Nat.lt_irrefl _)) (.inr fun v y => by rw [hdd] at y; cases y) z.symm
              · obtain ⟨_, o, ho, _⟩ := X4.gb.funs.mem z
                exact newW b o ho (X4.gb.frl b z).2 (.inl (X4.gb.frl b z).1) rfl
              · obtain ⟨o, ho, nc⟩ := X4.ch b z
                exact newW b o ho (X4.chl b z).2.2 (.inr nc) rfl
              · cases q : base.get? b with
                | none => rfl
                | some o =>
                  obtain ⟨h1, h2⟩ := X4.gb.bs b o q
                  exact absurd rfl (newW b o h1 h2 (.inl (Nat.lt_of_lt_of_le (Heap.lt_size q) X4.gb.bsz)))
            · have hb := X4.gb.low b u e
              refine ⟨Nat.lt_trans hb hLL, Nat.lt_of_lt_of_le (Nat.lt_trans hb hLL) szM, Nat.ne_of_lt hb, fun z => ?_, fun z => ?_, ?_⟩
              · rw [(X4.gb.frl b z).2] at e; cases e
              · rw [(X4.chl b z).2.2] at e; cases e
              · cases q : base.get? b with
                | none => rfl
                | some o => rw [(X4.gb.bs b o q).2] at e; cases e
          have two4 : ∀ v0, Two ((σ.set 2 (some (.int r))).set 3 v0) aL aC := fun v0 => two3.set (by decide)
          have hl3 : 3 < (σ.set 2 (some (.int r))).length := by rw [two3.1]; decide
          have e3 : (σ.set 2 (some (.int r))).set 3 (σ.set 2 (some (.int r)))[3] = σ.set 2 (some (.int r)) := List.set_getElem_self hl3
          generalize (σ.set 2 (some (.int r)))[3] = v3 at e3
          have hleft : left = left.take i ++ r :: rem := by
            have q := List.take_append_drop i left
            rw [hdrop] at q; exact q.symm
          have hO : OUT = ((if left = [] then [[]] else []) ++ flat d left cs (left.take i)) ++ ((rowsN d (without left r) cs).map (r :: ·) ++ flat d left cs rem) := by
            rw [hOUT2]
            have q : flat d left cs left = flat d left cs (left.take i) ++ ((rowsN d (without left r) cs).map (r :: ·) ++ flat d left cs rem) := by
              have h1 : flat d left cs left = flat d left cs (left.take i ++ r :: rem) := congrArg _ hleft
              have h2 : flat d left cs (left.take i ++ r :: rem) = flat d left cs (left.take i) ++ flat d left cs (r :: rem) := List.flatMap_append
              rw [h1, h2, flat_cons, hfi, if_pos rfl]
            rw [q, List.append_assoc]
          have envL' : (envR s5.heap.objs.size fR cdv').locals = s5.heap.objs.size := rfl
          refine for_gen (ng := ng) (B0 := fun _ => none) (Ch := Ch) (g := g) (OUT := OUT) (Ae := A.deeper (envR L fR cdv)) (x := "row") (e := eRow p) (j := 3) (σ := σ.set 2 (some (.int r))) (fr := (r :: ·)) (L' := s5.heap.objs.size) (nw' := s6.heap.objs.size) (a' := a') (g' := s5.gens.size) (B' := B')
            (out := rowsN d (without left r) cs) F hw ?_ hAf hAh hAd ?_ ?_ rfl rfl rfl ?_ rfl (fun _ _ e => nomatch e) (fun _ _ => rfl) (fun b z => ⟨(hCh b z).1, (hCh b z).2.1⟩) ?_ X5.nz X6.nz ?_ hz' hBq _ (flat d left cs rem) hO it oi ?_ M.lt hb0 ?_
            (rowsN d (without left r) cs).length 0 _ s0 s6 v3 rfl ?_ ?_ (M.keep _ _ ei5) okB6 ?_ ?_
          · exact (over_loop rfl rfl).trans hov
          · show (splitAtGen fs1).map _ = none
            rw [hsp1]; rfl
          · show (false || fs1.any Frame.guarded) = false
            rw [hgu1]; rfl
          · intro s q row hrow gl hra
            exact eval_row (r := r) (by rw [List.getElem?_set_ne (by decide)]; exact hσ2) (List.getElem?_set_self hl3) (Nat.le_trans (rows_len hrow) (by omega)) gl hra
          · exact Nat.lt_of_lt_of_le hng X5.ngz
          · have := M.la; exact this
          · exact ⟨Heap.lt_size ei5, Nat.lt_of_lt_of_le (Heap.lt_size ei5) szM, itL, itF, itC⟩
          · intro s0 s7 v0 X7 e7
            refine seg_leaf (.ok .next) ?_
            show Seg _ _ _ _ _ _ _ ((execs [] (envR L fR cdv)).wrap _ _ _ _) _ _
            refine seg_execs_nil ?_
            refine seg_execs_nil ?_
            refine seg_again rfl ?_
            exact ih (i + 1) s0 s7 _ hrem (two4 v0) X7 ⟨oi, e7, ci, di⟩
          · rw [flat_cons, hfi, if_pos rfl, List.length_append, List.length_map]
          · rw [e3]; exact X6
          · obtain ⟨_, m1, ⟨o, es, ep, ho, hdd, _⟩, _⟩ := M.gl
            exact ⟨o, ho, .inl ⟨es, ep, hdd⟩⟩
          · have X7 := X6.now.setG (i := s5.gens.size) (y := .running) rfl
            have hBr : ∀ b u, B' b = some u → b < s5.heap.objs.size ∧ b ≠ (envR L fR cdv).locals ∧ b ∉ frs outer ∧ base.get? b = none := fun b u e => ⟨(hBq b u e).1, (hBq b u e).2.2.1, (hBq b u e).2.2.2.1, (hBq b u e).2.2.2.2.2⟩
            refine ⟨M.gen, _, M.fresh, rfl, ?_⟩
            refine inner r hrl s5.heap.objs.size cdv' s6.heap.objs.size _ s5.gens.size B' (s6.setGen s5.gens.size .running) pW (gb_in F hLL hBr X7 okB6) M.gl hz' (.inl (.inr ⟨oW, by rw [← hB']; exact upd_same⟩)) (hC.same sB') (Nat.lt_of_lt_of_le (Nat.lt_of_lt_of_le (by have := M.la; exact this) (Nat.le_of_lt M.lt)) (Nat.le_refl _)) (Nat.le_refl _) ?_ X7.chIn (by rw [setGen_size]; exact gsM)
            rintro b (z | z)
            · have hbL : b = L := z
              refine ⟨by rw [hbL]; exact Nat.lt_of_lt_of_le hLL szM, by rw [hbL]; exact Nat.ne_of_lt hLL, ?_⟩
              cases q : B' b with
              | none => rfl
              | some u => exact absurd z (hBq b u q).2.2.1
            · refine ⟨Nat.lt_of_lt_of_le (hCh b z).1 X6.nz, Nat.ne_of_lt (Nat.lt_of_lt_of_le (hCh b z).1 X5.nz), ?_⟩
              cases q : B' b with
              | none => rfl
              | some u => exact absurd z (hBq b u q).2.2.2.2.1
    have hn0 := loop left 0 s0 _ σ (List.drop_zero) two X2 hit0
    exact hn0
  refine seg_func ?_
  refine seg_execs_cons ?_
  refine sg_if ?_
  rw [over_func]
  refine wpAny_mono (g_pt (Q := fun b H' => b = left.isEmpty ∧ H' = B) F G l hAh hAf (pt_not (pt_truth (pv 0) (by intro _; rfl))) ⟨.ref aL, rfl, !(left.map V.int).isEmpty, .inr (.inl ⟨_, hL, rfl⟩), by cases left <;> rfl, rfl⟩) (fun b s1 hb => ?_) fun _ _ z => False.elim z
  obtain ⟨H', af, rfl, rfl⟩ := hb
  have X1 := X0.after hw hz rfl af (fun _ _ e => e)
  have fin : ∀ s0 s1 σ, At P w K mg base outer NR (envR L fR cdv) nw s.gens.size Ch H' (fun _ => none) s0 s1 σ → Seg (model P w) A (gEnd P w outer L nw fun _ => none) (gYld P w K mg base outer L nw Ch g H' (fun _ => none) OUT) 0 s0 (.func (bodyRows p) (envR L fR cdv)) (.pure (.done (.ret .none))) [] s1 := fun s0 s1 σ X =>
    seg_end (.ok (.ret .none)) (.inl ⟨.inl rfl, rfl, X.gu, X.hb, X.bare, X.gz⟩)
  have tail : ∀ (s0 s1 : Shared) (K0 : Flow → Sem PySem.Fin) (J0 : Value → Sem PySem.Fin), K0 .next = .pure (.done (.ret .none)) → At P w K mg base outer NR (envR L fR cdv) nw s.gens.size Ch H' (fun _ => none) s0 s1 (L2.start NR [.ref aL, .ref aC]) →
      Seg (model P w) A (gEnd P w outer L nw fun _ => none) (gYld P w K mg base outer L nw Ch g H' (fun _ => none) OUT) (flat d left cs left).length s0 (.func (bodyRows p) (envR L fR cdv)) ((execs [stOut p] (envR L fR cdv)).wrap K0 J0 id id) [] s1 := fun s0 s1 K0 J0 hK X => by
    refine seg_execs_cons ?_
    refine forpart s.gens.size s0 s1 _ _ _ id id hg two0 X rfl fun s0 s2 σ2 X2 => ?_
    show Seg _ _ _ _ _ _ _ ((execs [] (envR L fR cdv)).wrap K0 J0 id id) _ _
    refine seg_execs_nil ?_
    rw [hK]
    exact fin s0 s2 σ2 X2
  cases hlv : left with
  | nil =>
    have hO1 : OUT = [[]] := by rw [hOUT2, hlv]; rfl
    rw [hlv] at tail
    rw [if_pos (show ([] : List Int).isEmpty = true from rfl)]
    refine seg_execs_cons ?_
    rw [hO1]
    rw [hO1] at tail
    refine yield_at (B0 := fun _ => none) (row := []) (n := 0) hw over_func rfl rfl rfl rfl rfl rfl hb0 chL X1 ?_ rfl fun s4 X4 _ => ?_
    · refine wpAny_Tuple_spliced (Calls.spliced_nil ⟨Nat.zero_le _, _, _, s1.toks, rfl, rfl, fun b o e => Heap.get?_push_of_some _ e, by rw [Heap.size_push]; exact Nat.le_succ _, ⟨[], .nil, IsTup.new _ _⟩, X1.gu.sz⟩)
    · refine seg_execs_nil ?_
      exact tail s4 s4 _ _ rfl X4
  | cons r rem =>
    rw [if_neg (show ¬ (r :: rem).isEmpty = true from Bool.false_ne_true)]
    refine seg_execs_nil ?_
    have hO1 : OUT.length = (flat d left cs left).length := by rw [hOUT2, hlv]; rfl
    rw [hO1]
    exact tail s s1 _ _ rfl X1

theorem rows_run (RXh : RX P w K mg base p params fR fI fW fdR fdI fdW) : ∀ (d : Nat) (left : List Int) (cs : List (Int × Int)) (A : Around) (outer : List Env) (L : Addr) (cdv : Value) (nw : Addr) (Ch : Addr → Prop) (g : Nat) (B : Hp) (s : Shared) (aL aC : Addr),
    d ≤ 900 → left.length ≤ d → Room (d + 3) A → A.frames = some outer → GB P w K mg base outer L B s → GL NR (envR L fR cdv) (L2.start NR [.ref aL, .ref aC]) s.heap → Fz B → ITup K B aL left → PTup K B aC cs → L < nw → nw ≤ s.heap.objs.size →
    (∀ b, Ch b → b < nw ∧ b ≠ L ∧ B b = none) → (∀ b, Ch b → ∃ o, s.heap.get? b = some o ∧ ∀ v, o.data ≠ .cell v) → g < s.gens.size →
    Seg (model P w) A (gEnd P w outer L nw fun _ => none) (gYld P w K mg base outer L nw Ch g B (fun _ => none) (rowsN d left cs)) (rowsN d left cs).length s (.func (bodyRows p) (envR L fR cdv)) ((model P w).den (.func (bodyRows p) (envR L fR cdv))) [] s := by
  intro d
  induction d with
  | zero =>
    intro left cs A outer L cdv nw Ch g B s aL aC hd hlen hr hf G l hz hL hC hw hnw hCh hCe hg
    have e : left = [] := List.eq_nil_of_length_eq_zero (Nat.le_zero.mp hlen)
    subst e
    have := rows_step (d := 0) RXh (by omega) (by decide) (hr.mono (by omega)) hf G l hz hL hC hw hnw hCh hCe hg (fun r hr => by cases hr)
    exact this
  | succ d ihd =>
    intro left cs A outer L cdv nw Ch g B s aL aC hd hlen hr hf G l hz hL hC hw hnw hCh hCe hg
    refine rows_step RXh (by omega) (by omega) (hr.mono (by omega)) hf G l hz hL hC hw hnw hCh hCe hg fun r hrl L' cdv' nw' Ch' g' B' s' aL' G' l' hz' hL' hC' hw' hnw' hCh' hCe' hg' => ?_
    refine ihd (without left r) cs (A.deeper (envR L fR cdv)).in1 _ L' cdv' nw' Ch' g' B' s' aL' aC (by omega) (by have := without_lt hrl; omega) (room_in1 (k := d + 3) hr) (Around.frames_deeper hf) G' l' hz' hL' hC' hw' hnw' hCh' hCe' hg'
end
end LG

set_option Elab.async false
set_option linter.all false
set_option maxRecDepth 100000
set_option maxHeartbeats 8000000
namespace LG
open PySem L2 GenW PySem.Spec PyProof.Rows

/-! ### data that the layer may know in meaning only -/
def niceO : HO → Prop
  | .dT _ => False
  | .frz _ u => niceO u
  | _ => True
def Nice (B : Hp) : Prop := ∀ a o, B a = some o → niceO o
theorem obj_back {P : Program} {w : World} {B H' : Hp} {h h' : Heap} {a : Addr} {o : HO} (hn : niceO o) (x : ObjOk P w B h a o) (s : Same B H') (y : ObjOk P w H' h' a o) : ObjOk P w B h' a o := by
  induction o with
  | dT kvs => exact hn.elim
  | ins C dx fs => obtain ⟨d, z⟩ := x; exact ⟨d, y.2⟩
  | frz ob u ih => exact ⟨y.1, ih hn x.2 y.2⟩
  | _ => exact y
theorem hok_back {P : Program} {w : World} {B H' : Hp} {h h' : Heap} (hn : Nice B) (x : HOk P w B h) (s : Same B H') (y : HOk P w H' h') : HOk P w B h' := fun a o e => obj_back (hn a o e) (x a o e) s (y a o (s a o e))

section
variable {P : Program} {w : World} {K : PySem.W.Frag} {mg : Str → Option Value} {base : Heap} {outer : List Env} {N : List Str} {env : Env} {nw : Addr} {ng : Nat} {Ch : Addr → Prop} {B B0 : Hp} {σ : L2.St} {s0 s s' : Shared}
/-- behind a step by the layer's rules, the data known in meaning -/
theorem At.afterN {σ1 : L2.St} {H' : Hp} (X : At P w K mg base outer N env nw ng Ch B B s0 s σ1) (hw : env.locals < nw) (hn : Nice B) (a : After P w (frs outer) env N B σ H' s s') (hx : Same B H') : At P w K mg base outer N env nw ng Ch B B s0 s' σ := by
  have hokB : HOk P w B s'.heap := hok_back hn X.gb.hok hx a.hok
  have g1 : Guar P w (frs outer) env.locals nw B s s' := .of_kp a.os a.sz a.kp
  refine ⟨gb_next X.gb g1 hw hokB a.bare, a.gl, X.gu.trans g1, hokB, Nat.le_trans X.gz a.gsz, Nat.le_trans X.nz a.sz, Nat.le_trans X.ngz a.gsz, X.chl, fun b hb => ?_⟩
  obtain ⟨o, e, c⟩ := X.ch b hb
  obtain ⟨h1, h2, h3⟩ := X.chl b hb
  obtain ⟨k1, k2⟩ := a.kp b o e h3 h2 (.inr c)
  by_cases z : b ∈ frs outer
  · obtain ⟨sl, e2⟩ := k2 z
    exact ⟨_, e2, c⟩
  · exact ⟨o, k1 z, c⟩
end
/-- data, tracked -/
def IT (H : Hp) (a : Addr) (xs : List Int) : Prop := H a = some (.tup (xs.map V.int))
def PT2 (H : Hp) (b : Addr) (cs : List (Int × Int)) : Prop := ∃ ps : List Addr, H b = some (.tup (ps.map V.ref)) ∧ Paired (fun p (c : Int × Int) => H p = some (.tup [V.int c.1, V.int c.2])) ps cs
theorem IT.same {H H' : Hp} {a : Addr} {xs : List Int} (h : IT H a xs) (e : Same H H') : IT H' a xs := e _ _ h
theorem PT2.same {H H' : Hp} {a : Addr} {xs : List (Int × Int)} (h : PT2 H a xs) (e : Same H H') : PT2 H' a xs := by
  obtain ⟨ps, h1, h2⟩ := h
  exact ⟨ps, e _ _ h1, Paired.mapP h2 fun _ _ z => e _ _ z⟩

theorem pairedAt {α β : Type} {F : α → β → Prop} : ∀ {l : List α} {m : List β} {i : Nat} {x : α}, Paired F l m → l[i]? = some x → ∃ y, m[i]? = some y ∧ F x y
  | _, _, _, _, .nil, e => by simp at e
  | _, _, 0, _, .cons r _, e => by simp at e; subst e; exact ⟨_, rfl, r⟩
  | _, _, i + 1, x, .cons _ t, e => by
    obtain ⟨y, h1, h2⟩ := pairedAt (i := i) (x := x) t (by simpa using e)
    exact ⟨y, by simpa using h1, h2⟩
theorem pairedIn {α β : Type} {F G : α → β → Prop} : ∀ {l : List α} {m : List β}, Paired F l m → (∀ x y, x ∈ l → F x y → G x y) → Paired G l m
  | _, _, .nil, _ => .nil
  | _, _, .cons r t, h => .cons (h _ _ List.mem_cons_self r) (pairedIn t fun x y hx => h x y (List.mem_cons_of_mem _ hx))
/-! ### the text of orders_of -/
def scOrd : Scope := { kind := .function, names := [("tongue", .local), ("frame", .local), ("left", .local), ("couples", .local), ("row", .local), ("slots_of", .globalImplicit), ("couples_within", .globalImplicit), ("rows_from", .globalImplicit)], isGenerator := true, isCoroutine := false, more := [] }
abbrev NO : List Str := ["tongue", "frame", "left", "couples", "row"]
theorem scO : NScope NO ["tongue", "frame"] scOrd := ⟨rfl, rfl, rfl, by decide +kernel, rfl, by decide +kernel, by decide +kernel⟩
def stLeft (p : Nat → Pos) : Stmt := .Assign [.Name "left" (p 0)] (.Call (.Name "slots_of" (p 1)) [.Name "tongue" (p 2), .Name "frame" (p 3)] [] (p 4)) (p 5)
def stCpl (p : Nat → Pos) : Stmt := .Assign [.Name "couples" (p 6)] (.Call (.Name "couples_within" (p 7)) [.Name "tongue" (p 8), .Name "left" (p 9)] [] (p 10)) (p 11)
def stFor (p : Nat → Pos) : Stmt := .For (.Name "row" (p 12)) (.Call (.Name "rows_from" (p 13)) [.Name "left" (p 14), .Name "couples" (p 15)] [] (p 16)) [.Expr (.Yield (some (.Name "row" (p 17))) (p 18)) (p 19)] [] (p 20)
def bodyOrd (p : Nat → Pos) : List Stmt := [stLeft p, stCpl p, stFor p]
abbrev envO (L f : Addr) (cdv : Value) : Env := envOfC "orders_of" scOrd L f cdv

/-- no exception: E0 lets none out -/
theorem passX0 {X : Cx} : Passes (L2.CX X.prog X.w) X E0 := fun _ _ _ _ _ _ _ h => by
  obtain ⟨_, _, _, _, _, _, _, _, _, _, _, _, q⟩ := h
  exact q.elim

section
variable {P : Program} {w : World} {K : PySem.W.Frag} {mg : Str → Option Value} {base : Heap} {outer : List Env} {N : List Str} {env : Env} {B : Hp} {Ae : Around} {σ σ0 : L2.St} {s s2 : Shared}
/-- f(e, ..), f a generator def of ours, amid statements run by the layer's rules from s on -/
theorem g_mkI {x qual y : Str} {params : Arguments} {body : List Stmt} {scope : Scope} {dvs : List V} {kws : List (Str × V)} {f : Addr} {fd : FuncData} {N' ps : List Str} {p pos' : Pos} {e : Expr} {es : List Expr} {ta : TA} {Q : List V → Hp → Prop} {H : Hp}
    (F : GF N env) (G : GB P w K mg base outer env.locals B s) (I : Inv (gX P w K mg base N env Ae outer B s) (behind s.heap env.locals) σ H s2) (sz0 : s.heap.objs.size ≤ s2.heap.objs.size) (gz0 : s.gens.size ≤ s2.gens.size) (hdp : Ae.depth < recursionLimit)
    (FR : FunD K x qual params body scope dvs kws f fd) (S : NScope N' ps scope) (b : Binds K fd ps []) (hg : env.kindOf y = some .globalImplicit) (hm : mg y = some (.ref f))
    (ha : PA (gX P w K mg base N env Ae outer B s) (e :: es) ta) (ht : ta σ H Q) (hl : ∀ vs H', Q vs H' → vs.length = ps.length)
    (hdb : (y == ("__debug__" : Str)) = false := by decide) (he : starEach (e :: es) env = (false, eval e env) :: starEach es env := by rfl) (hpl : (backTo pos' (starEach es env)).any (·.1) = false := by rfl) :
    wpAny (model P w) Ae (eval (.Call (.Name y p) (e :: es) [] pos') env) (fun u s' => ∃ vs H' s1 a cdv, After P w (frs outer) env N B σ H' s s1 ∧ Q vs H' ∧ u = .ref a ∧ Made N' vs (envOfC qual scope s1.heap.objs.size f cdv) body s1 s' a ∧ K.In s1.heap) (fun _ _ => False) s2 := by
  refine wpAny_Call_Name_kw (ld_glob I hg hm ?_ hdb)
  refine PySem.W.callWith_K (h₀ := base) G.mod.kin FR.kp (wpAny_hsz (wpAny_gsz (n := s2.gens.size) (Nat.le_refl _) (wpAny_mono (ha.run pos' (behind s.heap env.locals) s2 σ H Q I ht) (fun us s1 hus => ?_) fun _ _ z => False.elim z))) he hpl
  intro gz1 sz1
  obtain ⟨vs, H', I1, r, q⟩ := hus
  obtain ⟨k1, k2, k3, k4, k5, k6⟩ := g_back F G I1
  have af : After P w (frs outer) env N B σ H' s s1 := ⟨k1, k2, k3, k4, k5, Nat.le_trans sz0 sz1, Nat.le_trans gz0 gz1, k6⟩
  have kp1 : ∀ b o, base.get? b = some o → s1.heap.get? b = some o := I1.bk
  have kin1 : K.In s1.heap := G.mod.kin.keeps kp1
  refine ⟨kin1, ?_⟩
  refine wpAny_call (codeAny_mono (make_gen FR S b kin1 (G.mod.nolimit.keeps kp1) af.bare hdp (hl vs H' q) r) fun qr s3 hq => ?_)
  obtain ⟨a, cdv, rfl, M⟩ := hq
  exact ⟨vs, H', s1, a, cdv, af, q, rfl, M, kin1⟩
end

/-- what the module holds for orders_of -/
structure OX (P : Program) (w : World) (K : PySem.W.Frag) (mg : Str → Option Value) (base : Heap) (q : Nat → Pos) (params : Arguments) (spS spC : Sp) (kk : Nat) (fO fS fC : Addr) (fdO fdS fdC : FuncData) : Prop where
  FO : FunD K "orders_of" "orders_of" params (bodyOrd q) scOrd [] [] fO fdO
  bO : Binds K fdO ["tongue", "frame"] []
  gO : mg "orders_of" = some (.ref fO)
  GS : FnOk P w K mg base (L2.CX P w) kk fS fdS ["tongue", "frame"] spS
  kS : PySem.W.keepIn K (.ref fS) = true
  bS : Binds K fdS ["tongue", "frame"] []
  gS : mg "slots_of" = some (.ref fS)
  GC : FnOk P w K mg base CX0 kk fC fdC ["tongue", "left"] spC
  kC : PySem.W.keepIn K (.ref fC) = true
  bC : Binds K fdC ["tongue", "left"] []
  gC : mg "couples_within" = some (.ref fC)

section
variable {P : Program} {w : World} {K : PySem.W.Frag} {mg : Str → Option Value} {base : Heap} {p q : Nat → Pos} {params paramsO : Arguments} {fR fI fW fO fS fC : Addr} {fdR fdI fdW fdO fdS fdC : FuncData} {spS spC : Sp} {kk : Nat}
theorem orders_run (RXh : RX P w K mg base p params fR fI fW fdR fdI fdW) (Y : OX P w K mg base q paramsO spS spC kk fO fS fC fdO fdS fdC) {d : Nat} {left : List Int} {cs : List (Int × Int)} {A : Around} {outer : List Env} {L : Addr} {cdv : Value} {nw : Addr} {Ch : Addr → Prop} {g : Nat} {B : Hp} {s : Shared} {t : Addr} {k : Int}
    (hd : d ≤ 900) (hlen : left.length ≤ d) (hr : Room (d + 4) A) (hrk : Room (kk + 1) A) (hf : A.frames = some outer) (G : GB P w K mg base outer L B s) (hn : Nice B) (l : GL NO (envO L fO cdv) (L2.start NO [.ref t, .int k]) s.heap) (hw : L < nw) (hnw : nw ≤ s.heap.objs.size)
    (hCh : ∀ b, Ch b → b < nw ∧ b ≠ L ∧ B b = none) (hCe : ∀ b, Ch b → ∃ o, s.heap.get? b = some o ∧ ∀ v, o.data ≠ .cell v) (hg : g < s.gens.size)
    (hS : ∀ Q : VK, (∀ H' aL, Same B H' → IT H' aL left → Q (.ref aL) H') → spS [.ref t, .int k] B Q E0)
    (hC : ∀ H1 aL, Same B H1 → IT H1 aL left → ∀ Q : VK, (∀ H' aC, Same H1 H' → PT2 H' aC cs → Q (.ref aC) H') → spC [.ref t, .ref aL] H1 Q E0) :
    Seg (model P w) A (gEnd P w outer L nw B) (gYld P w K mg base outer L nw Ch g B B (rowsN d left cs)) (rowsN d left cs).length s (.func (bodyOrd q) (envO L fO cdv)) ((model P w).den (.func (bodyOrd q) (envO L fO cdv))) [] s := by
  have F : GF NO (envO L fO cdv) := gf_of scO
  have hAf : (A.deeper (envO L fO cdv)).frames = some (envO L fO cdv :: outer) := Around.frames_deeper hf
  have hAh : (A.deeper (envO L fO cdv)).handled = none := hr.hd
  have hAd : (A.deeper (envO L fO cdv)).depth < recursionLimit := by have := (hr.deeper (k := d + 3) (envO L fO cdv)).dp; omega
  have hrk2 : Room kk (A.deeper (envO L fO cdv)) := hrk.deeper _
  have chL : ¬ Ch L := fun z => (hCh L z).2.1 rfl
  have X0 : At P w K mg base outer NO (envO L fO cdv) nw s.gens.size Ch B B s s (L2.start NO [.ref t, .int k]) := ⟨G, l, .refl, G.hok, Nat.le_refl _, hnw, Nat.le_refl _, hCh, hCe⟩
  have hb0 : ∀ s, GB P w K mg base outer (envO L fO cdv).locals B s → HOk P w B s.heap := fun s h => h.hok
  have nL : B (envO L fO cdv).locals = none := by
    cases q : B (envO L fO cdv).locals with
    | none => rfl
    | some o => exact absurd (G.low _ _ q) (Nat.lt_irrefl _)
  refine seg_func ?_
  -- left = slots_of(tongue, frame)
  refine seg_execs_cons ?_
  refine seg_wrap ?_
  rw [over_func]
  refine wpAny_hsz (wpAny_gsz (n := s.gens.size) (Nat.le_refl _) (wpAny_mono ((ps_set (i := 2) scO.nd rfl (.inl rfl) (pe_call Y.GS hrk2 (by rfl) Y.gS Y.kS Y.bS .nil passX0 (pa_cons (pv 0) (pa_cons (pv 1) pa_nil)))).run _ s _ B { nx := fun σ H => ∃ aL, σ = [some (.ref t), some (.int k), some (.ref aL), none, none] ∧ Same B H ∧ IT H aL left, rt := fun _ _ => False } (g_inv F G l hAh hAf) ?_) (fun f s1 hs => ?_) fun _ _ z => False.elim z))
  · exact ⟨.ref t, rfl, .int k, rfl, hS _ fun H' aL sm hI => ⟨aL, rfl, sm, hI⟩⟩
  intro gz1 sz1
  cases f with
  | ret v => obtain ⟨_, _, _, _, _, z⟩ := hs; exact z.elim
  | brk => obtain ⟨_, _, _, z⟩ := hs; exact z.elim
  | cont => obtain ⟨_, _, _, z⟩ := hs; exact z.elim
  | next =>
  obtain ⟨_, H1, I1, aL, rfl, sm1, hI1⟩ := hs
  -- couples = couples_within(tongue, left)
  refine seg_execs_cons ?_
  refine seg_wrap ?_
  rw [over_func]
  refine wpAny_hsz (wpAny_gsz (n := s1.gens.size) (Nat.le_refl _) (wpAny_mono ((ps_set (i := 3) scO.nd rfl (.inl rfl) (pe_call Y.GC hrk2 (by rfl) Y.gC Y.kC Y.bC .nil pass0 (pa_cons (pv 0) (pa_cons (pv 2) pa_nil)))).run _ s1 _ H1 { nx := fun σ H => ∃ aC, σ = [some (.ref t), some (.int k), some (.ref aL), some (.ref aC), none] ∧ Same H1 H ∧ PT2 H aC cs, rt := fun _ _ => False } I1 ?_) (fun f s2 hs => ?_) fun _ _ z => False.elim z))
  · exact ⟨.ref t, rfl, .ref aL, rfl, hC H1 aL sm1 hI1 _ fun H' aC sm hP => ⟨aC, rfl, sm, hP⟩⟩
  intro gz2 sz2
  cases f with
  | ret v => obtain ⟨_, _, _, _, _, z⟩ := hs; exact z.elim
  | brk => obtain ⟨_, _, _, z⟩ := hs; exact z.elim
  | cont => obtain ⟨_, _, _, z⟩ := hs; exact z.elim
  | next =>
  obtain ⟨_, H2, I2, aC, rfl, sm2, hP2⟩ := hs
  -- for row in rows_from(left, couples)
  refine seg_execs_cons ?_
  refine sg_for (fun _ => rfl) ?_
  rw [over_func]
  refine wpAny_mono (g_mkI (Q := fun vs H3 => vs = [.ref aL, .ref aC] ∧ H3 = H2) F G I2 (Nat.le_trans sz1 sz2) (Nat.le_trans gz1 gz2) hAd RXh.FR scR RXh.bR rfl RXh.gR (pa_cons (pv 2) (pa_cons (pv 3) pa_nil))
    ⟨.ref aL, rfl, .ref aC, rfl, rfl, rfl⟩ (fun vs H3 h => by rw [h.1]; rfl)) (fun xv s4 hx => ?_) fun _ _ z => False.elim z
  obtain ⟨vs, H3, s3, a', cdv', af, ⟨rfl, rfl⟩, rfl, M, _⟩ := hx
  have smB : Same B H3 := sm1.trans sm2
  have X3 := X0.afterN hw hn af smB
  refine wpAny_pyIter_gen M.gen ?_
  intro pp2
  have szM : s3.heap.objs.size ≤ s4.heap.objs.size := Nat.le_of_lt (Nat.lt_trans (Nat.lt_of_le_of_lt (Nat.le_of_eq M.hL.symm) M.la) M.lt)
  have gsM : s3.gens.size < s4.gens.size := (Array.getElem?_eq_some_iff.mp M.fresh).1
  have X4 := X3.grow hw nL M.os (Nat.le_of_lt gsM) M.bare M.keep szM
  obtain ⟨ps, hP3, hPs⟩ := hP2
  have hI3 : H3 aL = some (.tup (left.map V.int)) := sm2 _ _ hI1
  -- the data, frozen
  have dat : ∀ b ∈ aL :: aC :: ps, ∃ xs o, H3 b = some (.tup xs) ∧ s3.heap.get? b = some o := fun b hb => by
    have hx : ∃ xs, H3 b = some (.tup xs) := by
      rcases List.mem_cons.mp hb with rfl | hb
      · exact ⟨_, hI3⟩
      · rcases List.mem_cons.mp hb with rfl | hb
        · exact ⟨_, hP3⟩
        · obtain ⟨i, hi, rfl⟩ := List.mem_iff_getElem.mp hb
          obtain ⟨c, _, hc⟩ := pairedAt hPs (List.getElem?_eq_getElem hi)
          exact ⟨_, hc⟩
    obtain ⟨xs, hx⟩ := hx
    obtain ⟨_, its, _, o, ho, _⟩ := af.hok b _ hx
    exact ⟨xs, o, hx, ho⟩
  obtain ⟨B', hBd⟩ : ∃ B' : Hp, B' = fun b => if b ∈ aL :: aC :: ps then (H3 b).bind fun u => (s3.heap.get? b).map fun o => HO.frz o u else none := ⟨_, rfl⟩
  have hB1 : ∀ b xs, b ∈ aL :: aC :: ps → H3 b = some (.tup xs) → ∃ o, s3.heap.get? b = some o ∧ B' b = some (.frz o (.tup xs)) := fun b xs hb hx => by
    obtain ⟨_, o, _, ho⟩ := dat b hb
    refine ⟨o, ho, ?_⟩
    rw [hBd]
    show (if b ∈ aL :: aC :: ps then _ else _) = _
    rw [if_pos hb, hx, ho]; rfl
  have hB2 : ∀ b u, B' b = some u → ∃ o xs, u = .frz o (.tup xs) ∧ H3 b = some (.tup xs) ∧ s3.heap.get? b = some o := fun b u e => by
    have hm : b ∈ aL :: aC :: ps := by
      rw [hBd] at e
      by_cases z : b ∈ aL :: aC :: ps
      · exact z
      · have e2 : (if b ∈ aL :: aC :: ps then (H3 b).bind fun u => (s3.heap.get? b).map fun o => HO.frz o u else none) = some u := e
        rw [if_neg z] at e2; cases e2
    obtain ⟨xs, _, hx, _⟩ := dat b hm
    obtain ⟨o, ho, hb⟩ := hB1 b xs hm hx
    rw [hb] at e; cases e
    exact ⟨o, xs, rfl, hx, ho⟩
  have hz' : Fz B' := fun b u e => by
    obtain ⟨o, xs, rfl, _⟩ := hB2 b u e
    exact ⟨o, xs, rfl⟩
  have okB4 : HOk P w B' s4.heap := fun b u e => by
    obtain ⟨o, xs, rfl, hx, ho⟩ := hB2 b u e
    obtain ⟨hz, its, r, o', ho', t⟩ := af.hok b _ hx
    rw [ho] at ho'; cases ho'
    exact ⟨M.keep _ _ ho, hz, its, r, o, M.keep _ _ ho, t⟩
  have newD : ∀ b o u, s.heap.get? b = some o → B b = none → (b < (envO L fO cdv).locals ∨ ∀ v, o.data ≠ .cell v) → H3 b = some u → False := fun b o u e hb hc hx => by
    have q := af.fr b o e hb hc
    rw [hx] at q; cases q
  have hLL : L < s3.heap.objs.size := Nat.lt_of_lt_of_le hw X3.nz
  have hBq : ∀ b u, B' b = some u → b < s3.heap.objs.size ∧ b < s4.heap.objs.size ∧ b ≠ (envO L fO cdv).locals ∧ b ∉ frs outer ∧ ¬ Ch b ∧ base.get? b = none := fun b u e => by
    obtain ⟨o, xs, rfl, hx, ho⟩ := hB2 b u e
    have lt := Heap.lt_size ho
    refine ⟨lt, Nat.lt_of_lt_of_le lt szM, fun z => ?_, fun z => ?_, fun z => ?_, ?_⟩
    · obtain ⟨_, m1, ⟨o1, es, ep, ho1, hdd, _⟩, _⟩ := l
      exact newD _ o1 _ ho1 nL (.inr fun v y => by rw [hdd] at y; cases y) (z ▸ hx)
    · obtain ⟨_, o1, ho1, _⟩ := G.funs.mem z
      exact newD b o1 _ ho1 (G.frl b z).2 (.inl (G.frl b z).1) hx
    · obtain ⟨o1, ho1, nc⟩ := hCe b z
      exact newD b o1 _ ho1 (hCh b z).2.2 (.inr nc) hx
    · cases q : base.get? b with
      | none => rfl
      | some o1 =>
        obtain ⟨h1, h2⟩ := G.bs b o1 q
        exact (newD b o1 _ h1 h2 (.inl (Nat.lt_of_lt_of_le (Heap.lt_size q) G.bsz)) hx).elim
  obtain ⟨oL, hoL, hBL⟩ := hB1 aL _ List.mem_cons_self hI3
  obtain ⟨q1, q2, q3, q4, q5, _⟩ := hBq aL _ hBL
  have hσl : 4 < ([some (.ref t), some (.int k), some (.ref aL), some (.ref aC), none] : L2.St).length := Nat.lt_succ_self 4
  refine for_gen (ng := s.gens.size) (B0 := B) (Ch := Ch) (g := g) (OUT := rowsN d left cs) (Ae := A.deeper (envO L fO cdv)) (x := "row") (e := .Name "row" (q 17)) (j := 4) (σ := [some (.ref t), some (.int k), some (.ref aL), some (.ref aC), none]) (fr := id) (L' := s3.heap.objs.size) (nw' := s4.heap.objs.size) (a' := a') (g' := s3.gens.size) (B' := B')
    (out := rowsN d left cs) F hw ?_ hAf hAh hAd rfl rfl rfl rfl rfl ?_ nL G.low (fun b z => (G.frl b z).2) (fun b z => ⟨(hCh b z).1, (hCh b z).2.1⟩) ?_ X3.nz X4.nz ?_ hz' hBq [] [] (by rw [List.map_id, List.append_nil]; rfl) aL oL ⟨q1, q2, q3, q4, q5⟩ M.lt hb0 ?_
    (rowsN d left cs).length 0 _ s s4 none rfl rfl ?_ (M.keep _ _ hoL) okB4 ?_ ?_
  · exact (over_loop rfl rfl).trans over_func
  · intro s q' row hrow gl hra
    obtain ⟨_, m, hns, hv⟩ := gl
    obtain ⟨u2, rfl, hu2⟩ := hv 4 "row" _ rfl (List.getElem?_set_self hσl)
    exact wpAny_Name (wpAny_loadName_local rfl rfl hns hu2 ⟨q', s.heap, s.toks, rfl, rfl, fun _ _ e => e, Nat.le_refl _, hra, .inl rfl⟩) (by decide)
  · exact Nat.lt_of_lt_of_le hg X3.ngz
  · have := M.la; exact this
  · intro s0 s7 v0 X7 e7
    refine seg_leaf (.ok .next) ?_
    show Seg _ _ _ _ _ _ _ ((execs [] (envO L fO cdv)).wrap _ _ _ _) _ _
    refine seg_execs_nil ?_
    exact seg_end (.ok (.ret .none)) (.inl ⟨.inl rfl, rfl, X7.gu, X7.hb, X7.bare, X7.gz⟩)
  · exact X4
  · obtain ⟨_, m1, ⟨o, es, ep, ho, hdd, _⟩, _⟩ := M.gl
    exact ⟨o, ho, .inl ⟨es, ep, hdd⟩⟩
  · have X7 := X4.now.setG (i := s3.gens.size) (y := .running) rfl
    have hBr : ∀ b u, B' b = some u → b < s3.heap.objs.size ∧ b ≠ (envO L fO cdv).locals ∧ b ∉ frs outer ∧ base.get? b = none := fun b u e => ⟨(hBq b u e).1, (hBq b u e).2.2.1, (hBq b u e).2.2.2.1, (hBq b u e).2.2.2.2.2⟩
    refine ⟨M.gen, _, M.fresh, rfl, ?_⟩
    refine rows_run RXh d left cs (A.deeper (envO L fO cdv)).in1 _ s3.heap.objs.size cdv' s4.heap.objs.size _ s3.gens.size B' (s4.setGen s3.gens.size .running) aL aC hd hlen (room_in1 (k := d + 3) hr) hAf (gb_in F hLL hBr X7 okB4) M.gl hz' (.inl (.inr ⟨oL, hBL⟩)) ?_ (Nat.lt_trans (by have := M.la; exact this) M.lt) (Nat.le_refl _) ?_ X7.chIn (by rw [setGen_size]; exact gsM)
    · obtain ⟨oC, _, hBC⟩ := hB1 aC _ (List.mem_cons_of_mem _ List.mem_cons_self) hP3
      refine ⟨ps, .inl (.inr ⟨oC, hBC⟩), pairedIn hPs fun b c hb hc => ?_⟩
      obtain ⟨o, _, hb'⟩ := hB1 b _ (List.mem_cons_of_mem _ (List.mem_cons_of_mem _ hb)) hc
      exact .inl (.inr ⟨o, hb'⟩)
    · rintro b (z | z)
      · have hbL : b = L := z
        refine ⟨by rw [hbL]; exact Nat.lt_of_lt_of_le hLL szM, by rw [hbL]; exact Nat.ne_of_lt hLL, ?_⟩
        cases q : B' b with
        | none => rfl
        | some u => exact absurd z (hBq b u q).2.2.1
      · refine ⟨Nat.lt_of_lt_of_le (hCh b z).1 X4.nz, Nat.ne_of_lt (Nat.lt_of_lt_of_le (hCh b z).1 X3.nz), ?_⟩
        cases q : B' b with
        | none => rfl
        | some u => exact absurd z (hBq b u q).2.2.2.2.1
end
end LG

set_option Elab.async false
set_option linter.all false
set_option maxRecDepth 100000
set_option maxHeartbeats 8000000
namespace LG
open PySem L2 GenW PySem.Spec PyProof.Rows

/-! ### the part of a heap that may be told in meaning -/
def niceB : HO → Bool
  | .dT _ => false
  | .frz _ u => niceB u
  | _ => true
theorem niceB_ok : ∀ {o : HO}, niceB o = true → niceO o
  | .dT _, h => by cases h
  | .frz _ u, h => niceB_ok (o := u) h
  | .lst _, _ => trivial
  | .tup _, _ => trivial
  | .dK _, _ => trivial
  | .set _ _, _ => trivial
  | .ins _ _ _, _ => trivial
  | .own _, _ => trivial
  | .xd _, _ => trivial
  | .met _ _, _ => trivial
  | .rng _ _, _ => trivial
  | .tbl _, _ => trivial
  | .ext _, _ => trivial
def nicePart (H : Hp) : Hp := fun b => (H b).bind fun o => if niceB o then some o else none
theorem nice_of {H : Hp} {b : Addr} {o : HO} (h : nicePart H b = some o) : H b = some o ∧ niceB o = true := by
  unfold nicePart at h
  cases e : H b with
  | none => rw [e] at h; cases h
  | some u =>
    rw [e] at h
    have h2 : (if niceB u = true then some u else none) = some o := h
    by_cases z : niceB u = true
    · rw [if_pos z] at h2; cases h2; exact ⟨rfl, z⟩
    · rw [if_neg z] at h2; cases h2
theorem nice_at {H : Hp} {b : Addr} {o : HO} (h : H b = some o) (z : niceB o = true) : nicePart H b = some o := by
  unfold nicePart
  rw [h]
  show (if niceB o = true then some o else none) = some o
  rw [if_pos z]
theorem nice_none {H : Hp} {b : Addr} (h : H b = none) : nicePart H b = none := by
  unfold nicePart; rw [h]; rfl
theorem nice_Nice (H : Hp) : Nice (nicePart H) := fun a o e => niceB_ok (nice_of e).2
theorem obj_nice {P : Program} {w : World} {H : Hp} {h : Heap} {a : Addr} {o : HO} (hn : niceO o) (x : ObjOk P w H h a o) : ObjOk P w (nicePart H) h a o := by
  induction o with
  | dT kvs => exact hn.elim
  | ins C dx fs => exact ⟨nice_at x.1 rfl, x.2⟩
  | frz ob u ih => exact ⟨x.1, ih hn x.2⟩
  | _ => exact x
theorem hok_nice {P : Program} {w : World} {H : Hp} {h : Heap} (x : HOk P w H h) : HOk P w (nicePart H) h := fun a o e => obj_nice (nice_Nice H a o e) (x a o (nice_of e).1)
theorem obj_up {P : Program} {w : World} {B H : Hp} {h : Heap} {a : Addr} {o : HO} (hn : niceO o) (s : Same B H) (x : ObjOk P w B h a o) : ObjOk P w H h a o := by
  induction o with
  | dT kvs => exact hn.elim
  | ins C dx fs => exact ⟨s _ _ x.1, x.2⟩
  | frz ob u ih => exact ⟨x.1, ih hn x.2⟩
  | _ => exact x
theorem not_nice_own {o : HO} (h : niceB o = false) : ∀ x, o ≠ .own x := fun x e => by rw [e] at h; cases h

theorem no_cells_push : ∀ (l : List (Str × NameKind)) (h : Heap), (∀ y ∈ l, y.2 ≠ .cell) → pushCells h l = h
  | [], _, _ => rfl
  | (x, k) :: r, h, hl => by
    have hk : (k == NameKind.cell) = false := by
      have := hl (x, k) List.mem_cons_self
      cases k <;> first | rfl | exact absurd rfl this
    show (if (k == NameKind.cell) = true then _ else _) = h
    rw [hk, if_neg Bool.false_ne_true]
    exact no_cells_push r h fun y hy => hl y (List.mem_cons_of_mem _ hy)
theorem no_free : ∀ (l : List (Str × NameKind)) (cs acc : List (Str × Addr)), (∀ y ∈ l, y.2 ≠ .free) → cloFrom cs l acc = acc
  | [], _, _, _ => rfl
  | (x, k) :: r, cs, acc, hl => by
    have hk : (k == NameKind.free) = false := by
      have := hl (x, k) List.mem_cons_self
      cases k <;> first | rfl | exact absurd rfl this
    have ih := no_free r cs acc fun y hy => hl y (List.mem_cons_of_mem _ hy)
    unfold cloFrom
    first
      | (rw [hk, if_neg Bool.false_ne_true]; exact ih)
      | (cases k <;> first | exact ih | exact absurd rfl (hl (x, _) List.mem_cons_self))

/-- where the consumer's loop stands -/
structure CS (P : Program) (w : World) (stk : List Env) (B : Hp) (D C a : Addr) (g : Nat) (out : List (List Int)) (s1 : Shared) (nw : Addr) (i : Nat) (ps : List Addr) (s : Shared) : Prop where
  os : s.os = s1.os
  bare : AllBare s.gens
  kp : ∀ b o, s1.heap.get? b = some o → B b = none → (b ∉ frs stk → s.heap.get? b = some o) ∧ (b ∈ frs stk → ∃ sl, s.heap.get? b = some { o with slots := sl })
  hok : HOk P w B s.heap
  dl : ∃ (its : List Value) (c : Nat), s.heap.get? D = some { cls := .type "list", data := .seq its.toArray c } ∧ its = ps.map Value.ref
  cn : ∃ m, s.heap.Ns C m
  rows : Paired (fun p row => RowAt s.heap p row ∧ nw ≤ p) ps (out.take i)
  nd : ps.Nodup
  sz : nw ≤ s.heap.objs.size
theorem rowAt_ex {h : Heap} {p : Addr} {row : List Int} (x : RowAt h p row) : ∃ o, h.get? p = some o ∧ ¬ Pk o ∧ ∀ v, o.data ≠ .cell v := by
  obtain ⟨its, _, o, ho, hc, n, hd⟩ := x
  refine ⟨o, ho, fun z => ?_, fun v z => by rw [hd] at z; cases z⟩
  rcases z with ⟨es, ep, z⟩ | z | z
  · rw [hd] at z; cases z
  · rw [hc] at z; exact absurd (Value.type.inj z) (by decide)
  · rw [hc] at z; exact absurd (Value.type.inj z) (by decide)
theorem rowAt_at {h h' : Heap} {p : Addr} {row : List Int} (x : RowAt h p row) (k : ∀ o, h.get? p = some o → h'.get? p = some o) : RowAt h' p row := by
  obtain ⟨its, r, o, ho, t⟩ := x
  exact ⟨its, r, o, k o ho, t⟩
theorem paired_mem {α β : Type} {F : α → β → Prop} : ∀ {l : List α} {m : List β} {x : α}, Paired F l m → x ∈ l → ∃ y, F x y
  | _, _, _, .nil, h => by cases h
  | _, _, x, .cons r t, h => by
    rcases List.mem_cons.mp h with rfl | h
    · exact ⟨_, r⟩
    · exact paired_mem t h
theorem paired_app {α β : Type} {F : α → β → Prop} : ∀ {l : List α} {m : List β} {x : α} {y : β}, Paired F l m → F x y → Paired F (l ++ [x]) (m ++ [y])
  | _, _, _, _, .nil, r => .cons r .nil
  | _, _, _, _, .cons q t, r => .cons q (paired_app t r)
end LG

set_option Elab.async false
set_option linter.all false
set_option maxRecDepth 100000
set_option maxHeartbeats 8000000
namespace LG
open PySem L2 GenW PySem.Spec PyProof.Rows

/-- the places of a comprehension over orders_of: the generator's frame, its object, the new list, the block's names -/
structure Pl (B : Hp) (stk : List Env) (s1 : Shared) (L a D C nw : Addr) : Prop where
  hL : L = s1.heap.objs.size
  la : L < a
  ad : a < D
  dc : D < C
  cw : C < nw
  low : ∀ b o, B b = some o → b < L
  frl : ∀ b ∈ frs stk, b < L ∧ B b = none
section
variable {P : Program} {w : World} {stk : List Env} {B : Hp} {L D C a : Addr} {g : Nat} {out : List (List Int)} {s1 : Shared} {nw : Addr} {i : Nat} {ps : List Addr} {s s' : Shared}
theorem Pl.none (q : Pl B stk s1 L a D C nw) {b : Addr} (h : L ≤ b) : B b = none := by
  cases e : B b with
  | none => rfl
  | some o => exact absurd (q.low b o e) (Nat.not_lt.mpr h)
theorem Pl.nofr (q : Pl B stk s1 L a D C nw) {b : Addr} (h : L ≤ b) : b ∉ frs stk := fun z => absurd (q.frl b z).1 (Nat.not_lt.mpr h)
theorem Pl.lD (q : Pl B stk s1 L a D C nw) : L < D := Nat.lt_trans q.la q.ad
theorem Pl.lC (q : Pl B stk s1 L a D C nw) : L < C := Nat.lt_trans q.lD q.dc
theorem Pl.Dw (q : Pl B stk s1 L a D C nw) : D < nw := Nat.lt_trans q.dc q.cw
theorem Pl.lw (q : Pl B stk s1 L a D C nw) : L < nw := Nat.lt_trans q.lD q.Dw
theorem Pl.old (q : Pl B stk s1 L a D C nw) {b : Addr} {o : Obj} (e : s1.heap.get? b = some o) : b < L := by rw [q.hL]; exact Heap.lt_size e
/-- behind a run of the generator -/
theorem CS.run (q : Pl B stk s1 L a D C nw) (c : CS P w stk B D C a g out s1 nw i ps s) (G : Guar P w (frs stk) L nw B s s') (hok : HOk P w B s'.heap) (ba : AllBare s'.gens) : CS P w stk B D C a g out s1 nw i ps s' := by
  have k : ∀ b o, L < b → (b < nw ∨ ¬ Pk o) → (∀ v, o.data ≠ .cell v) → s.heap.get? b = some o → s'.heap.get? b = some o := fun b o hb hp hc e =>
    (G.kp b o e (q.none (Nat.le_of_lt hb)) (Nat.ne_of_gt hb) hp (.inr hc)).1 (q.nofr (Nat.le_of_lt hb))
  refine ⟨G.os.trans c.os, ba, fun b o e nb => ?_, hok, ?_, ?_, ?_, c.nd, Nat.le_trans c.sz G.sz⟩
  · have hb := q.old e
    obtain ⟨k1, k2⟩ := c.kp b o e nb
    refine ⟨fun z => (G.kp b o (k1 z) nb (Nat.ne_of_lt hb) (.inl (Nat.lt_trans hb q.lw)) (.inl hb)).1 z, fun z => ?_⟩
    obtain ⟨sl, e1⟩ := k2 z
    obtain ⟨sl2, e2⟩ := (G.kp b _ e1 nb (Nat.ne_of_lt hb) (.inl (Nat.lt_trans hb q.lw)) (.inl hb)).2 z
    exact ⟨sl2, e2⟩
  · obtain ⟨its, n, e, r⟩ := c.dl
    exact ⟨its, n, k D _ q.lD (.inl q.Dw) (fun v z => by cases z) e, r⟩
  · obtain ⟨m, o, es, ep, ho, hd, r⟩ := c.cn
    exact ⟨m, o, es, ep, k C o q.lC (.inl q.cw) (fun v z => by rw [hd] at z; cases z) ho, hd, r⟩
  · refine Paired.mapP c.rows fun p row h => ⟨rowAt_at h.1 fun o e => ?_, h.2⟩
    obtain ⟨o2, e2, np, nc⟩ := rowAt_ex h.1
    rw [e] at e2; cases e2
    exact k p o (Nat.lt_of_lt_of_le q.lw h.2) (.inr np) nc e
/-- one of the consumer's own objects has changed -/
theorem CS.own {d : Addr} (q : Pl B stk s1 L a D C nw) (c : CS P w stk B D C a g out s1 nw i ps s) (hd : d = C ∨ d = D) (os : s'.os = s.os) (gs : s'.gens = s.gens) (sb : Heap.SameBut d s.heap s'.heap) (cn : ∃ m, s'.heap.Ns C m) {i' : Nat} {ps' : List Addr}
    (dl : ∃ (its : List Value) (c : Nat), s'.heap.get? D = some { cls := .type "list", data := .seq its.toArray c } ∧ its = ps'.map Value.ref) (rows : Paired (fun p row => RowAt s.heap p row ∧ nw ≤ p) ps' (out.take i')) (nd : ps'.Nodup) : CS P w stk B D C a g out s1 nw i' ps' s' := by
  have hl : L < d ∧ d < nw := by
    rcases hd with rfl | rfl
    · exact ⟨q.lC, q.cw⟩
    · exact ⟨q.lD, q.Dw⟩
  refine ⟨os.trans c.os, by rw [gs]; exact c.bare, fun b o e nb => ?_, hok_but (q.none (Nat.le_of_lt hl.1)) c.hok fun b o nb e => (sb.2 b nb).trans e, dl, cn, ?_, nd, Nat.le_trans c.sz (Nat.le_of_eq sb.1.symm)⟩
  · obtain ⟨k1, k2⟩ := c.kp b o e nb
    have nb : b ≠ d := Nat.ne_of_lt (Nat.lt_trans (q.old e) hl.1)
    refine ⟨fun z => (sb.2 b nb).trans (k1 z), fun z => ?_⟩
    obtain ⟨sl, e1⟩ := k2 z
    exact ⟨sl, (sb.2 b nb).trans e1⟩
  · exact Paired.mapP rows fun p row h => ⟨rowAt_at h.1 fun o e => (sb.2 p (Nat.ne_of_gt (Nat.lt_of_lt_of_le hl.2 h.2))).trans e, h.2⟩
theorem CS.gb {K : PySem.W.Frag} {mg : Str → Option Value} {base : Heap} (q : Pl B stk s1 L a D C nw) (c : CS P w stk B D C a g out s1 nw i ps s) (G : GB P w K mg base stk L B s1) : GB P w K mg base stk L B s := by
  refine ⟨G.mod, fun b o e => ?_, G.bsz, funs_next (fr := []) G.funs fun b hb o e => (c.kp b o e (q.frl b hb).2).2 hb, G.frl, c.hok, G.low, c.bare⟩
  obtain ⟨h1, h2⟩ := G.bs b o e
  refine ⟨(c.kp b o h1 h2).1 fun z => ?_, h2⟩
  have := (G.funs.mem z).1
  rw [e] at this; cases this
end
end LG

set_option Elab.async false
set_option linter.all false
set_option maxRecDepth 100000
set_option maxHeartbeats 8000000
namespace LG
open PySem L2 GenW PySem.Spec PyProof.Rows

theorem obj_rest {P : Program} {w : World} {H H' : Hp} {h h' : Heap} {a : Addr} {o : HO} (hb : niceB o = false) (x : ObjOk P w H h a o) (k : ∀ u, h.get? a = some u → h'.get? a = some u) (s : Same H H') : ObjOk P w H' h' a o := by
  induction o with
  | dT kvs => obtain ⟨z, y, xs, r, ob, es, ep, e, c⟩ := x; exact ⟨z, y, xs, Paired.mapP r fun p q z => ⟨z.1, s _ _ z.2.1, z.2.2⟩, ob, es, ep, k _ e, c⟩
  | frz ob u ih => exact ⟨k _ x.1, ih hb x.2⟩
  | _ => exact Bool.noConfusion hb

def rowOf : List Addr → List (List Int) → Addr → Option (List Int)
  | p :: ps, r :: rs, b => if b = p then some r else rowOf ps rs b
  | _, _, _ => none
theorem rowOf_in {F : Addr → List Int → Prop} : ∀ {ps : List Addr} {rs : List (List Int)} {b : Addr} {r : List Int}, Paired F ps rs → rowOf ps rs b = some r → b ∈ ps ∧ F b r ∧ r ∈ rs
  | _, _, _, _, .nil, e => by unfold rowOf at e; cases e
  | _, _, b, r, .cons (a := p) h t, e => by
    unfold rowOf at e
    by_cases z : b = p
    · rw [if_pos z] at e; cases e; subst z; exact ⟨List.mem_cons_self, h, List.mem_cons_self⟩
    · rw [if_neg z] at e
      obtain ⟨h1, h2, h3⟩ := rowOf_in t e
      exact ⟨List.mem_cons_of_mem _ h1, h2, List.mem_cons_of_mem _ h3⟩
theorem rowOf_at {F : Addr → List Int → Prop} : ∀ {ps : List Addr} {rs : List (List Int)}, Paired F ps rs → ps.Nodup → Paired (fun p r => rowOf ps rs p = some r) ps rs
  | _, _, .nil, _ => .nil
  | p :: ps, r :: rs, .cons h t, nd => by
    obtain ⟨n1, n2⟩ := List.nodup_cons.mp nd
    refine .cons (by unfold rowOf; rw [if_pos rfl]) (pairedIn (rowOf_at t n2) fun x y hx e => ?_)
    unfold rowOf
    have hne : x ≠ p := fun z => n1 (by rw [← z]; exact hx)
    rw [if_neg hne]
    exact e

theorem refs_vals : ∀ ps : List Addr, Vals (ps.map V.ref) (ps.map Value.ref)
  | [] => .nil
  | _ :: ps => .cons rfl (refs_vals ps)
def scC : Scope := { kind := .function, names := [(".0", .local), ("_law_row", .local)], isGenerator := false, isCoroutine := false, more := [] }
theorem there_ok {P : Program} {w : World} {H : Hp} {h : Heap} {a : Addr} {o : HO} (x : ObjOk P w H h a o) : ∃ ob, h.get? a = some ob := by
  induction o with
  | lst xs => obtain ⟨_, _, _, _, e⟩ := x; exact ⟨_, e⟩
  | tup xs => obtain ⟨_, _, _, o, e, _⟩ := x; exact ⟨_, e⟩
  | dK kvs => obtain ⟨_, _, _, _, o, _, _, e, _⟩ := x; exact ⟨_, e⟩
  | dT kvs => obtain ⟨_, _, _, _, o, _, _, e, _⟩ := x; exact ⟨_, e⟩
  | set S n => obtain ⟨o, _, _, _, e, _⟩ := x; exact ⟨_, e⟩
  | ins C dx fs => obtain ⟨_, _, _, e, _⟩ := x; exact ⟨_, e⟩
  | own y => exact x
  | xd fs => obtain ⟨_, ⟨_, _, _, e, _⟩, _⟩ := x; exact ⟨_, e⟩
  | rng lo hi => obtain ⟨_, _, _, e⟩ := x; exact ⟨_, e⟩
  | frz ob u => obtain ⟨e, _⟩ := x; exact ⟨_, e⟩
  | tbl ps => exact ⟨_, x⟩
  | met f y => exact ⟨_, x⟩
  | ext φ => obtain ⟨_, e, _⟩ := x; exact e

/-- [_law_row for _law_row in orders_of(..)] -/
def tLcG (spS spC : Sp) (kr : Nat) (ta : TA) : TE := fun σ H Q => ta σ H fun vs H1 => ∃ (t : Addr) (k : Int) (d : Nat) (left : List Int) (cs : List (Int × Int)), vs = [.ref t, .int k] ∧ d + 5 ≤ kr ∧ d ≤ 900 ∧ left.length ≤ d ∧ (rowsN d left cs).length ≤ sizeLine ∧
  (∀ Q : VK, (∀ H' aL, Same (nicePart H1) H' → IT H' aL left → Q (.ref aL) H') → spS [.ref t, .int k] (nicePart H1) Q E0) ∧
  (∀ H2 aL, Same (nicePart H1) H2 → IT H2 aL left → ∀ Q : VK, (∀ H' aC, Same H2 H' → PT2 H' aC cs → Q (.ref aC) H') → spC [.ref t, .ref aL] H2 Q E0) ∧
  ∀ D (ps : List Addr) H', Same H1 H' → H1 D = none → H' D = some (.lst (ps.map V.ref)) → Paired (fun p row => H' p = some (.tup (row.map V.int))) ps (rowsN d left cs) → Q (.ref D) H'

section
variable {X : Cx} {pins : List (Addr × Obj)} {σ : L2.St} {H : Hp} {s : Shared} {Q : VK} {p qq : Nat → Pos} {params paramsO : Arguments} {fR fI fW fO fS fC : Addr} {fdR fdI fdW fdO fdS fdC : FuncData} {spS spC : Sp} {kk kr : Nat}
  {e : Expr} {es : List Expr} {ta : TA} {p1 pos1 pv1 pv2 pos pos' : Pos} {use : Option (Value → Sem Unit)} {Qf : Value → Shared → Prop}

/-- the whole loop: from the generator made to the list full -/
theorem lcG_loop (RXh : RX X.prog X.w X.K X.mg X.base p params fR fI fW fdR fdI fdW) (Y : OX X.prog X.w X.K X.mg X.base qq paramsO spS spC kk fO fS fC fdO fdS fdC) (hr : Room kr X.A) (hkk : kk + 2 ≤ kr) {s1 s2 : Shared} {H1 : Hp} {a : Addr} {cdv : Value} {t : Addr} {k : Int} {d : Nat} {left : List Int} {cs : List (Int × Int)} {D : Addr}
    (I1 : Inv X pins σ H1 s1) (M : Made NO [.ref t, .int k] (envO s1.heap.objs.size fO cdv) (bodyOrd qq) s1 s2 a) (hdk : d + 5 ≤ kr) (hd : d ≤ 900) (hlen : left.length ≤ d) (hol : (rowsN d left cs).length ≤ sizeLine)
    (hS : ∀ Q : VK, (∀ H' aL, Same (nicePart H1) H' → IT H' aL left → Q (.ref aL) H') → spS [.ref t, .int k] (nicePart H1) Q E0)
    (hC : ∀ H2 aL, Same (nicePart H1) H2 → IT H2 aL left → ∀ Q : VK, (∀ H' aC, Same H2 H' → PT2 H' aC cs → Q (.ref aC) H') → spC [.ref t, .ref aL] H2 Q E0)
    (hD : D = s2.heap.objs.size) {cl : List (Str × Addr)} {R : Result → Shared → Prop}
    (fin : ∀ s' m (ps : List Addr) H', Inv X pins σ H' s' → Same H1 H' → H1 D = none → H' D = some (.lst (ps.map V.ref)) → Paired (fun p row => H' p = some (.tup (row.map V.int))) ps (rowsN d left cs) → s'.heap.Ns (D + 1) m → FpOk X pins H' (D + 1) → R (.ok .next) s') :
    codeAny (model X.prog X.w) X.A (.compLoop (.ListComp (.Name "_law_row" pv1) [⟨.Name "_law_row" pv2, .Call (.Name "orders_of" p1) (e :: es) [] pos1, [], 0⟩] scC pos) 0 (.ref a) (.ref D) (compEnvC scC cl (D + 1) X.env)) R
      { s2 with heap := (s2.heap.push { cls := .type "list", data := .seq ([] : List Value).toArray }).push { cls := .type "dict", data := .dict #[] } } := by
  have nl : ∀ b, s1.heap.objs.size ≤ b → H1 b = none := fun b hb => I1.hok.fresh hb
  obtain ⟨B, hB⟩ : ∃ B, B = nicePart H1 := ⟨_, rfl⟩
  rw [← hB] at hS hC
  have smB : ∀ b o, B b = some o → H1 b = some o ∧ niceB o = true := fun b o e => by rw [hB] at e; exact nice_of e
  have noB : ∀ b, H1 b = none → B b = none := fun b e => by rw [hB]; exact nice_none e
  have e0 := I1.env0
  have hL : (envO s1.heap.objs.size fO cdv).locals = s1.heap.objs.size := rfl
  have la : s1.heap.objs.size < a := M.la
  have frl : ∀ b ∈ frs X.stack, b < s1.heap.objs.size ∧ B b = none := fun b hb => by
    obtain ⟨_, o, ho, _⟩ := e0.funs.mem hb
    exact ⟨Heap.lt_size ho, noB b (e0.frf b hb)⟩
  have G0 : GB X.prog X.w X.K X.mg X.base X.stack s1.heap.objs.size B s1 :=
    ⟨I1.mod, fun b o e => ⟨(I1.bs b o e).1, noB b (I1.bs b o e).2⟩, Nat.le_trans I1.ok.bsz I1.sz, e0.funs, frl, by rw [hB]; exact hok_nice I1.hok, fun b o e => (I1.hok b o (smB b o e).1).lt, I1.bare⟩
  generalize hs4 : ({ s2 with heap := (s2.heap.push { cls := .type "list", data := .seq ([] : List Value).toArray }).push { cls := .type "dict", data := .dict #[] } } : Shared) = s4
  have hh4 : s4.heap = (s2.heap.push { cls := .type "list", data := .seq ([] : List Value).toArray }).push { cls := .type "dict", data := .dict #[] } := by rw [← hs4]
  have hg4 : s4.gens = s2.gens := by rw [← hs4]
  have ho4 : s4.os = s1.os := by rw [← hs4]; exact M.os
  have k24 : ∀ b o, s2.heap.get? b = some o → s4.heap.get? b = some o := fun b o e => by rw [hh4]; exact Heap.get?_push_of_some _ (Heap.get?_push_of_some _ e)
  have k14 : ∀ b o, s1.heap.get? b = some o → s4.heap.get? b = some o := fun b o e => k24 b o (M.keep b o e)
  have sz4 : s4.heap.objs.size = D + 2 := by rw [hh4, Heap.size_push, Heap.size_push, hD]
  have q : Pl B X.stack s1 s1.heap.objs.size a D (D + 1) s4.heap.objs.size :=
    ⟨rfl, la, by rw [hD]; exact M.lt, Nat.lt_succ_self _, by rw [sz4]; exact Nat.lt_succ_self _, G0.low, frl⟩
  have eD : s4.heap.get? D = some { cls := .type "list", data := .seq ([] : List Value).toArray } := by
    rw [hh4, hD]; exact Heap.get?_push_of_some _ (Heap.get?_push_size _ rfl)
  have nC : ∃ m, s4.heap.Ns (D + 1) m := ⟨fun _ => none, by
    have h : D + 1 = (s2.heap.push { cls := .type "list", data := .seq ([] : List Value).toArray }).objs.size := by rw [Heap.size_push, hD]
    rw [hh4, h]
    exact Heap.Ns.new ..⟩
  obtain ⟨out, hout⟩ : ∃ out, out = rowsN d left cs := ⟨_, rfl⟩
  rw [← hout] at hol fin
  have c0 : CS X.prog X.w X.stack B D (D + 1) a s1.gens.size out s1 s4.heap.objs.size 0 [] s4 :=
    ⟨ho4, by rw [hg4]; exact M.bare, fun b o e _ => ⟨fun _ => k14 b o e, fun _ => ⟨o.slots, k14 b o e⟩⟩, G0.hok.kept k14, ⟨[], 0, eD, rfl⟩, nC, .nil, List.nodup_nil, Nat.le_refl _⟩
  have hAf : X.A.frames = some X.stack := I1.ok.frames
  have hAd : X.A.depth < recursionLimit := by have := hr.dp; omega
  have r1 : ∀ {n : Nat}, n + 1 ≤ kr → Room n X.A.in1 := fun {n} hn => ⟨hr.hd, by have := hr.dp; show X.A.depth + 3 * n + 5 < _; omega, by have := hr.un; show X.A.units + 1 + 16 * n + 200 < _; omega⟩
  -- the generator, at its first wake
  have lv0 : Live X.prog X.w X.K X.mg X.base X.stack s1.heap.objs.size s4.heap.objs.size (fun b => b = D ∨ b = D + 1) a s1.gens.size B B out X.A out.length s4 := by
    have hglt : s1.gens.size < s2.gens.size := (Array.getElem?_eq_some_iff.mp M.fresh).1
    refine ⟨M.gen.keeps k24, .fresh (.func (bodyOrd qq) (envO s1.heap.objs.size fO cdv)), by rw [hg4]; exact M.fresh, rfl, ?_⟩
    rw [hout]
    have gb4 := c0.gb q G0
    have hBn : Nice B := by rw [hB]; exact nice_Nice H1
    refine orders_run RXh Y (B := B) (g := s1.gens.size) (s := s4.setGen s1.gens.size .running) hd hlen (r1 hdk) (r1 (by omega)) hAf
      ⟨gb4.mod, gb4.bs, gb4.bsz, gb4.funs, gb4.frl, gb4.hok, gb4.low, allBare_setGen gb4.bare rfl⟩ hBn ?_ q.lw (Nat.le_refl _) ?_ ?_ (by rw [setGen_size, hg4]; exact hglt) hS hC
    · obtain ⟨h1, m, hn, hv⟩ := M.gl
      exact ⟨h1, m, hn.keeps k24, hv⟩
    · rintro b (z | z)
      · rw [z]; exact ⟨q.Dw, Nat.ne_of_gt q.lD, q.none (Nat.le_of_lt q.lD)⟩
      · rw [z]; exact ⟨q.cw, Nat.ne_of_gt q.lC, q.none (Nat.le_of_lt q.lC)⟩
    · rintro b (z | z)
      · rw [z]; exact ⟨_, eD, fun v y => by cases y⟩
      · rw [z]
        obtain ⟨m, o, es, ep, ho, hdd, _⟩ := nC
        exact ⟨o, ho, fun v y => by rw [hdd] at y; cases y⟩
  have chThere : ∀ {i ps} {s' : Shared}, CS X.prog X.w X.stack B D (D + 1) a s1.gens.size out s1 s4.heap.objs.size i ps s' → ∀ b, (b = D ∨ b = D + 1) → ∃ o, s'.heap.get? b = some o ∧ ∀ v, o.data ≠ .cell v := fun {i ps s'} c b hb => by
    rcases hb with z | z
    · obtain ⟨its, n, e, _⟩ := c.dl
      rw [z]; exact ⟨_, e, fun v y => by cases y⟩
    · obtain ⟨m, o, es, ep, ho, hdd, _⟩ := c.cn
      rw [z]; exact ⟨o, ho, fun v y => by rw [hdd] at y; cases y⟩
  have kv : Env.kindOf (compEnvC scC cl (D + 1) X.env) "_law_row" = some .local := lookup_relabel_local (names := scC.names) rfl
  refine compLoop_any (fun n s' => ∃ i ps, i ≤ out.length ∧ n = out.length - i ∧ CS X.prog X.w X.stack B D (D + 1) a s1.gens.size out s1 s4.heap.objs.size i ps s' ∧ Live X.prog X.w X.K X.mg X.base X.stack s1.heap.objs.size s4.heap.objs.size (fun b => b = D ∨ b = D + 1) a s1.gens.size B B out X.A n s') ?_ out.length ⟨0, [], Nat.zero_le _, rfl, c0, lv0⟩
  rintro n s5 ⟨i, ps, hi, hn, c, hg, gs, hgs, hgo⟩
  have gb5 := c.gb q G0
  cases n with
  | zero =>
    have hi2 : i = out.length := by omega
    refine thnF (wpAny_hsz (Q := fun r s' => r = none ∧ CS X.prog X.w X.stack B D (D + 1) a s1.gens.size out s1 s4.heap.objs.size i ps s') (next_genG hr.hd (gb_limit gb5) hAd hg hgs hgo (fun v s6 gs' _ hv => ?_) (fun s6 hp h' hk => ?_) fun _ _ z => False.elim z)) fun r s6 hq => ?_
    · obtain ⟨row, p', _, _, _, _, gu, hok6, ba6, _, _, kap⟩ := hv
      have gu2 : Guar X.prog X.w (frs X.stack) s1.heap.objs.size s4.heap.objs.size B s5 s6 := ⟨gu.os, gu.sz, gu.kp⟩
      have c6 := CS.run q c gu2 hok6 ba6
      exact False.elim (kap s6 ⟨rfl, Nat.le_refl _, fun _ _ e _ => e, chThere c6, fun _ _ _ e => e, Nat.le_refl _, c6.gb q G0⟩)
    · intro hsz
      obtain ⟨_, gu, hok6, ba6, _⟩ := hp
      have gu2 : Guar X.prog X.w (frs X.stack) s1.heap.objs.size s4.heap.objs.size B s5 { s6.setGen s1.gens.size .finished with heap := h' } := by
        refine ⟨gu.os, hsz, fun b o e nb nL hp hc => ?_⟩
        obtain ⟨k1, k2⟩ := gu.kp b o e nb nL hp hc
        exact ⟨fun z => hk b o (k1 z), fun z => let ⟨sl, e2⟩ := k2 z; ⟨sl, hk b _ e2⟩⟩
      exact ⟨rfl, CS.run q c gu2 (hok6.kept hk) (allBare_setGen (s := s6) ba6 rfl)⟩
    · obtain ⟨rfl, c6⟩ := hq
      show R (.ok .next) s6
      have hrows : Paired (fun p row => RowAt s6.heap p row ∧ s4.heap.objs.size ≤ p) ps out := by
        have := c6.rows
        rw [hi2, List.take_length] at this; exact this
      obtain ⟨H', hH'⟩ : ∃ H' : Hp, H' = fun b => if b = D then some (.lst (ps.map V.ref)) else match rowOf ps out b with | some r => some (.tup (r.map V.int)) | none => H1 b := ⟨_, rfl⟩
      have psw : ∀ b ∈ ps, s4.heap.objs.size ≤ b := fun b hb => let ⟨_, _, h⟩ := paired_mem hrows hb; h
      have nrow : ∀ b, b < s4.heap.objs.size → rowOf ps out b = none := fun b hb => by
        cases z : rowOf ps out b with
        | none => rfl
        | some r => exact absurd (psw b (rowOf_in hrows z).1) (Nat.not_le.mpr hb)
      have hHo : ∀ b, b < s4.heap.objs.size → b ≠ D → H' b = H1 b := fun b hb nb => by
        rw [hH']
        show (if b = D then _ else _) = _
        rw [if_neg nb, nrow b hb]
      have old4 : ∀ b, b < s1.heap.objs.size → b < s4.heap.objs.size ∧ b ≠ D := fun b hb => ⟨Nat.lt_trans hb q.lw, Nat.ne_of_lt (Nat.lt_trans hb q.lD)⟩
      have same : Same H1 H' := fun b o e => by
        have hb := (I1.hok b o e).lt
        rw [hHo b (old4 b hb).1 (old4 b hb).2]; exact e
      have hHD : H' D = some (.lst (ps.map V.ref)) := by rw [hH']; exact if_pos rfl
      have prow : Paired (fun p row => H' p = some (.tup (row.map V.int))) ps out := pairedIn (rowOf_at hrows c6.nd) fun x y hx z => by
        rw [hH']
        show (if x = D then _ else _) = _
        rw [if_neg (Nat.ne_of_gt (Nat.lt_of_lt_of_le q.Dw (psw x hx))), z]
      have hok' : HOk X.prog X.w H' s6.heap := fun b o e => by
        by_cases z : b = D
        · subst z
          rw [hHD] at e; cases e
          obtain ⟨its, n, e6, hits⟩ := c6.dl
          have hl : ps.length = out.length := hrows.length
          refine ⟨by rw [List.length_map, hl]; exact hol, its, n, ?_, e6⟩
          rw [hits]
          exact refs_vals ps
        · cases zr : rowOf ps out b with
          | some r =>
            have e2 : H' b = some (.tup (r.map V.int)) := by
              rw [hH']
              show (if b = D then _ else _) = _
              rw [if_neg z, zr]
            rw [e2] at e; cases e
            obtain ⟨_, ⟨⟨its, rv, ht⟩, _⟩, hin⟩ := rowOf_in hrows zr
            refine ⟨?_, its, rv, ht⟩
            rw [List.length_map]
            rw [hout] at hin
            exact Nat.le_trans (rows_len hin) (Nat.le_trans hd (by decide))
          | none =>
            have e2 : H1 b = some o := by
              rw [hH'] at e
              have e3 : (if b = D then some (HO.lst (ps.map V.ref)) else match rowOf ps out b with | some r => some (.tup (r.map V.int)) | none => H1 b) = some o := e
              rw [if_neg z, zr] at e3; exact e3
            cases zn : niceB o with
            | true =>
              have eB : B b = some o := by rw [hB]; exact nice_at e2 zn
              exact obj_up (niceB_ok zn) (fun x y ex => same x y (smB x y ex).1) (c6.hok b o eB)
            | false =>
              have eB : B b = none := by
                cases zz : B b with
                | none => rfl
                | some o2 =>
                  obtain ⟨h1, h2⟩ := smB b o2 zz
                  rw [e2] at h1; cases h1; rw [zn] at h2; cases h2
              exact obj_rest zn (I1.hok b o e2) (fun u hu => (c6.kp b u hu eB).1 fun hf => by rw [e0.frf b hf] at e2; cases e2) same
      have un : Un (frs X.stack) [] H1 H' s1.heap s6.heap := by
        refine ⟨fun b o e nb nf _ => (c6.kp b o e (noB b nb)).1 nf, fun b o e nb hf _ => (c6.kp b o e (noB b nb)).2 hf, fun b o e nb _ => ?_, fun b o e _ => ?_, fun b xs e => same _ _ e, fun b o u e => same _ _ e, fun b ps e => ⟨#[], by rw [same _ _ e]; simp⟩⟩
        · have hb := Heap.lt_size e
          rw [hHo b (old4 b hb).1 (old4 b hb).2]; exact nb
        · cases zz : B b with
          | some u => exact there_ok (c6.hok b u zz)
          | none =>
            obtain ⟨k1, k2⟩ := c6.kp b o e zz
            by_cases hf : b ∈ frs X.stack
            · obtain ⟨sl, e2⟩ := k2 hf
              exact ⟨_, e2⟩
            · exact ⟨_, k1 hf⟩
      have I6 : Inv X pins σ H' s6 := I1.call' (ch := []) c6.os un hok' c6.bare fun b z => absurd z (by simp)
      obtain ⟨m, hns⟩ := c6.cn
      have nCH : H' (D + 1) = none := by
        rw [hHo (D + 1) q.cw (Nat.succ_ne_self D)]
        exact nl _ (Nat.le_of_lt q.lC)
      exact fin s6 m ps H' I6 same (nl _ (Nat.le_of_lt q.lD)) hHD prow hns (I1.fpOk (Nat.le_of_lt q.lC) nCH)
  | succ n =>
    have hi1 : i < out.length := by omega
    refine next_genG hr.hd (gb_limit gb5) hAd hg hgs hgo (fun v s6 gs' hbr hv => ?_) (fun s6 hp h' hk => absurd hp.1 (Nat.succ_ne_zero n)) fun _ _ z => False.elim z
    obtain ⟨row, p', hrow, rfl, hps, hra, gu, hok6, ba6, gz6, _, kap⟩ := hv
    have e1 : (s5.setGen s1.gens.size .running).gens.size = s5.gens.size := setGen_size _ _ _
    have e2 : (s6.setGen s1.gens.size gs').gens.size = s6.gens.size := setGen_size _ _ _
    have hglt : s1.gens.size < s5.gens.size := (Array.getElem?_eq_some_iff.mp hgs).1
    have hglt1 : s1.gens.size < s6.gens.size := by have := gz6; rw [e1] at this; omega
    have gu2 : Guar X.prog X.w (frs X.stack) s1.heap.objs.size s4.heap.objs.size B s5 (s6.setGen s1.gens.size gs') := ⟨gu.os, gu.sz, gu.kp⟩
    have c6 := CS.run q c gu2 hok6 (allBare_setGen ba6 hbr)
    have hg6 : s6.heap.IsGen a s1.gens.size := by
      obtain ⟨o, nm, qn, ho, hc, hd2, hs2⟩ := hg
      exact ⟨o, nm, qn, (gu.kp a o ho (q.none (Nat.le_of_lt q.la)) (Nat.ne_of_gt q.la) (.inl (Nat.lt_trans q.ad q.Dw)) (.inr fun v z => by rw [hd2] at z; cases z)).1 (q.nofr (Nat.le_of_lt q.la)), hc, hd2, hs2⟩
    have hpw : s4.heap.objs.size ≤ p' := Nat.le_trans c.sz hps
    show wpAny _ X.A (letOwnedTupleGo (.Name "_law_row" pv2) (.ref a) (.ref p')) _ _ _
    refine wpAny_pure ?_
    refine wpAny_assign_Name ?_
    obtain ⟨m, hns⟩ := c6.cn
    refine wpAny_storeName_local kv hns (fun h2 hn2 sb => ?_) rfl
    refine wpAny_tests_nil ?_
    rw [if_pos rfl]
    refine wpAny_Name (wpAny_loadName_local (v := .ref p') rfl kv hn2 (if_pos rfl) ?_) (by decide)
    have c7 : CS X.prog X.w X.stack B D (D + 1) a s1.gens.size out s1 s4.heap.objs.size i ps { s6.setGen s1.gens.size gs' with heap := h2, toks := (s6.setGen s1.gens.size gs').toks + 1 } :=
      CS.own (s' := { s6.setGen s1.gens.size gs' with heap := h2, toks := (s6.setGen s1.gens.size gs').toks + 1 }) q c6 (.inl rfl) rfl rfl sb ⟨_, hn2⟩ (by
        obtain ⟨its, n, e, r⟩ := c6.dl
        exact ⟨its, n, (sb.2 D (Nat.ne_of_lt (Nat.lt_succ_self D))).trans e, r⟩) c6.rows c6.nd
    obtain ⟨its, nn, eD7, hits⟩ := c7.dl
    have hl7 : ps.length = i := by
      have := c7.rows.length
      rw [List.length_take, Nat.min_eq_left hi] at this; exact this
    have hidx : out[i]? = some row := by
      have e3 : out.length - 1 - (n + 1 - 1) = i := by omega
      rw [e3] at hrow; exact hrow
    have hpC : p' ≠ D + 1 := Nat.ne_of_gt (Nat.lt_of_lt_of_le q.cw hpw)
    have hpD : p' ≠ D := Nat.ne_of_gt (Nat.lt_of_lt_of_le q.Dw hpw)
    have hra7 : RowAt h2 p' row := rowAt_at hra fun o e => (sb.2 p' hpC).trans e
    refine append_at (hsz := by rw [List.size_toArray, hits, List.length_map, hl7]; omega) eD7 fun h3 sb3 eD3 => ?_
    have ntk : out.take (i + 1) = out.take i ++ [row] := by rw [List.take_succ, hidx]; rfl
    have c8 : CS X.prog X.w X.stack B D (D + 1) a s1.gens.size out s1 s4.heap.objs.size (i + 1) (ps ++ [p']) { { s6.setGen s1.gens.size gs' with heap := h2, toks := (s6.setGen s1.gens.size gs').toks + 1 } with heap := h3 } := by
      refine CS.own (s' := { { s6.setGen s1.gens.size gs' with heap := h2, toks := (s6.setGen s1.gens.size gs').toks + 1 } with heap := h3 }) q c7 (.inr rfl) rfl rfl sb3 ⟨_, hn2.sameBut sb3 (Nat.succ_ne_self D)⟩ ⟨its ++ [Value.ref p'], nn + 1, ?_, ?_⟩ ?_ ?_
      · have : its.toArray.push (Value.ref p') = (its ++ [Value.ref p']).toArray := by simp
        rw [← this]; exact eD3
      · rw [hits, List.map_append]; rfl
      · rw [ntk]
        exact paired_app c7.rows ⟨hra7, hpw⟩
      · refine List.nodup_append.mpr ⟨c7.nd, by simp, fun x hx y hy z => ?_⟩
        have hy2 : y = p' := by simpa using hy
        subst hy2
        subst z
        obtain ⟨row2, ⟨its2, _, o2, ho2, _⟩, _⟩ := paired_mem c.rows hx
        exact absurd (Heap.lt_size ho2) (Nat.not_lt.mpr hps)
    have k68 : ∀ b o, ¬ (b = D ∨ b = D + 1) → s6.heap.get? b = some o → h3.get? b = some o := fun b o nb e => (sb3.2 b fun z => nb (.inl z)).trans ((sb.2 b fun z => nb (.inr z)).trans e)
    have aN : ¬ (a = D ∨ a = D + 1) := by
      rintro (z | z)
      · exact Nat.ne_of_lt q.ad z
      · exact Nat.ne_of_lt (Nat.lt_trans q.ad q.dc) z
    refine ⟨n, Nat.lt_succ_self n, i + 1, ps ++ [p'], hi1, by omega, c8, ?_⟩
    obtain ⟨o, nm, qn, ho, r⟩ := hg6
    refine ⟨⟨o, nm, qn, k68 a o aN ho, r⟩, gs', set_at hglt1, ?_⟩
    have gb8 := c8.gb q G0
    refine kap _ ⟨rfl, ?_, fun b o e nb => k68 b o nb e, ?_, fun i2 y hi2 e => ?_, ?_, ⟨gb8.mod, gb8.bs, gb8.bsz, gb8.funs, gb8.frl, gb8.hok, gb8.low, allBare_setGen (s := { { s6.setGen s1.gens.size gs' with heap := h2, toks := (s6.setGen s1.gens.size gs').toks + 1 } with heap := h3 }) gb8.bare rfl⟩⟩
    · show s6.heap.objs.size ≤ h3.objs.size
      exact Nat.le_of_eq (sb.1.symm.trans sb3.1.symm)
    · exact fun b hb => chThere c8 b hb
    · rw [set_other (Nat.ne_of_gt hi2)]
      show (s6.setGen s1.gens.size gs').gens[i2]? = some y
      rw [set_other (Nat.ne_of_gt hi2)]; exact e
    · rw [setGen_size]
      show s6.gens.size ≤ (s6.setGen s1.gens.size gs').gens.size
      rw [e2]; exact Nat.le_refl _
theorem lcG_core (RXh : RX X.prog X.w X.K X.mg X.base p params fR fI fW fdR fdI fdW) (Y : OX X.prog X.w X.K X.mg X.base qq paramsO spS spC kk fO fS fC fdO fdS fdC) (hr : Room kr X.A) (hkk : kk + 2 ≤ kr) (I : Inv X pins σ H s) (hg : Gl X "orders_of") (ha : PA X (e :: es) ta)
    (he : starEach (e :: es) X.env = (false, eval e X.env) :: starEach es X.env) (hpl : (backTo pos1 (starEach es X.env)).any (·.1) = false) (h : tLcG spS spC kr ta σ H Q)
    (hRR : ∀ D C s' m H', Inv X pins σ H' s' → Q (.ref D) H' → s'.heap.Ns C m → FpOk X pins H' C → compPost (model X.prog X.w) X.A X.xe use Qf (.ref D) C (.ok .next) s') :
    wpAny (model X.prog X.w) X.A (comprehension (.ListComp (.Name "_law_row" pv1) [⟨.Name "_law_row" pv2, .Call (.Name "orders_of" p1) (e :: es) [] pos1, [], 0⟩] scC pos) scC X.env pos' (newList []) false (eval (.Call (.Name "orders_of" p1) (e :: es) [] pos1) X.env) use) Qf X.xe s := by
  refine wpAny_comprehension_free (use := use) rfl (fun _ => rfl) (closure_ok (scope := scC) (fun y hy e => ?_)) rfl (fun y hy e => ?_) ?_
  · rcases List.mem_cons.mp hy with rfl | hy
    · cases e
    · rcases List.mem_cons.mp hy with rfl | hy
      · cases e
      · cases hy
  · rcases List.mem_cons.mp hy with rfl | hy
    · rfl
    · rcases List.mem_cons.mp hy with rfl | hy
      · rfl
      · cases hy
  refine wpAny_Call_Name_kw (ld_glob I hg Y.gO ?_ (by decide))
  refine PySem.W.callWith_K (h₀ := X.base) I.ok.mod.kin Y.FO.kp (thn (ha.run pos1 pins s σ H _ I h) fun us s1 hus => ?_) he hpl
  obtain ⟨vs, H1, I1, r, t, k, d, left, cs, rfl, hdk, hd, hlen, hol, hS, hC, hQ⟩ := hus
  refine ⟨I1.kIn, ?_⟩
  refine wpAny_call (codeAny_mono (make_gen Y.FO scO Y.bO I1.kIn I1.nolimit I1.bare (by have := hr.dp; omega) rfl r) fun qr s2 hq => ?_)
  obtain ⟨a, cdv, rfl, M⟩ := hq
  refine wpAny_pyIter_gen M.gen ?_
  refine wpAny_newObj_type (newEnv_comp ?_) (by show 0 ≤ sizeLine; decide)
  have hsz : (s2.heap.push { cls := .type "list", data := .seq ([] : List Value).toArray }).objs.size = s2.heap.objs.size + 1 := Heap.size_push ..
  have loop := lcG_loop (D := s2.heap.objs.size) (pv1 := pv1) (pv2 := pv2) (p1 := p1) (pos1 := pos1) (pos := pos) (e := e) (es := es) (cl := cellsFrom ((s2.heap.push { cls := .type "list", data := .seq ([] : List Value).toArray }).objs.size + 1) scC.names (cloFrom X.env.cells scC.names []))
    (R := compPost (model X.prog X.w) X.A X.xe use Qf (.ref s2.heap.objs.size) (s2.heap.objs.size + 1)) RXh Y hr hkk I1 M hdk hd hlen hol hS hC rfl fun s' m ps H' I' sm nD hHD rows hn f => hRR _ _ s' m H' I' (hQ _ ps H' sm nD hHD rows) hn f
  rw [← hsz] at loop
  refine codeAny_compStart_list loop (wpAny_pyIter_gen (M.gen.keeps fun b o z => ?_) loop)
  exact Heap.get?_push_of_some _ (Heap.get?_push_of_some _ z)
/-- as a value -/
theorem pe_lcG (RXh : RX X.prog X.w X.K X.mg X.base p params fR fI fW fdR fdI fdW) (Y : OX X.prog X.w X.K X.mg X.base qq paramsO spS spC kk fO fS fC fdO fdS fdC) (hr : Room kr X.A) (hkk : kk + 2 ≤ kr) (hg : Gl X "orders_of") (ha : PA X (e :: es) ta)
    (he : starEach (e :: es) X.env = (false, eval e X.env) :: starEach es X.env := by rfl) (hpl : (backTo pos1 (starEach es X.env)).any (·.1) = false := by rfl) :
    PE X (.ListComp (.Name "_law_row" pv1) [⟨.Name "_law_row" pv2, .Call (.Name "orders_of" p1) (e :: es) [] pos1, [], 0⟩] scC pos) (tLcG spS spC kr ta) := by
  refine ⟨fun pins s σ H Q I h => ?_⟩
  rw [eval_ListComp]
  refine lcG_core RXh Y hr hkk I hg ha he hpl h fun D C s' m H' I' q hn f => ⟨m, hn, fun h'' sb => ?_⟩
  obtain ⟨f0, f1, f2, f3, f4, f5⟩ := f
  exact ⟨.ref D, H', I'.turned (t' := s'.toks) (fun b o hb e => (sb.2 b hb).trans e) f0 f1 f3 f4 f5, rfl, q⟩
/-- name = [..] on one line, the name a local -/
theorem ps_setLcG {i : Nat} {y : Str} {py spos : Pos} (hN : X.N.Nodup) (hy : X.N[i]? = some y) (hyl : X.env.scope.names.lookup y = some .local)
    (hsw : swapsWith (.ListComp (.Name "_law_row" pv1) [⟨.Name "_law_row" pv2, .Call (.Name "orders_of" p1) (e :: es) [] pos1, [], 0⟩] scC pos) (some (.Name y py)) spos.line X.env = pure true)
    (RXh : RX X.prog X.w X.K X.mg X.base p params fR fI fW fdR fdI fdW) (Y : OX X.prog X.w X.K X.mg X.base qq paramsO spS spC kk fO fS fC fdO fdS fdC) (hr : Room kr X.A) (hkk : kk + 2 ≤ kr) (hg : Gl X "orders_of") (ha : PA X (e :: es) ta)
    (he : starEach (e :: es) X.env = (false, eval e X.env) :: starEach es X.env := by rfl) (hpl : (backTo pos1 (starEach es X.env)).any (·.1) = false := by rfl) :
    PS X (.Assign [.Name y py] (.ListComp (.Name "_law_row" pv1) [⟨.Name "_law_row" pv2, .Call (.Name "orders_of" p1) (e :: es) [] pos1, [], 0⟩] scC pos) spos) (tAsg (tLcG spS spC kr ta) (gName i)) := by
  refine ⟨fun pins s σ H D I h => ?_⟩
  rw [exec_Assign_Name_used _ _ _ _ hsw]
  refine wpAny_bind (wpAny_standAt (wpAny_bind ?_))
  show wpAny _ X.A (do let _ ← comprehension (.ListComp (.Name "_law_row" pv1) [⟨.Name "_law_row" pv2, .Call (.Name "orders_of" p1) (e :: es) [] pos1, [], 0⟩] scC pos) scC X.env (firstIterPos [⟨.Name "_law_row" pv2, .Call (.Name "orders_of" p1) (e :: es) [] pos1, [], 0⟩] pos) (newList []) false (eval (.Call (.Name "orders_of" p1) (e :: es) [] pos1) X.env) (some (assign (.Name y py) X.env))) _ _ s
  have h : tLcG spS spC kr ta σ H (fun x H1 => gName i x σ H1 D.nx) := h
  refine wpAny_bind (thn (lcG_core (Qf := fun _ s' => SP X pins D .next s') RXh Y hr hkk I hg ha he hpl h fun L C s' m H' I' q hn f => ?_) fun _ s' hq => wpAny_pure (wpAny_pure hq))
  show wpAny _ _ (assign (.Name y py) X.env (.ref L)) _ _ _
  refine wpAny_assign_Name (store_ok2 (v := V.ref L) I' hN hy (.inl hyl) rfl (fun s2 I2 ⟨a, sb, ha⟩ => ?_) (.inr hyl))
  obtain ⟨f0, f1, f2, f3, f4, f5⟩ := f
  have haC : C ≠ a := by
    rcases ha with z | z
    · rw [z]; exact f1
    · exact fun e => f4 y a z e.symm
  refine ⟨m, hn.sameBut sb haC, fun h3 sb3 => ?_⟩
  exact ⟨_, H', I2.turned (t' := s2.toks) (fun b o hb e => (sb3.2 b hb).trans e) f0 f1 f3 f4 f5, q⟩
end
end LG

set_option Elab.async false
set_option linter.all false
set_option maxRecDepth 100000
set_option maxHeartbeats 4000000
namespace LE
open PySem L2 PySem.Spec PyProof.Rows

section
variable {X : Cx} {e : Expr} {es : List Expr} {ta : TA} {x : Str} {C0 C : Addr} {mc : Value} {p p1 p2 pos : Pos}
/-- B.__init__(self, ..), B an own class whose __init__ is ValueError's -/
theorem pe_binit {pl : Sem Bool} (hg : Gl X x) (hm : X.mg x = some (.ref C0)) (r : ClX.CRead X.K C0 mc) (hf : PySem.W.findCls X.K (.ref C0) mc "__init__" = some (.val (.builtin "ValueError.__init__"))) (ha : PA X (e :: es) ta)
    (hc : eval (.Call (.Attribute (.Name x p1) "__init__" p2) (e :: es) [] pos) X.env = (do
      let ov ← eval (.Name x p1) X.env
      standAt p2.atName
      let (f, first) ← holding [ov] (getMethod ov "__init__" pl)
      callWith pos f first (backTo pos (starEach (e :: es) X.env)) (backToKw pos (keywordEach [] X.env))) := by rfl)
    (hdb : (x == ("__debug__" : Str)) = false := by decide) (he : starEach (e :: es) X.env = (false, eval e X.env) :: starEach es X.env := by rfl) (hpl : (backTo pos (starEach es X.env)).any (·.1) = false := by rfl) :
    PE X (.Call (.Attribute (.Name x p1) "__init__" p2) (e :: es) [] pos) (tVeI X.K ta) := by
  refine ⟨fun pins s σ H Q I h => ?_⟩
  refine PySem.W.methodCall_KW (ld_glob I hg hm ?_ hdb) hc
  refine PySem.W.method_cls I.kIn r.ga (PySem.W.cls_value I.kIn r.rd hf (by rfl) ?_)
  show wpAny _ _ (callWith pos (Value.builtin "ValueError.__init__") [] (backTo pos (starEach (e :: es) X.env)) []) _ _ _
  refine PyProof.Rows.callWith_method1 (thn (ha.run pos pins _ σ H _ (I.tok _) h) fun us s1 hus => ?_) he hpl
  obtain ⟨vs, H1, I1, rv, a, C, ws, rfl, hl, T, ea, q⟩ := hus
  cases rv with
  | @cons _ u0 _ ur ra rw' =>
    have hu : u0 = Value.ref a := ra
    subst hu
    exact oinit_ok T I1 ea (by rw [← rw'.length]; exact Nat.le_trans hl (by decide)) fun s' J => ⟨.non, H1, J, rfl, q⟩

/-- C(), C's own __init__ leaving no field -/
def tMk0 (C : Addr) (sp : Sp) : L2.St → Hp → XK → Prop := fun σ H Q => ∀ a, H a = none → sp [.ref a] (upd H a (exo a C none)) (fun v H2 => v = .non ∧ H2 a = some (exo a C none) ∧ Q (.ref C) none (del H2 a)) (fun _ _ _ => False)
theorem mk_end1 {pins : List (Addr × Obj)} {σ : L2.St} {H1 H2 : Hp} {Q : XK} {hp hp2 : Heap} {g1 : Array GenState} {d1 : Drawn} {t1 : Nat} {os1 : OsState} {s2 : Shared} {a C : Addr} (T : Raises X (.ref C)) (I1 : Inv X pins σ H1 ⟨hp, g1, d1, t1, os1⟩)
    (ha : hp.objs.size ≤ a) (k : ∀ b o, hp.get? b = some o → hp2.get? b = some o) (un : Un (frs X.stack) [] (upd H1 a (exo a C none)) H2 hp2 s2.heap) (hok : HOk X.prog X.w H2 s2.heap) (ho : s2.os = os1) (hb : AllBare s2.gens)
    (ea : H2 a = some (exo a C none)) (q : Q (.ref C) none (del H2 a)) : MkP X pins σ Q (.ref a) s2 := by
  obtain ⟨t0, hoe⟩ := exo_at hok ea
  have hn : H1 a = none := I1.hok.fresh ha
  obtain ⟨G, g1', g2'⟩ := restrict s2.heap fun b => decide (b ≠ a)
  have gk : ∀ b, b ≠ a → G.get? b = s2.heap.get? b := fun b hb => g1' b (decide_eq_true hb)
  have ge : G.get? a = none := g2' a (by simp)
  have nha : ∀ {b : Addr} {o : Obj}, hp.get? b = some o → b ≠ a := fun {b o} z e => by
    have := Heap.lt_size z
    rw [e] at this
    exact absurd this (Nat.not_lt.mpr ha)
  have old : ∀ {b : Addr}, b ≠ a → H1 b = none → upd H1 a (exo a C none) b = none := fun {b} hb n => (upd_ne hb).trans n
  have some_ : ∀ {b : Addr} {u : HO}, H1 b = some u → upd H1 a (exo a C none) b = some u := fun {b u} z => (upd_ne (ne_of_none z hn)).trans z
  have U : Un (frs X.stack) [] H1 (del H2 a) hp G := by
    refine ⟨fun b o z n hf hx => ?_, fun b o z n hf hx => ?_, fun b o z n hx => ?_, fun b o z hx => ?_, fun b xs z => ?_, fun b o v z => ?_, fun b ps z => ?_⟩
    · exact (gk b (nha z)).trans (un.keep b o (k b o z) (old (nha z) n) hf hx)
    · obtain ⟨sl, e⟩ := un.slot b o (k b o z) (old (nha z) n) hf hx
      exact ⟨sl, (gk b (nha z)).trans e⟩
    · exact (del_ne (nha z)).trans (un.free b o (k b o z) (old (nha z) n) hx)
    · obtain ⟨o', e⟩ := un.there b o (k b o z) hx
      exact ⟨o', (gk b (nha z)).trans e⟩
    · exact (del_ne (ne_of_none z hn)).trans (un.tups b xs (some_ z))
    · exact (del_ne (ne_of_none z hn)).trans (un.frzs b o v (some_ z))
    · obtain ⟨m, e⟩ := un.tbls b ps (some_ z)
      exact ⟨m, (del_ne (ne_of_none z hn)).trans e⟩
  have hok3 : HOk X.prog X.w (del H2 a) G := fun b o z => by
    have hba : b ≠ a := fun e => by
      rw [e, del_same] at z; cases z
    rw [del_ne hba] at z
    have noa : ∀ {c : Addr}, H2 c = some (.own b) → c ≠ a := fun {c} hc => at_ne ea hc exo_own
    refine (hok b o z).stay (fun c v hc y => ?_) (fun c hc => (del_ne (noa hc)).trans hc) fun c xs hc => (del_ne (at_ne ea hc exo_tup)).trans hc
    refine (gk c ?_).trans y
    rcases hc with hc | hc
    · rw [hc]; exact hba
    · exact noa hc
  have J : Inv X pins σ (del H2 a) { s2 with heap := G } := I1.call' (ch := []) ho U hok3 hb (fun b z => absurd z (by simp))
  exact ⟨a, _, _, { s2 with heap := G }, _, .ref C, none, rfl, J, fun b o z => (gk b fun e => by rw [e, ge] at z; cases z).symm.trans z, ge, hoe, ⟨rfl, rfl⟩, rfl, rfl, del_same, rfl, hb, T, q⟩
theorem pmk_oex0 {CX : CXT} {fI : Addr} {k : Nat} {fd : FuncData} {sp : Sp} {ps : List Str} (T : OexC X.K C) (iC : PySem.W.findIn X.K (.ref C) "__init__" = some (some (.ref fI))) (tI : PySem.W.typeIn X.K (.ref fI) = some (.type "function"))
    (F1 : FnOk X.prog X.w X.K X.mg X.base CX k fI fd ps sp) (hr : Room (k + 1) X.A) (hb : Binds X.K fd ps []) (hx : Passes CX X (fun _ _ _ => False)) (hg : Gl X x) (hm : X.mg x = some (.ref C)) (hdb : (x == ("__debug__" : Str)) = false := by decide) :
    PMk X (.Call (.Name x p) [] [] pos) (tMk0 C sp) := by
  intro pins s σ H Q I h
  obtain ⟨nm, q, N, bs, bm, sn, sub, ab, col, dd, k0, k1, k2, k3, k5, hC, hbm⟩ := T.cls
  refine wpAny_Call_Name_kw (ld_glob I hg hm ?_ hdb)
  refine PySem.W.callWith_K0 I.kIn T.kC ?_
  obtain ⟨hp, g, dr, tk, os⟩ := s
  have hsz : hp.objs.size ≤ hp.objs.size + 1 := Nat.le_succ _
  have hn : H (hp.objs.size + 1) = none := I.hok.fresh hsz
  have hq := h (hp.objs.size + 1) hn
  have kk : ∀ b o, hp.get? b = some o → ((hp.push (PySem.W.kdv_tup [])).push (PySem.HandSPX.excO C hp.objs.size)).get? b = some o := fun b o e => Heap.get?_push_of_some _ (Heap.get?_push_of_some _ e)
  have hget : ((hp.push (PySem.W.kdv_tup [])).push (PySem.HandSPX.excO C hp.objs.size)).get? (hp.objs.size + 1) = some (PySem.HandSPX.excO C hp.objs.size) := by heap_get
  have I2 : Inv X pins σ (upd H (hp.objs.size + 1) (exo (hp.objs.size + 1) C none)) ⟨(hp.push (PySem.W.kdv_tup [])).push (PySem.HandSPX.excO C hp.objs.size), g, dr, tk, os⟩ := I.laid (t' := tk) kk hsz (exo_ok hget)
  have r2 : Vals [V.ref (hp.objs.size + 1)] [Value.ref (hp.objs.size + 1)] := .cons rfl .nil
  have hl : ([Value.ref (hp.objs.size + 1)] ++ []).length = ps.length := F1.len _ _ _ _ hq
  refine wpAny_call (PySem.HandSPX.call_own F.excBase_ValueError (fun Y => PySem.HandSPX.refsVE_contains Y bm hbm) (I.kIn _ _ hC) (PySem.W.looks_findIn I.kIn iC) (fun self => PySem.W.bind_fn I.kIn self tI) (Nat.zero_le _)
    (codeAny_mono (F1.run _ X.stack _ _ ⟨[Value.ref (hp.objs.size + 1)], []⟩ [Value.ref (hp.objs.size + 1)] _ _ (fun _ _ _ => False) (hr.make C [] []) (I2.env0.make C [] []) (hb _ [Value.ref (hp.objs.size + 1)] I2.kIn hl) r2 hq) fun r s' hq' => ?_))
  cases r with
  | error er => exact hx pins σ _ _ er s' I2 hq'
  | ok fl =>
    cases fl with
    | ret u =>
      obtain ⟨v, H2, os2, bare2, un2, hok2, rv, ev, ea, q2⟩ := hq'
      subst ev
      exact ⟨rv, mk_end1 (raises_own T.exC T.tyC) I hsz kk un2 hok2 os2 bare2 ea q2⟩
    | next => exact False.elim hq'
    | brk => exact False.elim hq'
    | cont => exact False.elim hq'
end
end LE

set_option Elab.async false
set_option linter.all false
set_option maxRecDepth 100000
set_option maxHeartbeats 4000000
namespace LE
open PySem L2 PySem.Spec PyProof.Rows

/-! ### NoFrame.__init__: super().__init__('frame', frame); self.frame = frame -/
def scNF : Scope := { kind := .function, names := [("self", .local), ("frame", .local), ("__class__", .free), ("super", .globalImplicit)], isGenerator := false, isCoroutine := false, more := [] }
abbrev NNF : List Str := ["self", "frame"]
def stSup (p : Nat → Pos) : Stmt := .Expr (.Call (.Attribute (.Call (.Name "super" (p 0)) [] [] (p 1)) "__init__" ⟨34, 8, 34, 24⟩) [.Constant (.str "frame") 0 (p 3), .Name "frame" (p 4)] [] ⟨34, 8, 34, 40⟩) (p 6)
def stFld (p : Nat → Pos) : Stmt := .Assign [.Attribute (.Name "self" (p 7)) "frame" (p 8)] (.Name "frame" (p 9)) (p 10)
def bodyNF (p : Nat → Pos) : List Stmt := [stSup p, stFld p]
abbrev envNF (L f : Addr) (cd : Value) (cc : Addr) : Env := PySem.W.envX "NoFrame.__init__" scNF L f cd [("__class__", cc)]

/-- where its parts stand -/
def pNF : Nat → Pos
  | 0 => ⟨34, 8, 34, 13⟩
  | 1 => ⟨34, 8, 34, 15⟩
  | 3 => ⟨34, 25, 34, 32⟩
  | 4 => ⟨34, 34, 34, 39⟩
  | 6 => ⟨34, 8, 34, 40⟩
  | 7 => ⟨35, 8, 35, 12⟩
  | 8 => ⟨35, 8, 35, 18⟩
  | 9 => ⟨35, 21, 35, 26⟩
  | 10 => ⟨35, 8, 35, 26⟩
  | _ => ⟨0, 0, 0, 0⟩
structure NFI (P : Program) (K : PySem.W.Frag) (p : Nat → Pos) (params : Arguments) (C f : Addr) (fd : FuncData) : Prop where
  ex : ∃ (oc : Value) (od : Option Addr) (dV kV doc pm ct : Value) (an : Option Addr) (osl : Array (Option Value)) (cda cc : Addr) (cl : Value) (cld : Option Addr) (csl : Array (Option Value)) (co : Obj) (vs : Array Value) (file : Str) (tf : Tok),
    fd = PySem.W.fnX "__init__" "NoFrame.__init__" params (bodyNF p) scNF [("__class__", cc)] dV kV doc pm an (.ref cda) ct ∧ K.lookup f = some ⟨oc, od, .func fd, osl⟩ ∧ PySem.W.codeIn K (.ref cda) "NoFrame.__init__" = true ∧
      K.lookup cc = some ⟨cl, cld, .cell (some (.ref C)), csl⟩ ∧ K.lookup cda = some co ∧ co.data = .fields vs ∧ vs[2]? = some (.str file tf) ∧ ((P.main.file : Str) == file) = true
  par : ∃ ar, (params.posonlyargs ++ params.args).head? = some ar ∧ ar.arg = "self"
  top : (P.main.scope.names.lookup ("super" : Str)).isSome = false
  opq : PySem.W.nsIn K cStatics "thirdparty.any" = some none
  sub : PySem.W.mroIn K C (.ref C) = some true
  ve : PySem.W.subIn K (.ref C) (.type "ValueError") = some true
  sup : PySem.W.ks_superIn K C C "__init__" = some (some (.builtin "ValueError.__init__"))
  T : OexC K C
  nof : PySem.W.findIn K (.ref C) "frame" = some none

/-- what NoFrame.__init__ promises -/
def spNF (C : Addr) : Sp := fun vs H Q _ => ∃ (a : Addr) (y : V), vs = [.ref a, y] ∧ H a = some (exo a C none) ∧ ∀ dx, H dx = none → dx ≠ a → Q .non (upd (upd H dx (exd dx [("frame", y)])) a (exo a C (some dx)))

/-- the bound __init__ called -/
theorem call_bound {prog : Program} {w : World} {A : Around} {E : Value → Shared → Prop} {h : Heap} {g : Array GenState} {d : Drawn} {t : Nat} {os : OsState} {nm q : Str} {C N : Addr} {bs bm : List Value} {hdct : Bool} {sn : List Str} {sub : List Value} {ab : Bool} {col : Option Bool} {dd : Option Addr} {k0 k1 k2 k3 k5 : Option Value}
    {u e t0 : Addr} {rest : List Value} {Q : Value → Shared → Prop} (hC : h.get? C = some (excClassObj nm q C N bs bm hdct sn sub ab col dd k0 k1 k2 k3 k5 "ValueError.__new__")) (he : h.get? e = some (PySem.HandSPX.excO C t0)) (hu : h.get? u = some (PySem.W.kxs_mw "ValueError.__init__" e)) (hrest : rest.length ≤ sizeLine)
    (hq : ∀ h' t1, (∀ b o, b ≠ e → h.get? b = some o → h'.get? b = some o) → h'.get? e = some (PySem.HandSPX.excO C t1) → Q .none ⟨h', g, d, t, os⟩) : wpAny (model prog w) A (call (.ref u) rest) Q E ⟨h, g, d, t, os⟩ := by
  have FB := F.excBase_ValueError
  refine wpAny_call (codeAny_of_tree ?_)
  show wpAny _ A.in1 (callAny (.ref u) _) _ _ _
  unfold callAny
  refine wpAny_bind (wpAny_load hu ?_)
  dsimp only [PySem.W.kxs_mw]
  rw [if_pos (by decide)]
  refine wpAny_bind (PySem.W.check_bound_init FB.toExcCallFacts hC he rfl ?_)
  refine wpAny_pure ?_
  refine ⟨Code.quiet_builtin _ (by decide +kernel), codeAny_builtin FB.initEntry ?_⟩
  exact PySem.W.exc_init_tree he hrest fun h' k e' _ => hq h' _ k e'

section
variable {P : Program} {w : World} {K : PySem.W.Frag} {mg : Str → Option Value} {base : Heap} {p : Nat → Pos} {params : Arguments} {C f : Addr} {fd : FuncData}

def nfX (P : Program) (w : World) (K : PySem.W.Frag) (mg : Str → Option Value) (base : Heap) (f : Addr) (cd : Value) (cc : Addr) (A : Around) (outer : List Env) (s : Shared) (H : Hp) (xe : Value → Shared → Prop) : Cx where
  prog := P
  w := w
  K := K
  mg := mg
  base := base
  A := A.deeper (envNF s.heap.objs.size f cd cc)
  N := NNF
  s_0 := s
  H_0 := H
  env := envNF s.heap.objs.size f cd cc
  outer := outer
  stack := envNF s.heap.objs.size f cd cc :: outer
  ex := []
  fn := fun _ => false
  calm := true
  pn := []
  xe := xe

theorem nf_ok (Y : NFI P K p params C f fd) (hsu : mg "super" = none) {CX : CXT} : FnOk P w K mg base CX 1 f fd NNF (spNF C) := by
  refine ⟨fun vs H Q E h => by obtain ⟨a, y, rfl, _⟩ := h; rfl, fun A outer s H args us vs Q E hr e0 hb r hsp => ?_⟩
  obtain ⟨a, y, rfl, hHa, hQ⟩ := hsp
  obtain ⟨oc, od, dV, kV, doc, pm, ct, an, osl, cda, cc, cl, cld, csl, co, cvs, file, tf, rfl, lk, hcd, lcc, lco, dco, hfi, hfile⟩ := Y.ex
  obtain ⟨ar, hpar, har⟩ := Y.par
  obtain ⟨nm, q, N, bs, bm, sn, sub, ab, col, dd, k0, k1, k2, k3, k5, hC, hbm⟩ := Y.T.cls
  have KX : K.In s.heap := e0.mod.kin.keeps fun b o e => (e0.bs b o e).1
  have lim : s.heap.NoLimit := e0.mod.nolimit.keeps fun b o e => (e0.bs b o e).1
  cases r with
  | @cons _ u0 _ ur ra rr =>
  cases rr with
  | @cons _ u1 _ ur2 ry rr2 =>
  cases rr2
  have hu0 : u0 = Value.ref a := ra
  subst hu0
  refine ks_codeAny_call_defAt (binds := NNF.zip [Value.ref a, u1]) hr.depth (KX _ _ lk) rfl lim (PySem.W.codeRec_of KX hcd) rfl hb ?_ ?_ (fun h₁ hns hk => ?_)
  · intro x hx
    have hx2 : x ∈ scNF.names := hx
    clear hx
    revert x
    decide +kernel
  · intro x hx
    have hx : x ∈ [(("self" : Str), Value.ref a), ("frame", u1)] := hx
    rcases List.mem_cons.mp hx with rfl | hx
    · rfl
    · rcases List.mem_cons.mp hx with rfl | hx
      · rfl
      · cases hx
  show PySem.wpAt (model P w) (A.deeper (envNF s.heap.objs.size f (.ref cda) cc)) (.func (bodyNF p) (envNF s.heap.objs.size f (.ref cda) cc)) (execs (bodyNF p) (envNF s.heap.objs.size f (.ref cda) cc)) _ _ _
  obtain ⟨xe, hxe⟩ : ∃ xe : Value → Shared → Prop, (fun (e : Value) (s' : Shared) => wpAny (model P w) (A.deeper (envNF s.heap.objs.size f (.ref cda) cc)) (leaving (envNF s.heap.objs.size f (.ref cda) cc) e) (fun _ s'' => CR CX outer P w H s Q E (.error e) s'') (fun e' s'' => CR CX outer P w H s Q E (.error e') s'') s') = xe := ⟨_, rfl⟩
  have cclt : ∃ o, base.get? cc = some o ∧ o.data = .cell (some (.ref C)) := ⟨_, e0.mod.kin _ _ lcc, rfl⟩
  obtain ⟨occ, ecc, dcc⟩ := cclt
  have lkc : ∀ {x : Str} {c : Addr}, [(("__class__" : Str), cc)].lookup x = some c → x = "__class__" ∧ c = cc := fun {x c} e => by
    have := PySem.mem_of_lookup e
    rcases List.mem_cons.mp this with e | e
    · cases e; exact ⟨rfl, rfl⟩
    · cases e
  have nsS : h₁.Ns s.heap.objs.size (fun x => (NNF.zip [Value.ref a, u1]).reverse.lookup x) := hns
  have noA : ∀ b : Addr, b ∉ (nfX P w K mg base f (.ref cda) cc A outer s H xe).ex := fun b z => absurd (show b ∈ ([] : List Addr) from z) (by simp)
  have I0 : Inv (nfX P w K mg base f (.ref cda) cc A outer s H xe) [] [some (.ref a), some y] H { s with heap := h₁, toks := s.toks + 2 } := by
    refine ⟨⟨e0.mod, rfl, rfl, rfl, Nat.le_refl _, fun x z c h1 h2 => ?_, fun x hx => ?_, fun x c h => Bool.noConfusion h, fun _ => hr.hd, Around.frames_deeper e0.frames, .inr ⟨rfl, rfl⟩, fun b z => absurd z (noA b), e0.bs, e0.bsz, fun b _ _ => noA b, fun b z => absurd z (noA b), e0.funs, e0.frf⟩,
      rfl, e0.bare, Un.kept hk, ⟨_, nsS, fun i x v h1 h2 _ => ?_⟩, fun x c h => ?_, e0.hok.fresh (Nat.le_refl _), fun x c h => ?_, fun p hp => absurd (show p ∈ ([] : List (Addr × Obj)) from hp) (by simp), e0.hok.kept hk, rfl⟩
    · exact (lkc h1).1.trans (lkc h2).1.symm
    · have hx2 : scNF.names.lookup x = some .cell ∨ scNF.names.lookup x = some .free := hx
      have : (x, NameKind.cell) ∈ scNF.names ∨ (x, NameKind.free) ∈ scNF.names := hx2.imp PySem.mem_of_lookup PySem.mem_of_lookup
      have hxc : x = "__class__" := by
        rcases this with h | h
        · simp [scNF] at h
        · simpa [scNF] using h
      subst hxc
      exact ⟨cc, rfl⟩
    · match i, h1, h2 with
      | 0, h1, h2 => cases h1; cases h2; exact ⟨_, rfl, .inl ⟨rfl, rfl⟩⟩
      | 1, h1, h2 => cases h1; cases h2; exact ⟨_, ry, .inl ⟨rfl, rfl⟩⟩
      | n + 2, h1, _ => cases h1
    · obtain ⟨_, rfl⟩ := lkc h
      exact ⟨_, _, hk _ _ (e0.bs _ _ ecc).1, dcc⟩
    · obtain ⟨_, rfl⟩ := lkc h
      exact (e0.bs _ _ ecc).2
  -- the statement super().__init__(..)
  refine ks_wpAt_execs_cons ?_
  obtain ⟨t1, hoe⟩ := exo_at I0.hok hHa
  have K1 : K.In h₁ := KX.keeps hk
  have hD : PySem.W.clsIn K C = some { name := nm, bases := bs, mro := .ref C :: bm, ns := N, qualname := q, hasDict := true, slotNames := sn, subclasses := sub, abstract := ab, collection := col, hasDel := false } := by unfold PySem.W.clsIn; rw [hC] <;> rfl
  obtain ⟨oD, hD1, hD2⟩ : ∃ oD, h₁.get? C = some oD ∧ oD.data = .cls { name := nm, bases := bs, mro := .ref C :: bm, ns := N, qualname := q, hasDict := true, slotNames := sn, subclasses := sub, abstract := ab, collection := col, hasDel := false } := ⟨_, K1 _ _ hC, rfl⟩
  have inst : PySem.W.InstAt h₁ a { cls := .ref C, dict := none, data := .fields #[.ref t1, .none, .none, .none, .bool false, .none] } C none := ⟨hoe, rfl, rfl, trivial⟩
  have aC : a ≠ C := PySem.W.ks_ne K1 inst hD
  have hI : ∀ {h' : Heap}, (∀ b o, h₁.get? b = some o → h'.get? b = some o) → PySem.W.Looks (model P w) h' (isInstance (.ref a) (.type "ValueError")) true := fun {h'} k => by
    have inst' : PySem.W.InstAt h' a { cls := .ref C, dict := none, data := .fields #[.ref t1, .none, .none, .none, .bool false, .none] } C none := ⟨k _ _ hoe, rfl, rfl, trivial⟩
    exact inst'.type.andThen (PySem.W.looks_subIn (K1.keeps k) Y.ve)
  refine ks_wpAt_Expr_any (ks_wpAt_MethodCall ?_)
  refine ks_wpAt_super_base (cc := cda) rfl rfl (by decide) rfl (K1 _ _ lk) rfl hpar rfl (K1 _ _ lco) dco hfi hfile Y.top ?_
  obtain ⟨mb, hb1, hb2⟩ := I0.mod.blt
  refine PySem.W.ks_loadName_global rfl rfl (Calls.loadGlobal_builtin (I0.mod.glob.keeps I0.bk) hsu (hb1.keeps I0.bk) ((hb2 "super" (by decide)).trans (by decide +kernel : bootBuiltins "super" = some (.type "super"))) ⟨rfl, ?_⟩)
  refine wpAny_loadName_free (c := cc) rfl rfl rfl ⟨_, hk _ _ (e0.bs _ _ ecc).1, dcc⟩ ?_ (by decide)
  rw [har]
  refine wpAny_loadName_local rfl rfl nsS (show _ = some (Value.ref a) from rfl) ?_
  refine ks_wpAny_isType_cls hD1 hD2 ⟨rfl, ?_⟩
  refine ks_wpAny_call_super hD1 hD2 hoe rfl (fun c z => by cases z) (PySem.W.looks_mroIn K1 Y.sub) (fun h2 eso k2 => ?_)
  -- the bound method
  have hm : PySem.W.alongIn K "__init__" (((Value.ref C :: bm).dropWhile (· != .ref C)).drop 1) = some (some (.builtin "ValueError.__init__")) := by
    have := Y.sup
    unfold PySem.W.ks_superIn at this
    rw [hD] at this
    exact this
  have K2 : K.In h2 := K1.keeps k2
  have mroL : PySem.W.Looks (model P w) h2 (mroOf (.ref C)) (.ref C :: bm) := fun A Q E s k q => wpAny_bind ((PySem.W.looks_clsIn K2 hD) A _ E s k (wpAny_pure q))
  refine PySem.W.kxs_getMethod PySem.W.kxs_ValueError eso (PySem.W.looks_opaque K2 Y.opq) mroL rfl K2 hm (hI k2) aC (by decide) ?_
  -- its arguments
  have I1 : Inv (nfX P w K mg base f (.ref cda) cc A outer s H xe) [] [some (.ref a), some y] H ⟨h2, s.gens, s.drawn, s.toks + 2, s.os⟩ := I0.kept (t' := s.toks + 2) k2
  have I2 := ClX.pin_new (t' := s.toks + 2 + 1) I1 (a := h2.objs.size) (o := PySem.W.kxs_mw "ValueError.__init__" a) (fun b u e => Heap.get?_push_of_some _ e) (Nat.le_refl _) (Heap.get?_push_size _ rfl) (fun v z => by cases z)
  refine PySem.W.kxs_callWith (i := "ValueError.__init__") (x := a) rfl ?_
  have pa : PA (nfX P w K mg base f (.ref cda) cc A outer s H xe) [.Constant (.str "frame") 0 (p 3), .Name "frame" (p 4)] _ := pa_cons pe_str (pa_cons (pv 1) pa_nil)
  refine PySem.Calls.evalArgs_plain (wpAny_mono (pa.run ⟨34, 8, 34, 40⟩ _ _ _ H (fun vs H' => vs = [.str "frame", y] ∧ H' = H) I2 ⟨y, rfl, rfl, rfl⟩) (fun us s3 hus => ?_) fun e s3 z => by rw [← hxe] at z; exact z)
  obtain ⟨vs, H', I3, rv, rfl, rfl⟩ := hus
  refine ⟨ClX.pin_at I3, ?_⟩
  obtain ⟨t3, he3⟩ := exo_at I3.hok hHa
  have hpin := ClX.pin_at I3
  have k3 := I3.kIn
  obtain ⟨h3, g3, d3, tk3, os3⟩ := s3
  refine call_bound (k3 _ _ hC) he3 hpin (by rw [List.nil_append, ← rv.length]; exact (by decide : 2 ≤ sizeLine)) fun h4 t4 k4 e4 => ?_
  have I4 := ClX.unpin (I3.write (t' := tk3) (x := a) (e := a) (o := exo a C none) (by rw [hHa]; exact True.intro) (.inl rfl) k4 ⟨_, e4⟩ (exo_ok e4))
  have eu : upd H' a (exo a C none) = H' := by
    funext b
    by_cases hb : b = a
    · rw [hb, upd_same, hHa]
    · rw [upd_ne hb]
  rw [eu] at I4
  -- self.frame = frame
  show PySem.wpAt _ _ _ (execs [stFld p] _) _ _ _
  refine wpAt_of_wpAny ?_
  have ps : PSs (nfX P w K mg base f (.ref cda) cc A outer s H' xe) [stFld p] _ := pss_cons (ps_ost (pv 0) (pv 1)) pss_nil
  refine wpAny_mono (ps.run [] _ _ H' { nx := fun _ H2 => Q .non H2, rt := fun _ _ => False } I4 ?_) (fun fl s' hs => ?_) (fun e s' hs => ?_)
  · refine ⟨y, rfl, .ref a, rfl, a, C, rfl, Y.T, Y.nof, .inl ⟨hHa, fun dx n ne => hQ dx n ne⟩⟩
  · cases fl with
    | ret u =>
      obtain ⟨_, _, _, _, _, z⟩ := hs
      exact z.elim
    | next =>
      obtain ⟨σ', H2, J, q⟩ := hs
      exact ⟨.non, H2, J.os, J.bare, J.base, J.hok, rfl, q⟩
    | brk => obtain ⟨_, _, _, z⟩ := hs; exact z.elim
    | cont => obtain ⟨_, _, _, z⟩ := hs; exact z.elim
  · rw [← hxe] at hs
    exact hs
end
end LE

set_option Elab.async false
set_option linter.all false
set_option maxRecDepth 100000
set_option maxHeartbeats 4000000
namespace LC
open PySem L2 PySem.Spec PyProof.Rows

/-! ### a comprehension's opening, of whatever kind -/
section
variable {X : Cx} {pins : List (Addr × Obj)} {s : Shared} {σ : L2.St} {H : Hp} {Q : VK}
theorem blk_fp {s3 : Shared} {H3 : Hp} {scope : Scope} {ce : Env} {fp : List Addr} {σ' : L2.St} {H' : Hp} {s' : Shared} {pn : List (Addr × Obj)} (I : Inv (X.blk s3 H3 scope ce fp) pn σ' H' s') (hp : ∀ p ∈ pn, p.1 ∉ fp) (n : ∀ b ∈ fp, H' b = none) : ∀ b ∈ fp, FpOk (X.blk s3 H3 scope ce fp) pn H' b := fun b hb => by
  have h1 := I.ok.exf b hb
  refine ⟨n b hb, h1.1, I.ok.exfs b hb, .inl hb, fun x c e => h1.2 x c e, fun p hp2 z => ?_⟩
  have hp3 : p ∈ ([] : List (Addr × Obj)) ++ pn := hp2
  rw [List.nil_append] at hp3
  exact hp p hp3 (z ▸ hb)

variable {e tg iter : Expr} {gs : List Comprehension} {newAcc : Sem Value} {o0 : Obj} {A0 : Addr → HO} {rd : It → Addr → L2.St → Hp → (Hp → Prop) → Prop} {scope : Scope} {own : List (Str × Nat)} {pos' : Pos} {wi : TI} {use : Option (Value → Sem Unit)} {Qf : Value → Shared → Prop}
/-- what is asked of the block's loop -/
def LoopOk (X : Cx) (e tg : Expr) (scope : Scope) (σw : L2.St) (rd : It → Addr → L2.St → Hp → (Hp → Prop) → Prop) : Prop :=
  ∀ (s0 : Shared) (H0 : Hp) (C : Addr) (cl : List (Str × Addr)) (fp : List Addr) (it D : Addr) (J : It) (tn : Nat → Heap → Prop) (R : Result → Shared → Prop) (Qd : Hp → Prop) (H : Hp) (s : Shared),
    Turn X.prog X.w X.K tg J fp it tn → Inv (X.blk s0 H0 scope (compEnvC scope cl C X.env) fp) [] σw H s → tn 0 s.heap → (∀ b ∈ fp, H b = none) → rd J D σw H Qd →
    (∀ H' s', Inv (X.blk s0 H0 scope (compEnvC scope cl C X.env) fp) [] σw H' s' → Qd H' → R (.ok .next) s') →
    codeAny (model X.prog X.w) X.A (.compLoop e 0 (.ref it) (.ref D) (compEnvC scope cl C X.env)) R s
theorem comp_open (hN : X.N.Nodup) (I : Inv X pins σ H s) (hi : PI X tg iter wi) (ok : BlkOk X.N X.env.scope scope own) (hcl : clausesOf e = ⟨tg, iter, [], 0⟩ :: gs) (hs : ∀ x, foldedSetIterable iter X.env x = pure x)
    (hnew : ∀ (s : Shared) (Q : Value → Shared → Prop) (E : Value → Shared → Prop), Q (.ref s.heap.objs.size) { s with heap := s.heap.push o0 } → wpAny (model X.prog X.w) X.A newAcc Q E s)
    (hobj : ∀ (H : Hp) (h : Heap), sysModules < h.objs.size → ObjOk X.prog X.w H (h.push o0) h.objs.size (A0 h.objs.size))
    (hstart : ∀ (it D : Addr) (ce : Env) (R : Result → Shared → Prop) (s : Shared), codeAny (model X.prog X.w) X.A (.compLoop e 0 (.ref it) (.ref D) ce) R s →
      (∀ (Q : Value → Shared → Prop) (E : Value → Shared → Prop), Q (.ref it) s → wpAny (model X.prog X.w) X.A (pyIter (.ref it)) Q E s) → codeAny (model X.prog X.w) X.A (.compStart e 0 (.ref it) (.ref D) ce) R s)
    (hloop : LoopOk X e tg scope (wipe σ (own.map (·.2))) rd)
    (h : wi σ H fun J H1 => ∀ D, H1 D = none → rd J D (wipe σ (own.map (·.2))) (upd H1 D (A0 D)) (Q (.ref D)))
    (hRR : ∀ D C s' m H', Inv X pins σ H' s' → Q (.ref D) H' → s'.heap.Ns C m → FpOk X pins H' C → compPost (model X.prog X.w) X.A X.xe use Qf (.ref D) C (.ok .next) s') :
    wpAny (model X.prog X.w) X.A (comprehension e scope X.env pos' newAcc false (eval iter X.env) use) Qf X.xe s := by
  have hcells : ∀ y ∈ scope.names, y.2 = .free → ∃ c, X.env.cells.lookup y.1 = some c := fun y hy z =>
    (ok.free y hy z).elim (fun k => I.ok.has _ (.inl k)) fun k => I.ok.has _ (.inr k)
  refine wpAny_comprehension_free (use := use) hcl hs (closure_ok hcells) ok.kind (fun y hy z => by rw [ok.uniq y hy, z]) (thn (hi.run pins s σ H _ I h) fun xv s1 hx => thn hx fun itv s2 h2 => ?_)
  obtain ⟨it, fp, tn, J, H2, rfl, I2, T, st2, f2, q⟩ := h2
  refine hnew s2 _ _ (newEnv_comp ?_)
  obtain ⟨D, hD⟩ : ∃ D, D = s2.heap.objs.size := ⟨_, rfl⟩
  rw [← hD]
  have fresh : H2 D = none := I2.hok.fresh (Nat.le_of_eq hD.symm)
  have grows : ∀ b o, s2.heap.get? b = some o → (s2.heap.push o0).get? b = some o := fun b o z => Heap.get?_push_of_some _ z
  have I3 : Inv X pins σ (upd H2 D (A0 D)) { s2 with heap := s2.heap.push o0 } := by
    rw [hD]; exact I2.laid (t' := s2.toks) grows (Nat.le_refl _) (hobj _ _ I2.big)
  have low : ∀ b ∈ fp, b < s2.heap.objs.size := fun b hb => let ⟨o, z, _⟩ := T.obj _ _ st2 b hb; Heap.lt_size z
  have f3 : ∀ b ∈ fp, FpOk X pins (upd H2 D (A0 D)) b ∧ b < (s2.heap.push o0).objs.size := fun b hb => by
    have hlt := low b hb
    refine ⟨⟨(upd_ne (by rw [hD]; exact Nat.ne_of_lt hlt)).trans (f2 b hb).1, (f2 b hb).2⟩, ?_⟩
    rw [Heap.size_push]; exact Nat.lt_succ_of_lt hlt
  have I4 := block_start I3 ok hN f3
  generalize hs3 : ({ s2 with heap := s2.heap.push o0 } : Shared) = s3 at I3 I4 ⊢
  have hh3 : s3.heap = s2.heap.push o0 := by rw [← hs3]
  have st4 : tn 0 (pushCells (s3.heap.push { cls := .type "dict", data := .dict #[] }) scope.names) := T.keep _ _ _ st2 fun b _ o z =>
    pushCells_keeps _ _ _ _ (Heap.get?_push_of_some _ (by rw [hh3]; exact grows b o z))
  have main := hloop s3 (upd H2 D (A0 D)) s3.heap.objs.size (cellsFrom (s3.heap.objs.size + 1) scope.names (cloFrom X.env.cells scope.names [])) fp it D J tn
    (compPost (model X.prog X.w) X.A X.xe use Qf (.ref D) s3.heap.objs.size) (Q (.ref D)) _ _ T I4 st4 (fun b hb => (f3 b hb).1.1) (q D fresh) fun H' s' I' qq => ?_
  · exact hstart it D _ _ _ main fun Q' E' z => T.self X.A 0 _ _ _ st4 z
  · have I7 : Inv X pins σ H' s' := I3.call' (ch := fp) I'.os I'.base I'.hok I'.bare fun b hb => (f3 b hb).1.2.2.2 |> fun z => ⟨z.1, (f3 b hb).1.2.1, z.2.1, z.2.2⟩
    have nC : H' s3.heap.objs.size = none := I'.free
    obtain ⟨m, hn, _⟩ := I'.loc
    exact hRR D s3.heap.objs.size s' m H' I7 qq hn (I3.fpOk (Nat.le_refl _) nC)
end

/-! ### {elt for tg in iter} -/
section
variable {X : Cx} {σ : L2.St} {elt tg iter : Expr} {scope : Scope} {pos : Pos} {g : TG} {te : TE} {vs : List Nat} {stp : Addr → V → Hp → (Hp → Prop) → Prop}
/-- what set.add is to do -/
def AddOk (Y : Cx) (stp : Addr → V → Hp → (Hp → Prop) → Prop) : Prop := ∀ (pins : List (Addr × Obj)) (σ : L2.St) (H : Hp) (s : Shared) (y : V) (v : Value) (D : Addr) (Nx : Hp → Prop), Inv Y pins σ H s → RelV y v → stp D y H Nx →
  wpAny (model Y.prog Y.w) Y.A (call (.builtin "set.add") [.ref D, v]) (fun _ s' => ∃ H', Inv Y pins σ H' s' ∧ Nx H') (fun _ _ => False) s
def rdS (g : TG) (te : TE) (vs : List Nat) (stp : Addr → V → Hp → (Hp → Prop) → Prop) : It → Addr → L2.St → Hp → (Hp → Prop) → Prop := fun J D σw H Qd => ∃ W : Nat → Nat → Hp → Prop, (∃ m, W 0 m H) ∧ ∀ i m H, W i m H →
  (J.stop i H ∧ Qd H) ∨ (J.go i H ∧ ∃ Nx : Hp → Prop, (∀ H', Nx H' → ∃ m', m' < m ∧ W (i + 1) m' H') ∧ ∀ x H', J.yld i H x H' → g x σw H' fun σ2 H2 => wipe σ2 vs = σw ∧ te σ2 H2 fun y H4 => stp D y H4 Nx)
theorem loopS (hc : X.calm = true) (hg : ∀ (s : Shared) (H : Hp) (C : Addr) (cl : List (Str × Addr)) (fp : List Addr), PG (X.blk s H scope (compEnvC scope cl C X.env) fp) tg g)
    (he : ∀ (s : Shared) (H : Hp) (C : Addr) (cl : List (Str × Addr)) (fp : List Addr), PE (X.blk s H scope (compEnvC scope cl C X.env) fp) elt te)
    (ha : ∀ (s : Shared) (H : Hp) (C : Addr) (cl : List (Str × Addr)) (fp : List Addr), AddOk (X.blk s H scope (compEnvC scope cl C X.env) fp) stp) :
    LoopOk X (.SetComp elt [⟨tg, iter, [], 0⟩] scope pos) tg scope (wipe σ vs) (rdS g te vs stp) := by
  intro s0 H0 C cl fp it D J tn R Qd H s T I st n h fin
  obtain ⟨W, ⟨m0, w0⟩, turn⟩ := h
  have pg := hg s0 H0 C cl fp
  have pe := he s0 H0 C cl fp
  have pa := ha s0 H0 C cl fp
  generalize hce : compEnvC scope cl C X.env = ce at I fin pg pe pa ⊢
  refine PpSet.compLoopS_any (fun k s' => ∃ i H', Inv (X.blk s0 H0 scope ce fp) [] (wipe σ vs) H' s' ∧ tn i s'.heap ∧ (∀ b ∈ fp, H' b = none) ∧ W i k H') ?_ m0 ⟨0, H, I, st, n, w0⟩
  rintro k s5 ⟨i, H5, I5, st5, n5, w5⟩
  have fp5 := blk_fp I5 (fun p hp => by cases hp) n5
  rcases turn i k H5 w5 with ⟨stop, qq⟩ | ⟨go, Nx, hNx, step⟩
  · refine thnF (T.done (X.blk s0 H0 scope ce fp) rfl rfl rfl hc i [] s5 _ H5 (fun _ _ => False) I5 fp5 st5 stop) fun r s6 hr => ?_
    obtain ⟨rfl, I6⟩ := hr
    exact fin H5 s6 I6 qq
  · refine thnF (T.item (X.blk s0 H0 scope ce fp) rfl rfl rfl hc i [] s5 _ H5 (fun _ _ => False) I5 fp5 st5 go) fun r s6 hr => ?_
    obtain ⟨u, rfl, h6⟩ := hr
    refine thnF h6 fun _ s7 h7 => ?_
    obtain ⟨x, H7, I7, r7, y7, st7, n7⟩ := h7
    have I7' := I7.pinned (blk_fp I7 (fun p hp => by cases hp) n7) (T.obj _ _ st7)
    refine thnF (pg.run _ s7 _ H7 x u _ I7' r7 (step x H7 y7)) fun _ s8 h8 => ?_
    obtain ⟨σ8, H8, I8, hw8, q8⟩ := h8
    refine wpAny_tests_nil ?_
    rw [if_pos rfl]
    refine thnF (pe.run _ s8 σ8 H8 _ I8 q8) fun z s10 h10 => ?_
    obtain ⟨yv, H10, I10, r10, q10⟩ := h10
    refine thnF (pa _ _ _ s10 yv z D Nx I10 r10 q10) fun _ s11 h11 => ?_
    obtain ⟨H11, I11, nx⟩ := h11
    obtain ⟨m', hm, w'⟩ := hNx H11 nx
    have stays : ∀ b ∈ fp, ∀ o, s7.heap.get? b = some o → s11.heap.get? b = some o ∧ H11 b = none := fun b hb o z =>
      let p := I11.pin (b, o) (List.mem_append_right _ (List.mem_append_right _ (mem_pinsAt hb z)))
      ⟨p.1, p.2.1⟩
    refine ⟨m', hm, i + 1, H11, (I11.unpinned (pins := [])).weak (by rw [← hw8, wipe_length]) (fun j v z => ?_), T.keep _ _ _ st7 fun b hb o z => (stays b hb o z).1, fun b hb => ?_, w'⟩
    · rw [← hw8] at z
      exact (wipe_some z).1
    · obtain ⟨o, z, _⟩ := T.obj _ _ st7 b hb
      exact (stays b hb o z).2
end
end LC

set_option Elab.async false
set_option linter.all false
set_option maxRecDepth 100000
set_option maxHeartbeats 4000000
namespace LC
open PySem L2 PySem.Spec PyProof.Rows

/-! ### set.add of a whole number, of a tuple of whole numbers -/
def stpI (w : World) (D : Addr) (y : V) (H : Hp) (Nx : Hp → Prop) : Prop := ∃ (k : Int) (S : Int → Bool) (n : Nat), y = .int k ∧ H D = some (SetO w D S n) ∧ n + 1 < scanBound ∧ Nx (upd H D (SetO w D (fun j => S j || decide (j = k)) (if S k = true then n else n + 1)))
theorem add_int {Y : Cx} : AddOk Y (stpI Y.w) := by
  intro pins σ H s y v D Nx I r h
  obtain ⟨k, S, n, rfl, hD, room, nx⟩ := h
  obtain ⟨tk, rfl⟩ := r
  refine setR_add (setO_get I hD) room fun h' sb new => ?_
  obtain ⟨o, _, _, _, ho, _⟩ := id new
  exact ⟨_, I.write (e := D) (t' := s.toks + 1) (by rw [hD]; trivial) (.inl rfl) (fun b u hb hu => (sb.2 b hb).trans hu) ⟨o, ho⟩ (setO_new new), nx⟩
def stpT (K : PySem.W.Frag) (P : Program) (w : World) (D : Addr) (y : V) (H : Hp) (Nx : Hp → Prop) : Prop := ∃ (p : Addr) (k : List Int) (L : List (Addr × List Int)), y = .ref p ∧ SqT K H p (k.map V.int) ∧ H D = some (SetTO P w D L) ∧ (∀ q ∈ L, SqT K H q.1 (q.2.map V.int)) ∧ L.length + 1 < 64 ∧
  ∀ L' : List (Addr × List Int), (k ∈ L.map (·.2) → L' = L) → (k ∉ L.map (·.2) → L'.Perm ((p, k) :: L)) → Nx (upd H D (SetTO P w D L'))
theorem setTO_get {X : Cx} {pins : List (Addr × Obj)} {σ : L2.St} {H : Hp} {s : Shared} {a : Addr} {L : List (Addr × List Int)} (I : Inv X pins σ H s) (ha : H a = some (SetTO X.prog X.w a L)) : SetT0 X.prog X.w s.heap a L := (I.hok a _ ha).1
theorem add_tup {Y : Cx} (hu : Y.A.units + 64 < cLine) : AddOk Y (stpT Y.K Y.prog Y.w) := by
  intro pins σ H s y v D Nx I r h
  obtain ⟨p, k, L, rfl, hp, hD, hL, few, nx⟩ := h
  have hv : v = Value.ref p := r
  subst hv
  obtain ⟨es, ep, t, R⟩ := (setTO_get I hD).full fun q hq => I.isT (hL q hq)
  have hx := I.isT hp
  obtain ⟨o, ho, hex, hd⟩ := R.ob
  have hT : s.TypeIs (.ref D) "set" := ⟨o, ho, hex.1⟩
  have hu1 : Y.A.in1.units < cLine := by show Y.A.units + 1 < cLine; omega
  refine wpAny_call_entry F.slot_set_add hT F.entry_set_add ?_ (F.args_set_add_2 _ _)
  unfold Builtin.«set.add» Builtin.Frozenset.oneOther
  simp only [List.isEmpty_nil, bind_assoc]
  unfold Builtin.Frozenset.addrOf setAdd
  refine wpAny_bind (wpAny_pure ?_)
  try dsimp only
  refine wpAny_bind (wpAny_pure ?_)
  try dsimp only
  refine wpAny_bind (wpAny_holding (wpAny_bind (wpAny_pyHash_tuple hu1 hx ?_)))
  refine add_at (s := { s with toks := s.toks + (k.length + 1) }) R hx hu1 few fun b h' L' es' ep' t' sb R' c1 c2 => ?_
  show wpAny _ _ (ret Value.none) _ _ _
  refine wpAny_pure ⟨_, rfl, ?_⟩
  obtain ⟨o', ho', _⟩ := R'.ob
  exact ⟨_, I.write (e := D) (t' := s.toks + (k.length + 1)) (by rw [hD]; trivial) (.inl rfl) (fun b u hb hu => (sb.2 b hb).trans hu) ⟨o', ho'⟩ (setTO_new R'.t0), nx L' c1 c2⟩

/-! ### the rule, one clause, the items tuples -/
section
variable {X : Cx} {elt tg iter : Expr} {scope : Scope} {own : List (Str × Nat)} {pos : Pos} {wi : TI} {g : TG} {te : TE}
/-- {elt for tg in iter}, elt a tuple of whole numbers -/
def tScT (K : PySem.W.Frag) (P : Program) (w : World) (wi : TI) (g : TG) (te : TE) (vs : List Nat) : TE := fun σ H Q => wi σ H fun J H1 => ∀ D, H1 D = none → rdS g te vs (stpT K P w) J D (wipe σ vs) (upd H1 D (SetTO P w D [])) (Q (.ref D))
abbrev set0 (w : World) : Obj := { cls := .type "set", dict := none, data := .set #[] 0 (.fresh 0 0 (!w.params.followText "set-order")) }
theorem pe_scT (hc : X.calm = true) (hu : X.A.units + 64 < cLine) (hN : X.N.Nodup) (hi : PI X tg iter wi) (ok : BlkOk X.N X.env.scope scope own)
    (hg : ∀ (s : Shared) (H : Hp) (C : Addr) (cl : List (Str × Addr)) (fp : List Addr), PG (X.blk s H scope (compEnvC scope cl C X.env) fp) tg g)
    (he : ∀ (s : Shared) (H : Hp) (C : Addr) (cl : List (Str × Addr)) (fp : List Addr), PE (X.blk s H scope (compEnvC scope cl C X.env) fp) elt te) (hs : ∀ x, foldedSetIterable iter X.env x = pure x := by intro _; rfl) :
    PE X (.SetComp elt [⟨tg, iter, [], 0⟩] scope pos) (tScT X.K X.prog X.w wi g te (own.map (·.2))) := by
  refine ⟨fun pins s σ H Q I h => ?_⟩
  rw [PpSet.eval_SetComp]
  refine comp_open (o0 := set0 X.w) (A0 := fun D => SetTO X.prog X.w D []) (use := none) (Qf := _) hN I hi ok rfl hs (fun s Q E q => PpSet.newSet_ok q) (fun H h _ => ?_) (fun it D ce R s h0 hp => ?_)
    (loopS (stp := stpT X.K X.prog X.w) hc hg he fun s H C cl fp => add_tup (Y := X.blk s H scope (compEnvC scope cl C X.env) fp) hu) h fun D C s' m H' I' q hn f => ?_
  · exact setTO_new (setTR_fresh (Heap.get?_push_size _ rfl)).t0
  · exact PpSet.codeAny_compStart_set h0 (hp _ _ h0)
  · obtain ⟨f0, f1, f2, f3, f4, f5⟩ := f
    exact ⟨m, hn, fun h'' sb => ⟨.ref D, H', I'.turned (t' := s'.toks) (fun b o hb z => (sb.2 b hb).trans z) f0 f1 f3 f4 f5, rfl, q⟩⟩
end
end LC

set_option Elab.async false
set_option linter.all false
set_option maxRecDepth 100000
set_option maxHeartbeats 4000000
namespace LC
open PySem L2 PySem.Spec PyProof.Rows

/-! ### {elt for t0 in i0 for t1 in i1} -/
section
variable {prog : Program} {w : World} {A : Around} {R : Result → Shared → Prop} {s : Shared} {elt t0 i0 t1 i1 : Expr} {scope : Scope} {pos : Pos} {it acc : Value} {env : Env}
theorem turnOut (elt t0 i0 t1 i1 : Expr) (scope : Scope) (pos : Pos) (it acc : Value) (env : Env) : compTurn (.SetComp elt [⟨t0, i0, [], 0⟩, ⟨t1, i1, [], 0⟩] scope pos) 0 it acc env = (do
    standAt i0.pos
    match ← pyNext it with
    | none => pure (.done .next)
    | some v =>
      letOwnedTupleGo t0 it v
      assign t0 env v
      let x ← eval i1 env
      standAt i1.pos
      let x ← foldedSetIterable i1 env x
      let _ ← runOwn (.compStart (.SetComp elt [⟨t0, i0, [], 0⟩, ⟨t1, i1, [], 0⟩] scope pos) 1 (← holding [x] (pyIter x)) acc env) env
      again (.compLoop (.SetComp elt [⟨t0, i0, [], 0⟩, ⟨t1, i1, [], 0⟩] scope pos) 0 it acc env)) := by rfl
theorem turnIn (elt t0 i0 t1 i1 : Expr) (scope : Scope) (pos : Pos) (it acc : Value) (env : Env) : compTurn (.SetComp elt [⟨t0, i0, [], 0⟩, ⟨t1, i1, [], 0⟩] scope pos) 1 it acc env = (do
    standAt i1.pos
    match ← pyNext it with
    | none => pure (.done .next)
    | some v =>
      letOwnedTupleGo t1 it v
      assign t1 env v
      (do let v ← eval elt env; standAt elt.pos; let _ ← call (.builtin "set.add") [acc, v])
      again (.compLoop (.SetComp elt [⟨t0, i0, [], 0⟩, ⟨t1, i1, [], 0⟩] scope pos) 1 it acc env)) := by rfl
/-- the first clause's loop; nothing is raised -/
theorem loopOut (hs : ∀ x, foldedSetIterable i1 env x = pure x) (I : Nat → Shared → Prop)
    (turn : ∀ n s, I n s → wpAny (model prog w) A (pyNext it) (fun r s1 => match r with
      | none => R (.ok .next) s1
      | some v => wpAny (model prog w) A (letOwnedTupleGo t0 it v) (fun _ s2 => wpAny (model prog w) A (assign t0 env v) (fun _ s3 => wpAny (model prog w) A (eval i1 env) (fun x s4 => wpAny (model prog w) A (pyIter x) (fun it1 s5 =>
          codeAny (model prog w) A (.compStart (.SetComp elt [⟨t0, i0, [], 0⟩, ⟨t1, i1, [], 0⟩] scope pos) 1 it1 acc env) (fun r s' => match r with
            | .ok _ => ∃ m, m < n ∧ I m s'
            | .error _ => False) s5) (fun _ _ => False) s4) (fun _ _ => False) s3) (fun _ _ => False) s2) (fun _ _ => False) s1) (fun _ _ => False) s)
    (n : Nat) (h : I n s) : codeAny (model prog w) A (.compLoop (.SetComp elt [⟨t0, i0, [], 0⟩, ⟨t1, i1, [], 0⟩] scope pos) 0 it acc env) R s := by
  refine codeAny_loop rfl I (fun n s hI => ?_) n h
  show wpAny _ A ((compTurn (.SetComp elt [⟨t0, i0, [], 0⟩, ⟨t1, i1, [], 0⟩] scope pos) 0 it acc env).onRaise _) _ _ s
  refine wpAny_noted ?_
  rw [turnOut]
  refine wpAny_bind (wpAny_standAt (wpAny_bind (thnF (turn n s hI) fun r s1 h1 => ?_)))
  cases r with
  | none => exact wpAny_pure h1
  | some v =>
    refine wpAny_bind (thnF h1 fun _ s2 h2 => wpAny_bind (thnF h2 fun _ s3 h3 => ?_))
    refine wpAny_bind (thnF h3 fun x s4 h4 => wpAny_bind (wpAny_standAt (wpAny_bind (wpAny_of_eq (hs x) ?_))))
    refine wpAny_bind (wpAny_holding (thnF h4 fun it1 s5 h5 => ?_))
    refine wpAny_bind (wpAny_runOwn ?_)
    rw [Around.mark_none]
    refine codeAny_mono h5 fun r s' hr => ?_
    cases r with
    | ok f =>
      first
        | exact wpAny_pure ⟨rfl, hr⟩
        | exact wpAny_bind (wpAny_pure (wpAny_pure ⟨rfl, hr⟩))
    | error e => exact hr.elim
/-- the second's -/
theorem loopIn (I : Nat → Shared → Prop)
    (turn : ∀ n s, I n s → wpAny (model prog w) A (pyNext it) (fun r s1 => match r with
      | none => R (.ok .next) s1
      | some v => wpAny (model prog w) A (letOwnedTupleGo t1 it v) (fun _ s2 => wpAny (model prog w) A (assign t1 env v) (fun _ s3 => wpAny (model prog w) A (eval elt env) (fun x s4 =>
          wpAny (model prog w) A (call (.builtin "set.add") [acc, x]) (fun _ s5 => ∃ m, m < n ∧ I m s5) (fun _ _ => False) s4) (fun _ _ => False) s3) (fun _ _ => False) s2) (fun _ _ => False) s1) (fun _ _ => False) s)
    (n : Nat) (h : I n s) : codeAny (model prog w) A (.compLoop (.SetComp elt [⟨t0, i0, [], 0⟩, ⟨t1, i1, [], 0⟩] scope pos) 1 it acc env) R s := by
  refine codeAny_loop rfl I (fun n s hI => ?_) n h
  show wpAny _ A ((compTurn (.SetComp elt [⟨t0, i0, [], 0⟩, ⟨t1, i1, [], 0⟩] scope pos) 1 it acc env).onRaise _) _ _ s
  refine wpAny_noted ?_
  rw [turnIn]
  refine wpAny_bind (wpAny_standAt (wpAny_bind (thnF (turn n s hI) fun r s1 h1 => ?_)))
  cases r with
  | none => exact wpAny_pure h1
  | some v =>
    refine wpAny_bind (thnF h1 fun _ s2 h2 => wpAny_bind (thnF h2 fun _ s3 h3 => ?_))
    exact wpAny_bind (wpAny_bind (thnF h3 fun x s4 h4 => wpAny_bind (wpAny_standAt (wpAny_bind (thnF h4 fun _ s5 h5 => wpAny_pure (wpAny_pure ⟨rfl, h5⟩))))))
theorem startIn (h0 : codeAny (model prog w) A (.compLoop (.SetComp elt [⟨t0, i0, [], 0⟩, ⟨t1, i1, [], 0⟩] scope pos) 1 it acc env) R s)
    (h : ∀ (Q : Value → Shared → Prop) (E : Value → Shared → Prop), Q it s → wpAny (model prog w) A (pyIter it) Q E s) :
    codeAny (model prog w) A (.compStart (.SetComp elt [⟨t0, i0, [], 0⟩, ⟨t1, i1, [], 0⟩] scope pos) 1 it acc env) R s := by
  refine codeAny_of_tree ?_
  show wpAny _ _ ((compStart (.SetComp elt [⟨t0, i0, [], 0⟩, ⟨t1, i1, [], 0⟩] scope pos) 1 it acc env).onRaise _) _ _ s
  refine wpAny_notedAt ?_
  unfold compStart
  show wpAny _ _ (ask >>= _) _ _ s
  refine wpAny_bind (wpAny_askSetting (wpAny_ite ?_))
  split
  · first
      | exact wpAny_pure ⟨rfl, h0⟩
      | exact wpAny_bind (wpAny_pure (wpAny_pure ⟨rfl, h0⟩))
  · refine wpAny_bind (wpAny_rule ?_)
    show wpAny _ _ (standAt i1.pos >>= _) _ _ s
    exact wpAny_bind (wpAny_standAt (wpAny_bind (h _ _ (wpAny_pure ⟨rfl, h0⟩))))
end

section
variable {X : Cx} {σ : L2.St} {elt tg iter tg1 iter1 : Expr} {scope : Scope} {own : List (Str × Nat)} {pos : Pos} {g g1 : TG} {te : TE} {wi wi1 : TI} {vs vs1 : List Nat} {stp : Addr → V → Hp → (Hp → Prop) → Prop}
/-- a second source's loop: from the heap H on, to Nx -/
def rdIn (J1 : It) (D : Addr) (g1 : TG) (te : TE) (vs1 : List Nat) (stp : Addr → V → Hp → (Hp → Prop) → Prop) (σ2 : L2.St) (Nx : Hp → Prop) (H : Hp) : Prop := ∃ W1 : Nat → Nat → Hp → Prop, (∃ m, W1 0 m H) ∧ ∀ j k H, W1 j k H →
  (J1.stop j H ∧ Nx H) ∨ (J1.go j H ∧ ∃ Nx1 : Hp → Prop, (∀ H', Nx1 H' → ∃ k', k' < k ∧ W1 (j + 1) k' H') ∧ ∀ x H', J1.yld j H x H' → g1 x (wipe σ2 vs1) H' fun σ3 H5 => wipe σ3 vs1 = wipe σ2 vs1 ∧ te σ3 H5 fun y H7 => stp D y H7 Nx1)
def rdS2 (g : TG) (wi1 : TI) (g1 : TG) (te : TE) (vs vs1 : List Nat) (stp : Addr → V → Hp → (Hp → Prop) → Prop) : It → Addr → L2.St → Hp → (Hp → Prop) → Prop := fun J D σw H Qd => ∃ W : Nat → Nat → Hp → Prop, (∃ m, W 0 m H) ∧ ∀ i m H, W i m H →
  (J.stop i H ∧ Qd H) ∨ (J.go i H ∧ ∃ Nx : Hp → Prop, (∀ H', Nx H' → ∃ m', m' < m ∧ W (i + 1) m' H') ∧ ∀ x H', J.yld i H x H' → g x σw H' fun σ2 H2 => wipe σ2 vs = σw ∧ wi1 σ2 H2 fun J1 H4 => rdIn J1 D g1 te vs1 stp σ2 Nx H4)
theorem loopS2 (hc : X.calm = true) (hv : ∀ i ∈ vs1, i ∈ vs) (hg : ∀ (s : Shared) (H : Hp) (C : Addr) (cl : List (Str × Addr)) (fp : List Addr), PG (X.blk s H scope (compEnvC scope cl C X.env) fp) tg g)
    (hi1 : ∀ (s : Shared) (H : Hp) (C : Addr) (cl : List (Str × Addr)) (fp : List Addr), PI (X.blk s H scope (compEnvC scope cl C X.env) fp) tg1 iter1 wi1)
    (hg1 : ∀ (s : Shared) (H : Hp) (C : Addr) (cl : List (Str × Addr)) (fp : List Addr), PG (X.blk s H scope (compEnvC scope cl C X.env) fp) tg1 g1)
    (he : ∀ (s : Shared) (H : Hp) (C : Addr) (cl : List (Str × Addr)) (fp : List Addr), PE (X.blk s H scope (compEnvC scope cl C X.env) fp) elt te)
    (ha : ∀ (s : Shared) (H : Hp) (C : Addr) (cl : List (Str × Addr)) (fp : List Addr), AddOk (X.blk s H scope (compEnvC scope cl C X.env) fp) stp) (hs1 : ∀ env x, foldedSetIterable iter1 env x = pure x) :
    LoopOk X (.SetComp elt [⟨tg, iter, [], 0⟩, ⟨tg1, iter1, [], 0⟩] scope pos) tg scope (wipe σ vs) (rdS2 g wi1 g1 te vs vs1 stp) := by
  intro s0 H0 C cl fp it D J tn R Qd H s T I st n h fin
  obtain ⟨W, ⟨m0, w0⟩, turn⟩ := h
  have pg := hg s0 H0 C cl fp
  have pi1 := hi1 s0 H0 C cl fp
  have pg1 := hg1 s0 H0 C cl fp
  have pe := he s0 H0 C cl fp
  have pa := ha s0 H0 C cl fp
  have hs2 := hs1 (compEnvC scope cl C X.env)
  generalize hce : compEnvC scope cl C X.env = ce at I fin pg pi1 pg1 pe pa hs2 ⊢
  refine loopOut hs2 (fun k s' => ∃ i H', Inv (X.blk s0 H0 scope ce fp) [] (wipe σ vs) H' s' ∧ tn i s'.heap ∧ (∀ b ∈ fp, H' b = none) ∧ W i k H') ?_ m0 ⟨0, H, I, st, n, w0⟩
  rintro k s5 ⟨i, H5, I5, st5, n5, w5⟩
  have fp5 := blk_fp I5 (fun p hp => by cases hp) n5
  rcases turn i k H5 w5 with ⟨stop, qq⟩ | ⟨go, Nx, hNx, step⟩
  · refine thnF (T.done (X.blk s0 H0 scope ce fp) rfl rfl rfl hc i [] s5 _ H5 (fun _ _ => False) I5 fp5 st5 stop) fun r s6 hr => ?_
    obtain ⟨rfl, I6⟩ := hr
    exact fin H5 s6 I6 qq
  · refine thnF (T.item (X.blk s0 H0 scope ce fp) rfl rfl rfl hc i [] s5 _ H5 (fun _ _ => False) I5 fp5 st5 go) fun r s6 hr => ?_
    obtain ⟨u, rfl, h6⟩ := hr
    refine thnF h6 fun _ s7 h7 => ?_
    obtain ⟨x, H7, I7, r7, y7, st7, n7⟩ := h7
    have I7' := I7.pinned (blk_fp I7 (fun p hp => by cases hp) n7) (T.obj _ _ st7)
    refine thnF (pg.run _ s7 _ H7 x u _ I7' r7 (step x H7 y7)) fun _ s8 h8 => ?_
    obtain ⟨σ8, H8, I8, hw8, q8⟩ := h8
    -- the outer turn's end
    have back : ∀ {σ9 : L2.St} {s' : Shared} {H' : Hp}, Inv (X.blk s0 H0 scope ce fp) ([] ++ pinsAt fp s7.heap) σ9 H' s' → (wipe σ vs).length = σ9.length → (∀ (j : Nat) v, (wipe σ vs)[j]? = some (some v) → σ9[j]? = some (some v)) → Nx H' →
        ∃ m, m < k ∧ ∃ i H', Inv (X.blk s0 H0 scope ce fp) [] (wipe σ vs) H' s' ∧ tn i s'.heap ∧ (∀ b ∈ fp, H' b = none) ∧ W i m H' := fun {σ9 s' H'} I' hl hk nx => by
      obtain ⟨m', hm, w'⟩ := hNx H' nx
      have stays : ∀ b ∈ fp, ∀ o, s7.heap.get? b = some o → s'.heap.get? b = some o ∧ H' b = none := fun b hb o z =>
        let p := I'.pin (b, o) (List.mem_append_right _ (List.mem_append_right _ (mem_pinsAt hb z)))
        ⟨p.1, p.2.1⟩
      refine ⟨m', hm, i + 1, H', (I'.unpinned (pins := [])).weak hl hk, T.keep _ _ _ st7 fun b hb o z => (stays b hb o z).1, fun b hb => ?_, w'⟩
      obtain ⟨o, z, _⟩ := T.obj _ _ st7 b hb
      exact (stays b hb o z).2
    have sub8 : ∀ (j : Nat) v, (wipe σ vs)[j]? = some (some v) → (wipe σ8 vs1)[j]? = some (some v) := fun j v z => by
      rw [← hw8] at z
      obtain ⟨z1, z2⟩ := wipe_some z
      rw [wipe_out fun z3 => z2 (hv j z3)]
      exact z1
    refine thnF (pi1.run _ s8 σ8 H8 _ I8 q8) fun xv s10 hx => thnF hx fun itv s11 h11 => ?_
    obtain ⟨it1, fp1, tn1, J1, H11, rfl, I11, T1, st11, f11, W1, ⟨m1, w1⟩, turn1⟩ := h11
    have stat1 : ∀ {H' : Hp}, (∀ b ∈ fp1, H' b = none) → ∀ b ∈ fp1, FpOk (X.blk s0 H0 scope ce fp) ([] ++ pinsAt fp s7.heap) H' b := fun hn b hb => ⟨hn b hb, (f11 b hb).2⟩
    refine startIn ?_ fun Q E z => T1.self X.A 0 _ _ _ st11 z
    refine loopIn (fun k1 s' => ∃ j H', Inv (X.blk s0 H0 scope ce fp) ([] ++ pinsAt fp s7.heap) (wipe σ8 vs1) H' s' ∧ tn1 j s'.heap ∧ (∀ b ∈ fp1, H' b = none) ∧ W1 j k1 H') ?_ m1 ⟨0, H11, I11.weak (wipe_length _ _) (fun j v z => (wipe_some z).1), st11, fun b hb => (f11 b hb).1, w1⟩
    rintro k1 s12 ⟨j, H12, I12, st12, n12, w12⟩
    rcases turn1 j k1 H12 w12 with ⟨stop1, nx1⟩ | ⟨go1, Nx1, hNx1, step1⟩
    · refine thnF (T1.done (X.blk s0 H0 scope ce fp) rfl rfl rfl hc j _ s12 (wipe σ8 vs1) H12 (fun _ _ => False) I12 (stat1 n12) st12 stop1) fun r s13 hr => ?_
      obtain ⟨rfl, I13⟩ := hr
      exact back I13 (by rw [wipe_length σ8 vs1, ← hw8, wipe_length]) sub8 nx1
    · refine thnF (T1.item (X.blk s0 H0 scope ce fp) rfl rfl rfl hc j _ s12 (wipe σ8 vs1) H12 (fun _ _ => False) I12 (stat1 n12) st12 go1) fun r s13 hr => ?_
      obtain ⟨u1, rfl, h13⟩ := hr
      refine thnF h13 fun _ s14 h14 => ?_
      obtain ⟨x1, H14, I14, r14, y14, st14, n14⟩ := h14
      have I14' := I14.pinned (stat1 n14) (T1.obj _ _ st14)
      refine thnF (pg1.run _ s14 (wipe σ8 vs1) H14 x1 u1 _ I14' r14 (step1 x1 H14 y14)) fun _ s15 h15 => ?_
      obtain ⟨σ15, H15, I15, hw15, q15⟩ := h15
      refine thnF (pe.run _ s15 σ15 H15 _ I15 q15) fun z s17 h17 => ?_
      obtain ⟨yv, H17, I17, r17, q17⟩ := h17
      refine thnF (pa _ _ _ s17 yv z D Nx1 I17 r17 q17) fun _ s18 h18 => ?_
      obtain ⟨H18, I18, nx⟩ := h18
      obtain ⟨m', hm, w'⟩ := hNx1 H18 nx
      have stays : ∀ b ∈ fp1, ∀ o, s14.heap.get? b = some o → s18.heap.get? b = some o ∧ H18 b = none := fun b hb o z =>
        let p := I18.pin (b, o) (List.mem_append_right _ (List.mem_append_right _ (mem_pinsAt hb z)))
        ⟨p.1, p.2.1⟩
      refine ⟨m', hm, j + 1, H18, I18.unpinned.weak (by rw [← hw15, wipe_length]) (fun j v z => ?_), T1.keep _ _ _ st14 fun b hb o z => (stays b hb o z).1, fun b hb => ?_, w'⟩
      · rw [← hw15] at z
        exact (wipe_some z).1
      · obtain ⟨o, z, _⟩ := T1.obj _ _ st14 b hb
        exact (stays b hb o z).2
/-- {elt for tg in iter for tg1 in iter1}, elt a whole number -/
def tSc2 (w : World) (wi : TI) (g : TG) (wi1 : TI) (g1 : TG) (te : TE) (vs vs1 : List Nat) : TE := fun σ H Q => wi σ H fun J H1 => ∀ D, H1 D = none → rdS2 g wi1 g1 te vs vs1 (stpI w) J D (wipe σ vs) (upd H1 D (SetO w D (fun _ => false) 0)) (Q (.ref D))
theorem pe_sc2 (hc : X.calm = true) (hN : X.N.Nodup) (hi : PI X tg iter wi) (ok : BlkOk X.N X.env.scope scope own) (hv : ∀ i ∈ vs1, i ∈ own.map (·.2))
    (hg : ∀ (s : Shared) (H : Hp) (C : Addr) (cl : List (Str × Addr)) (fp : List Addr), PG (X.blk s H scope (compEnvC scope cl C X.env) fp) tg g)
    (hi1 : ∀ (s : Shared) (H : Hp) (C : Addr) (cl : List (Str × Addr)) (fp : List Addr), PI (X.blk s H scope (compEnvC scope cl C X.env) fp) tg1 iter1 wi1)
    (hg1 : ∀ (s : Shared) (H : Hp) (C : Addr) (cl : List (Str × Addr)) (fp : List Addr), PG (X.blk s H scope (compEnvC scope cl C X.env) fp) tg1 g1)
    (he : ∀ (s : Shared) (H : Hp) (C : Addr) (cl : List (Str × Addr)) (fp : List Addr), PE (X.blk s H scope (compEnvC scope cl C X.env) fp) elt te)
    (hs : ∀ x, foldedSetIterable iter X.env x = pure x := by intro _; rfl) (hs1 : ∀ env x, foldedSetIterable iter1 env x = pure x := by intro _ _; rfl) :
    PE X (.SetComp elt [⟨tg, iter, [], 0⟩, ⟨tg1, iter1, [], 0⟩] scope pos) (tSc2 X.w wi g wi1 g1 te (own.map (·.2)) vs1) := by
  refine ⟨fun pins s σ H Q I h => ?_⟩
  rw [PpSet.eval_SetComp]
  refine comp_open (o0 := set0 X.w) (A0 := fun D => SetO X.w D (fun _ => false) 0) (use := none) (Qf := _) hN I hi ok rfl hs (fun s Q E q => PpSet.newSet_ok q) (fun H h _ => ?_) (fun it D ce R s h0 hp => ?_)
    (loopS2 (stp := stpI X.w) hc hv hg hi1 hg1 he (fun s H C cl fp => add_int (Y := X.blk s H scope (compEnvC scope cl C X.env) fp)) hs1) h fun D C s' m H' I' q hn f => ?_
  · exact setO_new (setR_fresh X.w)
  · exact PpSet.codeAny_compStart_set h0 (hp _ _ h0)
  · obtain ⟨f0, f1, f2, f3, f4, f5⟩ := f
    exact ⟨m, hn, fun h'' sb => ⟨.ref D, H', I'.turned (t' := s'.toks) (fun b o hb z => (sb.2 b hb).trans z) f0 f1 f3 f4 f5, rfl, q⟩⟩
end
end LC

set_option Elab.async false
set_option linter.all false
set_option maxRecDepth 100000
set_option maxHeartbeats 4000000
namespace LC
open PySem L2 PySem.Spec PyProof.Rows

/-! ### {kx: vx for tg in iter}, the keys tuples -/
theorem dT_dictSet {Y : Cx} {pins : List (Addr × Obj)} {σ : L2.St} {H : Hp} {s : Shared} {E : Value → Shared → Prop} {D b : Addr} {kvs : List (List Key × V)} {k : List Key} {v : V} {r : Value} {Q : Unit → Shared → Prop} (hu : Y.A.units < cLine) (I : Inv Y pins σ H s) (hD : H D = some (.dT kvs)) (hb : H b = some (.tup (k.map kV))) (hz : kvs.length < sizeLine)
    (rv : RelV v r) (h : ∀ s', Inv Y pins σ (upd H D (.dT (putK kvs k v))) s' → Q () s') : wpAny (model Y.prog Y.w) Y.A (dictSet D (.ref b) r) Q E s := by
  obtain ⟨z, hd, xs, rel, dd⟩ := dt_of I.hok hD
  have few : (putK kvs k v).length ≤ sizeLine := by have := length_putK kvs k v; omega
  refine wpAny_dictSet_heap (knd := tupleKind (mixKind Y.prog Y.w)) (hsz := by rw [← Paired.length rel]; exact z) hu (key_of I.hok hb) dd fun h' dd' hs => h _ ?_
  obtain ⟨q, es, ep, hq, h2, h3, h4, _, h5⟩ := dd'
  refine d_write I (by rw [hD]; exact True.intro) hs ⟨q, hq⟩ ⟨few, hd, _, (rel.put k hb rv).keeps fun c ys ec => ?_, q, es, ep, hq, h2, h3, h4, h5⟩
  exact (upd_ne (ne_of ec hD (fun z => nomatch z))).trans ec
section
variable {X : Cx} {σ : L2.St} {kx vx tg iter : Expr} {scope : Scope} {own : List (Str × Nat)} {pos : Pos} {g : TG} {tk tv : TE} {wi : TI} {vs : List Nat}
def rdD (g : TG) (tk tv : TE) (vs : List Nat) : It → Addr → L2.St → Hp → (Hp → Prop) → Prop := fun J D σw H Qd => ∃ W : Nat → Nat → Hp → Prop, (∃ m, W 0 m H) ∧ ∀ i m H, W i m H →
  (J.stop i H ∧ Qd H) ∨ (J.go i H ∧ ∃ Nx : Hp → Prop, (∀ H', Nx H' → ∃ m', m' < m ∧ W (i + 1) m' H') ∧ ∀ x H', J.yld i H x H' → g x σw H' fun σ2 H2 => wipe σ2 vs = σw ∧ tk σ2 H2 fun y H3 => tv σ2 H3 fun z H4 =>
    ∃ (kvs : List (List Key × V)) (k : List Key) (b : Addr), y = .ref b ∧ H4 D = some (.dT kvs) ∧ H4 b = some (.tup (k.map kV)) ∧ kvs.length < sizeLine ∧ Nx (upd H4 D (.dT (putK kvs k z))))
theorem loopD (hc : X.calm = true) (hu : X.A.units < cLine) (hg : ∀ (s : Shared) (H : Hp) (C : Addr) (cl : List (Str × Addr)) (fp : List Addr), PG (X.blk s H scope (compEnvC scope cl C X.env) fp) tg g)
    (hk : ∀ (s : Shared) (H : Hp) (C : Addr) (cl : List (Str × Addr)) (fp : List Addr), PE (X.blk s H scope (compEnvC scope cl C X.env) fp) kx tk)
    (he : ∀ (s : Shared) (H : Hp) (C : Addr) (cl : List (Str × Addr)) (fp : List Addr), PE (X.blk s H scope (compEnvC scope cl C X.env) fp) vx tv) :
    LoopOk X (.DictComp kx vx [⟨tg, iter, [], 0⟩] scope pos) tg scope (wipe σ vs) (rdD g tk tv vs) := by
  intro s0 H0 C cl fp it D J tn R Qd H s T I st n h fin
  obtain ⟨W, ⟨m0, w0⟩, turn⟩ := h
  have pg := hg s0 H0 C cl fp
  have pk := hk s0 H0 C cl fp
  have pe := he s0 H0 C cl fp
  generalize hce : compEnvC scope cl C X.env = ce at I fin pg pk pe ⊢
  refine compLoop_anyD (fun k s' => ∃ i H', Inv (X.blk s0 H0 scope ce fp) [] (wipe σ vs) H' s' ∧ tn i s'.heap ∧ (∀ b ∈ fp, H' b = none) ∧ W i k H') ?_ m0 ⟨0, H, I, st, n, w0⟩
  rintro k s5 ⟨i, H5, I5, st5, n5, w5⟩
  have fp5 := blk_fp I5 (fun p hp => by cases hp) n5
  rcases turn i k H5 w5 with ⟨stop, qq⟩ | ⟨go, Nx, hNx, step⟩
  · refine thnF (T.done (X.blk s0 H0 scope ce fp) rfl rfl rfl hc i [] s5 _ H5 (fun _ _ => False) I5 fp5 st5 stop) fun r s6 hr => ?_
    obtain ⟨rfl, I6⟩ := hr
    exact fin H5 s6 I6 qq
  · refine thnF (T.item (X.blk s0 H0 scope ce fp) rfl rfl rfl hc i [] s5 _ H5 (fun _ _ => False) I5 fp5 st5 go) fun r s6 hr => ?_
    obtain ⟨u, rfl, h6⟩ := hr
    refine thnF h6 fun _ s7 h7 => ?_
    obtain ⟨x, H7, I7, r7, y7, st7, n7⟩ := h7
    have I7' := I7.pinned (blk_fp I7 (fun p hp => by cases hp) n7) (T.obj _ _ st7)
    refine thnF (pg.run _ s7 _ H7 x u _ I7' r7 (step x H7 y7)) fun _ s8 h8 => ?_
    obtain ⟨σ8, H8, I8, hw8, q8⟩ := h8
    refine wpAny_tests_nil ?_
    rw [if_pos rfl]
    refine thnF (pk.run _ s8 σ8 H8 _ I8 q8) fun zk s9 h9 => ?_
    obtain ⟨yk, H9, I9, r9, q9⟩ := h9
    refine thnF (pe.run _ s9 σ8 H9 _ I9 q9) fun zv s10 h10 => ?_
    obtain ⟨yv, H10, I10, r10, kvs, ky, b, rfl, hD, hb, hz, nx⟩ := h10
    have ek : zk = Value.ref b := r9
    subst ek
    refine dT_dictSet (Y := X.blk s0 H0 scope ce fp) hu I10 hD hb hz r10 fun s11 I11 => ?_
    obtain ⟨m', hm, w'⟩ := hNx _ nx
    have stays : ∀ c ∈ fp, ∀ o, s7.heap.get? c = some o → s11.heap.get? c = some o ∧ upd H10 D (.dT (putK kvs ky yv)) c = none := fun c hc o z =>
      let p := I11.pin (c, o) (List.mem_append_right _ (List.mem_append_right _ (mem_pinsAt hc z)))
      ⟨p.1, p.2.1⟩
    refine ⟨m', hm, i + 1, _, (I11.unpinned (pins := [])).weak (by rw [← hw8, wipe_length]) (fun j v z => ?_), T.keep _ _ _ st7 fun b hb o z => (stays b hb o z).1, fun b hb => ?_, w'⟩
    · rw [← hw8] at z
      exact (wipe_some z).1
    · obtain ⟨o, z, _⟩ := T.obj _ _ st7 b hb
      exact (stays b hb o z).2
def tDcT (wi : TI) (g : TG) (tk tv : TE) (vs : List Nat) : TE := fun σ H Q => wi σ H fun J H1 => ∀ D, H1 D = none → rdD g tk tv vs J D (wipe σ vs) (upd H1 D (.dT [])) (Q (.ref D))
/-- name = {kx: vx for tg in iter} -/
theorem ps_setDcT {i : Nat} {y : Str} {py spos : Pos} (hc : X.calm = true) (hu : X.A.units < cLine) (hN : X.N.Nodup) (hy : X.N[i]? = some y) (hyl : X.env.scope.names.lookup y = some .local)
    (hsw : swapsWith (.DictComp kx vx [⟨tg, iter, [], 0⟩] scope pos) (some (.Name y py)) spos.line X.env = pure true) (hi : PI X tg iter wi) (ok : BlkOk X.N X.env.scope scope own)
    (hg : ∀ (s : Shared) (H : Hp) (C : Addr) (cl : List (Str × Addr)) (fp : List Addr), PG (X.blk s H scope (compEnvC scope cl C X.env) fp) tg g)
    (hk : ∀ (s : Shared) (H : Hp) (C : Addr) (cl : List (Str × Addr)) (fp : List Addr), PE (X.blk s H scope (compEnvC scope cl C X.env) fp) kx tk)
    (he : ∀ (s : Shared) (H : Hp) (C : Addr) (cl : List (Str × Addr)) (fp : List Addr), PE (X.blk s H scope (compEnvC scope cl C X.env) fp) vx tv) (hs : ∀ x, foldedSetIterable iter X.env x = pure x := by intro _; rfl) :
    PS X (.Assign [.Name y py] (.DictComp kx vx [⟨tg, iter, [], 0⟩] scope pos) spos) (tAsg (tDcT wi g tk tv (own.map (·.2))) (gName i)) := by
  refine ⟨fun pins s σ H D I h => ?_⟩
  rw [exec_Assign_Name_used _ _ _ _ hsw]
  refine wpAny_bind (wpAny_standAt (wpAny_bind ?_))
  show wpAny _ X.A (do let _ ← comprehension (.DictComp kx vx [⟨tg, iter, [], 0⟩] scope pos) scope X.env (firstIterPos [⟨tg, iter, [], 0⟩] pos) newDict false (eval iter X.env) (some (assign (.Name y py) X.env))) _ _ s
  have h : tDcT wi g tk tv (own.map (·.2)) σ H (fun x H1 => gName i x σ H1 D.nx) := h
  refine wpAny_bind (thn (comp_open (o0 := { cls := .type "dict", data := .dict #[] }) (A0 := fun _ => .dT []) (Q := fun x H1 => gName i x σ H1 D.nx) (Qf := fun _ s' => SP X pins D .next s') hN I hi ok rfl hs (fun s Q E q => wpAny_newObj_type q) (fun H h hb => dt_empty h hb)
    (fun it D ce R s h0 hp => codeAny_compStart_dict h0 (hp _ _ h0)) (loopD hc hu hg hk he) h fun L C s' m H' I' q hn f => ?_) fun _ s' hq => wpAny_pure (wpAny_pure hq))
  show wpAny _ _ (assign (.Name y py) X.env (.ref L)) _ _ _
  refine wpAny_assign_Name (store_ok2 (v := V.ref L) I' hN hy (.inl hyl) rfl (fun s2 I2 hstore => ?_) (.inr hyl))
  obtain ⟨a, sb, ha⟩ := hstore
  obtain ⟨f0, f1, f2, f3, f4, f5⟩ := f
  have haC : C ≠ a := by
    rcases ha with z | z
    · rw [z]; exact f1
    · exact fun e => f4 y a z e.symm
  exact ⟨m, hn.sameBut sb haC, fun h3 sb3 => ⟨_, H', I2.turned (t' := s2.toks) (fun b o hb z => (sb3.2 b hb).trans z) f0 f1 f3 f4 f5, q⟩⟩
end
end LC

set_option Elab.async false
set_option linter.all false
set_option maxRecDepth 100000
set_option maxHeartbeats 4000000
namespace LW
open PySem L2 PySem.Spec PyProof.Rows

/-! ### sorted(t), t a tuple of whole numbers -/
section
variable {prog : Program} {w : World} {A : Around} {E : Value → Shared → Prop} {s : Shared}
theorem collect_tup {l : Addr} {vs : List Value} {Q : List Value → Shared → Prop} (hl : IsTup s.heap l vs.toArray) (hsz : vs.length ≤ sizeLine)
    (h : ∀ h', (∀ b o, s.heap.get? b = some o → h'.get? b = some o) → Q vs { s with heap := h' }) : wpAny (model prog w) A (collect (.ref l)) Q E s := by
  obtain ⟨o, ho, hc, n, hd⟩ := hl
  unfold collect
  refine wpAny_bind (wpAny_runValue (codeAny_builtin entry_proto_collect' ?_))
  show wpAny _ _ (newList [] >>= fun x => again (.builtin "list.__iadd__" ⟨[x, .ref l], []⟩)) _ _ s
  refine wpAny_bind (wpAny_newList (wpAny_pure ⟨Code.quiet_builtin _ (by decide +kernel), codeAny_builtin entry_list_iadd' ?_⟩))
  show wpAny _ _ (Builtin.List.listExtendWith (.ref s.heap.objs.size) (.ref l) (.ref s.heap.objs.size)) _ _ { s with heap := s.heap.push (seqObj "list" #[] 0) }
  unfold Builtin.List.listExtendWith
  have ho' : (s.heap.push (seqObj "list" #[] 0)).get? l = some o := Heap.get?_push_of_some _ ho
  refine wpAny_bind (wpAny_typeOf (T := "tuple") ⟨o, ho', hc⟩ ?_)
  have ht : (Value.type "tuple" == Value.type "tuple") = true := by rfl
  rw [if_pos (by rw [ht]; simp)]
  refine wpAny_bind (listItems_at ho' hd ?_)
  refine wpAny_bind (listItems_at (xs := #[]) (n := 0) (Heap.get?_push_size _ rfl) rfl ?_)
  rw [if_neg (by simp)]
  refine wpAny_bind (listUpdate_at (xs := #[]) (n := 0) (Heap.get?_push_size _ rfl) rfl ?_ (Nat.zero_le _) (by show (#[] ++ vs.toArray).size ≤ sizeLine + 1; simp only [Array.size_append, List.size_toArray, List.length_nil]; omega))
  refine wpAny_pure ?_
  show wpAny (model prog w) A (load s.heap.objs.size >>= _) Q E { s with heap := (s.heap.push (seqObj "list" #[] 0)).update s.heap.objs.size (Obj.mapSeq (· ++ vs.toArray)) }
  refine wpAny_bind (wpAny_load (get?_update_seq (Heap.get?_push_size _ rfl) _) ?_)
  show wpAny _ _ (pure ((#[] : Array Value) ++ vs.toArray).toList) Q E _
  rw [show ((#[] : Array Value) ++ vs.toArray).toList = vs by simp]
  refine wpAny_pure (h _ fun b o e => ?_)
  rw [Heap.get?_update_ne _ _ _ _ (Nat.ne_of_lt (Heap.lt_size e))]
  exact Heap.get?_push_of_some _ e
end
section
variable {X : Cx}
def rSortedTu (K : PySem.W.Frag) : List V → Hp → VK → Prop := fun vs H Q => ∃ (a : Addr) (ns : List Int), vs = [V.ref a] ∧ SqT K H a (ns.map V.int) ∧ ns.length < 64 ∧
  ∀ (ns' : List Int) (p : Addr), ns'.Perm ns → ns'.Pairwise (· ≤ ·) → H p = none → Q (.ref p) (upd H p (.lst (ns'.map V.int)))
theorem cr_sortedTu : CallR X (.builtin "sorted") (rSortedTu X.K) := by
  intro pins s σ H vs us Q I r h
  obtain ⟨a, ns, rfl, ht, h64, q⟩ := h
  obtain ⟨its, rv, tup, hz⟩ := I.tuple ht
  rw [Vals.ref1 r]
  have hi := rv.ints
  have hl : its.length < 64 := by rw [← rv.length, List.length_map]; exact h64
  refine Calls.call_function_entry kind_sorted plain_sorted entry_sorted (args_sorted1 _) ?_
  unfold Builtin.«sorted»
  refine wpAny_bind (m := checkCount "sorted" 1 1 _) (wpAny_pure ?_)
  refine wpAny_bind (collect_tup tup (by rw [← rv.length]; exact hz) fun h' hk => ?_)
  have I1 : Inv X pins σ H { s with heap := h' } := I.kept (t' := s.toks) hk
  refine wpAny_bind (wpAny_newList ?_ (by rw [sizeLine_eq]; omega))
  have hoL : (h'.push (seqObj "list" its.toArray 0)).get? h'.objs.size = some (seqObj "list" its.toArray 0) := Heap.get?_push_size _ rfl
  show wpAny _ _ _ _ _ { s with heap := h'.push (seqObj "list" its.toArray 0) }
  refine wpAny_bind (wpAny_holding (wpAny_call_entry slot_list_sort ⟨_, hoL, rfl⟩ entry_list_sort (list_sort_tree (s := { s with heap := h'.push (seqObj "list" its.toArray 0) }) hoL hi hl fun out ys g1 g2 g3 => ⟨_, rfl, ?_⟩) (args_list_sort _)))
  obtain ⟨e', he'⟩ := sortedHeap_at (vs := its) (out := out) hoL
  have hlen : (ys.map V.int).length ≤ sizeLine := by
    rw [List.length_map, g2.length_eq, ← List.length_map (f := V.int)]; exact hz
  refine wpAny_pure ⟨_, rfl, .ref h'.objs.size, upd H h'.objs.size (.lst (ys.map V.int)), I1.laid (t' := s.toks) (fun b u e => ?_) (Nat.le_refl _)
    (show ObjOk X.prog X.w _ _ _ (.lst (ys.map V.int)) from ⟨hlen, out.toList, e', vals_of_ints g1, by rw [Array.toArray_toList]; exact he'⟩), rfl, q ys _ g2 g3 (I1.hok.fresh (Nat.le_refl _))⟩
  have hb : b < h'.objs.size := Heap.lt_size e
  rw [sortedHeap_old (Nat.ne_of_lt hb) (by rw [size_push']; exact Nat.lt_succ_of_lt hb)]
  exact Heap.get?_push_of_some _ e

/-! ### sorted(d), the keys tuples of d whole numbers in [0, B) -/
def rSortedDT (d : Nat) (B : Int) : List V → Hp → VK → Prop := fun vs H Q => ∃ (a : Addr) (kvs : List (List Key × V)), vs = [V.ref a] ∧ H a = some (.dT kvs) ∧ kvs.length < 64 ∧ (∀ p ∈ kvs, ∃ ns : List Int, p.1 = ns.map Sum.inl ∧ ns.length = d ∧ TS.Bd B ns) ∧
  ∀ (L : List (Addr × List Int)) (p : Addr), (L.map fun q => q.2.map Sum.inl).Perm (kvs.map (·.1)) → L.Pairwise (fun q r => TS.code B q.2 ≤ TS.code B r.2) → (∀ q ∈ L, H q.1 = some (.tup (q.2.map V.int))) → H p = none → Q (.ref p) (upd H p (.lst (L.map fun q => V.ref q.1)))
theorem kt_keys {H : Hp} : ∀ {kvs : List (List Key × V)} {ks : List (List Key × Addr × Value)}, Paired (fun (p : List Key × V) (q : List Key × Addr × Value) => p.1 = q.1 ∧ H q.2.1 = some (.tup (p.1.map kV)) ∧ RelV p.2 q.2.2) kvs ks → ks.map (·.1) = kvs.map (·.1)
  | _, _, .nil => rfl
  | _, _, .cons h t => by rw [List.map_cons, List.map_cons, kt_keys t, h.1]
theorem paired_mem2 {α β : Type} {F : α → β → Prop} : ∀ {l : List α} {m : List β} {y : β}, Paired F l m → y ∈ m → ∃ x ∈ l, F x y
  | _, _, _, .nil, h => by cases h
  | _, _, y, .cons r t, h => by
    rcases List.mem_cons.mp h with rfl | h
    · exact ⟨_, List.mem_cons_self, r⟩
    · obtain ⟨x, hx, q⟩ := paired_mem2 t h
      exact ⟨x, List.mem_cons_of_mem _ hx, q⟩
def refAt : Value → Addr
  | .ref a => a
  | _ => 0
theorem inl_kV (ns : List Int) : (ns.map Sum.inl).map (kV) = ns.map V.int := by rw [List.map_map]; rfl
theorem inl_inj {ns ms : List Int} (h : (ns.map Sum.inl : List Key) = ms.map Sum.inl) : ns = ms := by
  induction ns generalizing ms with
  | nil => cases ms with
    | nil => rfl
    | cons m ms => cases h
  | cons n ns ih => cases ms with
    | nil => cases h
    | cons m ms =>
      rw [List.map_cons, List.map_cons] at h
      injection h with h1 h2
      injection h1 with h1
      rw [h1, ih h2]
theorem cr_sortedDT {d : Nat} {B : Int} (hc : X.calm = true) (hd1 : 1 ≤ d) : CallR X (.builtin "sorted") (rSortedDT d B) := by
  intro pins s σ H vs us Q I r h
  obtain ⟨a, kvs, rfl, ha, h64, hk, q⟩ := h
  rw [Vals.ref1 r]
  obtain ⟨z, hs, ks, pr, o, es, ep, ho, hx, hdt, he, hn⟩ := (show ObjOk X.prog X.w H s.heap a (.dT kvs) from I.hok a _ ha)
  have l1 : es.size = ks.length := by
    have := congrArg List.length he
    rw [List.length_map, Array.length_toList] at this
    exact this
  have l2 : kvs.length = ks.length := Paired.length pr
  -- each key: a tuple of whole numbers
  have key : ∀ x ∈ ks, ∃ ns : List Int, x.1 = ns.map Sum.inl ∧ ns.length = d ∧ TS.Bd B ns ∧ H x.2.1 = some (.tup (ns.map V.int)) := fun x hx2 => by
    obtain ⟨p, hp, e1, e2, _⟩ := paired_mem2 pr hx2
    obtain ⟨ns, e3, e4, e5⟩ := hk p hp
    exact ⟨ns, e1.symm.trans e3, e4, e5, by rw [e2, e3, inl_kV]⟩
  refine Calls.call_function_entry kind_sorted plain_sorted entry_sorted (args_sorted1 _) ?_
  unfold Builtin.«sorted»
  refine wpAny_bind (m := checkCount "sorted" 1 1 _) (wpAny_pure ?_)
  refine wpAny_bind (PySem.W.kdu_collect (A := X.A.in1) (kdl_raw hs hx hdt) (I.ok.hd hc) ho (by rw [l1, ← l2, sizeLine_eq]; omega) fun h' tk acc hkp it => ?_)
  have ea : acc.toList = ks.map fun x => Value.ref x.2.1 := by
    have hl : acc.toList.length = ks.length := by rw [Array.length_toList, it.1]; exact l1
    refine List.ext_getElem? fun j => ?_
    rw [List.getElem?_map]
    cases hj : acc.toList[j]? with
    | none => rw [List.getElem?_eq_none (by rw [← hl]; exact List.getElem?_eq_none_iff.mp hj)]; rfl
    | some v =>
      obtain ⟨en, hen, hv⟩ := it.2 j v (by rw [← Array.getElem?_toList]; exact hj)
      rw [← Array.getElem?_toList, he, List.getElem?_map] at hen
      cases hb : ks[j]? with
      | none => rw [hb] at hen; cases hen
      | some b =>
        rw [hb] at hen
        have e2 : entryOfKey (tupleKind (mixKind X.prog X.w)) b = en := Option.some.inj hen
        rw [hv, ← e2]; rfl
  have I1 : Inv X pins σ H { s with heap := h', toks := tk } := I.kept hkp
  obtain ⟨vs, hvs⟩ : ∃ vs, vs = acc.toList := ⟨_, rfl⟩
  rw [← hvs] at ea
  have hl : vs.length < 64 := by rw [ea, List.length_map, ← l2]; exact h64
  rw [← hvs]
  have raw : ∀ x ∈ ks, ∀ ns : List Int, H x.2.1 = some (.tup (ns.map V.int)) → TS.TupInts h' (.ref x.2.1) ns := fun x _ ns e => tupI_raw I1 (SqT.of e)
  have tok : TS.TupsOk h' d B vs := fun v hv => by
    rw [ea] at hv
    obtain ⟨x, hx2, rfl⟩ := List.mem_map.mp hv
    obtain ⟨ns, _, e4, e5, e6⟩ := key x hx2
    exact ⟨ns, raw x hx2 ns e6, e4, e5⟩
  refine wpAny_bind (wpAny_newList ?_ (by rw [sizeLine_eq]; omega))
  have hoL : (h'.push (seqObj "list" vs.toArray 0)).get? h'.objs.size = some (seqObj "list" vs.toArray 0) := Heap.get?_push_size _ rfl
  have kp2 : ∀ b o, h'.get? b = some o → o.cls = .type "tuple" → (h'.push (seqObj "list" vs.toArray 0)).get? b = some o := fun b o e _ => Heap.get?_push_of_some _ e
  show wpAny _ _ _ _ _ { s with heap := h'.push (seqObj "list" vs.toArray 0), toks := tk }
  refine wpAny_bind (wpAny_holding (wpAny_call_entry slot_list_sort ⟨_, hoL, rfl⟩ entry_list_sort (TS.sort_tups (s := { s with heap := h'.push (seqObj "list" vs.toArray 0), toks := tk }) hoL hl hd1 (tok.keeps kp2) (fun v => TS.code B (TS.intsOf h' v)) (fun v hv ns t => ?_) fun out g1 g2 => ⟨_, rfl, ?_⟩) (args_list_sort _)))
  · obtain ⟨ns0, t0, _⟩ := tok v hv
    have e : ns = ns0 := t.ints.symm.trans (t0.keeps kp2).ints
    show TS.code B (TS.intsOf h' v) = TS.code B ns
    rw [e, t0.ints]
  · obtain ⟨e', he'⟩ := sortedHeap_at (vs := vs) (out := out) hoL
    have inV : ∀ v ∈ out.toList, ∃ x ∈ ks, v = Value.ref x.2.1 := fun v hv => by
      have h1 := g1.mem_iff.mp hv
      rw [ea] at h1
      obtain ⟨x, hx2, e⟩ := List.mem_map.mp h1
      exact ⟨x, hx2, e.symm⟩
    have rdx : ∀ x ∈ ks, (TS.intsOf h' (.ref x.2.1)).map Sum.inl = x.1 ∧ H x.2.1 = some (.tup ((TS.intsOf h' (.ref x.2.1)).map V.int)) := fun x hx2 => by
      obtain ⟨ns, e3, _, _, e6⟩ := key x hx2
      rw [(raw x hx2 ns e6).ints]
      exact ⟨e3.symm, e6⟩
    have back : (out.toList.map fun v => (refAt v, TS.intsOf h' v)).map (fun q => V.ref q.1) = out.toList.map fun v => V.ref (refAt v) := by rw [List.map_map]; rfl
    have rv : Vals (out.toList.map fun v => V.ref (refAt v)) out.toList := by
      have : ∀ l : List Value, (∀ v ∈ l, ∃ x ∈ ks, v = Value.ref x.2.1) → Vals (l.map fun v => V.ref (refAt v)) l := fun l => by
        induction l with
        | nil => exact fun _ => .nil
        | cons v l ih =>
          intro hv
          obtain ⟨x, _, rfl⟩ := hv v List.mem_cons_self
          exact .cons rfl (ih fun u hu => hv u (List.mem_cons_of_mem _ hu))
      exact this _ inV
    have hlen : (out.toList.map fun v => V.ref (refAt v)).length ≤ sizeLine := by
      rw [List.length_map, g1.length_eq]; exact Nat.le_trans (Nat.le_of_lt hl) (by decide)
    refine wpAny_pure ⟨_, rfl, .ref h'.objs.size, upd H h'.objs.size (.lst (out.toList.map fun v => V.ref (refAt v))), I1.laid (t' := tk) (fun b u e => ?_) (Nat.le_refl _)
      (show ObjOk X.prog X.w _ _ _ (.lst _) from ⟨hlen, out.toList, e', rv, by rw [Array.toArray_toList]; exact he'⟩), rfl, ?_⟩
    · have hb : b < h'.objs.size := Heap.lt_size e
      rw [sortedHeap_old (Nat.ne_of_lt hb) (by rw [size_push']; exact Nat.lt_succ_of_lt hb)]
      exact Heap.get?_push_of_some _ e
    · rw [← back]
      refine q (out.toList.map fun v => (refAt v, TS.intsOf h' v)) _ ?_ ?_ (fun p hp => ?_) (I1.hok.fresh (Nat.le_refl _))
      · rw [List.map_map, ← kt_keys pr]
        refine (g1.map _).trans (List.Perm.of_eq ?_)
        rw [ea, List.map_map]
        exact List.map_congr_left fun x hx2 => (rdx x hx2).1
      · rw [List.pairwise_map]
        exact g2
      · obtain ⟨v, hv, rfl⟩ := List.mem_map.mp hp
        obtain ⟨x, hx2, rfl⟩ := inV v hv
        exact (rdx x hx2).2

theorem paired_get {α β : Type} {F : α → β → Prop} : ∀ {l : List α} {m : List β}, l.length = m.length → (∀ (i : Nat) x y, l[i]? = some x → m[i]? = some y → F x y) → Paired F l m
  | [], [], _, _ => .nil
  | x :: l, y :: m, h, f => .cons (f 0 x y rfl rfl) (paired_get (Nat.succ.inj h) fun i a b ha hb => f (i + 1) a b ha hb)
  | [], _ :: _, h, _ => by cases h
  | _ :: _, [], h, _ => by cases h
/-! ### list(s), s a text -/
def signsOf (x : Str) : List V := x.cps.toList.map fun c => V.str ⟨#[c]⟩
theorem call_list_txt (hc : X.calm = true) : CallR X (.type "list") (fun xs H Q => ∃ x : Str, xs = [.str x] ∧ x.length ≤ 1000 ∧ ∀ p, H p = none → Q (.ref p) (upd H p (.lst (signsOf x)))) := by
  intro pins s σ H xs us Q I r h
  obtain ⟨x, rfl, hl, q⟩ := h
  obtain ⟨u, rfl, t, rfl⟩ := vals1 r
  have hz : x.cps.size ≤ sizeLine := Nat.le_trans hl (by decide)
  refine call_list_str (I.ok.hd hc) x t (hn := hz) fun h' tk acc c k e it => ?_
  refine ⟨.ref s.heap.objs.size, _, I.laid (t' := tk) (o := .lst (signsOf x)) k (Nat.le_refl _) ?_, rfl, q _ (I.hok.fresh (Nat.le_refl _))⟩
  have hn : acc.toList.length = x.cps.size := by rw [Array.length_toList]; exact it.1
  refine ⟨by unfold signsOf; rw [List.length_map, Array.length_toList]; exact hz, acc.toList, c, ?_, by rw [Array.toArray_toList]; exact e⟩
  refine paired_get (by unfold signsOf; rw [List.length_map, Array.length_toList]; exact hn.symm) fun i y v hy hv => ?_
  unfold signsOf at hy
  rw [List.getElem?_map, Array.getElem?_toList] at hy
  obtain ⟨cc, uu, h1, rfl⟩ := it.2 i v (by rw [← Array.getElem?_toList]; exact hv)
  rw [h1] at hy
  cases hy
  exact ⟨uu, rfl⟩
end
end LW

set_option Elab.async false
set_option linter.all false
set_option maxRecDepth 100000
set_option maxHeartbeats 4000000
namespace LW
open PySem L2 PySem.Spec PyProof.Rows LG

/-! ### tuples of whole numbers as data -/
def dRow (xs : List Int) : PyData := .tuple (xs.map PyData.int)
theorem dp_ints {K : PySem.W.Frag} {H : Hp} : ∀ xs : List Int, DpAll K H (xs.map V.int) (xs.map PyData.int)
  | [] => .nil
  | x :: xs => .cons (.int x) (dp_ints xs)
theorem dp_row {K : PySem.W.Frag} {H : Hp} {a : Addr} {xs : List Int} (h : SqT K H a (xs.map V.int)) : Dp K H (.ref a) (dRow xs) := .tup h (dp_ints xs)
theorem ints_lay : ∀ xs : List Int, PyData.canLayAll0 (xs.map PyData.int) = true
  | [] => rfl
  | x :: xs => by
    show (PyData.canLay0 (.int x) && PyData.canLayAll0 (xs.map PyData.int)) = true
    rw [ints_lay xs]; rfl
theorem ints_depth : ∀ xs : List Int, PyData.depthAll (xs.map PyData.int) = 0
  | [] => rfl
  | x :: xs => by
    show max (PyData.depth (.int x)) (PyData.depthAll (xs.map PyData.int)) = 0
    rw [ints_depth xs]; rfl
theorem row_lay (xs : List Int) : (dRow xs).canLay0 = true := by
  unfold dRow
  unfold PyData.canLay0
  exact ints_lay xs
theorem row_depth (xs : List Int) : (dRow xs).depth ≤ 1 := by
  unfold dRow
  unfold PyData.depth
  rw [ints_depth xs]; decide
theorem rows_lay : ∀ rs : List (List Int), PyData.canLayAll0 (rs.map dRow) = true
  | [] => rfl
  | r :: rs => by
    show (PyData.canLay0 (dRow r) && PyData.canLayAll0 (rs.map dRow)) = true
    rw [rows_lay rs, row_lay r]; rfl
theorem rows_depth : ∀ rs : List (List Int), PyData.depthAll (rs.map dRow) ≤ 1
  | [] => Nat.zero_le _
  | r :: rs => by
    show max (PyData.depth (dRow r)) (PyData.depthAll (rs.map dRow)) ≤ 1
    exact Nat.max_le.mpr ⟨row_depth r, rows_depth rs⟩
theorem ints_eqv : ∀ xs ys : List Int, PyData.eqvAll (xs.map PyData.int) (ys.map PyData.int) = decide (xs = ys)
  | [], [] => rfl
  | [], _ :: _ => rfl
  | _ :: _, [] => rfl
  | x :: xs, y :: ys => by
    show (PyData.eqv (.int x) (.int y) && PyData.eqvAll (xs.map PyData.int) (ys.map PyData.int)) = _
    rw [ints_eqv xs ys]
    show ((x == y) && decide (xs = ys)) = _
    by_cases h1 : x = y
    · by_cases h2 : xs = ys
      · subst h1; subst h2; simp
      · simp [h1, h2]
    · simp [h1]
theorem row_eqv (xs ys : List Int) : PyData.eqv (dRow xs) (dRow ys) = decide (xs = ys) := by
  unfold dRow
  unfold PyData.eqv
  exact ints_eqv xs ys
theorem rows_any (rs : List (List Int)) (r : List Int) : (rs.map dRow).any (fun z => PyData.eqv z (dRow r)) = rs.contains r := by
  rw [List.any_map, List.contains_eq_any_beq]
  congr 1
  funext y
  show PyData.eqv (dRow y) (dRow r) = (r == y)
  rw [row_eqv]
  by_cases h : y = r
  · subst h; simp
  · have : ¬ r = y := fun z => h z.symm
    simp [h, this]
/-- rows at addresses -/
def RowsAt (K : PySem.W.Frag) (H : Hp) (ps : List Addr) (rs : List (List Int)) : Prop := Paired (fun p r => SqT K H p (r.map V.int)) ps rs
theorem dp_rows {K : PySem.W.Frag} {H : Hp} : ∀ {ps : List Addr} {rs : List (List Int)}, RowsAt K H ps rs → DpAll K H (ps.map V.ref) (rs.map dRow)
  | _, _, .nil => .nil
  | _, _, .cons h t => .cons (dp_row h) (dp_rows t)
section
variable {X : Cx}
/-- t in rows: a list of tuples of whole numbers -/
def rInRows (K : PySem.W.Frag) : R2 := fun x y H Q => ∃ (a b : Addr) (r : List Int) (ps : List Addr) (rs : List (List Int)), x = .ref a ∧ y = .ref b ∧ SqT K H a (r.map V.int) ∧ SqL K H b (ps.map V.ref) ∧ RowsAt K H ps rs ∧ Q (.bl (rs.contains r)) H
theorem op_inRows (hu : X.A.units + 65 < cLine) : OpR X (compareOp .In) (rInRows X.K) := by
  intro pins s σ H x y v u Q I rx ry h
  obtain ⟨a, b, r, ps, rs, rfl, rfl, h1, h2, h3, q⟩ := h
  have l1 : SeqAt.shaped (dRow r) = true := by unfold SeqAt.shaped; rw [row_lay]; exact decide_eq_true (Nat.le_trans (row_depth r) (by decide))
  have l2 : SeqAt.shaped (.list (rs.map dRow)) = true := by
    unfold SeqAt.shaped
    have e1 : PyData.canLay0 (.list (rs.map dRow)) = true := by unfold PyData.canLay0; exact rows_lay rs
    have e2 : PyData.depth (.list (rs.map dRow)) ≤ 64 := by
      unfold PyData.depth
      have := rows_depth rs
      omega
    rw [e1]; exact decide_eq_true e2
  refine op_inD hu pins s σ H (.ref a) (.ref b) v u Q I rx ry ⟨dRow r, rs.map dRow, dp_row h1, .lst h2 (dp_rows h3), l1, l2, ?_⟩
  rw [rows_any]
  exact q
/-- t in couples: a tuple of pairs of whole numbers -/
def rInPairs (K : PySem.W.Frag) : R2 := fun x y H Q => ∃ (a b : Addr) (c : Int × Int) (cs : List (Int × Int)), x = .ref a ∧ y = .ref b ∧ SqT K H a [.int c.1, .int c.2] ∧ PTup K H b cs ∧ Q (.bl (cs.contains c)) H
theorem pairs_rows {K : PySem.W.Frag} {H : Hp} : ∀ {ps : List Addr} {cs : List (Int × Int)}, Paired (fun p (c : Int × Int) => SqT K H p [V.int c.1, V.int c.2]) ps cs → RowsAt K H ps (cs.map fun c => [c.1, c.2])
  | _, _, .nil => .nil
  | _, _, .cons h t => .cons h (pairs_rows t)
theorem pairs_contains (cs : List (Int × Int)) (c : Int × Int) : (cs.map fun c => [c.1, c.2]).contains [c.1, c.2] = cs.contains c := by
  rw [List.contains_eq_any_beq, List.contains_eq_any_beq, List.any_map]
  congr 1
  funext d
  show ([c.1, c.2] == [d.1, d.2]) = (c == d)
  obtain ⟨c1, c2⟩ := c
  obtain ⟨d1, d2⟩ := d
  rw [Bool.eq_iff_iff]
  simp
theorem op_inPairs (hu : X.A.units + 65 < cLine) : OpR X (compareOp .In) (rInPairs X.K) := by
  intro pins s σ H x y v u Q I rx ry h
  obtain ⟨a, b, c, cs, rfl, rfl, h1, ⟨ps, h2, h3⟩, q⟩ := h
  have l1 : SeqAt.shaped (dRow [c.1, c.2]) = true := by unfold SeqAt.shaped; rw [row_lay]; exact decide_eq_true (Nat.le_trans (row_depth [c.1, c.2]) (by decide : 1 ≤ 64))
  obtain ⟨as, r1⟩ := Dp.reads I (dRow [c.1, c.2]) (.ref a) v (dp_row h1) rx
  obtain ⟨bs, r2⟩ := Dp.reads I (.tuple ((cs.map fun c => [c.1, c.2]).map dRow)) (.ref b) u (.tup h2 (dp_rows (pairs_rows h3))) ry
  refine SeqAt.in_tuple_reads r2 r1 (rows_lay _) (row_lay _) (room_in_shaped l1 hu) ⟨.bl _, H, I, rfl, ?_⟩
  rw [rows_any, pairs_contains]
  exact q
end
end LW

set_option Elab.async false
set_option linter.all false
set_option maxRecDepth 100000
set_option maxHeartbeats 4000000
namespace LW
open PySem L2 PySem.Spec PyProof.Rows LG Evl

theorem boot_len : bootBuiltins "len" = some (.builtin "len") := by decide +kernel
theorem boot_int : bootBuiltins "int" = some (.type "int") := by decide +kernel
theorem boot_bool : bootBuiltins "bool" = some (.type "bool") := by decide +kernel
theorem boot_str : bootBuiltins "str" = some (.type "str") := by decide +kernel
theorem boot_list : bootBuiltins "list" = some (.type "list") := by decide +kernel
theorem boot_tuple : bootBuiltins "tuple" = some (.type "tuple") := by decide +kernel
theorem boot_sorted : bootBuiltins "sorted" = some (.builtin "sorted") := by decide +kernel
theorem boot_isinstance : bootBuiltins "isinstance" = some (.builtin "isinstance") := by decide +kernel
theorem boot_min : bootBuiltins "min" = some (.builtin "min") := by decide +kernel
theorem boot_max : bootBuiltins "max" = some (.builtin "max") := by decide +kernel

/-- what isinstance asks of an own class, its instance asked -/
structure TyC (K : PySem.W.Frag) (C : Addr) : Prop where
  ha : PySem.W.findIn K (.ref C) "__class__" = some (some (.builtin "object.__class__"))
  hn : PySem.W.specialIn K (.builtin "object.__class__") "__get__" = some (some (.builtin "getset_descriptor.__get__"))
  ht : PySem.W.takesIn K (.builtin "object.__class__") = some true
  hm : PySem.W.mroIn K C (.type "object") = some true

section
variable {K : PySem.W.Frag} {σ : L2.St} {H H' : Hp} {ta tb te tx : TE} {t u : TT} {x y z v : V} {r : R2}
theorem tyx_ex {t : Value} (e : Ex H H') (h : TyX K H x t) : TyX K H' x t := by
  cases h with
  | base h =>
    refine .base ?_
    cases h with
    | non => exact .non
    | bl b => exact .bl b
    | int i => exact .int i
    | str s => exact .str s
    | flt f => exact .flt f
    | lst q => exact .lst (e _ _ q)
    | frz q => exact .frz (e _ _ q)
    | tup q => exact .tup (e _ _ q)
    | dK q => exact .dK (e _ _ q)
    | dT q => exact .dT (e _ _ q)
    | ins q a b c d f => exact .ins (e _ _ q) a b c d f
  | byt b => exact .byt b
  | set q => exact .set (e _ _ q)
  | kList q c => exact .kList q c
  | kTuple q c => exact .kTuple q c
  | kDict q c => exact .kDict q c
  | fTuple q => exact .fTuple (e _ _ q)
  | fDict q => exact .fDict (e _ _ q)
/-- isinstance(x, c) -/
theorem ev_isi {c : V} {t u : Value} {b : Bool} (hx : Ev ta σ H x) (hc : Ev tb σ H c) (k : ClsV c u) (ty : TyX K H x t) (e : PySem.W.kitOne K t u = some b) : Ev (tCB (rIsi K) (tCons ta (tCons tb tNil))) σ H (.bl b) := fun H1 e1 Q q =>
  hx H1 e1 _ fun H2 e2 => hc H2 (e1.trans e2) _ fun H3 e3 => ⟨x, c, t, u, b, rfl, k, tyx_ex ((e1.trans e2).trans e3) ty, e, q H3 (e2.trans e3)⟩
/-- isinstance(x, (list, tuple)) -/
theorem ev_isiT {c1 c2 : V} {tc1 tc2 : TE} {t u1 u2 : Value} {b : Bool} (hx : Ev ta σ H x) (h1 : Ev tc1 σ H c1) (h2 : Ev tc2 σ H c2) (k1 : ClsV c1 u1) (k2 : ClsV c2 u2) (ty : TyX K H x t) (e : PySem.W.kitAny K t [u1, u2] = some b) :
    Ev (tCB (rIsiT K) (tCons ta (tCons (tTup (tCons tc1 (tCons tc2 tNil))) tNil))) σ H (.bl b) := fun H1 e1 Q q =>
  hx H1 e1 _ fun H2 e2 => h1 H2 (e1.trans e2) _ fun H3 e3 => h2 H3 ((e1.trans e2).trans e3) _ fun H4 e4 => ⟨sz_of (by show 2 ≤ 100000; decide), fun p hp =>
    ⟨x, p, [c1, c2], t, [u1, u2], b, rfl, upd_same, .cons k1 (.cons k2 .nil), tyx_ex ((((e1.trans e2).trans e3).trans e4).trans (Ex.new hp)) ty, e, q _ (((e2.trans e3).trans e4).trans (Ex.new hp))⟩⟩
theorem ev_lenT {p : Addr} {xs : List V} (ha : Ev ta σ H (.ref p)) (h : SqT K H p xs) : Ev (tCB (rLenS K) (tCons ta tNil)) σ H (.int (xs.length : Int)) := fun H1 e Q q =>
  ha H1 e _ fun H2 e2 => ⟨p, xs, rfl, Or.inr (ex_t (e.trans e2) h), q H2 e2⟩
theorem rv_isN : RV rIsN x .non H (.bl (decide (x = .non))) := fun H1 _ _ q => ⟨rfl, q H1 (Ex.refl H1)⟩
theorem rv_notN : RV rNotN x .non H (.bl (!decide (x = .non))) := fun H1 _ _ q => ⟨rfl, q H1 (Ex.refl H1)⟩
/-- a test: a comparison -/
theorem et_op (ha : Ev ta σ H x) (hb : Ev tb σ H y) {b : Bool} (hr : RV r x y H (.bl b)) : EvT (tTest (tOp r ta tb)) σ H b := et_test (ev_op ha hb hr)
/-- a container as a test -/
theorem et_truT {p : Addr} {xs : List V} (ha : Ev ta σ H (.ref p)) (h : SqT K H p xs) : EvT (fun σ H Q => ta σ H fun x H' => ∃ k, TruV K x H' k ∧ Q k H') σ H (!xs.isEmpty) := fun H1 e Q q =>
  ha H1 e _ fun H2 e2 => ⟨_, .inr (.inl ⟨xs, ex_t (e.trans e2) h, rfl⟩), q H2 e2⟩
theorem et_truL {p : Addr} {xs : List V} (ha : Ev ta σ H (.ref p)) (h : SqL K H p xs) : EvT (fun σ H Q => ta σ H fun x H' => ∃ k, TruV K x H' k ∧ Q k H') σ H (!xs.isEmpty) := fun H1 e Q q =>
  ha H1 e _ fun H2 e2 => ⟨_, .inl ⟨xs, ex_l (e.trans e2) h, rfl⟩, q H2 e2⟩
/-- .. of a new list -/
theorem et_truN {xs : List V} (ha : EvL ta σ H xs) : EvT (fun σ H Q => ta σ H fun x H' => ∃ k, TruV K x H' k ∧ Q k H') σ H (!xs.isEmpty) := fun H1 e Q q =>
  ha H1 e _ fun p H2 _ e2 hp => ⟨_, .inl ⟨xs, sq_of hp, rfl⟩, q H2 e2⟩
theorem et_truS {s : Str} (ha : Ev ta σ H (.str s)) (hl : s.length ≤ 100000) : EvT (fun σ H Q => ta σ H fun x H' => ∃ k, TruV K x H' k ∧ Q k H') σ H ((s.length : Int) != 0) := fun H1 e Q q =>
  ha H1 e _ fun H2 e2 => ⟨_, ⟨sz_of hl, rfl⟩, q H2 e2⟩
/-- tuple(xs), xs a new list -/
def rTupOf (K : PySem.W.Frag) : List V → Hp → VK → Prop := fun xs H Q => ∃ p ys, xs = [.ref p] ∧ ((SqL K H p ys ∧ ∀ l, H l = none → Q (.ref l) (upd H l (.tup ys))) ∨ (SqT K H p ys ∧ Q (.ref p) H))
theorem eu_tupN {xs : List V} (ha : EvL ta σ H xs) : EvU (tCB (rTupOf K) (tCons ta tNil)) σ H xs := fun H1 e Q q =>
  ha H1 e _ fun p H2 hp e2 h2 => ⟨p, xs, rfl, .inl ⟨sq_of h2, fun l hl => q l _ (fresh_back e2 hl) (e2.trans (Ex.new hl)) upd_same⟩⟩
theorem eu_tupL {p : Addr} {xs : List V} (ha : Ev ta σ H (.ref p)) (h : SqL K H p xs) : EvU (tCB (rTupOf K) (tCons ta tNil)) σ H xs := fun H1 e Q q =>
  ha H1 e _ fun H2 e2 => ⟨p, xs, rfl, .inl ⟨ex_l (e.trans e2) h, fun l hl => q l _ (fresh_back e2 hl) (e2.trans (Ex.new hl)) upd_same⟩⟩
theorem ev_tupT {p : Addr} {xs : List V} (ha : Ev ta σ H (.ref p)) (h : SqT K H p xs) : Ev (tCB (rTupOf K) (tCons ta tNil)) σ H (.ref p) := fun H1 e Q q =>
  ha H1 e _ fun H2 e2 => ⟨p, xs, rfl, .inr ⟨ex_t (e.trans e2) h, q H2 e2⟩⟩
end
end LW

set_option Elab.async false
set_option linter.all false
set_option maxRecDepth 100000
set_option maxHeartbeats 4000000
namespace LW
open PySem L2 PySem.Spec PyProof.Rows LG Evl

/-! ### comprehensions, told by filter and map -/
def Cz (H : Hp) (acc : Nat → List V) (Dl : Addr) (i : Nat) (H' : Hp) : Prop := H Dl = none ∧ Ex H H' ∧ H' Dl = some (.lst (acc i))
def accOf {α : Type} (as : List α) (p : α → Bool) (g : α → V) (i : Nat) : List V := ((as.take i).filter p).map g
theorem acc_yes {α : Type} {as : List α} {p : α → Bool} {g : α → V} {i : Nat} {a : α} (h : as[i]? = some a) (hp : p a = true) : accOf as p g (i + 1) = accOf as p g i ++ [g a] := by
  unfold accOf
  rw [List.take_succ, h, List.filter_append, List.map_append]
  show _ ++ List.map g (List.filter p [a]) = _
  rw [List.filter_cons, if_pos hp]; rfl
theorem acc_no {α : Type} {as : List α} {p : α → Bool} {g : α → V} {i : Nat} {a : α} (h : as[i]? = some a) (hp : p a = false) : accOf as p g (i + 1) = accOf as p g i := by
  unfold accOf
  rw [List.take_succ, h, List.filter_append, List.map_append]
  show _ ++ List.map g (List.filter p [a]) = _
  rw [List.filter_cons, if_neg (by rw [hp]; exact Bool.false_ne_true)]
  exact List.append_nil _
theorem acc_len {α : Type} (as : List α) (p : α → Bool) (g : α → V) (i : Nat) : (accOf as p g i).length ≤ as.length := by
  unfold accOf
  rw [List.length_map]
  exact Nat.le_trans (List.length_filter_le _ _) (by rw [List.length_take]; exact Nat.min_le_right _ _)
theorem acc_all {α : Type} (as : List α) (p : α → Bool) (g : α → V) : accOf as p g as.length = (as.filter p).map g := by
  unfold accOf; rw [List.take_length]
section
variable {K : PySem.W.Frag} {σ : L2.St} {H H' : Hp} {ta tb te : TE} {t : TT} {α : Type} {as : List α} {F : α → V} {p : α → Bool} {g : α → V}
theorem cz_turn {Dl : Addr} {i : Nat} {σ2 : L2.St} {a : α} (c : Cz H (accOf as p g) Dl i H') (hz : as.length ≤ 50000) (hi : as[i]? = some a) (ht : EvT t σ2 H (p a)) (he : p a = true → Ev te σ2 H (g a)) :
    t σ2 H' fun b H3 => if b = true then te σ2 H3 fun y H4 => ∃ acc, H4 Dl = some (.lst acc) ∧ acc.length < sizeLine ∧ Cz H (accOf as p g) Dl (i + 1) (upd H4 Dl (.lst (acc ++ [y]))) else Cz H (accOf as p g) Dl (i + 1) H3 := by
  obtain ⟨c1, c2, c3⟩ := c
  refine ht H' c2 _ fun H3 e3 => ?_
  cases hf : p a with
  | true =>
    rw [if_pos rfl]
    refine he hf H3 (c2.trans e3) _ fun H4 e4 => ⟨accOf as p g i, e4 Dl _ (e3 Dl _ c3), sz_lt (by have := acc_len as p g i; omega), c1, Ex.mut ((c2.trans e3).trans e4) c1, ?_⟩
    rw [acc_yes hi hf]
    exact upd_same
  | false =>
    rw [if_neg Bool.false_ne_true]
    refine ⟨c1, c2.trans e3, ?_⟩
    rw [acc_no hi hf]
    exact e3 Dl _ c3
/-- [e for x in t if ..], t a tuple -/
theorem el_lcT {a : Addr} {tl : TE} {j : Nat} {vs : List Nat} (h : Ev tl σ H (.ref a)) (hx : SqT K H a (as.map F)) (hz : as.length ≤ 40000) (hw : ∀ x, wipe ((wipe σ vs).set j (some x)) vs = wipe σ vs)
    (ht : ∀ x H1, Ex H H1 → x ∈ as → EvT t ((wipe σ vs).set j (some (F x))) H1 (p x)) (he : ∀ x H1, Ex H H1 → x ∈ as → p x = true → Ev te ((wipe σ vs).set j (some (F x))) H1 (g x)) : EvL (tLc (iTup K tl) (gName j) t te vs) σ H ((as.filter p).map g) := fun H0 e Q q =>
  h H0 e _ fun H1 e1 => ⟨a, rfl, ⟨_, ex_t (e.trans e1) hx⟩, fun Dl hD => lc_tup (xs := as.map F) (Cz H1 (accOf as p g) Dl) ⟨hD, Ex.new hD, upd_same⟩ (fun i H' _ c => ex_t ((e.trans e1).trans c.2.1) hx)
    (fun i x H' hi c => by
      rw [List.getElem?_map] at hi
      cases ha : as[i]? with
      | none => rw [ha] at hi; cases hi
      | some b =>
        rw [ha] at hi; cases hi
        have hm := List.mem_of_getElem? ha
        exact ⟨hw _, cz_turn c (by omega) ha (ht b H1 (e.trans e1) hm) (fun hf => he b H1 (e.trans e1) hm hf)⟩)
    (fun H' c => q Dl H' (fresh_back e1 c.1) (e1.trans c.2.1) (by rw [← acc_all, ← List.length_map (f := F)]; exact c.2.2))⟩
/-- .. a list -/
theorem el_lcL' {a : Addr} {tl : TE} {j : Nat} {vs : List Nat} (h : Ev tl σ H (.ref a)) (hx : SqL K H a (as.map F)) (hz : as.length ≤ 40000) (hw : ∀ x, wipe ((wipe σ vs).set j (some x)) vs = wipe σ vs)
    (ht : ∀ x H1, Ex H H1 → x ∈ as → EvT t ((wipe σ vs).set j (some (F x))) H1 (p x)) (he : ∀ x H1, Ex H H1 → x ∈ as → p x = true → Ev te ((wipe σ vs).set j (some (F x))) H1 (g x)) : EvL (tLc (iList K tl) (gName j) t te vs) σ H ((as.filter p).map g) := fun H0 e Q q =>
  h H0 e _ fun H1 e1 => ⟨a, rfl, ⟨_, ex_l (e.trans e1) hx⟩, fun Dl hD => lc_list (xs := as.map F) (Cz H1 (accOf as p g) Dl) ⟨hD, Ex.new hD, upd_same⟩ (fun i H' _ c => ex_l ((e.trans e1).trans c.2.1) hx)
    (fun i x H' hi c => by
      rw [List.getElem?_map] at hi
      cases ha : as[i]? with
      | none => rw [ha] at hi; cases hi
      | some b =>
        rw [ha] at hi; cases hi
        have hm := List.mem_of_getElem? ha
        exact ⟨hw _, cz_turn c (by omega) ha (ht b H1 (e.trans e1) hm) (fun hf => he b H1 (e.trans e1) hm hf)⟩)
    (fun H' c => q Dl H' (fresh_back e1 c.1) (e1.trans c.2.1) (by rw [← acc_all, ← List.length_map (f := F)]; exact c.2.2))⟩
theorem et_yes : EvT tYes σ H true := fun H1 _ _ q => q H1 (Ex.refl H1)
end
end LW

set_option Elab.async false
set_option linter.all false
set_option maxRecDepth 100000
set_option maxHeartbeats 4000000
namespace LO
open PySem PySem.Spec PyProof.Rows L2

abbrev pw : Program := PySem.Challenge.pw_looseorder_k26_whole_orders_listed_and_n
def top (i : Nat) : Stmt := pw.main.body.getD i (.Pass ⟨0, 0, 0, 0⟩)
def clsBody (s : Stmt) : List Stmt := match s with
  | .ClassDef _ _ _ b _ _ _ _ _ _ _ => b
  | _ => []
def mth (i j : Nat) : Stmt := (clsBody (top i)).getD j (.Pass ⟨0, 0, 0, 0⟩)

abbrev s_is_whole : Stmt := top 14
abbrev s_has_letters : Stmt := top 15
abbrev s_is_name : Stmt := top 16
abbrev s_is_ending : Stmt := top 17
abbrev s_ending_from : Stmt := top 18
abbrev s_closure_of : Stmt := top 21
abbrev s_has_ring : Stmt := top 22
abbrev s_is_rule : Stmt := top 23
abbrev s_check_rules : Stmt := top 24
abbrev s_without_role : Stmt := top 26
abbrev s_is_first : Stmt := top 27
abbrev s_rows_from : Stmt := top 28
abbrev s_count_from : Stmt := top 29
abbrev s_keeps_rules : Stmt := top 30
abbrev s_is_row_of : Stmt := top 31
abbrev s_check_table : Stmt := top 35
abbrev s_check_nouns : Stmt := top 39
abbrev s_check_frame : Stmt := top 45
abbrev s_names_of_roles : Stmt := top 46
abbrev s_good_stocks : Stmt := top 47
abbrev s_good_frames : Stmt := top 48
abbrev s_good_rules : Stmt := top 49
abbrev s_couples_within : Stmt := top 52
abbrev s_slots_of : Stmt := top 53
abbrev s_orders_of : Stmt := top 54
abbrev s_how_many_orders : Stmt := top 55
abbrev s_check_order : Stmt := top 56
abbrev s_order_place : Stmt := top 57
abbrev s_order_at : Stmt := top 58
abbrev s__law_hand : Stmt := top 60
abbrev s__law_mixed : Stmt := top 61
abbrev s__law_take : Stmt := top 62
abbrev s__law_shuffled : Stmt := top 63
abbrev s__law_some : Stmt := top 64
abbrev s__law_closure : Stmt := top 65
abbrev s__law_many : Stmt := top 67
abbrev s__law_rules : Stmt := top 68
abbrev s__law_pool : Stmt := top 69
abbrev s__law_table : Stmt := top 70
abbrev s__law_frames : Stmt := top 73
abbrev s__law_world : Stmt := top 74
abbrev s__law_make : Stmt := top 75
abbrev s__law_slots : Stmt := top 76
abbrev s__law_orders : Stmt := top 77
abbrev s__law_is_whole : Stmt := top 78
abbrev s__law_same_row : Stmt := top 79
abbrev s__law_same_rows : Stmt := top 80
abbrev s__law_one : Stmt := top 81
abbrev s__law_rolled : Stmt := top 82
abbrev s__law_asked : Stmt := top 83
abbrev s__law_refused : Stmt := top 84
abbrev s__law_place_right : Stmt := top 85
abbrev s__law_row_right : Stmt := top 86
abbrev s__law_wrong_rows : Stmt := top 87
abbrev s__law_frame_right : Stmt := top 88
abbrev s_law : Stmt := top 89
abbrev s_Stock_init : Stmt := mth 36 0
abbrev s_Stock_borne : Stmt := mth 36 2
abbrev s_Frame_init : Stmt := mth 40 0
abbrev s_Frame_slots : Stmt := mth 40 2
abbrev s_Tongue_init : Stmt := mth 50 0
abbrev s_NoOrder_init : Stmt := mth 9 0
abbrev s_NoFrame_init : Stmt := mth 8 0

/-- a def of the module's top: its object, at f -/
abbrev FnAt (K : PySem.W.Frag) (x qual : Str) (st : Stmt) (dvs : List V) (f : Addr) : Prop := ∃ fd, FunD K x qual (defArgs st) (defBody st) (defScope st) dvs [] f fd
abbrev ga (K : PySem.W.Frag) (x : Str) : Addr := He.ga K x

/-- what the module holds, behind its top -/
structure Mods (P : Program) (K : PySem.W.Frag) (mg : Str → Option Value) (base : Heap) : Prop where
  kin : K.In base
  glob : base.Ns mainGlobals mg
  F_is_whole : FnAt K "is_whole" "is_whole" s_is_whole [.non, .non] (ga K "is_whole")
  g_is_whole : mg "is_whole" = some (.ref (ga K "is_whole"))
  F_has_letters : FnAt K "has_letters" "has_letters" s_has_letters [] (ga K "has_letters")
  g_has_letters : mg "has_letters" = some (.ref (ga K "has_letters"))
  F_is_name : FnAt K "is_name" "is_name" s_is_name [] (ga K "is_name")
  g_is_name : mg "is_name" = some (.ref (ga K "is_name"))
  F_is_ending : FnAt K "is_ending" "is_ending" s_is_ending [] (ga K "is_ending")
  g_is_ending : mg "is_ending" = some (.ref (ga K "is_ending"))
  F_ending_from : FnAt K "ending_from" "ending_from" s_ending_from [] (ga K "ending_from")
  g_ending_from : mg "ending_from" = some (.ref (ga K "ending_from"))
  F_closure_of : FnAt K "closure_of" "closure_of" s_closure_of [] (ga K "closure_of")
  g_closure_of : mg "closure_of" = some (.ref (ga K "closure_of"))
  F_has_ring : FnAt K "has_ring" "has_ring" s_has_ring [] (ga K "has_ring")
  g_has_ring : mg "has_ring" = some (.ref (ga K "has_ring"))
  F_is_rule : FnAt K "is_rule" "is_rule" s_is_rule [] (ga K "is_rule")
  g_is_rule : mg "is_rule" = some (.ref (ga K "is_rule"))
  F_check_rules : FnAt K "check_rules" "check_rules" s_check_rules [] (ga K "check_rules")
  g_check_rules : mg "check_rules" = some (.ref (ga K "check_rules"))
  F_without_role : FnAt K "without_role" "without_role" s_without_role [] (ga K "without_role")
  g_without_role : mg "without_role" = some (.ref (ga K "without_role"))
  F_is_first : FnAt K "is_first" "is_first" s_is_first [] (ga K "is_first")
  g_is_first : mg "is_first" = some (.ref (ga K "is_first"))
  F_rows_from : FnAt K "rows_from" "rows_from" s_rows_from [] (ga K "rows_from")
  g_rows_from : mg "rows_from" = some (.ref (ga K "rows_from"))
  F_count_from : FnAt K "count_from" "count_from" s_count_from [] (ga K "count_from")
  g_count_from : mg "count_from" = some (.ref (ga K "count_from"))
  F_keeps_rules : FnAt K "keeps_rules" "keeps_rules" s_keeps_rules [] (ga K "keeps_rules")
  g_keeps_rules : mg "keeps_rules" = some (.ref (ga K "keeps_rules"))
  F_is_row_of : FnAt K "is_row_of" "is_row_of" s_is_row_of [] (ga K "is_row_of")
  g_is_row_of : mg "is_row_of" = some (.ref (ga K "is_row_of"))
  F_check_table : FnAt K "check_table" "check_table" s_check_table [] (ga K "check_table")
  g_check_table : mg "check_table" = some (.ref (ga K "check_table"))
  F_check_nouns : FnAt K "check_nouns" "check_nouns" s_check_nouns [] (ga K "check_nouns")
  g_check_nouns : mg "check_nouns" = some (.ref (ga K "check_nouns"))
  F_check_frame : FnAt K "check_frame" "check_frame" s_check_frame [] (ga K "check_frame")
  g_check_frame : mg "check_frame" = some (.ref (ga K "check_frame"))
  F_names_of_roles : FnAt K "names_of_roles" "names_of_roles" s_names_of_roles [] (ga K "names_of_roles")
  g_names_of_roles : mg "names_of_roles" = some (.ref (ga K "names_of_roles"))
  F_good_stocks : FnAt K "good_stocks" "good_stocks" s_good_stocks [] (ga K "good_stocks")
  g_good_stocks : mg "good_stocks" = some (.ref (ga K "good_stocks"))
  F_good_frames : FnAt K "good_frames" "good_frames" s_good_frames [] (ga K "good_frames")
  g_good_frames : mg "good_frames" = some (.ref (ga K "good_frames"))
  F_good_rules : FnAt K "good_rules" "good_rules" s_good_rules [] (ga K "good_rules")
  g_good_rules : mg "good_rules" = some (.ref (ga K "good_rules"))
  F_couples_within : FnAt K "couples_within" "couples_within" s_couples_within [] (ga K "couples_within")
  g_couples_within : mg "couples_within" = some (.ref (ga K "couples_within"))
  F_slots_of : FnAt K "slots_of" "slots_of" s_slots_of [] (ga K "slots_of")
  g_slots_of : mg "slots_of" = some (.ref (ga K "slots_of"))
  F_orders_of : FnAt K "orders_of" "orders_of" s_orders_of [] (ga K "orders_of")
  g_orders_of : mg "orders_of" = some (.ref (ga K "orders_of"))
  F_how_many_orders : FnAt K "how_many_orders" "how_many_orders" s_how_many_orders [] (ga K "how_many_orders")
  g_how_many_orders : mg "how_many_orders" = some (.ref (ga K "how_many_orders"))
  F_check_order : FnAt K "check_order" "check_order" s_check_order [] (ga K "check_order")
  g_check_order : mg "check_order" = some (.ref (ga K "check_order"))
  F_order_place : FnAt K "order_place" "order_place" s_order_place [] (ga K "order_place")
  g_order_place : mg "order_place" = some (.ref (ga K "order_place"))
  F_order_at : FnAt K "order_at" "order_at" s_order_at [] (ga K "order_at")
  g_order_at : mg "order_at" = some (.ref (ga K "order_at"))
  F__law_hand : FnAt K "_law_hand" "_law_hand" s__law_hand [] (ga K "_law_hand")
  g__law_hand : mg "_law_hand" = some (.ref (ga K "_law_hand"))
  F__law_mixed : FnAt K "_law_mixed" "_law_mixed" s__law_mixed [] (ga K "_law_mixed")
  g__law_mixed : mg "_law_mixed" = some (.ref (ga K "_law_mixed"))
  F__law_take : FnAt K "_law_take" "_law_take" s__law_take [] (ga K "_law_take")
  g__law_take : mg "_law_take" = some (.ref (ga K "_law_take"))
  F__law_shuffled : FnAt K "_law_shuffled" "_law_shuffled" s__law_shuffled [] (ga K "_law_shuffled")
  g__law_shuffled : mg "_law_shuffled" = some (.ref (ga K "_law_shuffled"))
  F__law_some : FnAt K "_law_some" "_law_some" s__law_some [] (ga K "_law_some")
  g__law_some : mg "_law_some" = some (.ref (ga K "_law_some"))
  F__law_closure : FnAt K "_law_closure" "_law_closure" s__law_closure [] (ga K "_law_closure")
  g__law_closure : mg "_law_closure" = some (.ref (ga K "_law_closure"))
  F__law_many : FnAt K "_law_many" "_law_many" s__law_many [] (ga K "_law_many")
  g__law_many : mg "_law_many" = some (.ref (ga K "_law_many"))
  F__law_rules : FnAt K "_law_rules" "_law_rules" s__law_rules [] (ga K "_law_rules")
  g__law_rules : mg "_law_rules" = some (.ref (ga K "_law_rules"))
  F__law_pool : FnAt K "_law_pool" "_law_pool" s__law_pool [] (ga K "_law_pool")
  g__law_pool : mg "_law_pool" = some (.ref (ga K "_law_pool"))
  F__law_table : FnAt K "_law_table" "_law_table" s__law_table [] (ga K "_law_table")
  g__law_table : mg "_law_table" = some (.ref (ga K "_law_table"))
  F__law_frames : FnAt K "_law_frames" "_law_frames" s__law_frames [] (ga K "_law_frames")
  g__law_frames : mg "_law_frames" = some (.ref (ga K "_law_frames"))
  F__law_world : FnAt K "_law_world" "_law_world" s__law_world [] (ga K "_law_world")
  g__law_world : mg "_law_world" = some (.ref (ga K "_law_world"))
  F__law_make : FnAt K "_law_make" "_law_make" s__law_make [] (ga K "_law_make")
  g__law_make : mg "_law_make" = some (.ref (ga K "_law_make"))
  F__law_slots : FnAt K "_law_slots" "_law_slots" s__law_slots [] (ga K "_law_slots")
  g__law_slots : mg "_law_slots" = some (.ref (ga K "_law_slots"))
  F__law_orders : FnAt K "_law_orders" "_law_orders" s__law_orders [] (ga K "_law_orders")
  g__law_orders : mg "_law_orders" = some (.ref (ga K "_law_orders"))
  F__law_is_whole : FnAt K "_law_is_whole" "_law_is_whole" s__law_is_whole [] (ga K "_law_is_whole")
  g__law_is_whole : mg "_law_is_whole" = some (.ref (ga K "_law_is_whole"))
  F__law_same_row : FnAt K "_law_same_row" "_law_same_row" s__law_same_row [] (ga K "_law_same_row")
  g__law_same_row : mg "_law_same_row" = some (.ref (ga K "_law_same_row"))
  F__law_same_rows : FnAt K "_law_same_rows" "_law_same_rows" s__law_same_rows [] (ga K "_law_same_rows")
  g__law_same_rows : mg "_law_same_rows" = some (.ref (ga K "_law_same_rows"))
  F__law_one : FnAt K "_law_one" "_law_one" s__law_one [] (ga K "_law_one")
  g__law_one : mg "_law_one" = some (.ref (ga K "_law_one"))
  F__law_rolled : FnAt K "_law_rolled" "_law_rolled" s__law_rolled [] (ga K "_law_rolled")
  g__law_rolled : mg "_law_rolled" = some (.ref (ga K "_law_rolled"))
  F__law_asked : FnAt K "_law_asked" "_law_asked" s__law_asked [] (ga K "_law_asked")
  g__law_asked : mg "_law_asked" = some (.ref (ga K "_law_asked"))
  F__law_refused : FnAt K "_law_refused" "_law_refused" s__law_refused [] (ga K "_law_refused")
  g__law_refused : mg "_law_refused" = some (.ref (ga K "_law_refused"))
  F__law_place_right : FnAt K "_law_place_right" "_law_place_right" s__law_place_right [] (ga K "_law_place_right")
  g__law_place_right : mg "_law_place_right" = some (.ref (ga K "_law_place_right"))
  F__law_row_right : FnAt K "_law_row_right" "_law_row_right" s__law_row_right [] (ga K "_law_row_right")
  g__law_row_right : mg "_law_row_right" = some (.ref (ga K "_law_row_right"))
  F__law_wrong_rows : FnAt K "_law_wrong_rows" "_law_wrong_rows" s__law_wrong_rows [] (ga K "_law_wrong_rows")
  g__law_wrong_rows : mg "_law_wrong_rows" = some (.ref (ga K "_law_wrong_rows"))
  F__law_frame_right : FnAt K "_law_frame_right" "_law_frame_right" s__law_frame_right [] (ga K "_law_frame_right")
  g__law_frame_right : mg "_law_frame_right" = some (.ref (ga K "_law_frame_right"))
  F_law : FnAt K "law" "law" s_law [] (ga K "law")
  g_law : mg "law" = some (.ref (ga K "law"))
  z_len : mg "len" = none
  z_list : mg "list" = none
  z_tuple : mg "tuple" = none
  z_sorted : mg "sorted" = none
  z_range : mg "range" = none
  z_int : mg "int" = none
  z_isinstance : mg "isinstance" = none
  z_bool : mg "bool" = none
  z_str : mg "str" = none
  z_min : mg "min" = none
  z_max : mg "max" = none
  z_super : mg "super" = none
  i_MOST_PARTS : ∃ t, mg "MOST_PARTS" = some (.int 4 t)
  i_LONGEST_PART : ∃ t, mg "LONGEST_PART" = some (.int 3 t)
  i_MOST_RULES : ∃ t, mg "MOST_RULES" = some (.int 30 t)
  i_MOST_ROLES : ∃ t, mg "MOST_ROLES" = some (.int 6 t)
  i_LONGEST_NAME : ∃ t, mg "LONGEST_NAME" = some (.int 8 t)
  i_MOST_NOUNS : ∃ t, mg "MOST_NOUNS" = some (.int 5 t)
  i_MOST_STOCKS : ∃ t, mg "MOST_STOCKS" = some (.int 4 t)
  i_MOST_FRAMES : ∃ t, mg "MOST_FRAMES" = some (.int 4 t)
  LETTERS : ∃ t, mg "LETTERS" = some (.str "abcdefghijklmnopqrstuvwxyz" t)
  VERBS : mg "VERBS" = some (.ref (ga K "VERBS")) ∧ ∀ H : Hp, SqT K H (ga K "VERBS") [.str "first", .str "last", .str "free"]
  g_Stock : mg "Stock" = some (.ref (ga K "Stock"))
  cls_Stock : Cls K (ga K "Stock")
  no_Stock_name : NoAttr K (ga K "Stock") "name"
  no_Stock_table : NoAttr K (ga K "Stock") "table"
  ty_Stock : LW.TyC K (ga K "Stock")
  kit_Stock : PySem.W.kitOne K (.ref (ga K "Stock")) (.ref (ga K "Stock")) = some true
  I_Stock : ∃ f, Mk K (ga K "Stock") f ∧ FnAt K "__init__" "Stock.__init__" s_Stock_init [] f
  g_Frame : mg "Frame" = some (.ref (ga K "Frame"))
  cls_Frame : Cls K (ga K "Frame")
  no_Frame_name : NoAttr K (ga K "Frame") "name"
  no_Frame_nouns : NoAttr K (ga K "Frame") "nouns"
  no_Frame_clause : NoAttr K (ga K "Frame") "clause"
  no_Frame_agreed : NoAttr K (ga K "Frame") "agreed"
  ty_Frame : LW.TyC K (ga K "Frame")
  kit_Frame : PySem.W.kitOne K (.ref (ga K "Frame")) (.ref (ga K "Frame")) = some true
  I_Frame : ∃ f, Mk K (ga K "Frame") f ∧ FnAt K "__init__" "Frame.__init__" s_Frame_init [.non, .non] f
  g_Tongue : mg "Tongue" = some (.ref (ga K "Tongue"))
  cls_Tongue : Cls K (ga K "Tongue")
  no_Tongue_roles : NoAttr K (ga K "Tongue") "roles"
  no_Tongue_stocks : NoAttr K (ga K "Tongue") "stocks"
  no_Tongue_frames : NoAttr K (ga K "Tongue") "frames"
  no_Tongue_rules : NoAttr K (ga K "Tongue") "rules"
  no_Tongue_verbs : NoAttr K (ga K "Tongue") "verbs"
  no_Tongue_closure : NoAttr K (ga K "Tongue") "closure"
  ty_Tongue : LW.TyC K (ga K "Tongue")
  kit_Tongue : PySem.W.kitOne K (.ref (ga K "Tongue")) (.ref (ga K "Tongue")) = some true
  I_Tongue : ∃ f, Mk K (ga K "Tongue") f ∧ FnAt K "__init__" "Tongue.__init__" s_Tongue_init [.ref (He.dflAt ("Tongue", some "__init__") 0 K), .str "last"] f
  borne : ∃ p g, PropOf K (ga K "Stock") "borne" p g ∧ FnAt K "borne" "Stock.borne" s_Stock_borne [] g
  slots : ∃ p g, PropOf K (ga K "Frame") "slots" p g ∧ FnAt K "slots" "Frame.slots" s_Frame_slots [] g
  g_TongueError : mg "TongueError" = some (.ref (ga K "TongueError"))
  g_NoFrame : mg "NoFrame" = some (.ref (ga K "NoFrame"))
  g_NoOrder : mg "NoOrder" = some (.ref (ga K "NoOrder"))
  oex_NoFrame : OexC K (ga K "NoFrame")
  exc_NoFrame : ExcC K (ga K "NoFrame")
  exm_NoFrame : PySem.W.exmOne K (.ref (ga K "NoFrame")) (.ref (ga K "TongueError")) = some true
  oex_NoOrder : OexC K (ga K "NoOrder")
  exc_NoOrder : ExcC K (ga K "NoOrder")
  exm_NoOrder : PySem.W.exmOne K (.ref (ga K "NoOrder")) (.ref (ga K "TongueError")) = some true
  xf_NoFrame : XfC K (ga K "NoFrame")
  fld_NoFrame : PySem.W.findIn K (.ref (ga K "NoFrame")) "frame" = some none
  I_NoOrder : ∃ f, PySem.W.findIn K (.ref (ga K "NoOrder")) "__init__" = some (some (.ref f)) ∧ PySem.W.typeIn K (.ref f) = some (.type "function") ∧ FnAt K "__init__" "NoOrder.__init__" s_NoOrder_init [] f
  base_NoOrder : ∃ mc, ClX.CRead K (ga K "TongueError") mc ∧ PySem.W.findCls K (.ref (ga K "TongueError")) mc "__init__" = some (.val (.builtin "ValueError.__init__"))
  I_NoFrame : ∃ f fd, PySem.W.findIn K (.ref (ga K "NoFrame")) "__init__" = some (some (.ref f)) ∧ PySem.W.typeIn K (.ref f) = some (.type "function") ∧ LE.NFI P K LE.pNF (defArgs s_NoFrame_init) (ga K "NoFrame") f fd ∧ Binds K fd LE.NNF []
  kit_NoOrder_NoOrder : PySem.W.kitOne K (.ref (ga K "NoOrder")) (.ref (ga K "NoOrder")) = some true
  kit_NoOrder_NoFrame : PySem.W.kitOne K (.ref (ga K "NoOrder")) (.ref (ga K "NoFrame")) = some false
  kit_NoFrame_NoOrder : PySem.W.kitOne K (.ref (ga K "NoFrame")) (.ref (ga K "NoOrder")) = some false
  kit_NoFrame_NoFrame : PySem.W.kitOne K (.ref (ga K "NoFrame")) (.ref (ga K "NoFrame")) = some true

section
variable {P : Program} {w : World} {K : PySem.W.Frag} {mg : Str → Option Value} {base : Heap}
/-- a def that keeps its promise, by its name: dv the defaults that a call leaves to it -/
def Fn (P : Program) (w : World) (K : PySem.W.Frag) (mg : Str → Option Value) (base : Heap) (CX : CXT) (k : Nat) (x : Str) (ps : List Str) (dv : List V) (sp : Sp) : Prop := ∃ f fd ds, FnOk P w K mg base CX k f fd ps sp ∧ mg x = some (.ref f) ∧ PySem.W.keepIn K (.ref f) = true ∧ Binds K fd ps ds ∧ Vals dv ds
theorem Fn.mk {CX : CXT} {N ps : List Str} {k : Nat} {sp : Sp} {x qual : Str} {st : Stmt} {f : Addr} (F : FnAt K x qual st [] f) (hm : mg x = some (.ref f)) (S : FnScope N ps (defScope st)) (len : ∀ vs H Q E, sp vs H Q E → vs.length = ps.length)
    (hb : ∀ fd, FunD K x qual (defArgs st) (defBody st) (defScope st) [] [] f fd → Binds K fd ps [])
    (hbody : ∀ (cdv : Value) (A : Around) (outer : List Env) (s : Shared) (H : Hp) (vs : List V) (Q : VK) (E : XK), Room k (A.deeper (envOfC qual (defScope st) s.heap.objs.size f cdv)) → sp vs H Q E →
      ∃ t, PSs (cxOf CX P w K mg base N qual (defScope st) f cdv A outer s H E) (defBody st) t ∧ t { nx := fun _ H' => Q .non H', rt := Q } (start N vs) H) : Fn P w K mg base CX (k + 1) x ps [] sp := by
  obtain ⟨fd, F⟩ := F
  exact ⟨f, fd, [], F.ok S len hbody, hm, F.kp, hb fd F, .nil⟩
/-- no exception leaves it -/
theorem Fn.mk0 {N ps : List Str} {k : Nat} {sp : Sp} {x qual : Str} {st : Stmt} {f : Addr} (F : FnAt K x qual st [] f) (hm : mg x = some (.ref f)) (S : FnScope N ps (defScope st)) (len : ∀ vs H Q E, sp vs H Q E → vs.length = ps.length)
    (hb : ∀ fd, FunD K x qual (defArgs st) (defBody st) (defScope st) [] [] f fd → Binds K fd ps [])
    (hbody : ∀ (cdv : Value) (A : Around) (outer : List Env) (s : Shared) (H : Hp) (vs : List V) (Q : VK) (E : XK), Room k (A.deeper (envOfC qual (defScope st) s.heap.objs.size f cdv)) → sp vs H Q E →
      ∃ t, PSs (Cx.nox (cxOf CX0 P w K mg base N qual (defScope st) f cdv A outer s H E)) (defBody st) t ∧ t { nx := fun _ H' => Q .non H', rt := Q } (start N vs) H) : Fn P w K mg base CX0 (k + 1) x ps [] sp :=
  Fn.mk F hm S len hb fun cdv A outer s H vs Q E hr h => by
    obtain ⟨t, h1, h2⟩ := hbody cdv A outer s H vs Q E hr h
    exact ⟨t, PSs.nox h1, h2⟩
theorem Fn.imp {CX : CXT} {k : Nat} {x : Str} {ps : List Str} {dv : List V} {sp sp' : Sp} (F : Fn P w K mg base CX k x ps dv sp) (h : ∀ vs H Q E, sp' vs H Q E → sp vs H Q E) : Fn P w K mg base CX k x ps dv sp' := by
  obtain ⟨f, fd, ds, F1, r⟩ := F
  exact ⟨f, fd, ds, F1.imp h, r⟩
end
section
variable {X : Cx} {CX : CXT} {k : Nat} {x : Str} {ps : List Str} {dv : List V} {sp : Sp} {E : XK} {e : Expr} {es : List Expr} {t : TA} {p pos : Pos}
theorem pe_fn (F : Fn X.prog X.w X.K X.mg X.base CX k x ps dv sp) (hr : Room k X.A) (hx : Passes CX X E) (ha : PA X (e :: es) t) (hg : Gl X x := by rfl) (hdb : (x == ("__debug__" : Str)) = false := by decide) (he : starEach (e :: es) X.env = (false, eval e X.env) :: starEach es X.env := by rfl)
    (hpl : (backTo pos (starEach es X.env)).any (·.1) = false := by rfl) : PE X (.Call (.Name x p) (e :: es) [] pos) (tCall sp dv E t) := by
  obtain ⟨f, fd, ds, F1, hm, hk, hb, hd⟩ := F
  exact pe_call F1 hr hg hm hk hb hd hx ha hdb he hpl
theorem pe_gint {i : Int} (h : ∃ t, X.mg x = some (.int i t)) (hg : Gl X x := by rfl) (hdb : (x == ("__debug__" : Str)) = false := by decide) : PE X (.Name x p) (tC (.int i)) := by
  obtain ⟨t, h⟩ := h
  exact pe_glob hg h ⟨t, rfl⟩ hdb
theorem pe_gstr {z : Str} (h : ∃ t, X.mg x = some (.str z t)) (hg : Gl X x := by rfl) (hdb : (x == ("__debug__" : Str)) = false := by decide) : PE X (.Name x p) (tC (.str z)) := by
  obtain ⟨t, h⟩ := h
  exact pe_glob hg h ⟨t, rfl⟩ hdb
theorem pe_gref {a : Addr} (h : X.mg x = some (.ref a)) (hg : Gl X x := by rfl) (hdb : (x == ("__debug__" : Str)) = false := by decide) : PE X (.Name x p) (tC (.ref a)) := pe_glob hg h rfl hdb
end
end LO

set_option Elab.async false
set_option linter.all false
set_option maxRecDepth 100000
set_option maxHeartbeats 4000000
namespace LO
open PySem PySem.Spec PyProof.Rows L2 LG LW Evl

theorem u65 {k : Nat} {A : Around} (r : Room k A) : A.units + 65 < cLine := by have := r.un; omega
theorem same_ex {H H' : Hp} (e : Ex H H') : Same H H' := e
section
variable {P : Program} {w : World} {K : PySem.W.Frag} {mg : Str → Option Value} {base : Heap}
/-! ### without_role -/
abbrev n_without_role : List Str := ["left", "role", "other"]
theorem sc_without_role : FnScope n_without_role ["left", "role"] (defScope s_without_role) := ⟨rfl, rfl, rfl, by decide +kernel, rfl, by decide +kernel, by decide +kernel⟩
theorem fn_without_role (M : Mods P K mg base) : Fn P w K mg base CX0 1 "without_role" ["left", "role"] [] (spWithout K) := by
  have nd := sc_without_role.nd
  refine Fn.mk0 (M.F_without_role) M.g_without_role sc_without_role (fun vs H Q E h => ?_) (fun fd F => F.bindsN fun _ _ _ _ _ _ us hl => match us, hl with | [_, _], _ => rfl) fun cdv A outer s H vs Q E hr h => ⟨_,
    (pss_one (ps_ret (pe_callTy call_tuple_of rfl M.z_tuple LW.boot_tuple (pa_cons (pe_lc (own := [("other", 2)]) rfl nd (pi_tup (pv 0)) (blkOk_by (N := n_without_role) (sc := (defScope s_without_role)) (by decide +kernel)) (fun _ _ _ _ _ => (pg_name (i := 2) nd rfl (.inl rfl))) (fun _ _ _ _ _ => (pts_one (pt_cmpR op_ne (pv 2) (pv 1) (nomark _)))) (fun _ _ _ _ _ => (pv 2))) pa_nil)))), ?_⟩
  · obtain ⟨a, left, r, rfl, _⟩ := h; rfl
  · obtain ⟨a, left, r, rfl, ha, hz, hQ⟩ := h
    refine s_retU (eu_tupN (el_lcT (as := left) (F := V.int) (p := fun o => !decide (o = r)) (g := V.int) (ev_var rfl) ha (by omega) (fun _ => rfl) (fun x H1 e _ => ?_) fun x H1 e _ _ => ev_var rfl)) fun p H1 hp e h1 => hQ H1 p e hp h1
    refine et_is (et_op (ev_var rfl) (ev_var rfl) (rv_ne rfl)) ?_
    by_cases h : x = r <;> simp [h]
/-! ### is_first -/
abbrev n_is_first : List Str := ["left", "couples", "role", "other"]
theorem sc_is_first : FnScope n_is_first ["left", "couples", "role"] (defScope s_is_first) := ⟨rfl, rfl, rfl, by decide +kernel, rfl, by decide +kernel, by decide +kernel⟩
theorem rv_inPairs {a b : Addr} {c : Int × Int} {cs : List (Int × Int)} {H : Hp} (h1 : SqT K H a [.int c.1, .int c.2]) (h2 : PTup K H b cs) : RV (rInPairs K) (.ref a) (.ref b) H (.bl (cs.contains c)) := fun H1 e Q q => ⟨a, b, c, cs, rfl, rfl, ex_t e h1, h2.same e, q H1 (Ex.refl H1)⟩
theorem fn_is_first (M : Mods P K mg base) : Fn P w K mg base CX0 1 "is_first" ["left", "couples", "role"] [] (spFirst K) := by
  have nd := sc_is_first.nd
  refine Fn.mk0 (M.F_is_first) M.g_is_first sc_is_first (fun vs H Q E h => ?_) (fun fd F => F.bindsN fun _ _ _ _ _ _ us hl => match us, hl with | [_, _, _], _ => rfl) fun cdv A outer s H vs Q E hr h => ⟨_,
    (pss_cons (ps_for PassesOwn.never rfl (pi_tup (pv 0)) (pg_name (i := 3) nd rfl (.inl rfl)) (pss_one (ps_if (pt_cmpR (op_inPairs (u65 hr)) (pe_tup (pa_cons (pv 3) (pa_cons (pv 2) pa_nil))) (pv 1) rfl) (pss_one (ps_ret pe_bl)) pss_nil))) (pss_one (ps_ret pe_bl))), ?_⟩
  · obtain ⟨a, b, left, cs, r, rfl, _⟩ := h; rfl
  · obtain ⟨a, b, left, cs, r, rfl, ha, hb, hQ⟩ := h
    refine q_forT (ev_var rfl) ha (fun i σ' H' => Ex H H' ∧ (∃ v, σ' = [some (.ref a), some (.ref b), some (.int r), v]) ∧ (left.take i).any (fun o => cs.contains (o, r)) = false) (fun H1 e => ⟨e, ⟨none, rfl⟩, rfl⟩) (fun i σ' H' _ h => ex_t h.1 ha) (fun i x σ' H' hi h => ?_) (fun σ' H' h => ?_)
    · obtain ⟨e, ⟨v, rfl⟩, hany⟩ := h
      rw [List.getElem?_map] at hi
      cases hl : left[i]? with
      | none => rw [hl] at hi; cases hi
      | some o =>
        rw [hl] at hi; cases hi
        have step : (left.take (i + 1)).any (fun o => cs.contains (o, r)) = cs.contains (o, r) := by
          rw [List.take_succ, hl, List.any_append, hany]; simp
        refine s_if (b := cs.contains (o, r)) (et_test (fun H1 e1 Q q => ?_)) (fun hc H1 e1 => ?_) (fun hc H1 e1 => ?_)
        · exact eu_tup (ea_cons (ev_var rfl) (ea_cons (ev_var rfl) ea_nil)) (show 2 ≤ 100000 by decide) H1 e1 _ fun p H2 _ e2 hp => (ev_var rfl : Ev (tVar 1) _ H2 (.ref b)) H2 (Ex.refl H2) _ fun H3 e3 =>
            rv_inPairs (c := (o, r)) (st_of hp) (hb.same ((e.trans e1).trans e2)) H3 e3 Q fun H4 e4 => q H4 ((e2.trans e3).trans e4)
        · refine s_ret ev_c fun H2 e2 => ?_
          have : isFirst left cs r = false := by
            unfold isFirst
            have hin : left.any (fun o => cs.contains (o, r)) = true := List.any_eq_true.mpr ⟨o, List.mem_of_getElem? hl, hc⟩
            rw [hin]; rfl
          have q := hQ H2 ((e.trans e1).trans e2)
          rw [this] at q
          exact q
        · exact ⟨e.trans e1, ⟨_, rfl⟩, step.trans hc⟩
    · obtain ⟨e, ⟨v, rfl⟩, hany⟩ := h
      rw [List.length_map, List.take_length] at hany
      refine s_ret ev_c fun H2 e2 => ?_
      have : isFirst left cs r = true := by unfold isFirst; rw [hany]; rfl
      have q := hQ H2 (e.trans e2)
      rw [this] at q
      exact q
end
end LO

set_option Elab.async false
set_option linter.all false
set_option maxRecDepth 100000
set_option maxHeartbeats 4000000
namespace LO
open PySem PySem.Spec PyProof.Rows L2 LG LW Evl

/-! ### things of no address -/
def flat4 : V → Bool
  | .int _ => true
  | .bl _ => true
  | .non => true
  | .str _ => true
  | _ => false
def tyN : V → String
  | .int _ => "int"
  | .bl _ => "bool"
  | .non => "NoneType"
  | .str _ => "str"
  | _ => ""
theorem tyx_flat {K : PySem.W.Frag} {H : Hp} {x : V} (h : flat4 x = true) : TyX K H x (.type (tyN x)) := by
  cases x with
  | int i => exact .base (.int i)
  | bl b => exact .base (.bl b)
  | non => exact .base .non
  | str s => exact .base (.str s)
  | _ => cases h
def optV : Option Int → V
  | none => .non
  | some i => .int i
/-- is_whole -/
def geO (lo : Option Int) (i : Int) : Bool := match lo with
  | none => true
  | some l => decide (l ≤ i)
def leO (hi : Option Int) (i : Int) : Bool := match hi with
  | none => true
  | some h => decide (i ≤ h)
def wholeB (x : V) (lo hi : Option Int) : Bool := match x with
  | .int i => geO lo i && leO hi i
  | _ => false
def spWhole : Sp := fun vs H Q _ => ∃ x lo hi, vs = [x, optV lo, optV hi] ∧ flat4 x = true ∧ ∀ H', Ex H H' → Q (.bl (wholeB x lo hi)) H'
section
variable {P : Program} {w : World} {K : PySem.W.Frag} {mg : Str → Option Value} {base : Heap}
abbrev n_is_whole : List Str := ["thing", "low", "high"]
theorem sc_is_whole : FnScope n_is_whole ["thing", "low", "high"] (defScope s_is_whole) := ⟨rfl, rfl, rfl, by decide +kernel, rfl, by decide +kernel, by decide +kernel⟩
theorem kit_int : ∀ x, flat4 x = true → kitB (tyN x) "int" = some (match x with | .int _ => true | .bl _ => true | _ => false) := by
  intro x h
  cases x with
  | int i => exact (by decide +kernel : kitB "int" "int" = some true)
  | bl b => exact (by decide +kernel : kitB "bool" "int" = some true)
  | non => exact (by decide +kernel : kitB "NoneType" "int" = some false)
  | str s => exact (by decide +kernel : kitB "str" "int" = some false)
  | _ => cases h
theorem kit_bool : ∀ x, flat4 x = true → kitB (tyN x) "bool" = some (match x with | .bl _ => true | _ => false) := by
  intro x h
  cases x with
  | int i => exact (by decide +kernel : kitB "int" "bool" = some false)
  | bl b => exact (by decide +kernel : kitB "bool" "bool" = some true)
  | non => exact (by decide +kernel : kitB "NoneType" "bool" = some false)
  | str s => exact (by decide +kernel : kitB "str" "bool" = some false)
  | _ => cases h
theorem body_is_whole (M : Mods P K mg base) {fd : FuncData} (F : FunD K "is_whole" "is_whole" (defArgs s_is_whole) (defBody s_is_whole) (defScope s_is_whole) [.non, .non] [] (ga K "is_whole") fd) : FnOk P w K mg base CX0 1 (ga K "is_whole") fd ["thing", "low", "high"] spWhole := by
  have nd := sc_is_whole.nd
  refine F.ok sc_is_whole (fun vs H Q E h => ?_) fun cdv A outer s H vs Q E hr h => ⟨_, PSs.nox
    (pss_cons (ps_if (PW.pt (pw_or (pt_not (pt_val (pe_callB call_isi rfl M.z_isinstance LW.boot_isinstance (pa_cons (pv 0) (pa_cons (pe_bltn (v := .ty "int") rfl M.z_int LW.boot_int rfl) pa_nil))))) (pw_or1 (pt_val (pe_callB call_isi rfl M.z_isinstance LW.boot_isinstance (pa_cons (pv 0) (pa_cons (pe_bltn (v := .ty "bool") rfl M.z_bool LW.boot_bool rfl) pa_nil))))))) (pss_one (ps_ret pe_bl)) pss_nil) (pss_one (ps_ret (pe_and (pe_or (pe_cmpR op_isN1 (pv 1) pe_non (nomark _)) (pe_one (pe_cmpR op_ge (pv 0) (pv 1) (nomark _)))) (pe_one (pe_or (pe_cmpR op_isN1 (pv 2) pe_non (nomark _)) (pe_one (pe_cmpR op_le (pv 0) (pv 2) (nomark _))))))))), ?_⟩
  · obtain ⟨x, lo, hi, rfl, _⟩ := h; rfl
  · obtain ⟨x, lo, hi, rfl, hf, hQ⟩ := h
    have e1 := ev_isi (K := K) (σ := [some x, some (optV lo), some (optV hi)]) (H := H) (ta := tVar 0) (tb := tC (.ty "int")) (ev_var rfl) ev_c (.ty "int") (tyx_flat hf) (kit_ty (kit_int x hf))
    have e2 := ev_isi (K := K) (σ := [some x, some (optV lo), some (optV hi)]) (H := H) (ta := tVar 0) (tb := tC (.ty "bool")) (ev_var rfl) ev_c (.ty "bool") (tyx_flat hf) (kit_ty (kit_bool x hf))
    refine q_when (et_or (et_not (et_B e1)) fun _ => et_B e2) (fun hb H1 ex => ?_) (fun hb H1 ex => ?_)
    · have hw : wholeB x lo hi = false := by
        cases x <;> first | rfl | (cases hb; done) | cases hf
      refine s_ret ev_c fun H2 e3 => ?_
      rw [← hw]
      exact hQ H2 (ex.trans e3)
    · cases x with
      | int i =>
        have a1 : Ev (tOrV (tOp rIsN (tVar 1) (tC .non)) (tOp (rI0 fun i j => .bl (decide (j ≤ i))) (tVar 0) (tVar 1))) [some (.int i), some (optV lo), some (optV hi)] H1 (.bl (geO lo i)) := by
          cases lo with
          | none => exact ev_is (ev_orV (b := true) (ev_op (ev_var rfl) ev_c rv_isN) (fun h => by cases h)) rfl
          | some l => exact ev_is (ev_orV (ev_op (ev_var rfl) ev_c rv_isN) fun _ => ev_op (ev_var rfl) (ev_var rfl) rv_I0) rfl
        have a2 : Ev (tOrV (tOp rIsN (tVar 2) (tC .non)) (tOp (rI0 fun i j => .bl (decide (i ≤ j))) (tVar 0) (tVar 2))) [some (.int i), some (optV lo), some (optV hi)] H1 (.bl (leO hi i)) := by
          cases hi with
          | none => exact ev_is (ev_orV (b := true) (ev_op (ev_var rfl) ev_c rv_isN) (fun h => by cases h)) rfl
          | some l => exact ev_is (ev_orV (ev_op (ev_var rfl) ev_c rv_isN) fun _ => ev_op (ev_var rfl) (ev_var rfl) rv_I0) rfl
        exact s_ret (ev_andV a1 fun _ => a2) fun H2 e3 => hQ H2 (ex.trans e3)
      | bl b => cases hb
      | non => cases hb
      | str s => cases hb
      | _ => cases hf
theorem fn_is_whole (M : Mods P K mg base) : Fn P w K mg base CX0 1 "is_whole" ["thing", "low", "high"] [] spWhole := by
  obtain ⟨fd, F⟩ := M.F_is_whole
  obtain ⟨ds, r, b⟩ := F.binds1 (ps := ["thing", "low", "high"]) 3 2 (by simp) rfl fun T kV doc pm an cdv ct us its h1 h2 => match us, its, h1, h2 with | [_, _, _], [_, _], _, _ => ⟨_, rfl, rfl⟩
  cases r
  exact ⟨_, fd, [], body_is_whole M F, M.g_is_whole, F.kp, b, .nil⟩
theorem fn_is_whole1 (M : Mods P K mg base) : Fn P w K mg base CX0 1 "is_whole" ["thing", "low", "high"] [.non, .non] spWhole := by
  obtain ⟨fd, F⟩ := M.F_is_whole
  obtain ⟨ds, r, b⟩ := F.binds1 (ps := ["thing", "low", "high"]) 1 0 (by simp) rfl fun T kV doc pm an cdv ct us its h1 h2 => match us, its, h1, h2 with | [_], [_, _], _, _ => ⟨_, rfl, rfl⟩
  exact ⟨_, fd, ds, body_is_whole M F, M.g_is_whole, F.kp, b, r⟩
end
end LO

set_option Elab.async false
set_option linter.all false
set_option maxRecDepth 100000
set_option maxHeartbeats 4000000
namespace LO
open PySem PySem.Spec PyProof.Rows L2 LG LW Evl
theorem Fn.up {P : Program} {w : World} {K : PySem.W.Frag} {mg : Str → Option Value} {base : Heap} {CX : CXT} {j k : Nat} {x : Str} {ps : List Str} {dv : List V} {sp : Sp} (F : Fn P w K mg base CX j x ps dv sp) (h : j ≤ k) : Fn P w K mg base CX k x ps dv sp := by
  obtain ⟨f, fd, ds, F1, r⟩ := F
  exact ⟨f, fd, ds, F1.mono h, r⟩
end LO
namespace LW
open PySem L2 PySem.Spec PyProof.Rows LG Evl
section
variable {K : PySem.W.Frag} {σ : L2.St} {H H' : Hp} {ta tb tc te : TE} {t u : TT} {x y z v : V} {r r' : R2} {D : Ends} {tu tw tz : TS} {g : TG}
theorem ev_chain {b1 b2 : Bool} (ha : Ev ta σ H x) (hb : Ev tb σ H y) (hr : RV r x y H (.bl b1)) (hc : b1 = true → Ev tc σ H z) (hr' : b1 = true → RV r' y z H (.bl b2)) : Ev (tChain r r' ta tb tc) σ H (.bl (b1 && b2)) := fun H1 e Q q =>
  ha H1 e _ fun H2 e2 => hb H2 (e.trans e2) _ fun H3 e3 => hr H3 ((e.trans e2).trans e3) _ fun H4 e4 => ⟨b1, rfl, by
    cases b1 with
    | true =>
      rw [if_pos rfl]
      exact hc rfl H4 (((e.trans e2).trans e3).trans e4) _ fun H5 e5 => hr' rfl H5 ((((e.trans e2).trans e3).trans e4).trans e5) Q fun H6 e6 => q H6 ((((e2.trans e3).trans e4).trans e5).trans e6)
    | false =>
      rw [if_neg Bool.false_ne_true]
      exact q H4 ((e2.trans e3).trans e4)⟩
/-- for c in s -/
theorem s_forS {s : Str} {tl : TE} (h : Ev tl σ H (.str s)) (Pv : Nat → L2.St → Hp → Prop) (h0 : ∀ H1, Ex H H1 → Pv 0 σ H1)
    (hs : ∀ i c σ' H', s.cps[i]? = some c → Pv i σ' H' → g (.str ⟨#[c]⟩) σ' H' fun σ2 H2 => tu { D with nx := Pv (i + 1), ct := Pv (i + 1), bk := D.nx } σ2 H2) (hd : ∀ σ' H', Pv s.cps.size σ' H' → D.nx σ' H') : tFor (iStr tl) g tu D σ H :=
  h H (Ex.refl H) _ fun H1 e => ⟨s, rfl, fun i m σ H => m = s.cps.size - i ∧ i ≤ s.cps.size ∧ Pv i σ H, ⟨s.cps.size, by simp, Nat.zero_le _, h0 H1 e⟩, fun i m σ H hw => by
    obtain ⟨rfl, hi, p⟩ := hw
    by_cases hlt : i < s.cps.size
    · refine .inr ⟨hlt, Pv (i + 1), fun σ' H' p' => ⟨s.cps.size - (i + 1), by omega, rfl, hlt, p'⟩, fun x H' y => ?_⟩
      obtain ⟨rfl, c, hc, rfl⟩ := y
      exact hs i c σ _ hc p
    · have e : i = s.cps.size := by omega
      subst e
      exact .inl ⟨Nat.le_refl _, hd σ H p⟩⟩
theorem q_forS {s : Str} {tl : TE} (h : Ev tl σ H (.str s)) (Pv : Nat → L2.St → Hp → Prop) (h0 : ∀ H1, Ex H H1 → Pv 0 σ H1)
    (hs : ∀ i c σ' H', s.cps[i]? = some c → Pv i σ' H' → g (.str ⟨#[c]⟩) σ' H' fun σ2 H2 => tu { D with nx := Pv (i + 1), ct := Pv (i + 1), bk := tz D } σ2 H2) (hd : ∀ σ' H', Pv s.cps.size σ' H' → tz D σ' H') : tSeq (tFor (iStr tl) g tu) tz D σ H :=
  s_forS (D := { D with nx := tz D }) h Pv h0 hs hd
def rLenStr : List V → Hp → VK → Prop := fun xs H Q => ∃ z : Str, xs = [.str z] ∧ z.length ≤ sizeLine ∧ Q (.int z.length) H
theorem ev_lenS {s : Str} (ha : Ev ta σ H (.str s)) (hl : s.length ≤ 100000) : Ev (tCB rLenStr (tCons ta tNil)) σ H (.int (s.length : Int)) := fun H1 e Q q =>
  ha H1 e _ fun H2 e2 => ⟨s, rfl, sz_of hl, q H2 e2⟩
theorem rv_notInS {c : Nat} {z : Str} : RV rNotInS (.str ⟨#[c]⟩) (.str z) H (.bl (!decide (c ∈ z.cps.toList))) := fun H1 _ _ q => ⟨c, z, rfl, rfl, q H1 (Ex.refl H1)⟩
/-- a call whose promise is kept by a value -/
theorem ev_fn {sp : Sp} {dv vs : List V} {E : XK} {t : TA} (ha : EvA t σ H vs) (hs : ∀ H1, Ex H H1 → ∀ (Q : VK) (E : XK), (∀ H2, Ex H1 H2 → Q z H2) → sp (vs ++ dv) H1 Q E) : Ev (tCall sp dv E t) σ H z := fun H1 e Q q =>
  ha H1 e _ fun H2 e2 => hs H2 (e.trans e2) Q E fun H3 e3 => q H3 (e2.trans e3)
/-- loops over a tuple, over a text, the target a name -/
theorem s_forTn {a : Addr} {xs : List V} {tl : TE} {j : Nat} (h : Ev tl σ H (.ref a)) (hx : SqT K H a xs) (Pv : Nat → L2.St → Hp → Prop) (h0 : ∀ H1, Ex H H1 → Pv 0 σ H1) (hl : ∀ i σ' H', i ≤ xs.length → Pv i σ' H' → SqT K H' a xs)
    (hs : ∀ i x σ' H', xs[i]? = some x → Pv i σ' H' → tu { D with nx := Pv (i + 1), ct := Pv (i + 1), bk := D.nx } (σ'.set j (some x)) H') (hd : ∀ σ' H', Pv xs.length σ' H' → D.nx σ' H') : tFor (iTup K tl) (gName j) tu D σ H := s_forT h hx Pv h0 hl hs hd
theorem q_forTn {a : Addr} {xs : List V} {tl : TE} {j : Nat} (h : Ev tl σ H (.ref a)) (hx : SqT K H a xs) (Pv : Nat → L2.St → Hp → Prop) (h0 : ∀ H1, Ex H H1 → Pv 0 σ H1) (hl : ∀ i σ' H', i ≤ xs.length → Pv i σ' H' → SqT K H' a xs)
    (hs : ∀ i x σ' H', xs[i]? = some x → Pv i σ' H' → tu { D with nx := Pv (i + 1), ct := Pv (i + 1), bk := tz D } (σ'.set j (some x)) H') (hd : ∀ σ' H', Pv xs.length σ' H' → tz D σ' H') : tSeq (tFor (iTup K tl) (gName j) tu) tz D σ H := q_forT h hx Pv h0 hl hs hd
end
end LW

set_option Elab.async false
set_option linter.all false
set_option maxRecDepth 100000
set_option maxHeartbeats 4000000
namespace LO
open PySem PySem.Spec PyProof.Rows L2 LG LW Evl
section
variable {P : Program} {w : World} {K : PySem.W.Frag} {mg : Str → Option Value} {base : Heap}

/-! ### has_letters -/
def letters : Str := "abcdefghijklmnopqrstuvwxyz"
def lettersB (s : Str) : Bool := s.cps.toList.all fun c => decide (c ∈ letters.cps.toList)
def sp_has_letters : Sp := fun vs H Q _ => ∃ s : Str, vs = [.str s] ∧ lettersB s = true ∧ ∀ H', Ex H H' → Q (.bl true) H'
abbrev n_has_letters : List Str := ["text", "sign"]
theorem sc_has_letters : FnScope n_has_letters ["text"] (defScope s_has_letters) := ⟨rfl, rfl, rfl, by decide +kernel, rfl, by decide +kernel, by decide +kernel⟩
theorem fn_has_letters (M : Mods P K mg base) : Fn P w K mg base CX0 1 "has_letters" ["text"] [] sp_has_letters := by
  have nd := sc_has_letters.nd
  refine Fn.mk0 M.F_has_letters M.g_has_letters sc_has_letters (fun vs H Q E h => ?_) (fun fd F => F.bindsN fun _ _ _ _ _ _ us hl => match us, hl with | [_], _ => rfl) fun cdv A outer s H vs Q E hr h => ⟨_,
    (pss_cons (ps_for PassesOwn.never rfl (pi_str (pv 0)) (pg_name (i := 1) nd rfl (.inl rfl)) (pss_one (ps_if (pt_cmpR op_notInS (pv 1) (pe_gstr M.LETTERS) rfl) (pss_one (ps_ret pe_bl)) pss_nil))) (pss_one (ps_ret pe_bl))), ?_⟩
  · obtain ⟨s, rfl, _⟩ := h; rfl
  · obtain ⟨s, rfl, hs, hQ⟩ := h
    refine q_forS (ev_var rfl) (fun i σ' H' => Ex H H' ∧ ∃ v, σ' = [some (.str s), v]) (fun H1 e => ⟨e, none, rfl⟩) (fun i c σ' H' hc h => ?_) (fun σ' H' h => ?_)
    · obtain ⟨e, v, rfl⟩ := h
      have hin : decide (c ∈ letters.cps.toList) = true := by
        unfold lettersB at hs
        exact List.all_eq_true.mp hs c (List.mem_of_getElem? (by rw [Array.getElem?_toList]; exact hc))
      refine s_when (b := false) (et_is (et_op (ev_var rfl) ev_c rv_notInS) ?_) (fun hb => by cases hb) (fun _ H1 e1 => ⟨e.trans e1, _, rfl⟩)
      show (!decide (c ∈ letters.cps.toList)) = false
      rw [hin]; rfl
    · obtain ⟨e, v, rfl⟩ := h
      exact s_ret ev_c fun H2 e2 => hQ H2 (e.trans e2)
/-! ### is_name -/
def sp_is_name : Sp := fun vs H Q _ => ∃ (s : Str) (m : Int), vs = [.str s, .int m] ∧ 1 ≤ s.length ∧ (s.length : Int) ≤ m ∧ s.length ≤ 100 ∧ lettersB s = true ∧ ∀ H', Ex H H' → Q (.bl true) H'
abbrev n_is_name : List Str := ["thing", "most"]
theorem sc_is_name : FnScope n_is_name ["thing", "most"] (defScope s_is_name) := ⟨rfl, rfl, rfl, by decide +kernel, rfl, by decide +kernel, by decide +kernel⟩
theorem fn_is_name (M : Mods P K mg base) : Fn P w K mg base CX0 2 "is_name" ["thing", "most"] [] sp_is_name := by
  have nd := sc_is_name.nd
  have h_has_letters := (fn_has_letters (w := w) M).up (show 1 ≤ 1 by decide)
  refine Fn.mk0 M.F_is_name M.g_is_name sc_is_name (fun vs H Q E h => ?_) (fun fd F => F.bindsN fun _ _ _ _ _ _ us hl => match us, hl with | [_, _], _ => rfl) fun cdv A outer s H vs Q E hr h => ⟨_,
    (pss_one (ps_ret (pe_and (pe_callB call_isi rfl M.z_isinstance LW.boot_isinstance (pa_cons (pv 0) (pa_cons (pe_bltn (v := .ty "str") rfl M.z_str LW.boot_str rfl) pa_nil))) (pe_and (pe_chain op_le op_le pe_int (pe_callB call_len_str rfl M.z_len LW.boot_len (pa_cons (pv 0) pa_nil)) (pv 1)) (pe_one (pe_fn h_has_letters hr pass0 (pa_cons (pv 0) pa_nil))))))), ?_⟩
  · obtain ⟨s, m, rfl, _⟩ := h; rfl
  · obtain ⟨s, m, rfl, h1, h2, h3, h4, hQ⟩ := h
    have a1 := ev_isi (K := K) (σ := [some (.str s), some (.int m)]) (H := H) (ta := tVar 0) (tb := tC (.ty "str")) (ev_var rfl) ev_c (.ty "str") (tyx_flat (x := .str s) rfl) (kit_ty (by decide +kernel : kitB "str" "str" = some true))
    refine s_ret (ev_is (ev_andV a1 fun _ => ev_andV (ev_chain ev_c (ev_lenS (ev_var rfl) (by omega)) rv_I0 (fun _ => ev_var rfl) fun _ => rv_I0) fun _ => ev_fn (ea_cons (ev_var rfl) ea_nil) fun H1 e Q E q => ⟨s, rfl, h4, q⟩) ?_) fun H2 e2 => hQ H2 e2
    have e1 : decide ((1 : Int) ≤ (s.length : Int)) = true := decide_eq_true (by omega)
    have e2 : decide ((s.length : Int) ≤ m) = true := decide_eq_true h2
    rw [e1, e2]; rfl
end
end LO

set_option Elab.async false
set_option linter.all false
set_option maxRecDepth 100000
set_option maxHeartbeats 4000000
namespace LO
open PySem PySem.Spec PyProof.Rows L2 LG LW Evl
section
variable {P : Program} {w : World} {K : PySem.W.Frag} {mg : Str → Option Value} {base : Heap}

/-! ### is_ending -/
def EndOk (ps : List Str) : Prop := 1 ≤ ps.length ∧ ps.length ≤ 4 ∧ ∀ p ∈ ps, p.length ≤ 3 ∧ lettersB p = true
def sp_is_ending : Sp := fun vs H Q _ => ∃ (a : Addr) (ps : List Str), vs = [.ref a] ∧ H a = some (.tup (ps.map V.str)) ∧ EndOk ps ∧ ∀ H', Ex H H' → Q (.bl true) H'
theorem any_tup : PySem.W.kitAny K (.type "tuple") [.type "list", .type "tuple"] = some true := kitAny_cons (kit_ty (by decide +kernel : kitB "tuple" "list" = some false)) (fun _ => kitAny_cons (kit_ty (by decide +kernel : kitB "tuple" "tuple" = some true)) (fun h => by cases h) fun _ => rfl) fun h => by cases h
theorem any_lst : PySem.W.kitAny K (.type "list") [.type "list", .type "tuple"] = some true := kitAny_cons (kit_ty (by decide +kernel : kitB "list" "list" = some true)) (fun h => by cases h) fun _ => rfl
abbrev n_is_ending : List Str := ["thing", "part"]
theorem sc_is_ending : FnScope n_is_ending ["thing"] (defScope s_is_ending) := ⟨rfl, rfl, rfl, by decide +kernel, rfl, by decide +kernel, by decide +kernel⟩
theorem fn_is_ending (M : Mods P K mg base) : Fn P w K mg base CX0 2 "is_ending" ["thing"] [] sp_is_ending := by
  have nd := sc_is_ending.nd
  have h_has_letters := (fn_has_letters (w := w) M).up (show 1 ≤ 1 by decide)
  refine Fn.mk0 M.F_is_ending M.g_is_ending sc_is_ending (fun vs H Q E h => ?_) (fun fd F => F.bindsN fun _ _ _ _ _ _ us hl => match us, hl with | [_], _ => rfl) fun cdv A outer s H vs Q E hr h => ⟨_,
    (pss_cons (ps_if (PW.pt (pw_or (pt_not (pt_val (pe_callB call_isiT rfl M.z_isinstance LW.boot_isinstance (pa_cons (pv 0) (pa_cons (pe_tup (pa_cons (pe_bltn (v := .ty "list") rfl M.z_list LW.boot_list rfl) (pa_cons (pe_bltn (v := .ty "tuple") rfl M.z_tuple LW.boot_tuple rfl) pa_nil))) pa_nil))))) (pw_or1 (pt_not (pt_chain op_le op_le pe_int (pe_callB call_len_seq rfl M.z_len LW.boot_len (pa_cons (pv 0) pa_nil)) (pe_gint M.i_MOST_PARTS)))))) (pss_one (ps_ret pe_bl)) pss_nil) (pss_cons (ps_for PassesOwn.never rfl (pi_tup (pv 0)) (pg_name (i := 1) nd rfl (.inl rfl)) (pss_one (ps_if (PW.pt (pw_or (pt_not (pt_val (pe_callB call_isi rfl M.z_isinstance LW.boot_isinstance (pa_cons (pv 1) (pa_cons (pe_bltn (v := .ty "str") rfl M.z_str LW.boot_str rfl) pa_nil))))) (pw_or (pt_cmpR op_gt (pe_callB call_len_str rfl M.z_len LW.boot_len (pa_cons (pv 1) pa_nil)) (pe_gint M.i_LONGEST_PART) (nomark _)) (pw_or1 (pt_not (pt_val (pe_fn h_has_letters hr pass0 (pa_cons (pv 1) pa_nil)))))))) (pss_one (ps_ret pe_bl)) pss_nil))) (pss_one (ps_ret pe_bl)))), ?_⟩
  · obtain ⟨a, ps, rfl, _⟩ := h; rfl
  · obtain ⟨a, ps, rfl, ha, ⟨h1, h2, h3⟩, hQ⟩ := h
    have a1 := ev_isiT (K := K) (σ := [some (.ref a), none]) (H := H) (ta := tVar 0) (tc1 := tC (.ty "list")) (tc2 := tC (.ty "tuple")) (ev_var rfl) ev_c ev_c (.ty "list") (.ty "tuple") (.base (.tup ha)) any_tup
    have a2 : EvT (tTest (tChain (rI0 fun i j => .bl (decide (i ≤ j))) (rI0 fun i j => .bl (decide (i ≤ j))) (tC (.int 1)) (tCB (rLenS K) (tCons (tVar 0) tNil)) (tC (.int 4)))) [some (.ref a), none] H true :=
      et_test (ev_is (ev_chain ev_c (ev_lenT (ev_var rfl) (st_of ha)) rv_I0 (fun _ => ev_c) fun _ => rv_I0) (by
        rw [List.length_map]
        rw [decide_eq_true (by omega : (1 : Int) ≤ (ps.length : Int)), decide_eq_true (by omega : (ps.length : Int) ≤ 4)]; rfl))
    refine q_when (b := false) (et_or (a := false) (b := false) (et_not (et_B a1)) fun _ => et_not a2) (fun hb => by cases hb) fun _ H1 e => ?_
    refine q_forT (xs := ps.map V.str) (ev_var rfl) (st_of (e _ _ ha)) (fun i σ' H' => Ex H H' ∧ ∃ v, σ' = [some (.ref a), v]) (fun H2 e2 => ⟨e.trans e2, none, rfl⟩) (fun i σ' H' _ h => st_of (h.1 _ _ ha)) (fun i x σ' H' hi h => ?_) (fun σ' H' h => ?_)
    · obtain ⟨e1, v, rfl⟩ := h
      rw [List.getElem?_map] at hi
      cases hp : ps[i]? with
      | none => rw [hp] at hi; cases hi
      | some p =>
        rw [hp] at hi; cases hi
        obtain ⟨g1, g2⟩ := h3 p (List.mem_of_getElem? hp)
        have b1 := ev_isi (K := K) (σ := [some (.ref a), some (.str p)]) (H := H') (ta := tVar 1) (tb := tC (.ty "str")) (ev_var rfl) ev_c (.ty "str") (tyx_flat (x := .str p) rfl) (kit_ty (by decide +kernel : kitB "str" "str" = some true))
        refine s_when (b := false) (et_or (a := false) (b := false) (et_not (et_B b1)) fun _ => et_or (a := false) (b := false) (et_is (et_op (ev_lenS (ev_var rfl) (by omega)) ev_c rv_I0) (decide_eq_false (by omega))) fun _ => et_not (et_B (ev_fn (z := .bl true) (ea_cons (ev_var rfl) ea_nil) fun H1 e Q E q => ⟨p, rfl, g2, q⟩))) (fun hb => by cases hb) fun _ H2 e2 => ⟨e1.trans e2, _, rfl⟩
    · obtain ⟨e1, v, rfl⟩ := h
      exact s_ret ev_c fun H2 e2 => hQ H2 (e1.trans e2)
/-! ### ending_from -/
def sp_ending_from : Sp := fun vs H Q _ => ∃ (a : Addr) (ps : List Str), vs = [.ref a] ∧ H a = some (.tup (ps.map V.str)) ∧ EndOk ps ∧ ∀ H', Ex H H' → Q (.ref a) H'
abbrev n_ending_from : List Str := ["thing"]
theorem sc_ending_from : FnScope n_ending_from ["thing"] (defScope s_ending_from) := ⟨rfl, rfl, rfl, by decide +kernel, rfl, by decide +kernel, by decide +kernel⟩
theorem fn_ending_from (M : Mods P K mg base) : Fn P w K mg base CX0 3 "ending_from" ["thing"] [] sp_ending_from := by
  have nd := sc_ending_from.nd
  have h_is_ending := (fn_is_ending (w := w) M).up (show 2 ≤ 2 by decide)
  refine Fn.mk0 M.F_ending_from M.g_ending_from sc_ending_from (fun vs H Q E h => ?_) (fun fd F => F.bindsN fun _ _ _ _ _ _ us hl => match us, hl with | [_], _ => rfl) fun cdv A outer s H vs Q E hr h => ⟨_,
    (pss_cons (ps_if (pt_not (pt_val (pe_fn h_is_ending hr pass0 (pa_cons (pv 0) pa_nil)))) (pss_one ps_never) pss_nil) (pss_one (ps_ret (pe_callTy call_tuple_of rfl M.z_tuple LW.boot_tuple (pa_cons (pv 0) pa_nil))))), ?_⟩
  · obtain ⟨a, ps, rfl, _⟩ := h; rfl
  · obtain ⟨a, ps, rfl, ha, hp, hQ⟩ := h
    refine q_when (b := false) (et_not (et_B (ev_fn (z := .bl true) (ea_cons (ev_var rfl) ea_nil) fun H1 e Q E q => ⟨a, ps, rfl, e _ _ ha, hp, q⟩))) (fun hb => by cases hb) fun _ H1 e => ?_
    exact s_ret (ev_tupT (ev_var rfl) (st_of (e _ _ ha))) fun H2 e2 => hQ H2 (e.trans e2)
end
end LO

set_option Elab.async false
set_option linter.all false
set_option maxRecDepth 100000
set_option maxHeartbeats 4000000
namespace LO
open PySem PySem.Spec PyProof.Rows L2 LG LW Evl
section
variable {P : Program} {w : World} {K : PySem.W.Frag} {mg : Str → Option Value} {base : Heap}

/-! ### check_table -/
abbrev Row3 : Type := Int × List Str × List Str
def RowD (H : Hp) (p : Addr) (r : Row3) : Prop := ∃ a1 a2 : Addr, H p = some (.tup [.int r.1, .ref a1, .ref a2]) ∧ H a1 = some (.tup (r.2.1.map V.str)) ∧ H a2 = some (.tup (r.2.2.map V.str))
theorem RowD.ex {H H' : Hp} {p : Addr} {r : Row3} (e : Ex H H') (h : RowD H p r) : RowD H' p r := by
  obtain ⟨a1, a2, h1, h2, h3⟩ := h
  exact ⟨a1, a2, e _ _ h1, e _ _ h2, e _ _ h3⟩
def TabAt (H : Hp) (a : Addr) (rows : List Row3) : Prop := ∃ ps : List Addr, H a = some (.tup (ps.map V.ref)) ∧ Paired (RowD H) ps rows
theorem TabAt.ex {H H' : Hp} {a : Addr} {rows : List Row3} (e : Ex H H') (h : TabAt H a rows) : TabAt H' a rows := by
  obtain ⟨ps, h1, h2⟩ := h
  exact ⟨ps, e _ _ h1, Paired.mapP h2 fun _ _ z => z.ex e⟩
/-- the roles rise -/
def Rise (xs : List Int) : Prop := xs.Pairwise (· < ·)
structure TabOk (rows : List Row3) : Prop where
  lo : 1 ≤ rows.length
  hi : rows.length ≤ 6
  rise : Rise (rows.map (·.1))
  bd : ∀ r ∈ rows, 0 ≤ r.1 ∧ r.1 ≤ 5
  e1 : ∀ r ∈ rows, EndOk r.2.1
  e2 : ∀ r ∈ rows, EndOk r.2.2
def sp_check_table : Sp := fun vs H Q _ => ∃ (a : Addr) (rows : List Row3), vs = [.ref a] ∧ TabAt H a rows ∧ TabOk rows ∧ ∀ q H', Ex H H' → TabAt H' q rows → Q (.ref q) H'
theorem kn_next {Hk H1 : Hp} {l : Addr} {X : HO} (e : Ex Hk H1) (n : Hk l = none) : Ex Hk (del H1 l) ∧ del H1 l l = none ∧ Ex (del H1 l) (upd H1 l X) := by
  refine ⟨fun b o z => ?_, del_same, fun b o z => ?_⟩
  · rw [del_ne (ne_of_none z n)]; exact e b o z
  · have hb : b ≠ l := fun y => by rw [y, del_same] at z; cases z
    rw [del_ne hb] at z
    rw [upd_ne hb]; exact z
theorem paired_at {α β : Type} {F : α → β → Prop} : ∀ {l : List α} {m : List β} {i : Nat} {x : α}, Paired F l m → l[i]? = some x → ∃ y, m[i]? = some y ∧ F x y
  | _, _, _, _, .nil, e => by simp at e
  | _, _, 0, _, .cons r _, e => by simp at e; subst e; exact ⟨_, rfl, r⟩
  | _, _, i + 1, x, .cons _ t, e => by
    obtain ⟨y, h1, h2⟩ := paired_at (i := i) (x := x) t (by simpa using e)
    exact ⟨y, by simpa using h1, h2⟩
abbrev n_check_table : List Str := ["table", "kept", "row"]
theorem sc_check_table : FnScope n_check_table ["table"] (defScope s_check_table) := ⟨rfl, rfl, rfl, by decide +kernel, rfl, by decide +kernel, by decide +kernel⟩
theorem fn_check_table (M : Mods P K mg base) : Fn P w K mg base CX0 4 "check_table" ["table"] [] sp_check_table := by
  have nd := sc_check_table.nd
  have h_is_whole := (fn_is_whole (w := w) M).up (show 1 ≤ 3 by decide)
  have h_is_ending := (fn_is_ending (w := w) M).up (show 2 ≤ 3 by decide)
  have h_ending_from := (fn_ending_from (w := w) M).up (show 3 ≤ 3 by decide)
  refine Fn.mk0 M.F_check_table M.g_check_table sc_check_table (fun vs H Q E h => ?_) (fun fd F => F.bindsN fun _ _ _ _ _ _ us hl => match us, hl with | [_], _ => rfl) fun cdv A outer s H vs Q E hr h => ⟨_,
    (pss_cons (ps_if (PW.pt (pw_or (pt_not (pt_val (pe_callB call_isiT rfl M.z_isinstance LW.boot_isinstance (pa_cons (pv 0) (pa_cons (pe_tup (pa_cons (pe_bltn (v := .ty "list") rfl M.z_list LW.boot_list rfl) (pa_cons (pe_bltn (v := .ty "tuple") rfl M.z_tuple LW.boot_tuple rfl) pa_nil))) pa_nil))))) (pw_or1 (pt_not (pt_chain op_le op_le pe_int (pe_callB call_len_seq rfl M.z_len LW.boot_len (pa_cons (pv 0) pa_nil)) (pe_gint M.i_MOST_ROLES)))))) (pss_one ps_never) pss_nil) (pss_cons (ps_set (i := 1) nd rfl (.inl rfl) (pe_lst pa_nil)) (pss_cons (ps_for PassesOwn.never rfl (pi_tup (pv 0)) (pg_name (i := 2) nd rfl (.inl rfl)) (pss_cons (ps_if (PW.pt (pw_or (pt_not (pt_val (pe_callB call_isiT rfl M.z_isinstance LW.boot_isinstance (pa_cons (pv 2) (pa_cons (pe_tup (pa_cons (pe_bltn (v := .ty "list") rfl M.z_list LW.boot_list rfl) (pa_cons (pe_bltn (v := .ty "tuple") rfl M.z_tuple LW.boot_tuple rfl) pa_nil))) pa_nil))))) (pw_or1 (pt_cmpR op_ne (pe_callB call_len_seq rfl M.z_len LW.boot_len (pa_cons (pv 2) pa_nil)) pe_int (nomark _))))) (pss_one ps_never) pss_nil) (pss_cons (ps_if (PW.pt (pw_or (pt_not (pt_val (pe_fn h_is_whole hr pass0 (pa_cons (pe_ix ix_tup (pv 2) pe_int (fun _ _ => rfl)) (pa_cons pe_int (pa_cons (pe_op op_sub (pe_gint M.i_MOST_ROLES) pe_int) pa_nil)))))) (pw_or1 (PW.pt (pw_and (pt_truth (pv 1) (by intro _; rfl)) (pw_and1 (pt_cmpR op_le (pe_ix ix_tup (pv 2) pe_int (fun _ _ => rfl)) (pe_ix ix_tup (pe_ix ix_list (pv 1) (pe_un un_neg pe_int) (fun _ _ => rfl)) pe_int (fun _ _ => rfl)) (nomark _)))))))) (pss_one ps_never) pss_nil) (pss_cons (ps_if (PW.pt (pw_or (pt_not (pt_val (pe_fn h_is_ending hr pass0 (pa_cons (pe_ix ix_tup (pv 2) pe_int (fun _ _ => rfl)) pa_nil)))) (pw_or1 (pt_not (pt_val (pe_fn h_is_ending hr pass0 (pa_cons (pe_ix ix_tup (pv 2) pe_int (fun _ _ => rfl)) pa_nil))))))) (pss_one ps_never) pss_nil) (pss_one (ps_expr (pe_bm PySem.F.plainAttrs_list PySem.F.slot_list_append PySem.F.type_list_append mt_append (pv 1) (pa_cons (pe_tup (pa_cons (pe_ix ix_tup (pv 2) pe_int (fun _ _ => rfl)) (pa_cons (pe_fn h_ending_from hr pass0 (pa_cons (pe_ix ix_tup (pv 2) pe_int (fun _ _ => rfl)) pa_nil)) (pa_cons (pe_fn h_ending_from hr pass0 (pa_cons (pe_ix ix_tup (pv 2) pe_int (fun _ _ => rfl)) pa_nil)) pa_nil)))) pa_nil)))))))) (pss_one (ps_ret (pe_callTy call_tuple_of rfl M.z_tuple LW.boot_tuple (pa_cons (pv 1) pa_nil))))))), ?_⟩
  · obtain ⟨a, rows, rfl, _⟩ := h; rfl
  · obtain ⟨a, rows, rfl, ⟨ps, ha, hps⟩, hok, hQ⟩ := h
    have hlen : ps.length = rows.length := hps.length
    have lo := hok.lo
    have hi6 := hok.hi
    have a1 := ev_isiT (K := K) (σ := [some (.ref a), none, none]) (H := H) (ta := tVar 0) (tc1 := tC (.ty "list")) (tc2 := tC (.ty "tuple")) (ev_var rfl) ev_c ev_c (.ty "list") (.ty "tuple") (.base (.tup ha)) any_tup
    have a2 : EvT (tTest (tChain (rI0 fun i j => .bl (decide (i ≤ j))) (rI0 fun i j => .bl (decide (i ≤ j))) (tC (.int 1)) (tCB (rLenS K) (tCons (tVar 0) tNil)) (tC (.int 6)))) [some (.ref a), none, none] H true :=
      et_test (ev_is (ev_chain ev_c (ev_lenT (ev_var rfl) (st_of ha)) rv_I0 (fun _ => ev_c) fun _ => rv_I0) (by
        rw [List.length_map, hlen]
        rw [decide_eq_true (by omega : (1 : Int) ≤ (rows.length : Int)), decide_eq_true (by omega : (rows.length : Int) ≤ 6)]; rfl))
    refine q_when (b := false) (et_or (a := false) (b := false) (et_not (et_B a1)) fun _ => et_not a2) (fun hb => by cases hb) fun _ H1 e1 => ?_
    refine q_asgL (el_lst ea_nil (Nat.zero_le _)) fun l H2 nl e2 hl => ?_
    have ha2 := e2 _ _ (e1 _ _ ha)
    refine q_forTn (ev_var rfl) (st_of ha2) (fun i σ' H' => ∃ (Hk : Hp) (qs : List Addr) (v : Option V), σ' = [some (.ref a), some (.ref l), v] ∧ Ex H Hk ∧ Hk l = none ∧ Ex Hk H' ∧ H' l = some (.lst (qs.map V.ref)) ∧ Paired (RowD Hk) qs (rows.take i))
      (fun H3 e3 => ⟨H1, [], none, rfl, e1, nl, e2.trans e3, e3 _ _ hl, .nil⟩) (fun i σ' H' _ h => ?_) (fun i x σ' H' hx h => ?_) (fun σ' H' h => ?_)
    · obtain ⟨Hk, qs, v, _, k1, k2, k3, _⟩ := h
      exact st_of (k3 _ _ (k1 _ _ ha))
    · obtain ⟨Hk, qs, v, rfl, k1, k2, k3, hl3, hq⟩ := h
      rw [List.getElem?_map] at hx
      cases hp : ps[i]? with
      | none => rw [hp] at hx; cases hx
      | some p =>
      rw [hp] at hx; cases hx
      obtain ⟨r, hr1, hr2⟩ := paired_at hps hp
      have hmem := List.mem_of_getElem? hr1
      obtain ⟨b1, b2⟩ := hok.bd r hmem
      obtain ⟨x1, x2, g1, g2, g3⟩ := hr2.ex (k1.trans k3)
      show tSeq _ _ _ [some (V.ref a), some (V.ref l), some (V.ref p)] H'
      generalize hσ : ([some (V.ref a), some (V.ref l), some (V.ref p)] : L2.St) = σ1
      have v0 : ∀ Hx, Ev (tVar 0) σ1 Hx (.ref a) := fun Hx => by rw [← hσ]; exact ev_var rfl
      have v1 : ∀ Hx, Ev (tVar 1) σ1 Hx (.ref l) := fun Hx => by rw [← hσ]; exact ev_var rfl
      have v2 : ∀ Hx, Ev (tVar 2) σ1 Hx (.ref p) := fun Hx => by rw [← hσ]; exact ev_var rfl
      have i0 : ∀ Hx, Ex H' Hx → Ev (tOp (rIxT K) (tVar 2) (tC (.int 0))) σ1 Hx (.int r.1) := fun Hx e => ev_op (v2 Hx) ev_c (rv_ixT (st_of (e _ _ g1)) rfl)
      have i1 : ∀ Hx, Ex H' Hx → Ev (tOp (rIxT K) (tVar 2) (tC (.int 1))) σ1 Hx (.ref x1) := fun Hx e => ev_op (v2 Hx) ev_c (rv_ixT (st_of (e _ _ g1)) rfl)
      have i2 : ∀ Hx, Ex H' Hx → Ev (tOp (rIxT K) (tVar 2) (tC (.int 2))) σ1 Hx (.ref x2) := fun Hx e => ev_op (v2 Hx) ev_c (rv_ixT (st_of (e _ _ g1)) rfl)
      -- a tuple of three
      refine q_when (b := false) (et_or (a := false) (b := false) (et_not (et_B (ev_isiT (v2 H') ev_c ev_c (.ty "list") (.ty "tuple") (.base (.tup g1)) any_tup))) fun _ => et_is (et_op (ev_lenT (K := K) (v2 H') (st_of g1)) ev_c (rv_ne (y := .int 3) rfl)) (by simp)) (fun hb => by cases hb) fun _ H3 e3 => ?_
      -- its role
      have hw : wholeB (.int r.1) (some 0) (some 5) = true := by
        show (decide ((0 : Int) ≤ r.1) && decide (r.1 ≤ 5)) = true
        rw [decide_eq_true b1, decide_eq_true b2]; rfl
      have w1 : Ev (tCall spWhole [] E0 (tCons (tOp (rIxT K) (tVar 2) (tC (.int 0))) (tCons (tC (.int 0)) (tCons (tOp (rI0 fun i j => .int (i - j)) (tC (.int 6)) (tC (.int 1))) tNil)))) σ1 H3 (.bl true) :=
        ev_fn (ea_cons (i0 H3 e3) (ea_cons ev_c (ea_cons (ev_op ev_c ev_c rv_I0) ea_nil))) fun Hx e Q E q => ⟨.int r.1, some 0, some 5, rfl, rfl, fun Hy ey => by rw [hw]; exact q Hy ey⟩
      have w2 : EvT (tAnd (fun σ H Q => tVar 1 σ H fun x H' => ∃ k, TruV K x H' k ∧ Q k H') (tTest (tOp (rI0 fun i j => .bl (decide (i ≤ j))) (tOp (rIxT K) (tVar 2) (tC (.int 0))) (tOp (rIxT K) (tOp (rIxL K) (tVar 1) (tUn (rU fun i => .int (-i)) (tC (.int 1)))) (tC (.int 0)))))) σ1 H3 false := by
        rcases List.eq_nil_or_concat qs with rfl | ⟨qs', q, rfl⟩
        · exact et_is (et_and (a := false) (b := false) (et_truL (v1 H3) (sq_of (e3 _ _ hl3))) fun h => by cases h) rfl
        · rw [List.concat_eq_append] at hq hl3
          have hn : (rows.take i).length = qs'.length + 1 := by rw [← hq.length, List.length_append]; rfl
          have hql : (qs' ++ [q])[qs'.length]? = some q := by simp
          obtain ⟨ro, ho1, ho2⟩ := paired_at hq hql
          obtain ⟨y1, y2, m1, _, _⟩ := ho2.ex (k3.trans e3)
          have hlt : ro.1 < r.1 := by
            have ho3 : rows[qs'.length]? = some ro := by
              rw [List.getElem?_take] at ho1
              split at ho1
              · exact ho1
              · cases ho1
            have hil : qs'.length < i := by
              rw [List.length_take] at hn
              omega
            have hrise := hok.rise
            unfold Rise at hrise
            rw [List.pairwise_iff_getElem] at hrise
            obtain ⟨lo1, eo⟩ := List.getElem?_eq_some_iff.mp ho3
            obtain ⟨lo2, er⟩ := List.getElem?_eq_some_iff.mp hr1
            have := hrise qs'.length i (by rw [List.length_map]; exact lo1) (by rw [List.length_map]; exact lo2) hil
            rw [List.getElem_map, List.getElem_map, eo, er] at this
            exact this
          refine et_is (et_and (a := true) (b := false) (et_is (et_truL (v1 H3) (sq_of (e3 _ _ hl3))) (by simp)) fun _ => et_is (et_op (i0 H3 e3) (ev_op (ev_op (v1 H3) (ev_un ev_c ru_neg) (rv_ixL (sq_of (e3 _ _ hl3)) (by rw [List.map_append]; exact atI_last _ _))) ev_c (rv_ixT (st_of m1) rfl)) rv_I0) (decide_eq_false (by omega))) rfl
      refine q_when (b := false) (et_or (a := false) (b := false) (et_not (et_B w1)) fun _ => w2) (fun hb => by cases hb) fun _ H4 e4 => ?_
      have f4 := e3.trans e4
      -- its endings
      refine q_when (b := false) (et_or (a := false) (b := false) (et_not (et_B (ev_fn (z := .bl true) (ea_cons (i1 H4 f4) ea_nil) fun Hx e Q E q => ⟨x1, r.2.1, rfl, e _ _ (f4 _ _ g2), hok.e1 r hmem, q⟩)))
        fun _ => et_not (et_B (ev_fn (z := .bl true) (ea_cons (i2 H4 f4) ea_nil) fun Hx e Q E q => ⟨x2, r.2.2, rfl, e _ _ (f4 _ _ g3), hok.e2 r hmem, q⟩))) (fun hb => by cases hb) fun _ H5 e5 => ?_
      have f5 := f4.trans e5
      refine s_appU (f5 _ _ hl3) (v1 H5) (eu_tup (ea_cons (i0 H5 f5) (ea_cons (ev_fn (z := .ref x1) (ea_cons (i1 H5 f5) ea_nil) fun Hx e Q E q => ⟨x1, r.2.1, rfl, e _ _ (f5 _ _ g2), hok.e1 r hmem, q⟩)
        (ea_cons (ev_fn (z := .ref x2) (ea_cons (i2 H5 f5) ea_nil) fun Hx e Q E q => ⟨x2, r.2.2, rfl, e _ _ (f5 _ _ g3), hok.e2 r hmem, q⟩) ea_nil))) (show 3 ≤ 100000 by decide)) ?_ fun p2 H6 np e6 hp2 => ?_
      · rw [List.length_map, hq.length, List.length_take]; omega
      · obtain ⟨n1, n2, n3⟩ := kn_next (X := .lst (qs.map V.ref ++ [.ref p2])) (k3.trans (f5.trans e6)) k2
        have pl : p2 ≠ l := fun z => by rw [z, f5 _ _ hl3] at np; cases np
        have keep : ∀ b o, Hk b = some o → del H6 l b = some o := n1
        refine ⟨del H6 l, qs ++ [p2], some (.ref p), by rw [← hσ], k1.trans n1, n2, n3, by rw [List.map_append]; exact upd_same, ?_⟩
        rw [List.take_succ, hr1]
        have in6 : ∀ b o, H' b = some o → b ≠ l → del H6 l b = some o := fun b o z hb => by rw [del_ne hb]; exact (f5.trans e6) _ _ z
        have tl : ∀ b xs, H' b = some (.tup xs) → b ≠ l := fun b xs z y => by rw [y, hl3] at z; cases z
        exact LG.paired_app (Paired.mapP hq fun _ _ z => z.ex n1) ⟨x1, x2, by rw [del_ne pl]; exact hp2, in6 _ _ g2 (tl _ _ g2), in6 _ _ g3 (tl _ _ g3)⟩
    · obtain ⟨Hk, qs, v, rfl, k1, k2, k3, hl3, hq⟩ := h
      rw [List.length_map, hlen, List.take_length] at hq
      refine s_retU (eu_tupL (ev_var rfl) (sq_of hl3)) fun p H3 np e3 hp3 => hQ p H3 ((k1.trans k3).trans e3) ⟨qs, hp3, Paired.mapP hq fun _ _ z => z.ex (k3.trans e3)⟩
end
end LO

set_option Elab.async false
set_option linter.all false
set_option maxRecDepth 100000
set_option maxHeartbeats 4000000
namespace LW
open PySem L2 PySem.Spec PyProof.Rows LG Evl LO
section
variable {K : PySem.W.Frag} {σ : L2.St} {H H' : Hp} {ta tb tc te : TE} {t u : TT} {x y z v : V} {r r' : R2} {D : Ends} {tu tw tz : TS} {g : TG} {a : Addr} {xs : List V}
abbrev tIsSeq (K : PySem.W.Frag) (ta : TE) : TE := tCB (rIsiT K) (tCons ta (tCons (tTup (tCons (tC (.ty "list")) (tCons (tC (.ty "tuple")) tNil))) tNil))
abbrev tLen (K : PySem.W.Frag) (ta : TE) : TE := tCB (rLenS K) (tCons ta tNil)
abbrev rLe : R2 := rI0 fun i j => .bl (decide (i ≤ j))
/-- not isinstance(x, (list, tuple)) or not lo <= len(x) <= hi -/
theorem g_seqT {lo hi : Int} (hx : Ev ta σ H (.ref a)) (ha : H a = some (.tup xs)) (h1 : lo ≤ xs.length) (h2 : (xs.length : Int) ≤ hi) : EvT (tOr (tNot (tB (tIsSeq K ta))) (tNot (tTest (tChain rLe rLe (tC (.int lo)) (tLen K ta) (tC (.int hi)))))) σ H false :=
  et_or (a := false) (b := false) (et_not (et_B (ev_isiT hx ev_c ev_c (.ty "list") (.ty "tuple") (.base (.tup ha)) any_tup))) fun _ => et_not (a := true) (et_test (ev_is (ev_chain (b1 := decide (lo ≤ (xs.length : Int))) (b2 := decide ((xs.length : Int) ≤ hi)) ev_c (ev_lenT hx (st_of ha)) rv_I0 (fun _ => ev_c) fun _ => rv_I0) (by rw [decide_eq_true h1, decide_eq_true h2]; rfl)))
theorem g_seqL {lo hi : Int} (hx : Ev ta σ H (.ref a)) (ha : H a = some (.lst xs)) (h1 : lo ≤ xs.length) (h2 : (xs.length : Int) ≤ hi) : EvT (tOr (tNot (tB (tIsSeq K ta))) (tNot (tTest (tChain rLe rLe (tC (.int lo)) (tLen K ta) (tC (.int hi)))))) σ H false :=
  et_or (a := false) (b := false) (et_not (et_B (ev_isiT hx ev_c ev_c (.ty "list") (.ty "tuple") (.base (.lst ha)) any_lst))) fun _ => et_not (a := true) (et_test (ev_is (ev_chain (b1 := decide (lo ≤ (xs.length : Int))) (b2 := decide ((xs.length : Int) ≤ hi)) ev_c (ev_len hx (sq_of ha)) rv_I0 (fun _ => ev_c) fun _ => rv_I0) (by rw [decide_eq_true h1, decide_eq_true h2]; rfl)))
/-- not isinstance(x, (list, tuple)) or len(x) != n -/
theorem g_seqN {n : Int} (hx : Ev ta σ H (.ref a)) (ha : H a = some (.tup xs)) (h1 : (xs.length : Int) = n) : EvT (tOr (tNot (tB (tIsSeq K ta))) (tTest (tOp rNe (tLen K ta) (tC (.int n))))) σ H false :=
  et_or (a := false) (b := false) (et_not (et_B (ev_isiT hx ev_c ev_c (.ty "list") (.ty "tuple") (.base (.tup ha)) any_tup))) fun _ => et_is (et_op (ev_lenT hx (st_of ha)) ev_c (rv_ne rfl)) (by rw [h1]; simp)
/-- a guard that doesn't hold -/
theorem q_pass (h : EvT t σ H false) (k : ∀ H1, Ex H H1 → tz D σ H1) : tSeq (tIfS t tu tNext) tz D σ H := q_when h (fun hb => by cases hb) fun _ H1 e => k H1 e
theorem s_pass (h : EvT t σ H false) (k : ∀ H1, Ex H H1 → D.nx σ H1) : tIfS t tu tNext D σ H := s_when h (fun hb => by cases hb) fun _ H1 e => k H1 e
/-- is_whole(x, lo, hi) -/
theorem ev_whole {ta tl th : TE} {lo hi : Option Int} {E : XK} (hx : Ev ta σ H x) (hl : Ev tl σ H (optV lo)) (hh : Ev th σ H (optV hi)) (hf : flat4 x = true) : Ev (tCall spWhole [] E (tCons ta (tCons tl (tCons th tNil)))) σ H (.bl (wholeB x lo hi)) :=
  ev_fn (ea_cons hx (ea_cons hl (ea_cons hh ea_nil))) fun H1 e Q E q => ⟨x, lo, hi, rfl, hf, fun H2 e2 => q H2 e2⟩
theorem ev_whole1 {ta : TE} {E : XK} (hx : Ev ta σ H x) (hf : flat4 x = true) : Ev (tCall spWhole [.non, .non] E (tCons ta tNil)) σ H (.bl (wholeB x none none)) :=
  ev_fn (ea_cons hx ea_nil) fun H1 e Q E q => ⟨x, none, none, rfl, hf, fun H2 e2 => q H2 e2⟩
theorem whole_in {i lo hi : Int} (h1 : lo ≤ i) (h2 : i ≤ hi) : wholeB (.int i) (some lo) (some hi) = true := by
  show (decide (lo ≤ i) && decide (i ≤ hi)) = true
  rw [decide_eq_true h1, decide_eq_true h2]; rfl
end
end LW

set_option Elab.async false
set_option linter.all false
set_option maxRecDepth 100000
set_option maxHeartbeats 4000000
namespace LO
open PySem PySem.Spec PyProof.Rows L2 LG LW Evl
section
variable {P : Program} {w : World} {K : PySem.W.Frag} {mg : Str → Option Value} {base : Heap}

/-! ### check_nouns -/
structure NounsOk (ns : List Int) : Prop where
  lo : 1 ≤ ns.length
  hi : ns.length ≤ 5
  rise : Rise ns
  bd : ∀ r ∈ ns, 0 ≤ r ∧ r ≤ 5
def sp_check_nouns : Sp := fun vs H Q _ => ∃ (a : Addr) (ns : List Int), vs = [.ref a] ∧ H a = some (.tup (ns.map V.int)) ∧ NounsOk ns ∧ ∀ H', Ex H H' → Q (.ref a) H'
abbrev n_check_nouns : List Str := ["nouns", "last", "role"]
theorem sc_check_nouns : FnScope n_check_nouns ["nouns"] (defScope s_check_nouns) := ⟨rfl, rfl, rfl, by decide +kernel, rfl, by decide +kernel, by decide +kernel⟩
theorem fn_check_nouns (M : Mods P K mg base) : Fn P w K mg base CX0 2 "check_nouns" ["nouns"] [] sp_check_nouns := by
  have nd := sc_check_nouns.nd
  have h_is_whole := (fn_is_whole (w := w) M).up (show 1 ≤ 1 by decide)
  refine Fn.mk0 M.F_check_nouns M.g_check_nouns sc_check_nouns (fun vs H Q E h => ?_) (fun fd F => F.bindsN fun _ _ _ _ _ _ us hl => match us, hl with | [_], _ => rfl) fun cdv A outer s H vs Q E hr h => ⟨_,
    (pss_cons (ps_if (PW.pt (pw_or (pt_not (pt_val (pe_callB call_isiT rfl M.z_isinstance LW.boot_isinstance (pa_cons (pv 0) (pa_cons (pe_tup (pa_cons (pe_bltn (v := .ty "list") rfl M.z_list LW.boot_list rfl) (pa_cons (pe_bltn (v := .ty "tuple") rfl M.z_tuple LW.boot_tuple rfl) pa_nil))) pa_nil))))) (pw_or1 (pt_not (pt_chain op_le op_le pe_int (pe_callB call_len_seq rfl M.z_len LW.boot_len (pa_cons (pv 0) pa_nil)) (pe_gint M.i_MOST_NOUNS)))))) (pss_one ps_never) pss_nil) (pss_cons (ps_set (i := 1) nd rfl (.inl rfl) (pe_un un_neg pe_int)) (pss_cons (ps_for PassesOwn.never rfl (pi_tup (pv 0)) (pg_name (i := 2) nd rfl (.inl rfl)) (pss_cons (ps_if (pt_not (pt_val (pe_fn h_is_whole hr pass0 (pa_cons (pv 2) (pa_cons (pe_op op_add (pv 1) pe_int) (pa_cons (pe_op op_sub (pe_gint M.i_MOST_ROLES) pe_int) pa_nil)))))) (pss_one ps_never) pss_nil) (pss_one (ps_set (i := 1) nd rfl (.inl rfl) (pv 2))))) (pss_one (ps_ret (pe_callTy call_tuple_of rfl M.z_tuple LW.boot_tuple (pa_cons (pv 0) pa_nil))))))), ?_⟩
  · obtain ⟨a, ns, rfl, _⟩ := h; rfl
  · obtain ⟨a, ns, rfl, ha, hok, hQ⟩ := h
    have lo := hok.lo
    have hi5 := hok.hi
    refine q_pass (g_seqT (ev_var rfl) ha (by rw [List.length_map]; omega) (by rw [List.length_map]; omega)) fun H1 e1 => ?_
    refine q_asg (v := .int (-1)) (ev_un ev_c ru_neg) fun H2 e2 => ?_
    have e12 := e1.trans e2
    refine q_forTn (ev_var rfl) (st_of (e12 _ _ ha)) (fun i σ' H' => ∃ (l : Int) (v : Option V), σ' = [some (.ref a), some (.int l), v] ∧ Ex H H' ∧ ((i = 0 ∧ l = -1) ∨ ∃ j, i = j + 1 ∧ ns[j]? = some l)) (fun H3 e3 => ⟨-1, none, rfl, e12.trans e3, .inl ⟨rfl, rfl⟩⟩) (fun i σ' H' _ h => ?_) (fun i x σ' H' hx h => ?_) (fun σ' H' h => ?_)
    · obtain ⟨_, _, _, e, _⟩ := h
      exact st_of (e _ _ ha)
    · obtain ⟨l, v, rfl, e, hl⟩ := h
      rw [List.getElem?_map] at hx
      cases hn : ns[i]? with
      | none => rw [hn] at hx; cases hx
      | some r =>
      rw [hn] at hx; cases hx
      obtain ⟨b1, b2⟩ := hok.bd r (List.mem_of_getElem? hn)
      have hlr : l + 1 ≤ r := by
        rcases hl with ⟨_, rfl⟩ | ⟨j, rfl, hj⟩
        · omega
        · have hrise := hok.rise
          unfold Rise at hrise
          rw [List.pairwise_iff_getElem] at hrise
          obtain ⟨p1, q1⟩ := List.getElem?_eq_some_iff.mp hj
          obtain ⟨p2, q2⟩ := List.getElem?_eq_some_iff.mp hn
          have := hrise j (j + 1) p1 p2 (Nat.lt_succ_self j)
          omega
      show tSeq _ _ _ [some (V.ref a), some (V.int l), some (V.int r)] H'
      refine q_pass (et_is (et_not (et_B (ev_whole (lo := some (l + 1)) (hi := some 5) (ev_var rfl) (ev_op (ev_var rfl) ev_c rv_I0) (ev_op ev_c ev_c rv_I0) rfl))) (by rw [whole_in hlr b2]; rfl)) fun H3 e3 => ?_
      refine s_asg (ev_var rfl) fun H4 e4 => ⟨r, some (.int r), rfl, (e.trans e3).trans e4, .inr ⟨i, rfl, hn⟩⟩
    · obtain ⟨l, v, rfl, e, _⟩ := h
      exact s_ret (ev_tupT (ev_var rfl) (st_of (e _ _ ha))) fun H3 e3 => hQ H3 (e.trans e3)
end
end LO

set_option Elab.async false
set_option linter.all false
set_option maxRecDepth 100000
set_option maxHeartbeats 4000000
namespace LW
open PySem L2 PySem.Spec PyProof.Rows LG Evl LO
section
variable {K : PySem.W.Frag} {σ : L2.St} {H H' : Hp} {ta tb tc te tv : TE} {t u : TT} {x y z v : V} {r r' : R2} {D : Ends} {tu tw tz : TS} {g : TG} {a C dx : Addr} {xs : List V} {f : Str} {fs : List (Str × V)}
/-- x.f = v -/
theorem s_fld {a : Addr} (hv : Ev tv σ H y) (ha : Ev ta σ H (.ref a)) (hx : H a = some (.ins C dx fs)) (c : Cls K C) (n : NoAttr K C f) (hl : fs.length < 1000) (k : ∀ H1, Ex H H1 → D.nx σ (upd H1 a (.ins C dx (putF f y fs)))) : sFld K ta tv f D σ H :=
  hv H (Ex.refl H) _ fun H1 e1 => ha H1 e1 _ fun H2 e2 => ⟨a, C, dx, fs, rfl, e2 _ _ (e1 _ _ hx), c, n, hl, k H2 (e1.trans e2)⟩
theorem q_fld {a : Addr} (hv : Ev tv σ H y) (ha : Ev ta σ H (.ref a)) (hx : H a = some (.ins C dx fs)) (c : Cls K C) (n : NoAttr K C f) (hl : fs.length < 1000) (k : ∀ H1, Ex H H1 → tz D σ (upd H1 a (.ins C dx (putF f y fs)))) : tSeq (sFld K ta tv f) tz D σ H :=
  s_fld (D := { D with nx := tz D }) hv ha hx c n hl k
/-- .. the value known by what holds of it -/
def EvP (te : TE) (σ : L2.St) (H : Hp) (P : V → Hp → Prop) : Prop := ∀ H1, Ex H H1 → ∀ Q : VK, (∀ v H2, Ex H1 H2 → P v H2 → Q v H2) → te σ H1 Q
theorem s_fldP {a : Addr} {P : V → Hp → Prop} (hv : EvP tv σ H P) (ha : Ev ta σ H (.ref a)) (hx : H a = some (.ins C dx fs)) (c : Cls K C) (n : NoAttr K C f) (hl : fs.length < 1000) (k : ∀ y H0 H1, Ex H H0 → P y H0 → Ex H0 H1 → D.nx σ (upd H1 a (.ins C dx (putF f y fs)))) : sFld K ta tv f D σ H :=
  hv H (Ex.refl H) _ fun y H1 e1 p => ha H1 e1 _ fun H2 e2 => ⟨a, C, dx, fs, rfl, e2 _ _ (e1 _ _ hx), c, n, hl, k y H1 H2 e1 p e2⟩
theorem q_fldP {a : Addr} {P : V → Hp → Prop} (hv : EvP tv σ H P) (ha : Ev ta σ H (.ref a)) (hx : H a = some (.ins C dx fs)) (c : Cls K C) (n : NoAttr K C f) (hl : fs.length < 1000) (k : ∀ y H0 H1, Ex H H0 → P y H0 → Ex H0 H1 → tz D σ (upd H1 a (.ins C dx (putF f y fs)))) : tSeq (sFld K ta tv f) tz D σ H :=
  s_fldP (D := { D with nx := tz D }) hv ha hx c n hl k
/-- name = a call, known by what holds of it -/
theorem s_asgP {P : V → Hp → Prop} {i : Nat} (h : EvP te σ H P) (k : ∀ v H1, Ex H H1 → P v H1 → D.nx (σ.set i (some v)) H1) : tAsg te (gName i) D σ H := h H (Ex.refl H) _ fun v H1 e p => k v H1 e p
theorem q_asgP {P : V → Hp → Prop} {i : Nat} (h : EvP te σ H P) (k : ∀ v H1, Ex H H1 → P v H1 → tz D (σ.set i (some v)) H1) : tSeq (tAsg te (gName i)) tz D σ H := s_asgP (D := { D with nx := tz D }) h k
theorem s_retP {P : V → Hp → Prop} (h : EvP te σ H P) (k : ∀ v H1, Ex H H1 → P v H1 → D.rt v H1) : tRet te D σ H := h H (Ex.refl H) _ k
theorem ep_fn {sp : Sp} {dv vs : List V} {E : XK} {t : TA} {P : V → Hp → Prop} (ha : EvA t σ H vs) (hs : ∀ H1, Ex H H1 → ∀ (Q : VK) (E : XK), (∀ v H2, Ex H1 H2 → P v H2 → Q v H2) → sp (vs ++ dv) H1 Q E) : EvP (tCall sp dv E t) σ H P := fun H1 e Q q =>
  ha H1 e _ fun H2 e2 => hs H2 (e.trans e2) Q E fun v H3 e3 p => q v H3 (e2.trans e3) p
/-- x.f read -/
theorem ev_fld {a : Addr} (ha : Ev ta σ H (.ref a)) (hx : H a = some (.ins C dx fs)) (c : Cls K C) (n : NoAttr K C f) (hl : fs.lookup f = some v) : Ev (tFld K ta f) σ H v := fun H1 e Q q =>
  ha H1 e _ fun H2 e2 => ⟨a, C, dx, fs, v, rfl, (e.trans e2) _ _ hx, c, n, hl, q H2 e2⟩
/-- a property read -/
theorem ev_prop {a : Addr} {sp : Sp} {E : XK} (ha : Ev ta σ H (.ref a)) (hx : H a = some (.ins C dx fs)) (hs : ∀ H1, Ex H H1 → ∀ (Q : VK) (E : XK), (∀ H2, Ex H1 H2 → Q z H2) → sp [.ref a] H1 Q E) : Ev (tProp C sp [] E ta) σ H z := fun H1 e Q q =>
  ha H1 e _ fun H2 e2 => ⟨a, dx, fs, rfl, (e.trans e2) _ _ hx, hs H2 (e.trans e2) Q E fun H3 e3 => q H3 (e2.trans e3)⟩
theorem eu_prop {a : Addr} {sp : Sp} {E : XK} {ys : List V} (ha : Ev ta σ H (.ref a)) (hx : H a = some (.ins C dx fs)) (hs : ∀ H1, Ex H H1 → ∀ (Q : VK) (E : XK), (∀ p H2, H1 p = none → Ex H1 H2 → H2 p = some (.tup ys) → Q (.ref p) H2) → sp [.ref a] H1 Q E) : EvU (tProp C sp [] E ta) σ H ys := fun H1 e Q q =>
  ha H1 e _ fun H2 e2 => ⟨a, dx, fs, rfl, (e.trans e2) _ _ hx, hs H2 (e.trans e2) Q E fun p H3 n e3 h => q p H3 (fresh_back e2 n) (e2.trans e3) h⟩
theorem ep_prop {a : Addr} {sp : Sp} {E : XK} {P : V → Hp → Prop} (ha : Ev ta σ H (.ref a)) (hx : H a = some (.ins C dx fs)) (hs : ∀ H1, Ex H H1 → ∀ (Q : VK) (E : XK), (∀ v H2, Ex H1 H2 → P v H2 → Q v H2) → sp [.ref a] H1 Q E) : EvP (tProp C sp [] E ta) σ H P := fun H1 e Q q =>
  ha H1 e _ fun H2 e2 => ⟨a, dx, fs, rfl, (e.trans e2) _ _ hx, hs H2 (e.trans e2) Q E fun v H3 e3 p => q v H3 (e2.trans e3) p⟩
/-- an object that changes, all else kept -/
theorem del_upd {H H1 : Hp} {a : Addr} {o : HO} (e : Ex (del H a) H1) : Ex (del H a) (upd H1 a o) := Ex.mut e del_same
theorem del_in {H : Hp} {a b : Addr} {o o' : HO} (h : H b = some o) (hx : H a = some o') (hne : o ≠ o') : del H a b = some o := by
  rw [del_ne (fun z => hne (by rw [z, hx] at h; exact (Option.some.inj h).symm))]; exact h
theorem del_ex {H H1 : Hp} {a : Addr} (e : Ex H H1) : Ex (del H a) H1 := fun b o z => by
  by_cases hb : b = a
  · rw [hb, del_same] at z; cases z
  · rw [del_ne hb] at z; exact e b o z
theorem del_del {H H1 : Hp} {a : Addr} (e : Ex (del H a) H1) : Ex (del H a) (del H1 a) := fun b o z => by
  by_cases hb : b = a
  · rw [hb, del_same] at z; cases z
  · rw [del_ne hb]; exact e b o z
end
end LW
namespace LO
open PySem PySem.Spec PyProof.Rows L2 LG LW Evl
section
/-- a property that keeps its promise -/
def PropFn (P : Program) (w : World) (K : PySem.W.Frag) (mg : Str → Option Value) (base : Heap) (C : Addr) (f : Str) (k : Nat) (sp : Sp) : Prop := ∃ p g fd, PropOf K C f p g ∧ FnOk P w K mg base CX0 k g fd ["self"] sp ∧ Binds K fd ["self"] []
theorem PropFn.up {P : Program} {w : World} {K : PySem.W.Frag} {mg : Str → Option Value} {base : Heap} {C : Addr} {f : Str} {k j : Nat} {sp : Sp} (F : PropFn P w K mg base C f k sp) (h : k ≤ j) : PropFn P w K mg base C f j sp := by
  obtain ⟨p, g, fd, h1, F1, b⟩ := F
  exact ⟨p, g, fd, h1, F1.mono h, b⟩
theorem pe_propE {X : Cx} {C : Addr} {f : Str} {k j : Nat} {sp : Sp} {e : Expr} {pos : Pos} {ta : TE} (F : PropFn X.prog X.w X.K X.mg X.base C f k sp) (c : Cls X.K C) (hr : Room j X.A) (hk : k + 1 ≤ j) (he : PE X e ta)
    (hab : attributeBase e f X.env (eval e X.env) = eval e X.env) : PE X (.Attribute e f pos) (tProp C sp [] E0 ta) := by
  obtain ⟨p, g, fd, h1, F1, b⟩ := F
  exact pe_prop he c h1 F1 (hr.mono hk) b .nil pass0 hab
end
end LO

set_option Elab.async false
set_option linter.all false
set_option maxRecDepth 100000
set_option maxHeartbeats 4000000
namespace LO
open PySem PySem.Spec PyProof.Rows L2 LG LW Evl
section
variable {P : Program} {w : World} {K : PySem.W.Frag} {mg : Str → Option Value} {base : Heap}

/-! ### Stock.__init__ -/
def ExT (H H' : Hp) : Prop := ∀ b xs, H b = some (.tup xs) → H' b = some (.tup xs)
theorem ExT.of {H H' : Hp} (e : Ex H H') : ExT H H' := fun b xs h => e b _ h
theorem ExT.trans {H H1 H2 : Hp} (a : ExT H H1) (b : ExT H1 H2) : ExT H H2 := fun x xs h => b x xs (a x xs h)
theorem ExT.ins {H : Hp} {x C dx : Addr} {fs : List (Str × V)} {o : HO} (h : H x = some (.ins C dx fs)) : ExT H (upd H x o) := fun b xs z => by
  rw [upd_ne (fun y => by rw [y, h] at z; cases z)]; exact z
theorem ExT.delI {H : Hp} {x C dx : Addr} {fs : List (Str × V)} (h : H x = some (.ins C dx fs)) : ExT H (del H x) := fun b xs z => by
  rw [del_ne (fun y => by rw [y, h] at z; cases z)]; exact z
theorem RowD.ext {H H' : Hp} {p : Addr} {r : Row3} (e : ExT H H') (h : RowD H p r) : RowD H' p r := by
  obtain ⟨a1, a2, h1, h2, h3⟩ := h
  exact ⟨a1, a2, e _ _ h1, e _ _ h2, e _ _ h3⟩
theorem TabAt.ext {H H' : Hp} {a : Addr} {rows : List Row3} (e : ExT H H') (h : TabAt H a rows) : TabAt H' a rows := by
  obtain ⟨ps, h1, h2⟩ := h
  exact ⟨ps, e _ _ h1, Paired.mapP h2 fun _ _ z => z.ext e⟩
structure NameOk (s : Str) : Prop where
  lo : 1 ≤ s.length
  hi : s.length ≤ 8
  let_ : lettersB s = true
def StockAt (K : PySem.W.Frag) (H : Hp) (x : Addr) (name : Str) (rows : List Row3) : Prop := ∃ dx q, H x = some (.ins (ga K "Stock") dx [("name", .str name), ("table", .ref q)]) ∧ TabAt H q rows
theorem StockAt.ex {K : PySem.W.Frag} {H H' : Hp} {x : Addr} {name : Str} {rows : List Row3} (e : Ex H H') (h : StockAt K H x name rows) : StockAt K H' x name rows := by
  obtain ⟨dx, q, h1, h2⟩ := h
  exact ⟨dx, q, e _ _ h1, h2.ex e⟩
def sp_Stock_init (K : PySem.W.Frag) : Sp := fun vs H Q _ => ∃ (x dx a : Addr) (name : Str) (rows : List Row3), vs = [.ref x, .str name, .ref a] ∧ H x = some (.ins (ga K "Stock") dx []) ∧ TabAt H a rows ∧ TabOk rows ∧ NameOk name ∧ ∀ H', Ex (del H x) H' → StockAt K H' x name rows → Q .non H'
abbrev n_Stock_init : List Str := ["self", "name", "table"]
theorem sc_Stock_init : FnScope n_Stock_init ["self", "name", "table"] (defScope s_Stock_init) := ⟨rfl, rfl, rfl, by decide +kernel, rfl, by decide +kernel, by decide +kernel⟩
theorem fn_Stock_init (M : Mods P K mg base) : ∃ f fd ds, Mk K (ga K "Stock") f ∧ FnOk P w K mg base CX0 5 f fd ["self", "name", "table"] (sp_Stock_init K) ∧ Binds K fd ["self", "name", "table"] ds ∧ Vals [] ds := by
  have nd := sc_Stock_init.nd
  have h_check_table := (fn_check_table (w := w) M).up (show 4 ≤ 4 by decide)
  have h_is_name := (fn_is_name (w := w) M).up (show 2 ≤ 4 by decide)
  obtain ⟨f, mk, fd, F⟩ := M.I_Stock
  refine ⟨f, fd, [], mk, ?_, F.bindsN fun _ _ _ _ _ _ us hl => match us, hl with | [_, _, _], _ => rfl, .nil⟩
  refine F.ok sc_Stock_init (fun vs H Q E h => ?_) fun cdv A outer s H vs Q E hr h => ⟨_, PSs.nox
    (pss_cons (ps_if (pt_not (pt_val (pe_fn h_is_name hr pass0 (pa_cons (pv 1) (pa_cons (pe_gint M.i_LONGEST_NAME) pa_nil))))) (pss_one ps_never) pss_nil) (pss_cons (ps_fld (pv 0) (pv 1) rfl) (pss_one (ps_fld (pv 0) (pe_fn h_check_table hr pass0 (pa_cons (pv 2) pa_nil)) rfl)))), ?_⟩
  · obtain ⟨x, dx, a, name, rows, rfl, _⟩ := h; rfl
  · obtain ⟨x, dx, a, name, rows, rfl, hx, ht, hok, hn, hQ⟩ := h
    refine q_pass (et_not (et_B (ev_fn (z := .bl true) (ea_cons (ev_var rfl) (ea_cons ev_c ea_nil)) fun H1 e Q E q => ⟨name, 8, rfl, hn.lo, by have := hn.hi; omega, by have := hn.hi; omega, hn.let_, q⟩))) fun H1 e1 => ?_
    refine q_fld (ev_var rfl) (ev_var rfl) (e1 _ _ hx) M.cls_Stock M.no_Stock_name (show 0 < 1000 by decide) fun H2 e2 => ?_
    have e12 := e1.trans e2
    have ht2 : TabAt (upd H2 x (.ins (ga K "Stock") dx [("name", .str name)])) a rows := (ht.ex e12).ext (ExT.ins (e12 _ _ hx))
    refine s_fldP (P := fun v H => ∃ q, v = .ref q ∧ TabAt H q rows) (ep_fn (ea_cons (ev_var rfl) ea_nil) fun H3 e3 Q E q => ⟨a, rows, rfl, ht2.ex e3, hok, fun q' H4 e4 h4 => q _ H4 e4 ⟨q', rfl, h4⟩⟩) (ev_var rfl) upd_same M.cls_Stock M.no_Stock_table (show 1 < 1000 by decide) fun y H3 H4 e3 p e4 => ?_
    obtain ⟨q, rfl, hq⟩ := p
    refine hQ _ (del_upd ((del_upd (del_ex e12)).trans (e3.trans e4))) ⟨dx, q, upd_same, (hq.ex e4).ext (ExT.ins ((e3.trans e4) _ _ upd_same))⟩
/-! ### Stock.borne -/
def sp_Stock_borne (K : PySem.W.Frag) : Sp := fun vs H Q _ => ∃ (x : Addr) (name : Str) (rows : List Row3), vs = [.ref x] ∧ StockAt K H x name rows ∧ rows.length ≤ 6 ∧ ∀ p H', H p = none → Ex H H' → H' p = some (.tup ((rows.map (·.1)).map V.int)) → Q (.ref p) H'
def rowZ : Addr × Row3 → V := fun q => .ref q.1
theorem paired_zip {α β : Type} {F : α → β → Prop} : ∀ {l : List α} {m : List β}, Paired F l m → (l.zip m).map (·.1) = l ∧ (l.zip m).map (·.2) = m ∧ ∀ q ∈ l.zip m, F q.1 q.2
  | _, _, .nil => ⟨rfl, rfl, fun _ h => by cases h⟩
  | _, _, .cons r t => by
    obtain ⟨h1, h2, h3⟩ := paired_zip t
    refine ⟨by rw [List.zip_cons_cons, List.map_cons, h1], by rw [List.zip_cons_cons, List.map_cons, h2], fun q hq => ?_⟩
    rw [List.zip_cons_cons] at hq
    rcases List.mem_cons.mp hq with rfl | hq
    · exact r
    · exact h3 q hq
abbrev n_Stock_borne : List Str := ["self", "row"]
theorem sc_Stock_borne : FnScope n_Stock_borne ["self"] (defScope s_Stock_borne) := ⟨rfl, rfl, rfl, by decide +kernel, rfl, by decide +kernel, by decide +kernel⟩
theorem fn_Stock_borne (M : Mods P K mg base) : PropFn P w K mg base (ga K "Stock") "borne" 1 (sp_Stock_borne K) := by
  have nd := sc_Stock_borne.nd
  obtain ⟨p, g, hp, fd, F⟩ := M.borne
  refine ⟨p, g, fd, hp, ?_, F.bindsN fun _ _ _ _ _ _ us hl => match us, hl with | [_], _ => rfl⟩
  refine F.ok sc_Stock_borne (fun vs H Q E h => ?_) fun cdv A outer s H vs Q E hr h => ⟨_, PSs.nox
    (pss_one (ps_ret (pe_callTy call_tuple_of rfl M.z_tuple LW.boot_tuple (pa_cons (pe_lc (own := [("row", 1)]) rfl nd (pi_tup (pe_fld (pv 0) rfl)) (blkOk_by (N := n_Stock_borne) (sc := (defScope s_Stock_borne)) (by decide +kernel)) (fun _ _ _ _ _ => (pg_name (i := 1) nd rfl (.inl rfl))) (fun _ _ _ _ _ => pts_nil) (fun _ _ _ _ _ => (pe_ix (show IxR _ (rIxT K) from ix_tup) (pv 1) pe_int (fun _ _ => rfl)))) pa_nil)))), ?_⟩
  · obtain ⟨x, name, rows, rfl, _⟩ := h; rfl
  · obtain ⟨x, name, rows, rfl, ⟨dx, q, hx, ⟨ps, hq, hps⟩⟩, h6, hQ⟩ := h
    obtain ⟨z1, z2, z3⟩ := paired_zip hps
    have hq' : SqT K H q ((ps.zip rows).map rowZ) := by
      have : (ps.zip rows).map rowZ = ps.map V.ref := by
        have := congrArg (List.map V.ref) z1
        rw [List.map_map] at this; exact this
      rw [this]; exact st_of hq
    have hlen : (ps.zip rows).length = rows.length := by have := congrArg List.length z2; rw [List.length_map] at this; exact this
    refine s_retU (eu_tupN (el_lcT (as := ps.zip rows) (F := rowZ) (p := fun _ => true) (g := fun q => V.int q.2.1) (ev_fld (ev_var rfl) hx M.cls_Stock M.no_Stock_table rfl) hq' (by omega) (fun _ => rfl) (fun z H1 e hz => et_yes) fun z H1 e hz _ => ?_)) fun p H1 hp e h1 => hQ p H1 hp e ?_
    · obtain ⟨a1, a2, g1, _, _⟩ := (z3 z hz).ex e
      exact ev_op (ev_var rfl) ev_c (rv_ixT (st_of g1) rfl)
    · rw [h1]
      have : (((ps.zip rows).filter fun _ => true).map fun q => V.int q.2.1) = (rows.map (·.1)).map V.int := by
        rw [List.filter_eq_self.mpr (fun _ _ => rfl)]
        conv => rhs; rw [← z2]
        simp only [List.map_map]; rfl
      rw [this]
end
end LO

/-! plain lists of whole numbers: sorting -/
namespace LM
def ins (x : Int) : List Int → List Int
  | [] => [x]
  | y :: ys => if x ≤ y then x :: y :: ys else y :: ins x ys
def srt : List Int → List Int
  | [] => []
  | x :: xs => ins x (srt xs)
theorem ins_perm (x : Int) : ∀ l : List Int, (ins x l).Perm (x :: l)
  | [] => .refl _
  | y :: ys => by
    unfold ins
    split
    · exact .refl _
    · exact ((ins_perm x ys).cons y).trans (.swap x y ys)
theorem srt_perm : ∀ l : List Int, (srt l).Perm l
  | [] => .refl _
  | x :: xs => (ins_perm x (srt xs)).trans ((srt_perm xs).cons x)
theorem ins_sorted {x : Int} : ∀ {l : List Int}, l.Pairwise (· ≤ ·) → (ins x l).Pairwise (· ≤ ·)
  | [], _ => List.pairwise_singleton _ _
  | y :: ys, h => by
    unfold ins
    obtain ⟨h1, h2⟩ := List.pairwise_cons.mp h
    split
    · rename_i hxy
      refine List.pairwise_cons.mpr ⟨fun z hz => ?_, h⟩
      rcases List.mem_cons.mp hz with rfl | hz
      · exact hxy
      · exact Int.le_trans hxy (h1 z hz)
    · rename_i hxy
      refine List.pairwise_cons.mpr ⟨fun z hz => ?_, ins_sorted h2⟩
      rcases List.mem_cons.mp ((ins_perm x ys).mem_iff.mp hz) with rfl | hz
      · omega
      · exact h1 z hz
theorem srt_sorted : ∀ l : List Int, (srt l).Pairwise (· ≤ ·)
  | [] => .nil
  | x :: xs => ins_sorted (srt_sorted xs)
theorem sorted_unique : ∀ {l m : List Int}, l.Perm m → l.Pairwise (· ≤ ·) → m.Pairwise (· ≤ ·) → l = m
  | [], m, p, _, _ => (List.nil_perm.mp p).symm
  | x :: l, [], p, _, _ => by have := p.length_eq; cases this
  | x :: l, y :: m, p, h1, h2 => by
    obtain ⟨a1, a2⟩ := List.pairwise_cons.mp h1
    obtain ⟨b1, b2⟩ := List.pairwise_cons.mp h2
    have hxy : x = y := by
      have hx : x ∈ y :: m := p.mem_iff.mp List.mem_cons_self
      have hy : y ∈ x :: l := p.mem_iff.mpr List.mem_cons_self
      have c1 : y ≤ x := by
        rcases List.mem_cons.mp hx with rfl | hx
        · exact Int.le_refl _
        · exact b1 x hx
      have c2 : x ≤ y := by
        rcases List.mem_cons.mp hy with rfl | hy
        · exact Int.le_refl _
        · exact a1 y hy
      omega
    subst hxy
    rw [sorted_unique ((List.perm_cons x).mp p) a2 b2]
theorem srt_eq {l m : List Int} (p : m.Perm l) (h : m.Pairwise (· ≤ ·)) : m = srt l := sorted_unique (p.trans (srt_perm l).symm) h (srt_sorted l)
theorem srt_len (l : List Int) : (srt l).length = l.length := (srt_perm l).length_eq
theorem srt_mem {l : List Int} {x : Int} : x ∈ srt l ↔ x ∈ l := (srt_perm l).mem_iff
end LM

set_option Elab.async false
set_option linter.all false
set_option maxRecDepth 100000
set_option maxHeartbeats 4000000
namespace LW
open PySem L2 PySem.Spec PyProof.Rows LG Evl LO
section
variable {K : PySem.W.Frag} {σ : L2.St} {H H' : Hp} {ta tb tc te tv : TE} {q : Addr} {xs ys : List V}
theorem eu_is {te : TE} (h : EvU te σ H xs) (e : xs = ys) : EvU te σ H ys := by rw [← e]; exact h
theorem el_is {te : TE} (h : EvL te σ H xs) (e : xs = ys) : EvL te σ H ys := by rw [← e]; exact h
/-- t + u, both of some length -/
theorem eu_cat (h : Ev ta σ H (.ref q)) (h2 : EvU tb σ H ys) (hx : SqT K H q xs) (nx : xs ≠ []) (ny : ys ≠ []) (hz : xs.length + ys.length ≤ 100000) : EvU (tOp (rCatA K) ta tb) σ H (xs ++ ys) := fun H1 e Q k =>
  h H1 e _ fun H2 e2 => h2 H2 (e.trans e2) _ fun p H3 n e3 hp => ⟨q, p, xs, ys, rfl, rfl, ex_t ((e.trans e2).trans e3) hx, st_of hp, sz_of hz, fun z => absurd z nx, fun _ z => absurd z ny, fun _ _ r hr =>
    k r _ (fresh_back (e2.trans e3) hr) ((e2.trans e3).trans (Ex.new hr)) upd_same⟩
/-- sorted of a new tuple of whole numbers -/
theorem el_sortedTu {ns : List Int} (h : EvU ta σ H (ns.map V.int)) (h64 : ns.length < 64) : EvL (tCB (rSortedTu K) (tCons ta tNil)) σ H ((LM.srt ns).map V.int) := fun H1 e Q k =>
  h H1 e _ fun p H2 n e2 hp => ⟨p, ns, rfl, st_of hp, h64, fun ns' p' h1 h2 h3 => by
    have : ns' = LM.srt ns := LM.srt_eq h1 h2
    subst this
    exact k p' _ (fresh_back e2 h3) (e2.trans (Ex.new h3)) upd_same⟩
end
end LW

set_option Elab.async false
set_option linter.all false
set_option maxRecDepth 100000
set_option maxHeartbeats 4000000
namespace LO
open PySem PySem.Spec PyProof.Rows L2 LG LW Evl
section
variable {P : Program} {w : World} {K : PySem.W.Frag} {mg : Str → Option Value} {base : Heap}

/-! ### Frame.__init__ -/
theorem inV_ints {c : Int} {ns : List Int} : inV (.int c) (ns.map V.int) = decide (c ∈ ns) := by
  unfold inV
  rw [List.any_map]
  induction ns with
  | nil => rfl
  | cons n ns ih =>
    rw [List.any_cons, ih]
    show (eqV (.int n) (.int c) || _) = _
    have : eqV (.int n) (.int c) = decide (n = c) := rfl
    rw [this]
    by_cases h : n = c
    · simp [h]
    · have h' : ¬ c = n := fun z => h z.symm
      simp [h, h']
theorem ints_flat {ns : List Int} : (ns.map V.int).all flatV = true := by
  rw [List.all_map]
  exact List.all_eq_true.mpr fun _ _ => rfl
structure FrOk (ns : List Int) (cl ag : Option Int) : Prop where
  nouns : NounsOk ns
  c1 : ∀ c, cl = some c → 0 ≤ c ∧ c ≤ 5
  c2 : ∀ c, cl = some c → c ∉ ns
  ag : ∀ c, ag = some c → c ∈ ns
def FrameAt (K : PySem.W.Frag) (H : Hp) (x : Addr) (name : Str) (ns : List Int) (cl ag : Option Int) : Prop := ∃ dx q, H x = some (.ins (ga K "Frame") dx [("name", .str name), ("nouns", .ref q), ("clause", optV cl), ("agreed", optV ag)]) ∧ H q = some (.tup (ns.map V.int))
theorem FrameAt.ex {K : PySem.W.Frag} {H H' : Hp} {x : Addr} {name : Str} {ns : List Int} {cl ag : Option Int} (e : Ex H H') (h : FrameAt K H x name ns cl ag) : FrameAt K H' x name ns cl ag := by
  obtain ⟨dx, q, h1, h2⟩ := h
  exact ⟨dx, q, e _ _ h1, e _ _ h2⟩
def sp_Frame_init (K : PySem.W.Frag) : Sp := fun vs H Q _ => ∃ (x dx a : Addr) (name : Str) (ns : List Int) (cl ag : Option Int), vs = [.ref x, .str name, .ref a, optV cl, optV ag] ∧ H x = some (.ins (ga K "Frame") dx []) ∧ H a = some (.tup (ns.map V.int)) ∧ FrOk ns cl ag ∧ NameOk name ∧ ∀ H', Ex (del H x) H' → FrameAt K H' x name ns cl ag → Q .non H'
theorem ev_opt {σ : L2.St} {H : Hp} {i : Nat} {o : Option Int} {b : Bool} (h : σ[i]? = some (some (optV o))) (hb : b = (!decide (optV o = V.non))) : Ev (tOp rNotN (tVar i) (tC .non)) σ H (.bl b) := by
  rw [hb]
  exact ev_op (ev_var h) ev_c rv_notN
abbrev n_Frame_init : List Str := ["self", "name", "nouns", "clause", "agreed"]
theorem sc_Frame_init : FnScope n_Frame_init ["self", "name", "nouns", "clause", "agreed"] (defScope s_Frame_init) := ⟨rfl, rfl, rfl, by decide +kernel, rfl, by decide +kernel, by decide +kernel⟩
theorem fn_Frame_init (M : Mods P K mg base) : ∃ f fd ds, Mk K (ga K "Frame") f ∧ FnOk P w K mg base CX0 3 f fd ["self", "name", "nouns", "clause", "agreed"] (sp_Frame_init K) ∧ Binds K fd ["self", "name", "nouns", "clause", "agreed"] ds ∧ Vals [] ds := by
  have nd := sc_Frame_init.nd
  have h_check_nouns := (fn_check_nouns (w := w) M).up (show 2 ≤ 2 by decide)
  have h_is_name := (fn_is_name (w := w) M).up (show 2 ≤ 2 by decide)
  have h_is_whole := (fn_is_whole (w := w) M).up (show 1 ≤ 2 by decide)
  have h_is_whole1 := (fn_is_whole1 (w := w) M).up (show 1 ≤ 2 by decide)
  obtain ⟨f, mk, fd, F⟩ := M.I_Frame
  obtain ⟨ds, rd, bd⟩ := F.binds1 (ps := ["self", "name", "nouns", "clause", "agreed"]) 5 2 (by simp) rfl fun T kV doc pm an cdv ct us its h1 h2 => match us, its, h1, h2 with | [_, _, _, _, _], [_, _], _, _ => ⟨_, rfl, rfl⟩
  refine ⟨f, fd, ds, mk, ?_, bd, rd⟩
  refine F.ok sc_Frame_init (fun vs H Q E h => ?_) fun cdv A outer s H vs Q E hr h => ⟨_, PSs.nox
    (pss_cons (ps_if (pt_not (pt_val (pe_fn h_is_name hr pass0 (pa_cons (pv 1) (pa_cons (pe_gint M.i_LONGEST_NAME) pa_nil))))) (pss_one ps_never) pss_nil) (pss_cons (ps_fld (pv 0) (pv 1) rfl) (pss_cons (ps_fld (pv 0) (pe_fn h_check_nouns hr pass0 (pa_cons (pv 2) pa_nil)) rfl) (pss_cons (ps_if (PW.pt (pw_and (pt_cmpR op_notN1 (pv 3) pe_non (nomark _)) (pw_and1 (PW.pt (pw_or (pt_not (pt_val (pe_fn h_is_whole hr pass0 (pa_cons (pv 3) (pa_cons pe_int (pa_cons (pe_op op_sub (pe_gint M.i_MOST_ROLES) pe_int) pa_nil)))))) (pw_or1 (pt_cmpR op_in_seq (pv 3) (pe_fld (pv 0) rfl) rfl))))))) (pss_one ps_never) pss_nil) (pss_cons (ps_fld (pv 0) (pv 3) rfl) (pss_cons (ps_if (PW.pt (pw_and (pt_cmpR op_notN1 (pv 4) pe_non (nomark _)) (pw_and1 (PW.pt (pw_or (pt_not (pt_val (pe_fn h_is_whole1 hr pass0 (pa_cons (pv 4) pa_nil)))) (pw_or1 (pt_cmpR op_notIn_seq (pv 4) (pe_fld (pv 0) rfl) rfl))))))) (pss_one ps_never) pss_nil) (pss_one (ps_fld (pv 0) (pv 4) rfl)))))))), ?_⟩
  · obtain ⟨x, dx, a, name, ns, cl, ag, rfl, _⟩ := h; rfl
  · obtain ⟨x, dx, a, name, ns, cl, ag, rfl, hx, ht, hok, hn, hQ⟩ := h
    refine q_pass (et_not (et_B (ev_fn (z := .bl true) (ea_cons (ev_var rfl) (ea_cons ev_c ea_nil)) fun H1 e Q E q => ⟨name, 8, rfl, hn.lo, by have := hn.hi; omega, by have := hn.hi; omega, hn.let_, q⟩))) fun H1 e1 => ?_
    refine q_fld (ev_var rfl) (ev_var rfl) (e1 _ _ hx) M.cls_Frame M.no_Frame_name (show 0 < 1000 by decide) fun H2 e2 => ?_
    have e12 := e1.trans e2
    have t2 := ExT.trans (ExT.of e12) (ExT.ins (o := .ins (ga K "Frame") dx [("name", .str name)]) (e12 _ _ hx)) _ _ ht
    have d2 : Ex (del H x) (upd H2 x (.ins (ga K "Frame") dx [("name", .str name)])) := del_upd (del_ex e12)
    refine q_fld (ev_fn (z := .ref a) (ea_cons (ev_var rfl) ea_nil) fun H3 e3 Q E q => ⟨a, ns, rfl, e3 _ _ t2, hok.nouns, q⟩) (ev_var rfl) upd_same M.cls_Frame M.no_Frame_nouns (show 1 < 1000 by decide) fun H3 e3 => ?_
    have t3 := ExT.trans (ExT.of e3) (ExT.ins (o := .ins (ga K "Frame") dx [("name", .str name), ("nouns", .ref a)]) (e3 _ _ upd_same)) _ _ t2
    have d3 := del_upd (o := .ins (ga K "Frame") dx [("name", .str name), ("nouns", .ref a)]) (d2.trans e3)
    have f3 : ∀ Hx, Ex (upd H3 x (.ins (ga K "Frame") dx [("name", .str name), ("nouns", .ref a)])) Hx → Ev (tFld K (tVar 0) "nouns") [some (.ref x), some (.str name), some (.ref a), some (optV cl), some (optV ag)] Hx (.ref a) := fun Hx e => ev_fld (ev_var rfl) (e _ _ upd_same) M.cls_Frame M.no_Frame_nouns rfl
    refine q_pass (et_is (et_and (a := !decide (optV cl = V.non)) (b := false) (et_test (ev_opt rfl rfl)) fun hb => ?_) (Bool.and_false _)) fun H4 e4 => ?_
    · cases cl with
      | none => cases hb
      | some c =>
        obtain ⟨b1, b2⟩ := hok.c1 c rfl
        refine et_or (a := false) (b := false) (et_is (et_not (et_B (ev_whole (lo := some 0) (hi := some 5) (ev_var rfl) ev_c (ev_op ev_c ev_c rv_I0) rfl))) (by show (!wholeB (.int c) _ _) = false; rw [whole_in b1 b2]; rfl)) fun _ => ?_
        exact et_is (et_op (ev_var rfl) (f3 _ (Ex.refl _)) (rv_isT (st_of t3) rfl ints_flat)) (by show inV (.int c) _ = false; rw [inV_ints]; exact decide_eq_false (hok.c2 c rfl))
    refine q_fld (ev_var rfl) (ev_var rfl) (e4 _ _ upd_same) M.cls_Frame M.no_Frame_clause (show 2 < 1000 by decide) fun H5 e5 => ?_
    have e45 := e4.trans e5
    have t5 := ExT.trans (ExT.of e45) (ExT.ins (o := .ins (ga K "Frame") dx [("name", .str name), ("nouns", .ref a), ("clause", optV cl)]) (e45 _ _ upd_same)) _ _ t3
    have d5 := del_upd (o := .ins (ga K "Frame") dx [("name", .str name), ("nouns", .ref a), ("clause", optV cl)]) (d3.trans e45)
    have f5 : ∀ Hx, Ex (upd H5 x (.ins (ga K "Frame") dx [("name", .str name), ("nouns", .ref a), ("clause", optV cl)])) Hx → Ev (tFld K (tVar 0) "nouns") [some (.ref x), some (.str name), some (.ref a), some (optV cl), some (optV ag)] Hx (.ref a) := fun Hx e => ev_fld (ev_var rfl) (e _ _ upd_same) M.cls_Frame M.no_Frame_nouns rfl
    refine q_pass (et_is (et_and (a := !decide (optV ag = V.non)) (b := false) (et_test (ev_opt rfl rfl)) fun hb => ?_) (Bool.and_false _)) fun H6 e6 => ?_
    · cases ag with
      | none => cases hb
      | some c =>
        refine et_or (a := false) (b := false) (et_is (et_not (et_B (ev_whole1 (ev_var rfl) rfl))) rfl) fun _ => ?_
        exact et_is (et_op (ev_var rfl) (f5 _ (Ex.refl _)) (rv_niT (st_of t5) rfl ints_flat)) (by show (!inV (.int c) _) = false; rw [inV_ints, decide_eq_true (hok.ag c rfl)]; rfl)
    refine s_fld (ev_var rfl) (ev_var rfl) (e6 _ _ upd_same) M.cls_Frame M.no_Frame_agreed (show 3 < 1000 by decide) fun H7 e7 => ?_
    have e67 := e6.trans e7
    exact hQ _ (del_upd (d5.trans e67)) ⟨dx, a, upd_same, ExT.trans (ExT.of e67) (ExT.ins (e67 _ _ upd_same)) _ _ t5⟩
/-! ### Frame.slots -/
def slotsL (ns : List Int) (cl : Option Int) : List Int := LM.srt (ns ++ cl.toList)
def sp_Frame_slots (K : PySem.W.Frag) : Sp := fun vs H Q _ => ∃ (x : Addr) (name : Str) (ns : List Int) (cl ag : Option Int), vs = [.ref x] ∧ FrameAt K H x name ns cl ag ∧ NounsOk ns ∧ ∀ p H', Ex H H' → H' p = some (.tup ((slotsL ns cl).map V.int)) → Q (.ref p) H'
theorem Rise.le {ns : List Int} (h : Rise ns) : ns.Pairwise (· ≤ ·) := List.Pairwise.imp (fun h => Int.le_of_lt h) h
theorem slots_none {ns : List Int} (h : Rise ns) : slotsL ns none = ns := by
  unfold slotsL
  rw [Option.toList_none, List.append_nil]
  exact (LM.srt_eq (.refl _) h.le).symm
abbrev n_Frame_slots : List Str := ["self"]
theorem sc_Frame_slots : FnScope n_Frame_slots ["self"] (defScope s_Frame_slots) := ⟨rfl, rfl, rfl, by decide +kernel, rfl, by decide +kernel, by decide +kernel⟩
theorem fn_Frame_slots (M : Mods P K mg base) : PropFn P w K mg base (ga K "Frame") "slots" 1 (sp_Frame_slots K) := by
  have nd := sc_Frame_slots.nd
  obtain ⟨p, g, hp, fd, F⟩ := M.slots
  refine ⟨p, g, fd, hp, ?_, F.bindsN fun _ _ _ _ _ _ us hl => match us, hl with | [_], _ => rfl⟩
  refine F.ok sc_Frame_slots (fun vs H Q E h => ?_) fun cdv A outer s H vs Q E hr h => ⟨_, PSs.nox
    (pss_cons (ps_if (pt_cmpR op_isN1 (pe_fld (pv 0) rfl) pe_non (nomark _)) (pss_one (ps_ret (pe_fld (pv 0) rfl))) pss_nil) (pss_one (ps_ret (pe_callTy call_tuple_of rfl M.z_tuple LW.boot_tuple (pa_cons (pe_callB cr_sortedTu rfl M.z_sorted LW.boot_sorted (pa_cons (pe_op op_catA (pe_fld (pv 0) rfl) (pe_tup (pa_cons (pe_fld (pv 0) rfl) pa_nil))) pa_nil)) pa_nil))))), ?_⟩
  · obtain ⟨x, name, ns, cl, ag, rfl, _⟩ := h; rfl
  · obtain ⟨x, name, ns, cl, ag, rfl, ⟨dx, q, hx, hq⟩, hok, hQ⟩ := h
    have lo := hok.lo
    have hi5 := hok.hi
    have f0 : ∀ Hx, Ex H Hx → Ev (tFld K (tVar 0) "nouns") [some (.ref x)] Hx (.ref q) := fun Hx e => ev_fld (ev_var rfl) (e _ _ hx) M.cls_Frame M.no_Frame_nouns rfl
    have f1 : ∀ Hx, Ex H Hx → Ev (tFld K (tVar 0) "clause") [some (.ref x)] Hx (optV cl) := fun Hx e => ev_fld (ev_var rfl) (e _ _ hx) M.cls_Frame M.no_Frame_clause rfl
    refine q_when (b := decide (optV cl = V.non)) (et_op (f1 H (Ex.refl H)) ev_c rv_isN) (fun hb H1 e1 => ?_) fun hb H1 e1 => ?_
    · cases cl with
      | none => exact s_ret (f0 H1 e1) fun H2 e2 => hQ q H2 (e1.trans e2) (by rw [slots_none hok.rise]; exact e2 _ _ (e1 _ _ hq))
      | some c => cases hb
    · cases cl with
      | none => cases hb
      | some c =>
        refine s_retU (xs := (slotsL ns (some c)).map V.int) (eu_tupN (el_sortedTu (ns := ns ++ [c]) (eu_is (eu_cat (f0 H1 e1) (eu_tup (vs := [.int c]) (ea_cons (f1 H1 e1) ea_nil) (show 1 ≤ 100000 by decide)) (st_of (e1 _ _ hq)) (fun z => ?_) (fun z => by cases z) ?_) ?_) ?_)) fun p H2 np e2 hp => hQ p H2 (e1.trans e2) hp
        · have := congrArg List.length z
          rw [List.length_map] at this
          exact absurd this (by show ¬ ns.length = 0; omega)
        · rw [List.length_map]; show ns.length + 1 ≤ 100000; omega
        · rw [List.map_append]; rfl
        · rw [List.length_append]; show ns.length + 1 < 64; omega
end
end LO

/-! the transitive closure by Warshall's way -/
namespace LM
abbrev Pr : Type := Int × Int
inductive Path (rs : List Pr) : Int → Int → Prop
  | one {a b : Int} : (a, b) ∈ rs → Path rs a b
  | cons {a b c : Int} : (a, b) ∈ rs → Path rs b c → Path rs a c
theorem Path.trans {rs : List Pr} {a b c : Int} (h : Path rs a b) (k : Path rs b c) : Path rs a c := by
  induction h with
  | one h => exact .cons h k
  | cons h _ ih => exact .cons h (ih k)
inductive Via (rs : List Pr) (M : Int → Prop) : Int → Int → Prop
  | one {a b : Int} : (a, b) ∈ rs → Via rs M a b
  | cons {a b c : Int} : (a, b) ∈ rs → M b → Via rs M b c → Via rs M a c
theorem Via.split {rs : List Pr} {M : Int → Prop} {m a b : Int} (h : Via rs (fun x => x = m ∨ M x) a b) : Via rs M a b ∨ (Via rs M a m ∧ Via rs M m b) := by
  induction h with
  | one h => exact .inl (.one h)
  | cons h hx _ ih =>
    rcases hx with rfl | hx
    · rcases ih with h1 | ⟨_, h2⟩
      · exact .inr ⟨.one h, h1⟩
      · exact .inr ⟨.one h, h2⟩
    · rcases ih with h1 | ⟨h1, h2⟩
      · exact .inl (.cons h hx h1)
      · exact .inr ⟨.cons h hx h1, h2⟩
def addP (cs : List Pr) (c : Pr) : List Pr := if c ∈ cs then cs else cs ++ [c]
theorem addP_self (cs : List Pr) (c : Pr) : c ∈ addP cs c := by
  unfold addP
  split
  · assumption
  · exact List.mem_append_right _ (List.mem_singleton.mpr rfl)
theorem addP_sub {cs : List Pr} {c d : Pr} (h : d ∈ cs) : d ∈ addP cs c := by
  unfold addP
  split
  · exact h
  · exact List.mem_append_left _ h
theorem addP_mem {cs : List Pr} {c d : Pr} (h : d ∈ addP cs c) : d = c ∨ d ∈ cs := by
  unfold addP at h
  split at h
  · exact .inr h
  · rcases List.mem_append.mp h with h | h
    · exact .inr h
    · exact .inl (List.mem_singleton.mp h)
theorem addP_nodup {cs : List Pr} {c : Pr} (h : cs.Nodup) : (addP cs c).Nodup := by
  unfold addP
  split
  · exact h
  · rename_i hn
    exact List.nodup_append.mpr ⟨h, by simp, fun x hx y hy z => hn (by rw [← List.mem_singleton.mp hy, ← z]; exact hx)⟩
def warL (m a : Int) (cs : List Pr) (l : Int) : List Pr := if (m, l) ∈ cs then addP cs (a, l) else cs
def warF (ls : List Int) (m : Int) (cs : List Pr) (a : Int) : List Pr := if (a, m) ∈ cs then ls.foldl (warL m a) cs else cs
def warM (fs ls : List Int) (cs : List Pr) (m : Int) : List Pr := fs.foldl (warF ls m) cs
def war (R : List Int) (cs : List Pr) : List Pr := R.foldl (warM R R) cs
/-- what holds of it and of each step -/
theorem foldl_ind {α β : Type} {f : α → β → α} {P : α → Prop} (hs : ∀ x b, P x → P (f x b)) : ∀ (l : List β) (x : α), P x → P (l.foldl f x)
  | [], _, h => h
  | b :: l, x, h => foldl_ind hs l (f x b) (hs x b h)
theorem foldl_ind' {α β : Type} {f : α → β → α} {P : α → Prop} : ∀ (l : List β) (x : α), (∀ x, ∀ b ∈ l, P x → P (f x b)) → P x → P (l.foldl f x)
  | [], _, _, h => h
  | b :: l, x, hs, h => foldl_ind' l (f x b) (fun x b hb => hs x b (List.mem_cons_of_mem _ hb)) (hs x b List.mem_cons_self h)
theorem warL_sub {m a l : Int} {cs : List Pr} {d : Pr} (h : d ∈ cs) : d ∈ warL m a cs l := by
  unfold warL
  split
  · exact addP_sub h
  · exact h
theorem warF_sub {ls : List Int} {m a : Int} {cs : List Pr} {d : Pr} (h : d ∈ cs) : d ∈ warF ls m cs a := by
  unfold warF
  split
  · exact foldl_ind (P := fun x => d ∈ x) (fun _ _ z => warL_sub z) _ _ h
  · exact h
theorem warM_sub {fs ls : List Int} {m : Int} {cs : List Pr} {d : Pr} (h : d ∈ cs) : d ∈ warM fs ls cs m := foldl_ind (P := fun x => d ∈ x) (fun _ _ z => warF_sub z) _ _ h
theorem warL_hit {m a l : Int} : ∀ (ls : List Int) {cs : List Pr}, l ∈ ls → (m, l) ∈ cs → (a, l) ∈ ls.foldl (warL m a) cs
  | x :: ls, cs, hl, h => by
    rw [List.foldl_cons]
    rcases List.mem_cons.mp hl with rfl | hl
    · refine foldl_ind (P := fun x => (a, l) ∈ x) (fun _ _ z => warL_sub z) _ _ ?_
      unfold warL
      rw [if_pos h]
      exact addP_self _ _
    · exact warL_hit ls hl (warL_sub h)
theorem warM_hit {m a l : Int} {ls : List Int} (hl : l ∈ ls) : ∀ (fs : List Int) {cs : List Pr}, a ∈ fs → (a, m) ∈ cs → (m, l) ∈ cs → (a, l) ∈ fs.foldl (warF ls m) cs
  | x :: fs, cs, ha, h1, h2 => by
    rw [List.foldl_cons]
    rcases List.mem_cons.mp ha with rfl | ha
    · refine foldl_ind (P := fun x => (a, l) ∈ x) (fun _ _ z => warF_sub z) _ _ ?_
      unfold warF
      rw [if_pos h1]
      exact warL_hit ls hl h2
    · exact warM_hit hl fs ha (warF_sub h1) (warF_sub h2)
theorem warM_full {rs cs : List Pr} {R : List Int} {M : Int → Prop} {m : Int} (hR : ∀ c ∈ rs, c.1 ∈ R ∧ c.2 ∈ R) (h : ∀ a b, Via rs M a b → (a, b) ∈ cs) : ∀ a b, Via rs (fun x => x = m ∨ M x) a b → (a, b) ∈ warM R R cs m := by
  intro a b hv
  have ends : a ∈ R ∧ b ∈ R := by
    clear h
    induction hv with
    | one z => exact hR _ z
    | cons z _ _ ih => exact ⟨(hR _ z).1, ih.2⟩
  rcases hv.split with h1 | ⟨h1, h2⟩
  · exact warM_sub (h _ _ h1)
  · exact warM_hit ends.2 R ends.1 (h _ _ h1) (h _ _ h2)
theorem war_full {rs : List Pr} {R : List Int} (hR : ∀ c ∈ rs, c.1 ∈ R ∧ c.2 ∈ R) : ∀ (ms : List Int) (cs : List Pr) (M : Int → Prop), (∀ a b, Via rs M a b → (a, b) ∈ cs) → ∀ a b, Via rs (fun x => x ∈ ms ∨ M x) a b → (a, b) ∈ ms.foldl (warM R R) cs
  | [], cs, M, h => fun a b hv => h a b (by
    have : (fun x => x ∈ ([] : List Int) ∨ M x) = M := by funext x; simp
    rw [this] at hv; exact hv)
  | m :: ms, cs, M, h => fun a b hv => by
    rw [List.foldl_cons]
    refine war_full hR ms _ _ (warM_full (m := m) hR h) a b ?_
    have : (fun x => x ∈ m :: ms ∨ M x) = (fun x => x ∈ ms ∨ (x = m ∨ M x)) := by
      funext x
      simp only [List.mem_cons, eq_iff_iff]
      constructor
      · rintro ((h | h) | h)
        · exact .inr (.inl h)
        · exact .inl h
        · exact .inr (.inr h)
      · rintro (h | h | h)
        · exact .inl (.inr h)
        · exact .inl (.inl h)
        · exact .inr h
    rw [this] at hv; exact hv
/-- sound -/
def Sound (rs cs : List Pr) : Prop := ∀ c ∈ cs, Path rs c.1 c.2
theorem addP_sound {rs cs : List Pr} {c : Pr} (h : Sound rs cs) (hc : Path rs c.1 c.2) : Sound rs (addP cs c) := fun d hd => by
  rcases addP_mem hd with rfl | hd
  · exact hc
  · exact h d hd
theorem warL_sound {rs cs : List Pr} {m a l : Int} (h : Sound rs cs ∧ (a, m) ∈ cs) : Sound rs (warL m a cs l) ∧ (a, m) ∈ warL m a cs l := by
  refine ⟨?_, warL_sub h.2⟩
  unfold warL
  split
  · rename_i hl
    exact addP_sound h.1 ((h.1 _ h.2).trans (h.1 _ hl))
  · exact h.1
theorem warF_sound {rs cs : List Pr} {ls : List Int} {m a : Int} (h : Sound rs cs) : Sound rs (warF ls m cs a) := by
  unfold warF
  split
  · rename_i hm
    exact (foldl_ind (P := fun cs => Sound rs cs ∧ (a, m) ∈ cs) (fun _ _ z => warL_sound z) _ _ ⟨h, hm⟩).1
  · exact h
theorem war_sound {rs cs : List Pr} {R : List Int} (h : Sound rs cs) : Sound rs (war R cs) := foldl_ind (P := Sound rs) (fun _ _ z => foldl_ind (P := Sound rs) (fun _ _ z => warF_sound z) _ _ z) _ _ h
/-- the rules, each once -/
def once (rs : List Pr) : List Pr := rs.foldl addP []
theorem once_mem {rs : List Pr} {c : Pr} : c ∈ once rs ↔ c ∈ rs := by
  have key : ∀ (l cs : List Pr), c ∈ l.foldl addP cs ↔ c ∈ cs ∨ c ∈ l := by
    intro l
    induction l with
    | nil => intro cs; simp
    | cons d l ih =>
      intro cs
      rw [List.foldl_cons, ih]
      constructor
      · rintro (h | h)
        · rcases addP_mem h with rfl | h
          · exact .inr List.mem_cons_self
          · exact .inl h
        · exact .inr (List.mem_cons_of_mem _ h)
      · rintro (h | h)
        · exact .inl (addP_sub h)
        · rcases List.mem_cons.mp h with rfl | h
          · exact .inl (addP_self _ _)
          · exact .inr h
  rw [once, key]; simp
/-- what is led: the paths -/
theorem war_iff {rs : List Pr} {R : List Int} (hR : ∀ c ∈ rs, c.1 ∈ R ∧ c.2 ∈ R) (c : Pr) : c ∈ war R (once rs) ↔ Path rs c.1 c.2 := by
  constructor
  · exact fun h => war_sound (rs := rs) (fun d hd => .one (once_mem.mp hd)) c h
  · intro h
    refine war_full hR R (once rs) (fun _ => False) (fun a b hv => ?_) c.1 c.2 ?_
    · cases hv with
      | one z => exact once_mem.mpr z
      | cons _ z _ => cases z
    · generalize c.1 = a at h
      generalize c.2 = b at h
      clear c
      induction h with
      | one h => exact .one h
      | cons h k ih => exact .cons h (.inl (hR _ h).2) ih
/-- each once, its ends among the roles -/
theorem war_nodup {R : List Int} {cs : List Pr} (h : cs.Nodup) : (war R cs).Nodup := by
  refine foldl_ind (P := List.Nodup) (fun _ _ z => foldl_ind (P := List.Nodup) (fun x a z => ?_) _ _ z) _ _ h
  unfold warF
  split
  · refine foldl_ind (P := List.Nodup) (fun x l z => ?_) _ _ z
    unfold warL
    split
    · exact addP_nodup z
    · exact z
  · exact z
theorem once_nodup (rs : List Pr) : (once rs).Nodup := foldl_ind (P := List.Nodup) (fun _ _ z => addP_nodup z) _ _ List.nodup_nil
def In5 (cs : List Pr) : Prop := ∀ c ∈ cs, (0 ≤ c.1 ∧ c.1 ≤ 5) ∧ (0 ≤ c.2 ∧ c.2 ≤ 5)
theorem addP_in5 {cs : List Pr} {c : Pr} (h : In5 cs) (hc : (0 ≤ c.1 ∧ c.1 ≤ 5) ∧ (0 ≤ c.2 ∧ c.2 ≤ 5)) : In5 (addP cs c) := fun d hd => by
  rcases addP_mem hd with rfl | hd
  · exact hc
  · exact h d hd
theorem once_in5 {rs : List Pr} (h : In5 rs) : In5 (once rs) := fun c hc => h c (once_mem.mp hc)
theorem warL_in5 {cs : List Pr} {m a l : Int} (h : In5 cs) (ha : 0 ≤ a ∧ a ≤ 5) : In5 (warL m a cs l) := by
  unfold warL
  split
  · rename_i hl
    exact addP_in5 h ⟨ha, (h _ hl).2⟩
  · exact h
theorem warF_in5 {ls : List Int} {cs : List Pr} {m a : Int} (h : In5 cs) : In5 (warF ls m cs a) := by
  unfold warF
  split
  · rename_i hm
    exact foldl_ind (P := In5) (fun _ _ z => warL_in5 z (h _ hm).1) _ _ h
  · exact h
theorem war_in5 {R : List Int} {cs : List Pr} (h : In5 cs) : In5 (war R cs) := foldl_ind (P := In5) (fun _ _ z => foldl_ind (P := In5) (fun _ _ z => warF_in5 z) _ _ z) _ _ h
theorem nodup_len {α : Type} [DecidableEq α] : ∀ (l m : List α), l.Nodup → (∀ x ∈ l, x ∈ m) → l.length ≤ m.length
  | [], _, _, _ => Nat.zero_le _
  | x :: l, m, h, hs => by
    obtain ⟨h1, h2⟩ := List.nodup_cons.mp h
    have hx := hs x List.mem_cons_self
    have := nodup_len l (m.erase x) h2 fun y hy => (List.mem_erase_of_ne (fun z => h1 (by rw [← z]; exact hy))).mpr (hs y (List.mem_cons_of_mem _ hy))
    rw [List.length_erase_of_mem hx] at this
    have := List.length_pos_of_mem hx
    rw [List.length_cons]; omega
def all36 : List Pr := (List.range 36).map fun k => (((k / 6 : Nat) : Int), ((k % 6 : Nat) : Int))
theorem len36 {cs : List Pr} (h : cs.Nodup) (h5 : In5 cs) : cs.length ≤ 36 := by
  have := nodup_len cs all36 h fun c hc => by
    obtain ⟨⟨a1, a2⟩, b1, b2⟩ := h5 c hc
    refine List.mem_map.mpr ⟨c.1.toNat * 6 + c.2.toNat, List.mem_range.mpr (by omega), ?_⟩
    have e1 : (c.1.toNat * 6 + c.2.toNat) / 6 = c.1.toNat := by omega
    have e2 : (c.1.toNat * 6 + c.2.toNat) % 6 = c.2.toNat := by omega
    rw [e1, e2, Int.toNat_of_nonneg a1, Int.toNat_of_nonneg b1]
  have e : all36.length = 36 := rfl
  omega
end LM

set_option Elab.async false
set_option linter.all false
set_option maxRecDepth 100000
set_option maxHeartbeats 4000000
namespace LO
open PySem PySem.Spec PyProof.Rows L2 LG LW Evl
theorem u0 {k : Nat} {A : Around} (r : Room k A) : A.units < cLine := by have := r.un; omega
theorem u64 {k : Nat} {A : Around} (r : Room k A) : A.units + 64 < cLine := by have := r.un; omega
end LO
namespace LW
open PySem L2 PySem.Spec PyProof.Rows LG Evl LO LM
/-! ### one of two readings -/
def iOr (w1 w2 : TI) : TI := fun σ H R => w1 σ H R ∨ w2 σ H R
theorem pi_or {X : Cx} {tg e : Expr} {w1 w2 : TI} (h1 : PI X tg e w1) (h2 : PI X tg e w2) : PI X tg e (iOr w1 w2) := ⟨fun pins s σ H R I h => h.elim (h1.run pins s σ H R I) (h2.run pins s σ H R I)⟩
def tOrE (t1 t2 : TE) : TE := fun σ H Q => t1 σ H Q ∨ t2 σ H Q
theorem pe_or2 {X : Cx} {e : Expr} {t1 t2 : TE} (h1 : PE X e t1) (h2 : PE X e t2) : PE X e (tOrE t1 t2) := ⟨fun pins s σ H Q I h => h.elim (h1.run pins s σ H Q I) (h2.run pins s σ H Q I)⟩
/-- a list or a tuple of one's own -/
def SqA (H : Hp) (a : Addr) (xs : List V) : Prop := H a = some (.lst xs) ∨ H a = some (.tup xs)
theorem SqA.ex {H H' : Hp} {a : Addr} {xs : List V} (e : Ex H H') (h : SqA H a xs) : SqA H' a xs := h.elim (fun h => .inl (e _ _ h)) fun h => .inr (e _ _ h)
section
variable {K : PySem.W.Frag} {σ : L2.St} {H H' : Hp} {ta tb tl td tk te tv : TE} {t u : TT} {x y z v : V} {D : Ends} {tu tw tz : TS} {g : TG} {a : Addr} {xs : List V}
/-- what an iterator over xs does -/
structure SeqIt (J : It) (a : Addr) (xs : List V) : Prop where
  go : ∀ i H x, SqA H a xs → xs[i]? = some x → J.go i H
  yld : ∀ i H x H', SqA H a xs → J.yld i H x H' → H' = H ∧ xs[i]? = some x
  stop : ∀ i H, SqA H a xs → xs.length ≤ i → J.stop i H
theorem is_seq {R : It → Hp → Prop} (h : Ev tl σ H (.ref a)) (hx : SqA H a xs) (k : ∀ J H1, Ex H H1 → (∀ H', Ex H H' ∨ (H' a = H a) → (∀ i x, xs[i]? = some x → J.go i H') ∧ (∀ i x H2, J.yld i H' x H2 → H2 = H' ∧ xs[i]? = some x) ∧ ∀ i, xs.length ≤ i → J.stop i H') → R J H1) : iOr (iList K tl) (iTup K tl) σ H R := by
  rcases hx with hx | hx
  · refine .inl (h H (Ex.refl H) _ fun H1 e => ⟨a, rfl, ⟨xs, sq_of (e _ _ hx)⟩, k (Itl K a) H1 e fun H' e' => ?_⟩)
    have hx' : H' a = some (.lst xs) := e'.elim (fun e' => e' _ _ hx) fun e' => e'.trans hx
    exact ⟨fun i x hi => ⟨xs, x, sq_of hx', hi⟩, fun i x H2 y => ⟨y.1, y.2 xs (sq_of hx')⟩, fun i hi => ⟨xs, sq_of hx', hi⟩⟩
  · refine .inr (h H (Ex.refl H) _ fun H1 e => ⟨a, rfl, ⟨xs, st_of (e _ _ hx)⟩, k (Itt K a) H1 e fun H' e' => ?_⟩)
    have hx' : H' a = some (.tup xs) := e'.elim (fun e' => e' _ _ hx) fun e' => e'.trans hx
    exact ⟨fun i x hi => ⟨xs, x, st_of hx', hi⟩, fun i x H2 y => ⟨y.1, y.2 xs (st_of hx')⟩, fun i hi => ⟨xs, st_of hx', hi⟩⟩
/-- for .. in a list or a tuple -/
theorem s_forA (h : Ev tl σ H (.ref a)) (hx : SqA H a xs) (Pv : Nat → L2.St → Hp → Prop) (h0 : ∀ H1, Ex H H1 → Pv 0 σ H1) (hl : ∀ i σ' H', i ≤ xs.length → Pv i σ' H' → Ex H H' ∨ H' a = H a)
    (hs : ∀ i x σ' H', xs[i]? = some x → Pv i σ' H' → g x σ' H' fun σ2 H2 => tu { D with nx := Pv (i + 1), ct := Pv (i + 1), bk := D.nx } σ2 H2) (hd : ∀ σ' H', Pv xs.length σ' H' → D.nx σ' H') : tFor (iOr (iList K tl) (iTup K tl)) g tu D σ H :=
  is_seq h hx fun J H1 e hJ => ⟨fun i m σ H => m = xs.length - i ∧ i ≤ xs.length ∧ Pv i σ H, ⟨xs.length, by simp, Nat.zero_le _, h0 H1 e⟩, fun i m σ H hw => by
    obtain ⟨rfl, hi, p⟩ := hw
    obtain ⟨j1, j2, j3⟩ := hJ H (hl i σ H hi p)
    by_cases hlt : i < xs.length
    · refine .inr ⟨j1 i xs[i] (List.getElem?_eq_getElem hlt), Pv (i + 1), fun σ' H' p' => ⟨xs.length - (i + 1), by omega, rfl, hlt, p'⟩, fun x H' y => ?_⟩
      obtain ⟨rfl, hx⟩ := j2 i x H' y
      exact hs i x σ _ hx p
    · have e : i = xs.length := by omega
      subst e
      exact .inl ⟨j3 _ (Nat.le_refl _), hd σ H p⟩⟩
theorem q_forA (h : Ev tl σ H (.ref a)) (hx : SqA H a xs) (Pv : Nat → L2.St → Hp → Prop) (h0 : ∀ H1, Ex H H1 → Pv 0 σ H1) (hl : ∀ i σ' H', i ≤ xs.length → Pv i σ' H' → Ex H H' ∨ H' a = H a)
    (hs : ∀ i x σ' H', xs[i]? = some x → Pv i σ' H' → g x σ' H' fun σ2 H2 => tu { D with nx := Pv (i + 1), ct := Pv (i + 1), bk := tz D } σ2 H2) (hd : ∀ σ' H', Pv xs.length σ' H' → tz D σ' H') : tSeq (tFor (iOr (iList K tl) (iTup K tl)) g tu) tz D σ H :=
  s_forA (D := { D with nx := tz D }) h hx Pv h0 hl hs hd

/-! ### pairs -/
def PrAt (H : Hp) (p : Addr) (c : Pr) : Prop := H p = some (.tup [.int c.1, .int c.2])
/-- a list or a tuple of pairs -/
def PSeq (H : Hp) (a : Addr) (cs : List Pr) : Prop := ∃ ps : List Addr, SqA H a (ps.map V.ref) ∧ Paired (PrAt H) ps cs
/-- a tuple of pairs -/
def PTp (H : Hp) (a : Addr) (cs : List Pr) : Prop := ∃ ps : List Addr, H a = some (.tup (ps.map V.ref)) ∧ Paired (PrAt H) ps cs
theorem PTp.ex {a : Addr} {cs : List Pr} (e : Ex H H') (h : PTp H a cs) : PTp H' a cs := by
  obtain ⟨ps, h1, h2⟩ := h
  exact ⟨ps, e _ _ h1, Paired.mapP h2 fun _ _ z => e _ _ z⟩
theorem PSeq.ex {a : Addr} {cs : List Pr} (e : Ex H H') (h : PSeq H a cs) : PSeq H' a cs := by
  obtain ⟨ps, h1, h2⟩ := h
  exact ⟨ps, h1.ex e, Paired.mapP h2 fun _ _ z => e _ _ z⟩
theorem PTp.seq {a : Addr} {cs : List Pr} (h : PTp H a cs) : PSeq H a cs := by
  obtain ⟨ps, h1, h2⟩ := h
  exact ⟨ps, .inr h1, h2⟩
theorem PTp.pt {a : Addr} {cs : List Pr} (h : PTp H a cs) : PTup K H a cs := by
  obtain ⟨ps, h1, h2⟩ := h
  exact ⟨ps, st_of h1, Paired.mapP h2 fun _ _ z => st_of z⟩
/-- the store of a pair in two names -/
theorem g_pair {i j : Nat} {p : Addr} {c : Pr} {Q : L2.St → Hp → Prop} (h : H p = some (.tup [.int c.1, .int c.2])) (k : Q ((σ.set i (some (.int c.1))).set j (some (.int c.2))) H) : gTup K 2 (gCons (gName i) (gCons (gName j) gNil)) (.ref p) σ H Q :=
  ⟨p, _, rfl, st_of h, rfl, _, _, rfl, _, _, rfl, rfl, k⟩

/-! ### a dict of pairs -/
def kPr (c : Pr) : List Key := [.inl c.1, .inl c.2]
def dP (cs : List Pr) : List (List Key × V) := cs.map fun c => (kPr c, .bl true)
theorem kPr_inj {c d : Pr} (h : kPr c = kPr d) : c = d := by
  unfold kPr at h
  injection h with h1 h2
  injection h2 with h2 _
  injection h1 with h1
  injection h2 with h2
  exact Prod.ext h1 h2
theorem any_dP (cs : List Pr) (c : Pr) : ((dP cs).any fun kv => decide (kv.1 = kPr c)) = decide (c ∈ cs) := by
  induction cs with
  | nil => rfl
  | cons d cs ih =>
    show (decide (kPr d = kPr c) || (dP cs).any _) = _
    rw [ih]
    by_cases h : d = c
    · subst h; simp
    · have h1 : ¬ kPr d = kPr c := fun z => h (kPr_inj z)
      have h2 : ¬ c = d := fun z => h z.symm
      simp [h1, h2]
theorem val_dP (cs : List Pr) (c : Pr) : (valV (dP cs) (kPr c)).isSome = decide (c ∈ cs) := by rw [← valV_any, any_dP]
theorem put_dP (cs : List Pr) (c : Pr) : putK (dP cs) (kPr c) (.bl true) = dP (addP cs c) := by
  unfold putK addP
  rw [any_dP]
  by_cases h : c ∈ cs
  · rw [if_pos (decide_eq_true h), if_pos h]
    unfold dP
    rw [List.map_map]
    refine List.map_congr_left fun d _ => ?_
    show (if kPr d = kPr c then (kPr d, V.bl true) else (kPr d, V.bl true)) = _
    rw [ite_self]
  · rw [if_neg (by rw [decide_eq_false h]; exact Bool.false_ne_true), if_neg h]
    unfold dP
    rw [List.map_append]; rfl
theorem et_din {l : Addr} {c : Pr} {cs : List Pr} (hk : EvU tk σ H [.int c.1, .int c.2]) (hd : ∀ H1, Ex H H1 → Ev td σ H1 (.ref l)) (hl : H l = some (.dT (dP cs))) : EvT (tB (tDIn tk td)) σ H (decide (c ∈ cs)) := fun H1 e Q q =>
  hk H1 e _ fun p H2 np e2 hp => hd H2 (e.trans e2) H2 (Ex.refl H2) _ fun H3 e3 => ⟨l, _, rfl, DGet.t (k := kPr c) ((e.trans (e2.trans e3)) _ _ hl) (e3 _ _ hp), ⟨_, rfl, by rw [val_dP]; exact q H3 (e2.trans e3)⟩⟩
theorem s_dput {l : Addr} {c : Pr} {cs : List Pr} (hv : Ev tv σ H (.bl true)) (hd : ∀ H1, Ex H H1 → Ev td σ H1 (.ref l)) (hk : ∀ H1, Ex H H1 → EvU tk σ H1 [.int c.1, .int c.2]) (hl : H l = some (.dT (dP cs))) (hz : cs.length < 100000)
    (k : ∀ H1, Ex H H1 → D.nx σ (upd H1 l (.dT (dP (addP cs c))))) : sDPut td tk tv D σ H :=
  hv H (Ex.refl H) _ fun H1 e1 => hd H1 e1 H1 (Ex.refl H1) _ fun H2 e2 => hk H2 (e1.trans e2) H2 (Ex.refl H2) _ fun p H3 np e3 hp => ⟨l, _, rfl, DPut.t (k := kPr c) (((e1.trans e2).trans e3) _ _ hl) hp (by unfold dP; rw [List.length_map]; exact sz_lt hz), by
    rw [put_dP]; exact k H3 ((e1.trans e2).trans e3)⟩
end
end LW

set_option Elab.async false
set_option linter.all false
set_option maxRecDepth 100000
set_option maxHeartbeats 4000000
namespace LM
def addI (l : List Int) (k : Int) : List Int := if k ∈ l then l else l ++ [k]
def uniq (l : List Int) : List Int := l.foldl addI []
theorem addI_mem {l : List Int} {k x : Int} : x ∈ addI l k ↔ x ∈ l ∨ x = k := by
  unfold addI
  split
  · rename_i h
    exact ⟨.inl, fun z => z.elim id fun z => by rw [z]; exact h⟩
  · simp
theorem addI_nodup {l : List Int} {k : Int} (h : l.Nodup) : (addI l k).Nodup := by
  unfold addI
  split
  · exact h
  · rename_i hn
    exact List.nodup_append.mpr ⟨h, by simp, fun x hx y hy z => hn (by rw [← List.mem_singleton.mp hy, ← z]; exact hx)⟩
theorem foldI_mem : ∀ (m l : List Int) {x : Int}, x ∈ m.foldl addI l ↔ x ∈ l ∨ x ∈ m
  | [], l, x => by simp
  | k :: m, l, x => by
    rw [List.foldl_cons, foldI_mem m]
    constructor
    · rintro (h | h)
      · rcases addI_mem.mp h with h | rfl
        · exact .inl h
        · exact .inr List.mem_cons_self
      · exact .inr (List.mem_cons_of_mem _ h)
    · rintro (h | h)
      · exact .inl (addI_mem.mpr (.inl h))
      · rcases List.mem_cons.mp h with rfl | h
        · exact .inl (addI_mem.mpr (.inr rfl))
        · exact .inr h
theorem uniq_mem {l : List Int} {x : Int} : x ∈ uniq l ↔ x ∈ l := by rw [uniq, foldI_mem]; simp
theorem uniq_nodup (l : List Int) : (uniq l).Nodup := foldl_ind (P := List.Nodup) (fun _ _ z => addI_nodup z) _ _ List.nodup_nil
def all6 : List Int := [0, 1, 2, 3, 4, 5]
theorem len6 {l : List Int} (h : l.Nodup) (h5 : ∀ x ∈ l, 0 ≤ x ∧ x ≤ 5) : l.length ≤ 6 := nodup_len l all6 h fun x hx => by
  obtain ⟨a, b⟩ := h5 x hx
  have : x = 0 ∨ x = 1 ∨ x = 2 ∨ x = 3 ∨ x = 4 ∨ x = 5 := by omega
  unfold all6
  simp only [List.mem_cons, List.not_mem_nil, or_false]
  exact this
end LM
namespace LW
open PySem L2 PySem.Spec PyProof.Rows LG Evl LO LM LC
section
variable {K : PySem.W.Frag} {w : World} {σ : L2.St} {H H' : Hp} {ta tb tl td tk te tv : TE} {wi wi1 : TI} {x y z v : V} {D : Ends} {tz : TS} {a : Addr} {xs : List V}
def IsIt (J : It) (xs : List V) (H : Hp) : Prop := (∀ i x, xs[i]? = some x → J.go i H) ∧ (∀ i x H3, J.yld i H x H3 → H3 = H ∧ xs[i]? = some x) ∧ ∀ i, xs.length ≤ i → J.stop i H
/-- lists and tuples kept -/
def ExQ (H H' : Hp) : Prop := (∀ b xs, H b = some (.tup xs) → H' b = some (.tup xs)) ∧ ∀ b xs, H b = some (.lst xs) → H' b = some (.lst xs)
theorem ExQ.of {H H' : Hp} (e : Ex H H') : ExQ H H' := ⟨fun b xs h => e b _ h, fun b xs h => e b _ h⟩
theorem ExQ.trans {H H1 H2 : Hp} (a : ExQ H H1) (b : ExQ H1 H2) : ExQ H H2 := ⟨fun c xs h => b.1 c xs (a.1 c xs h), fun c xs h => b.2 c xs (a.2 c xs h)⟩
theorem ExQ.del {H : Hp} {x : Addr} {o : HO} (h : H x = some o) (h1 : ∀ xs, o ≠ .tup xs) (h2 : ∀ xs, o ≠ .lst xs) : ExQ H (del H x) :=
  ⟨fun b xs z => by rw [del_ne (fun y => by rw [y, h] at z; exact h1 xs (Option.some.inj z))]; exact z, fun b xs z => by rw [del_ne (fun y => by rw [y, h] at z; exact h2 xs (Option.some.inj z))]; exact z⟩
/-- an iteration over the values xs -/
def ItV (wi : TI) (σ : L2.St) (H : Hp) (xs : List V) : Prop := ∀ H1, Ex H H1 → ∀ R : It → Hp → Prop, (∀ J H2, Ex H1 H2 → (∀ H', ExQ H2 H' → IsIt J xs H') → R J H2) → wi σ H1 R
theorem isT {H : Hp} (h : SqT K H a xs) : IsIt (Itt K a) xs H := ⟨fun i x hi => ⟨xs, x, h, hi⟩, fun i x H2 y => ⟨y.1, y.2 xs h⟩, fun i hi => ⟨xs, h, hi⟩⟩
theorem isL {H : Hp} (h : SqL K H a xs) : IsIt (Itl K a) xs H := ⟨fun i x hi => ⟨xs, x, h, hi⟩, fun i x H2 y => ⟨y.1, y.2 xs h⟩, fun i hi => ⟨xs, h, hi⟩⟩
theorem it_tup (h : Ev tl σ H (.ref a)) (hx : H a = some (.tup xs)) : ItV (iTup K tl) σ H xs := fun H1 e R k => h H1 e _ fun H2 e2 => ⟨a, rfl, ⟨xs, st_of ((e.trans e2) _ _ hx)⟩, k _ H2 e2 fun H' e' => isT (st_of (e'.1 _ _ ((e.trans e2) _ _ hx)))⟩
theorem it_list (h : Ev tl σ H (.ref a)) (hx : H a = some (.lst xs)) : ItV (iList K tl) σ H xs := fun H1 e R k => h H1 e _ fun H2 e2 => ⟨a, rfl, ⟨xs, sq_of ((e.trans e2) _ _ hx)⟩, k _ H2 e2 fun H' e' => isL (sq_of (e'.2 _ _ ((e.trans e2) _ _ hx)))⟩
theorem it_tupU (h : EvU tl σ H xs) : ItV (iTup K tl) σ H xs := fun H1 e R k => h H1 e _ fun p H2 _ e2 hp => ⟨p, rfl, ⟨xs, st_of hp⟩, k _ H2 e2 fun H' e' => isT (st_of (e'.1 _ _ hp))⟩
theorem it_seq (h : Ev tl σ H (.ref a)) (hx : SqA H a xs) : ItV (iOr (iList K tl) (iTup K tl)) σ H xs := fun H1 e R k => by
  rcases hx with hx | hx
  · exact .inl (it_list h hx H1 e R k)
  · exact .inr (it_tup h hx H1 e R k)
/-- {(x, y): True for x, y in rules} -/
theorem q_dcP {i j j2 : Nat} {vs : List Nat} {cs : List Pr} {ps : List Addr} (ho : ItV wi σ H (ps.map V.ref)) (hp : Paired (PrAt H) ps cs) (hz : cs.length ≤ 1000)
    (hw : ∀ x y, wipe (((wipe σ vs).set j (some x)).set j2 (some y)) vs = wipe σ vs) (h1 : ∀ x y, (((wipe σ vs).set j (some x)).set j2 (some y))[j]? = some (some x)) (h2 : ∀ x y, (((wipe σ vs).set j (some x)).set j2 (some y))[j2]? = some (some y))
    (k : ∀ l H1, H l = none → Ex H H1 → H1 l = some (.dT (dP (once cs))) → tz D (σ.set i (some (.ref l))) H1) :
    tSeq (tAsg (tDcT wi (gTup K 2 (gCons (gName j) (gCons (gName j2) gNil))) (tTup (tCons (tVar j) (tCons (tVar j2) tNil))) (tC (.bl true)) vs) (gName i)) tz D σ H := by
  have hlen : ps.length = cs.length := hp.length
  refine ho H (Ex.refl H) _ fun J H2 e2 hJ L hL => ?_
  refine ⟨fun n m H' => m = ps.length - n ∧ n ≤ ps.length ∧ Ex H2 H' ∧ H' L = some (.dT (dP (once (cs.take n)))), ⟨ps.length, by simp, Nat.zero_le _, Ex.new hL, upd_same⟩, fun n m H' hW => ?_⟩
  obtain ⟨rfl, hn, e3, hl⟩ := hW
  obtain ⟨g1, g2, g3⟩ := hJ H' (.of e3)
  by_cases hlt : n < ps.length
  · refine .inr ⟨g1 n _ (List.getElem?_eq_getElem (by rw [List.length_map]; exact hlt)), fun H'' => Ex H2 H'' ∧ H'' L = some (.dT (dP (once (cs.take (n + 1))))), fun H'' h => ⟨_, by omega, rfl, hlt, h.1, h.2⟩, fun x H3 hy => ?_⟩
    obtain ⟨rfl, hx⟩ := g2 n x H3 hy
    rw [List.getElem?_map, List.getElem?_eq_getElem hlt] at hx
    cases hx
    obtain ⟨c, hc, hpc⟩ := paired_at hp (List.getElem?_eq_getElem hlt)
    refine g_pair ((e2.trans e3) _ _ hpc) ⟨hw _ _, ?_⟩
    refine eu_tup (ea_cons (ev_var (h1 _ _)) (ea_cons (ev_var (h2 _ _)) ea_nil)) (show 2 ≤ 100000 by decide) H3 (Ex.refl H3) _ fun p H4 np e4 hp4 => ?_
    refine ⟨dP (once (cs.take n)), kPr c, p, rfl, e4 _ _ hl, hp4, ?_, Ex.mut (e3.trans e4) hL, ?_⟩
    · have : (once (cs.take n)).length ≤ (cs.take n).length := by
        have key : ∀ (l ds : List Pr), (l.foldl addP ds).length ≤ ds.length + l.length := by
          intro l
          induction l with
          | nil => intro ds; exact Nat.le_refl _
          | cons d l ih =>
            intro ds
            rw [List.foldl_cons]
            have := ih (addP ds d)
            have h2 : (addP ds d).length ≤ ds.length + 1 := by unfold addP; split <;> simp
            rw [List.length_cons]; omega
        have := key (cs.take n) []
        show ((cs.take n).foldl addP []).length ≤ _
        simpa using this
      refine sz_lt ?_
      unfold dP
      rw [List.length_map]
      have := List.length_take_le n cs
      have := List.length_take_le' n cs
      omega
    · rw [put_dP]
      have : addP (once (cs.take n)) c = once (cs.take (n + 1)) := by
        unfold once
        rw [List.take_succ, hc, List.foldl_append]; rfl
      rw [this]; exact upd_same
  · have en : n = ps.length := by omega
    subst en
    refine .inl ⟨g3 _ (by rw [List.length_map]; exact Nat.le_refl _), ?_⟩
    rw [hlen, List.take_length] at hl
    exact k L H' (fresh_back e2 hL) (e2.trans e3) hl
/-- a set made -/
def EvS (w : World) (te : TE) (σ : L2.St) (H : Hp) (L : List Int) : Prop := ∀ H1, Ex H H1 → ∀ Q : VK, (∀ p H2, H1 p = none → Ex H1 H2 → H2 p = some (SetO w p (fun k => decide (k ∈ L)) L.length) → Q (.ref p) H2) → te σ H1 Q
theorem set_step {L : List Int} {k : Int} : (fun j => decide (j ∈ L) || decide (j = k)) = (fun j => decide (j ∈ addI L k)) ∧ (if decide (k ∈ L) = true then L.length else L.length + 1) = (addI L k).length := by
  constructor
  · funext j
    have : (j ∈ addI L k) ↔ (j ∈ L ∨ j = k) := addI_mem
    exact Bool.eq_iff_iff.mpr (by rw [Bool.or_eq_true, decide_eq_true_iff, decide_eq_true_iff, decide_eq_true_iff]; exact this.symm)
  · unfold addI
    by_cases h : k ∈ L <;> simp [h]
/-- {k for x in .. for k in ..} -/
theorem es_sc2 {α : Type} {as : List α} {F : α → V} {I : α → List Int} {j j1 : Nat} {vs vs1 : List Nat} (ho : ItV wi σ H (as.map F)) (hi : ∀ a ∈ as, ∀ H1, Ex H H1 → ItV wi1 ((wipe σ vs).set j (some (F a))) H1 ((I a).map V.int))
    (h5 : ∀ a ∈ as, ∀ x ∈ I a, 0 ≤ x ∧ x ≤ 5) (hw : ∀ x, wipe ((wipe σ vs).set j (some x)) vs = wipe σ vs) (hw1 : ∀ x y, wipe ((wipe ((wipe σ vs).set j (some x)) vs1).set j1 (some y)) vs1 = wipe ((wipe σ vs).set j (some x)) vs1)
    (hv : ∀ x y, ((wipe ((wipe σ vs).set j (some x)) vs1).set j1 (some y))[j1]? = some (some y)) : EvS w (tSc2 w wi (gName j) wi1 (gName j1) (tVar j1) vs vs1) σ H (uniq (as.flatMap I)) := fun H1 e Q q => by
  refine ho H1 e _ fun J H2 e2 hJ L hL => ?_
  have all5 : ∀ (n : Nat) (m : List Int), (∀ x ∈ m, 0 ≤ x ∧ x ≤ 5) → ∀ x ∈ uniq ((as.take n).flatMap I ++ m), 0 ≤ x ∧ x ≤ 5 := fun n m hm x hx => by
    rw [uniq_mem] at hx
    rcases List.mem_append.mp hx with hx | hx
    · obtain ⟨a, ha, hx⟩ := List.mem_flatMap.mp hx
      exact h5 a (List.mem_of_mem_take ha) x hx
    · exact hm x hx
  refine ⟨fun n m H' => m = as.length - n ∧ n ≤ as.length ∧ Ex H2 H' ∧ H' L = some (SetO w L (fun k => decide (k ∈ uniq ((as.take n).flatMap I))) (uniq ((as.take n).flatMap I)).length), ⟨as.length, by simp, Nat.zero_le _, Ex.new hL, by
    rw [upd_same]
    have : (fun k => decide (k ∈ uniq ((as.take 0).flatMap I))) = fun _ => false := by funext k; rw [List.take_zero]; rfl
    rw [this]; rfl⟩, fun n m H' hW => ?_⟩
  obtain ⟨rfl, hn, e3, hl⟩ := hW
  obtain ⟨g1, g2, g3⟩ := hJ H' (.of e3)
  by_cases hlt : n < as.length
  · refine .inr ⟨g1 n _ (List.getElem?_eq_getElem (by rw [List.length_map]; exact hlt)), fun H'' => Ex H2 H'' ∧ H'' L = some (SetO w L (fun k => decide (k ∈ uniq ((as.take (n + 1)).flatMap I))) (uniq ((as.take (n + 1)).flatMap I)).length), fun H'' h => ⟨_, by omega, rfl, hlt, h.1, h.2⟩, fun x H3 hy => ?_⟩
    obtain ⟨rfl, hx⟩ := g2 n x H3 hy
    rw [List.getElem?_map, List.getElem?_eq_getElem hlt] at hx
    cases hx
    have hmem : as[n] ∈ as := List.getElem_mem hlt
    refine ⟨hw _, ?_⟩
    have hstep : (as.take (n + 1)).flatMap I = (as.take n).flatMap I ++ I as[n] := by
      rw [List.take_succ, List.getElem?_eq_getElem hlt, List.flatMap_append]; simp
    refine hi _ hmem H3 ((e.trans e2).trans e3) H3 (Ex.refl H3) _ fun J1 H4 e4 hJ1 => ?_
    refine ⟨fun r m H' => m = (I as[n]).length - r ∧ r ≤ (I as[n]).length ∧ Ex H2 H' ∧ Ex (del H4 L) H' ∧ H' L = some (SetO w L (fun k => decide (k ∈ uniq ((as.take n).flatMap I ++ (I as[n]).take r))) (uniq ((as.take n).flatMap I ++ (I as[n]).take r)).length),
      ⟨(I as[n]).length, by simp, Nat.zero_le _, e3.trans e4, del_ex (Ex.refl H4), by rw [List.take_zero, List.append_nil]; exact e4 _ _ hl⟩, fun r m H' hW => ?_⟩
    obtain ⟨rfl, hr, e5, e6, hl5⟩ := hW
    obtain ⟨k1, k2, k3⟩ := hJ1 H' ((ExQ.del (e4 _ _ hl) (fun _ z => by cases z) (fun _ z => by cases z)).trans (.of e6))
    by_cases hlr : r < (I as[n]).length
    · refine .inr ⟨k1 r _ (List.getElem?_eq_getElem (by rw [List.length_map]; exact hlr)), fun H'' => Ex H2 H'' ∧ Ex (del H4 L) H'' ∧ H'' L = some (SetO w L (fun k => decide (k ∈ uniq ((as.take n).flatMap I ++ (I as[n]).take (r + 1)))) (uniq ((as.take n).flatMap I ++ (I as[n]).take (r + 1))).length), fun H'' h => ⟨_, by omega, rfl, hlr, h.1, h.2.1, h.2.2⟩, fun y H6 hy6 => ?_⟩
      obtain ⟨rfl, hx6⟩ := k2 r y H6 hy6
      rw [List.getElem?_map, List.getElem?_eq_getElem hlr] at hx6
      cases hx6
      refine ⟨hw1 _ _, ⟨_, hv _ _, ?_⟩⟩
      have hl6 : (uniq ((as.take n).flatMap I ++ (I as[n]).take r)).length ≤ 6 := len6 (uniq_nodup _) (all5 n _ fun x hx => h5 _ hmem x (List.mem_of_mem_take hx))
      refine ⟨(I as[n])[r], _, _, rfl, hl5, Nat.lt_of_le_of_lt (Nat.succ_le_succ hl6) (by decide), Ex.mut e5 hL, del_upd e6, ?_⟩
      have hst : uniq ((as.take n).flatMap I ++ (I as[n]).take (r + 1)) = addI (uniq ((as.take n).flatMap I ++ (I as[n]).take r)) (I as[n])[r] := by
        unfold uniq
        rw [List.take_succ, List.getElem?_eq_getElem hlr, ← List.append_assoc, List.foldl_append]; rfl
      rw [hst, upd_same, (set_step (L := uniq ((as.take n).flatMap I ++ (I as[n]).take r)) (k := (I as[n])[r])).1, (set_step (L := uniq ((as.take n).flatMap I ++ (I as[n]).take r)) (k := (I as[n])[r])).2]
    · have er : r = (I as[n]).length := by omega
      subst er
      refine .inl ⟨k3 _ (by rw [List.length_map]; exact Nat.le_refl _), e5, ?_⟩
      rw [hstep]
      rw [List.take_length] at hl5
      exact hl5
  · have en : n = as.length := by omega
    subst en
    refine .inl ⟨g3 _ (by rw [List.length_map]; exact Nat.le_refl _), ?_⟩
    rw [List.take_length] at hl
    exact q L H' (fresh_back e2 hL) (e2.trans e3) hl
end
end LW
namespace LW
open PySem L2 PySem.Spec PyProof.Rows
theorem sw_trueD {kx vx : Expr} {gs : List Comprehension} {scope : Scope} {pos py : Pos} {y : Str} {l : Nat} {env : Env} (hk : env.scope.kind = .function) (hy : env.scope.names.lookup y = some .local) (hl : (py.line == pos.line) = true)
    (ha : (scope.names.any fun (n, k) => n == y && (k == .local || k == .cell)) = false) : swapsWith (.DictComp kx vx gs scope pos) (some (.Name y py)) l env = pure true := by
  have ky : env.kindOf y = some .local := hy
  have hb : env.blockKind = .function := by unfold Env.blockKind; rw [hk]; rfl
  unfold swapsWith
  simp only [hb, ky, ha, Expr.pos, hl]
  rfl
end LW

set_option Elab.async false
set_option linter.all false
set_option maxRecDepth 100000
set_option maxHeartbeats 4000000
namespace LO
open PySem PySem.Spec PyProof.Rows L2 LG LW LC LM Evl
section
variable {P : Program} {w : World} {K : PySem.W.Frag} {mg : Str → Option Value} {base : Heap}

/-! ### closure_of -/
theorem el_sortedS {w : World} {ta : TE} {σ : L2.St} {H : Hp} {L : List Int} (h : EvS w ta σ H L) (hn : L.Nodup) (h64 : L.length < 64) : EvL (tCB (rSortedSet w) (tCons ta tNil)) σ H ((LM.srt L).map V.int) := fun H1 e Q k =>
  h H1 e _ fun p H2 n e2 hp => ⟨p, _, _, rfl, hp, h64, fun ns p' h1 h2 h3 h4 => by
    have hnd : ns.Nodup := List.Pairwise.imp (fun h => Int.ne_of_lt h) h1
    have hperm : ns.Perm L := (List.perm_ext_iff_of_nodup hnd hn).mpr fun x => by rw [h2 x]; exact decide_eq_true_iff
    have : ns = LM.srt L := LM.srt_eq hperm (List.Pairwise.imp (fun h => Int.le_of_lt h) h1)
    subst this
    exact k p' _ (fresh_back e2 h4) (e2.trans (Ex.new h4)) upd_same⟩
def Good (cs : List Pr) : Prop := cs.Nodup ∧ In5 cs
theorem Good.len {cs : List Pr} (h : Good cs) : cs.length ≤ 36 := len36 h.1 h.2
theorem Good.l {cs : List Pr} {m a l : Int} (h : Good cs) (ha : 0 ≤ a ∧ a ≤ 5) : Good (warL m a cs l) := ⟨by
  unfold warL
  split
  · exact addP_nodup h.1
  · exact h.1, warL_in5 h.2 ha⟩
theorem Good.ls {m a : Int} (ha : 0 ≤ a ∧ a ≤ 5) (ls : List Int) {cs : List Pr} (h : Good cs) : Good (ls.foldl (warL m a) cs) := foldl_ind (P := Good) (fun _ _ z => z.l ha) _ _ h
theorem Good.f {cs : List Pr} {ls : List Int} {m a : Int} (h : Good cs) : Good (warF ls m cs a) := by
  unfold warF
  split
  · rename_i hm
    exact Good.ls (h.2 _ hm).1 ls h
  · exact h
theorem Good.fs {m : Int} {ls : List Int} (fs : List Int) {cs : List Pr} (h : Good cs) : Good (fs.foldl (warF ls m) cs) := foldl_ind (P := Good) (fun _ _ z => z.f) _ _ h
theorem Good.ms {fs ls : List Int} (ms : List Int) {cs : List Pr} (h : Good cs) : Good (ms.foldl (warM fs ls) cs) := foldl_ind (P := Good) (fun _ _ z => z.fs fs) _ _ h
theorem foldl_take {α β : Type} {f : α → β → α} {l : List β} {i : Nat} {b : β} {x : α} (h : l[i]? = some b) : (l.take (i + 1)).foldl f x = f ((l.take i).foldl f x) b := by
  rw [List.take_succ, h, List.foldl_append]; rfl
def sp_closure_of : Sp := fun vs H Q _ => ∃ (a : Addr) (cs : List Pr), vs = [.ref a] ∧ PSeq H a cs ∧ In5 cs ∧ cs.length ≤ 100 ∧ ∀ p L H', Ex H H' → PTp H' p L → (∀ c, c ∈ L ↔ Path cs c.1 c.2) → L.length ≤ 36 → Q (.ref p) H'
theorem paired_of {α β γ : Type} {F : β → γ → Prop} (f : α → β) (g : α → γ) : ∀ (l : List α), (∀ x ∈ l, F (f x) (g x)) → Paired F (l.map f) (l.map g)
  | [], _ => .nil
  | x :: l, h => .cons (h x List.mem_cons_self) (paired_of f g l fun y hy => h y (List.mem_cons_of_mem _ hy))
def rowP : Addr × Pr → V := fun q => .ref q.1
def prOf (ns : List Int) : Pr := (ns[0]?.getD 0, ns[1]?.getD 0)
/-- the keys, sorted, in a tuple -/
theorem s_retLed {K : PySem.W.Frag} {σ : L2.St} {H : Hp} {D : Ends} {td : TE} {l : Addr} {cs : List Pr} (h : Ev td σ H (.ref l)) (hl : H l = some (.dT (dP cs))) (hg : Good cs) (k : ∀ p L H', Ex H H' → PTp H' p L → (∀ c, c ∈ L ↔ c ∈ cs) → L.length ≤ 36 → D.rt (.ref p) H') :
    tRet (tCB (rTupOf K) (tCons (tCB (rSortedDT 2 64) (tCons td tNil)) tNil)) D σ H := by
  refine h H (Ex.refl H) _ fun H1 e1 => ⟨l, dP cs, rfl, e1 _ _ hl, ?_, fun kv hkv => ?_, fun L p hp _ hL hnp => ?_⟩
  · have := hg.len
    unfold dP
    rw [List.length_map]; omega
  · obtain ⟨c, hc, rfl⟩ := List.mem_map.mp hkv
    obtain ⟨b1, b2⟩ := hg.2 c hc
    refine ⟨[c.1, c.2], rfl, rfl, fun x hx => ?_⟩
    rcases List.mem_cons.mp hx with rfl | hx
    · omega
    · rcases List.mem_cons.mp hx with rfl | hx
      · omega
      · cases hx
  · have e2 : Ex H1 (upd H1 p (.lst (L.map fun q => V.ref q.1))) := Ex.new hnp
    have hlen : L.length = cs.length := by
      have := hp.length_eq
      rw [List.length_map, List.length_map] at this
      rw [this]; unfold dP; rw [List.length_map]
    have hpair : ∀ q ∈ L, ∃ c ∈ cs, q.2 = [c.1, c.2] := fun q hq => by
      have hin : q.2.map Sum.inl ∈ (dP cs).map (·.1) := hp.mem_iff.mp (List.mem_map.mpr ⟨q, hq, rfl⟩)
      obtain ⟨kv, hkv, he⟩ := List.mem_map.mp hin
      obtain ⟨c, hc, rfl⟩ := List.mem_map.mp hkv
      refine ⟨c, hc, ?_⟩
      have he : [Sum.inl c.1, Sum.inl c.2] = q.2.map (Sum.inl (β := Str)) := he
      match hq2 : q.2, he with
      | [x, y], he =>
        injection he with h1 h2
        injection h2 with h2 _
        injection h1 with h1
        injection h2 with h2
        rw [h1, h2]
    refine ⟨p, _, rfl, .inl ⟨sq_of upd_same, fun r hr => ?_⟩⟩
    have e3 : Ex (upd H1 p (.lst (L.map fun q => V.ref q.1))) (upd (upd H1 p (.lst (L.map fun q => V.ref q.1))) r (.tup (L.map fun q => V.ref q.1))) := Ex.new hr
    refine k r (L.map fun q => prOf q.2) _ ((e1.trans e2).trans e3) ⟨L.map (·.1), by rw [List.map_map]; exact upd_same, paired_of _ _ L fun q hq => ?_⟩ (fun c => ?_) (by rw [List.length_map, hlen]; exact hg.len)
    · obtain ⟨c, hc, h2⟩ := hpair q hq
      have := (e2.trans e3) _ _ (hL q hq)
      rw [h2] at this
      show PrAt _ q.1 (prOf q.2)
      rw [h2]
      exact this
    · constructor
      · intro hc
        obtain ⟨q, hq, rfl⟩ := List.mem_map.mp hc
        obtain ⟨d, hd, h2⟩ := hpair q hq
        rw [h2]; exact hd
      · intro hc
        have : kPr c ∈ L.map fun q => q.2.map Sum.inl := hp.mem_iff.mpr (List.mem_map.mpr ⟨(kPr c, .bl true), List.mem_map.mpr ⟨c, hc, rfl⟩, rfl⟩)
        obtain ⟨q, hq, he⟩ := List.mem_map.mp this
        obtain ⟨d, hd, h2⟩ := hpair q hq
        refine List.mem_map.mpr ⟨q, hq, ?_⟩
        rw [h2] at he ⊢
        exact kPr_inj (c := (d.1, d.2)) he
abbrev n_closure_of : List Str := ["rules", "led", "roles", "middle", "first", "ahead", "behind", "rule", "role", "last"]
theorem sc_closure_of : FnScope n_closure_of ["rules"] (defScope s_closure_of) := ⟨rfl, rfl, rfl, by decide +kernel, rfl, by decide +kernel, by decide +kernel⟩
theorem fn_closure_of (M : Mods P K mg base) : Fn P w K mg base CX0 1 "closure_of" ["rules"] [] sp_closure_of := by
  have nd := sc_closure_of.nd
  refine Fn.mk0 M.F_closure_of M.g_closure_of sc_closure_of (fun vs H Q E h => ?_) (fun fd F => F.bindsN fun _ _ _ _ _ _ us hl => match us, hl with | [_], _ => rfl) fun cdv A outer s H vs Q E hr h => ⟨_,
    (pss_cons (ps_setDcT (i := 1) (own := [("ahead", 5), ("behind", 6)]) rfl (u0 hr) nd rfl rfl (sw_trueD rfl rfl rfl (by decide +kernel)) (pi_or (pi_list (pv 0)) (pi_tup (pv 0))) (blkOk_by (N := n_closure_of) (sc := (defScope s_closure_of)) (by decide +kernel)) (fun _ _ _ _ _ => (show PG _ _ (gTup K 2 (gCons (gName 5) (gCons (gName 6) gNil))) from pg_tup rfl (pgs_cons (pg_name (i := 5) nd rfl (.inl rfl)) (pgs_cons (pg_name (i := 6) nd rfl (.inl rfl)) pgs_nil)))) (fun _ _ _ _ _ => (pe_tup (pa_cons (pv 5) (pa_cons (pv 6) pa_nil)))) (fun _ _ _ _ _ => pe_bl)) (pss_cons (ps_set (i := 2) nd rfl (.inl rfl) (pe_callB (cr_sortedSet rfl) rfl M.z_sorted LW.boot_sorted (pa_cons (pe_sc2 (own := [("rule", 7), ("role", 8)]) (vs1 := [8]) rfl nd (pi_or (pi_list (pv 0)) (pi_tup (pv 0))) (blkOk_by (N := n_closure_of) (sc := (defScope s_closure_of)) (by decide +kernel)) (by decide) (fun _ _ _ _ _ => (pg_name (i := 7) nd rfl (.inl rfl))) (fun _ _ _ _ _ => (show PI _ _ _ (iTup K _) from pi_tup (pv 7))) (fun _ _ _ _ _ => (pg_name (i := 8) nd rfl (.inl rfl))) (fun _ _ _ _ _ => (pv 8))) pa_nil))) (pss_cons (ps_for PassesOwn.never rfl (pi_list (pv 2)) (pg_name (i := 3) nd rfl (.inl rfl)) (pss_one (ps_for PassesOwn.never rfl (pi_list (pv 2)) (pg_name (i := 4) nd rfl (.inl rfl)) (pss_one (ps_if (pt_cmp (pc_din (hu_of hr) (pe_tup (pa_cons (pv 4) (pa_cons (pv 3) pa_nil))) (pv 1))) (pss_one (ps_for PassesOwn.never rfl (pi_list (pv 2)) (pg_name (i := 9) nd rfl (.inl rfl)) (pss_one (ps_if (pt_cmp (pc_din (hu_of hr) (pe_tup (pa_cons (pv 3) (pa_cons (pv 9) pa_nil))) (pv 1))) (pss_one (ps_dput (hu_of hr) (pv 1) (pe_tup (pa_cons (pv 4) (pa_cons (pv 9) pa_nil))) pe_bl rfl)) pss_nil)))) pss_nil))))) (pss_one (ps_ret (pe_callTy call_tuple_of rfl M.z_tuple LW.boot_tuple (pa_cons (pe_callB (LW.cr_sortedDT (d := 2) (B := 64) rfl (by decide)) rfl M.z_sorted LW.boot_sorted (pa_cons (pv 1) pa_nil)) pa_nil))))))), ?_⟩
  · obtain ⟨a, cs, rfl, _⟩ := h; rfl
  · obtain ⟨a, cs, rfl, ⟨ps, ha, hps⟩, h5, hz, hQ⟩ := h
    refine q_dcP (σ := [some (.ref a), none, none, none, none, none, none, none, none, none]) (it_seq (ev_var rfl) ha) hps (by omega) (fun _ _ => rfl) (fun _ _ => rfl) (fun _ _ => rfl) fun l H1 nl e1 hl => ?_
    have hzip := paired_zip hps
    have hflat : ∀ x, x ∈ (ps.zip cs).flatMap (fun q => [q.2.1, q.2.2]) ↔ ∃ c ∈ cs, x = c.1 ∨ x = c.2 := fun x => by
      rw [List.mem_flatMap]
      constructor
      · rintro ⟨q, hq, hx⟩
        refine ⟨q.2, ?_, ?_⟩
        · rw [← hzip.2.1]; exact List.mem_map.mpr ⟨q, hq, rfl⟩
        · rcases List.mem_cons.mp hx with h | h
          · exact .inl h
          · exact .inr (List.mem_singleton.mp h)
      · rintro ⟨c, hc, hx⟩
        rw [← hzip.2.1] at hc
        obtain ⟨q, hq, rfl⟩ := List.mem_map.mp hc
        refine ⟨q, hq, ?_⟩
        rcases hx with rfl | rfl
        · exact List.mem_cons_self
        · exact List.mem_cons_of_mem _ List.mem_cons_self
    have hps' : ps.map V.ref = (ps.zip cs).map rowP := by
      have := congrArg (List.map V.ref) hzip.1
      rw [List.map_map] at this; exact this.symm
    have b5 : ∀ x, (∃ c ∈ cs, x = c.1 ∨ x = c.2) → 0 ≤ x ∧ x ≤ 5 := fun x ⟨c, hc, hx⟩ => by
      obtain ⟨b1, b2⟩ := h5 c hc
      rcases hx with rfl | rfl <;> assumption
    have hu5 : ∀ x ∈ uniq ((ps.zip cs).flatMap (fun q => [q.2.1, q.2.2])), 0 ≤ x ∧ x ≤ 5 := fun x hx => b5 x ((hflat x).mp (uniq_mem.mp hx))
    refine q_asgL (el_sortedS (L := uniq ((ps.zip cs).flatMap fun q => [q.2.1, q.2.2])) (es_sc2 (as := ps.zip cs) (F := rowP) (I := fun q => [q.2.1, q.2.2]) (by rw [← hps']; exact it_seq (ev_var rfl) (ha.ex e1)) (fun q hq Hx ex => it_tup (ev_var rfl) (ex _ _ (e1 _ _ (hzip.2.2 q hq)))) (fun q hq x hx => b5 x ((hflat x).mp (List.mem_flatMap.mpr ⟨q, hq, hx⟩))) (fun _ => rfl) (fun _ _ => rfl) (fun _ _ => rfl)) (uniq_nodup _) (by have := len6 (uniq_nodup _) hu5; omega)) fun r H2 nr e2 hr => ?_
    generalize hR : LM.srt (uniq ((ps.zip cs).flatMap fun q => [q.2.1, q.2.2])) = R at hr
    have hRm : ∀ c ∈ cs, c.1 ∈ R ∧ c.2 ∈ R := fun c hc => by
      rw [← hR]
      exact ⟨LM.srt_mem.mpr (uniq_mem.mpr ((hflat _).mpr ⟨c, hc, .inl rfl⟩)), LM.srt_mem.mpr (uniq_mem.mpr ((hflat _).mpr ⟨c, hc, .inr rfl⟩))⟩
    have hR5 : ∀ x ∈ R, 0 ≤ x ∧ x ≤ 5 := fun x hx => by
      rw [← hR] at hx
      exact hu5 x (LM.srt_mem.mp hx)
    have hl2 := e2 _ _ hl
    have rl : r ≠ l := fun z => by rw [z, hl] at nr; cases nr
    obtain ⟨n1, n2, n3⟩ := kn_next (X := .dT (dP (once cs))) (e1.trans e2) nl
    have hk0 : Ex (del H2 l) H2 := del_ex (Ex.refl H2)
    have hkr : del H2 l r = some (.lst (R.map V.int)) := by rw [del_ne rl]; exact hr
    generalize hHk : del H2 l = Hk at n1 n2 hk0 hkr
    have g0 : Good (once cs) := ⟨once_nodup cs, once_in5 h5⟩
    refine q_forLn (ev_var rfl) (sq_of hr) (fun i σ' H' => ∃ v3 v4 v9, σ' = [some (.ref a), some (.ref l), some (.ref r), v3, v4, none, none, none, none, v9] ∧ Ex Hk H' ∧ H' l = some (.dT (dP ((R.take i).foldl (warM R R) (once cs)))))
      (fun H3 e3 => ⟨none, none, none, rfl, hk0.trans e3, e3 _ _ hl2⟩) (fun i σ' H' _ h => ?_) (fun i x σ' H' hx h => ?_) (fun σ' H' h => ?_)
    · obtain ⟨_, _, _, _, e, _⟩ := h
      exact sq_of (e _ _ hkr)
    · obtain ⟨v3, v4, v9, rfl, e3, hl3⟩ := h
      rw [List.getElem?_map] at hx
      cases hm : R[i]? with
      | none => rw [hm] at hx; cases hx
      | some m =>
      rw [hm] at hx; cases hx
      have gm : Good ((R.take i).foldl (warM R R) (once cs)) := g0.ms _
      have stM : (R.take (i + 1)).foldl (warM R R) (once cs) = R.foldl (warF R m) ((R.take i).foldl (warM R R) (once cs)) := foldl_take hm
      generalize (R.take i).foldl (warM R R) (once cs) = csM at hl3 gm stM
      refine s_forLn (ev_var rfl) (sq_of (e3 _ _ hkr)) (fun j σ' H' => ∃ v4 v9, σ' = [some (.ref a), some (.ref l), some (.ref r), some (.int m), v4, none, none, none, none, v9] ∧ Ex Hk H' ∧ H' l = some (.dT (dP ((R.take j).foldl (warF R m) csM))))
        (fun H4 e4 => ⟨v4, v9, rfl, e3.trans e4, e4 _ _ hl3⟩) (fun j σ' H' _ h => ?_) (fun j x σ' H' hx h => ?_) (fun σ' H' h => ?_)
      · obtain ⟨_, _, _, e, _⟩ := h
        exact sq_of (e _ _ hkr)
      · obtain ⟨v4, v9, rfl, e4, hl4⟩ := h
        rw [List.getElem?_map] at hx
        cases hf : R[j]? with
        | none => rw [hf] at hx; cases hx
        | some f =>
        rw [hf] at hx; cases hx
        have gf : Good ((R.take j).foldl (warF R m) csM) := gm.fs _
        have hf5 := hR5 f (List.mem_of_getElem? hf)
        have st1 := foldl_take (f := warF R m) (x := csM) hf
        generalize hcs : (R.take j).foldl (warF R m) csM = csF at hl4 gf st1
        refine s_if (b := decide ((f, m) ∈ csF)) (et_din (c := (f, m)) (eu_tup (ea_cons (ev_var rfl) (ea_cons (ev_var rfl) ea_nil)) (show 2 ≤ 100000 by decide)) (fun H5 _ => ev_var rfl) hl4) (fun hb H5 e5 => ?_) (fun hb H5 e5 => ?_)
        · have st2 : warF R m csF f = R.foldl (warL m f) csF := if_pos (of_decide_eq_true hb)
          refine s_forLn (ev_var rfl) (sq_of ((e4.trans e5) _ _ hkr)) (fun k σ' H' => ∃ v9, σ' = [some (.ref a), some (.ref l), some (.ref r), some (.int m), some (.int f), none, none, none, none, v9] ∧ Ex Hk H' ∧ H' l = some (.dT (dP ((R.take k).foldl (warL m f) csF))))
            (fun H6 e6 => ⟨v9, rfl, (e4.trans e5).trans e6, e6 _ _ (e5 _ _ hl4)⟩) (fun k σ' H' _ h => ?_) (fun k x σ' H' hx h => ?_) (fun σ' H' h => ?_)
          · obtain ⟨_, _, e, _⟩ := h
            exact sq_of (e _ _ hkr)
          · obtain ⟨v9, rfl, e6, hl6⟩ := h
            rw [List.getElem?_map] at hx
            cases hz : R[k]? with
            | none => rw [hz] at hx; cases hx
            | some z =>
            rw [hz] at hx; cases hx
            have gz : Good ((R.take k).foldl (warL m f) csF) := gf.ls hf5 _
            have st3 := foldl_take (f := warL m f) (x := csF) hz
            generalize hcl : (R.take k).foldl (warL m f) csF = csL at hl6 gz st3
            refine s_if (b := decide ((m, z) ∈ csL)) (et_din (c := (m, z)) (eu_tup (ea_cons (ev_var rfl) (ea_cons (ev_var rfl) ea_nil)) (show 2 ≤ 100000 by decide)) (fun H5 _ => ev_var rfl) hl6) (fun hb H7 e7 => ?_) (fun hb H7 e7 => ?_)
            · have st4 : warL m f csL z = addP csL (f, z) := if_pos (of_decide_eq_true hb)
              refine s_dput (c := (f, z)) ev_c (fun _ _ => ev_var rfl) (fun _ _ => eu_tup (ea_cons (ev_var rfl) (ea_cons (ev_var rfl) ea_nil)) (show 2 ≤ 100000 by decide)) (e7 _ _ hl6) (by have := gz.len; omega) fun H8 e8 => ⟨_, rfl, Ex.mut ((e6.trans e7).trans e8) n2, ?_⟩
              rw [st3, st4]; exact upd_same
            · have st4 : warL m f csL z = csL := if_neg (of_decide_eq_false hb)
              refine ⟨_, rfl, e6.trans e7, ?_⟩
              rw [st3, st4]; exact e7 _ _ hl6
          · obtain ⟨v9, rfl, e6, hl6⟩ := h
            rw [List.length_map, List.take_length] at hl6
            refine ⟨_, v9, rfl, e6, ?_⟩
            rw [st1, st2]; exact hl6
        · have st2 : warF R m csF f = csF := if_neg (of_decide_eq_false hb)
          refine ⟨_, v9, rfl, e4.trans e5, ?_⟩
          rw [st1, st2]; exact e5 _ _ hl4
      · obtain ⟨v4, v9, rfl, e4, hl4⟩ := h
        rw [List.length_map, List.take_length] at hl4
        refine ⟨_, v4, v9, rfl, e4, ?_⟩
        rw [stM]; exact hl4
    · obtain ⟨v3, v4, v9, rfl, e3, hl3⟩ := h
      rw [List.length_map, List.take_length] at hl3
      exact s_retLed (ev_var rfl) hl3 (g0.ms _) fun p L H4 e4 hp hm hz => hQ p L H4 (n1.trans (e3.trans e4)) hp (fun c => (hm c).trans (war_iff hRm c)) hz
end
end LO

set_option Elab.async false
set_option linter.all false
set_option maxRecDepth 100000
set_option maxHeartbeats 4000000
namespace LO
open PySem PySem.Spec PyProof.Rows L2 LG LW LC LM Evl
section
variable {P : Program} {w : World} {K : PySem.W.Frag} {mg : Str → Option Value} {base : Heap}

/-! ### has_ring -/
theorem s_forP {K : PySem.W.Frag} {σ : L2.St} {H : Hp} {D : Ends} {tl : TE} {g : TG} {tu : TS} {P : V → Hp → Prop} (h : EvP tl σ H P) (k : ∀ v H1, Ex H H1 → P v H1 → tFor (iTup K (tC v)) g tu D σ H1) : tFor (iTup K tl) g tu D σ H := h H (Ex.refl H) _ fun v H1 e p => k v H1 e p
theorem q_forP {K : PySem.W.Frag} {σ : L2.St} {H : Hp} {D : Ends} {tl : TE} {g : TG} {tu tz : TS} {P : V → Hp → Prop} (h : EvP tl σ H P) (k : ∀ v H1, Ex H H1 → P v H1 → tSeq (tFor (iTup K (tC v)) g tu) tz D σ H1) : tSeq (tFor (iTup K tl) g tu) tz D σ H := h H (Ex.refl H) _ fun v H1 e p => k v H1 e p
def sp_has_ring : Sp := fun vs H Q _ => ∃ (a : Addr) (cs : List Pr), vs = [.ref a] ∧ PSeq H a cs ∧ In5 cs ∧ cs.length ≤ 100 ∧ (∀ x, ¬ Path cs x x) ∧ ∀ H', Ex H H' → Q (.bl false) H'
abbrev n_has_ring : List Str := ["rules", "ahead", "behind"]
theorem sc_has_ring : FnScope n_has_ring ["rules"] (defScope s_has_ring) := ⟨rfl, rfl, rfl, by decide +kernel, rfl, by decide +kernel, by decide +kernel⟩
theorem fn_has_ring (M : Mods P K mg base) : Fn P w K mg base CX0 2 "has_ring" ["rules"] [] sp_has_ring := by
  have nd := sc_has_ring.nd
  have h_closure_of := (fn_closure_of (w := w) M).up (show 1 ≤ 1 by decide)
  refine Fn.mk0 M.F_has_ring M.g_has_ring sc_has_ring (fun vs H Q E h => ?_) (fun fd F => F.bindsN fun _ _ _ _ _ _ us hl => match us, hl with | [_], _ => rfl) fun cdv A outer s H vs Q E hr h => ⟨_,
    (pss_cons (ps_for PassesOwn.never rfl (pi_tup (pe_fn h_closure_of hr pass0 (pa_cons (pv 0) pa_nil))) (pg_tup rfl (pgs_cons (pg_name (i := 1) nd rfl (.inl rfl)) (pgs_cons (pg_name (i := 2) nd rfl (.inl rfl)) pgs_nil))) (pss_one (ps_if (pt_cmpR op_eq (pv 1) (pv 2) (nomark _)) (pss_one (ps_ret pe_bl)) pss_nil))) (pss_one (ps_ret pe_bl))), ?_⟩
  · obtain ⟨a, cs, rfl, _⟩ := h; rfl
  · obtain ⟨a, cs, rfl, ha, h5, hz, hno, hQ⟩ := h
    refine q_forP (P := fun v H' => ∃ p L, v = .ref p ∧ PTp H' p L ∧ ∀ c, c ∈ L ↔ Path cs c.1 c.2) (ep_fn (ea_cons (ev_var rfl) ea_nil) fun H1 e Q E q => ⟨a, cs, rfl, ha.ex e, h5, hz, fun p L H2 e2 hp hm _ => q _ H2 e2 ⟨p, L, rfl, hp, hm⟩⟩) fun v H1 e1 hp => ?_
    obtain ⟨p, L, rfl, ⟨ps, hp, hps⟩, hm⟩ := hp
    refine q_forT ev_c (st_of hp) (fun i σ' H' => ∃ v1 v2, σ' = [some (.ref a), v1, v2] ∧ Ex H1 H') (fun H2 e2 => ⟨none, none, rfl, e2⟩) (fun i σ' H' _ h => ?_) (fun i x σ' H' hx h => ?_) (fun σ' H' h => ?_)
    · obtain ⟨_, _, _, e⟩ := h
      exact st_of (e _ _ hp)
    · obtain ⟨v1, v2, rfl, e⟩ := h
      rw [List.getElem?_map] at hx
      cases hq : ps[i]? with
      | none => rw [hq] at hx; cases hx
      | some q =>
      rw [hq] at hx; cases hx
      obtain ⟨c, hc, hpc⟩ := paired_at hps hq
      refine g_pair (e _ _ hpc) ?_
      refine s_pass (et_is (et_op (ev_var rfl) (ev_var rfl) (rv_eq rfl)) (decide_eq_false fun z => ?_)) fun H3 e3 => ⟨_, _, rfl, e.trans e3⟩
      injection z with z
      have := (hm c).mp (List.mem_of_getElem? hc)
      rw [z] at this
      exact hno _ this
    · obtain ⟨v1, v2, rfl, e⟩ := h
      exact s_ret ev_c fun H3 e3 => hQ H3 ((e1.trans e).trans e3)
/-! ### is_rule -/
def sp_is_rule : Sp := fun vs H Q _ => ∃ (m : Int) (p : Addr) (c : Pr), vs = [.int m, .ref p] ∧ PrAt H p c ∧ 0 ≤ c.1 ∧ c.1 < m ∧ 0 ≤ c.2 ∧ c.2 < m ∧ c.1 ≠ c.2 ∧ ∀ H', Ex H H' → Q (.bl true) H'
abbrev n_is_rule : List Str := ["many", "thing"]
theorem sc_is_rule : FnScope n_is_rule ["many", "thing"] (defScope s_is_rule) := ⟨rfl, rfl, rfl, by decide +kernel, rfl, by decide +kernel, by decide +kernel⟩
theorem fn_is_rule (M : Mods P K mg base) : Fn P w K mg base CX0 2 "is_rule" ["many", "thing"] [] sp_is_rule := by
  have nd := sc_is_rule.nd
  have h_is_whole := (fn_is_whole (w := w) M).up (show 1 ≤ 1 by decide)
  refine Fn.mk0 M.F_is_rule M.g_is_rule sc_is_rule (fun vs H Q E h => ?_) (fun fd F => F.bindsN fun _ _ _ _ _ _ us hl => match us, hl with | [_, _], _ => rfl) fun cdv A outer s H vs Q E hr h => ⟨_,
    (pss_cons (ps_if (PW.pt (pw_or (pt_not (pt_val (pe_callB call_isiT rfl M.z_isinstance LW.boot_isinstance (pa_cons (pv 1) (pa_cons (pe_tup (pa_cons (pe_bltn (v := .ty "list") rfl M.z_list LW.boot_list rfl) (pa_cons (pe_bltn (v := .ty "tuple") rfl M.z_tuple LW.boot_tuple rfl) pa_nil))) pa_nil))))) (pw_or1 (pt_cmpR op_ne (pe_callB call_len_seq rfl M.z_len LW.boot_len (pa_cons (pv 1) pa_nil)) pe_int (nomark _))))) (pss_one (ps_ret pe_bl)) pss_nil) (pss_cons (ps_if (PW.pt (pw_or (pt_not (pt_val (pe_fn h_is_whole hr pass0 (pa_cons (pe_ix ix_tup (pv 1) pe_int (fun _ _ => rfl)) (pa_cons pe_int (pa_cons (pe_op op_sub (pv 0) pe_int) pa_nil)))))) (pw_or1 (pt_not (pt_val (pe_fn h_is_whole hr pass0 (pa_cons (pe_ix ix_tup (pv 1) pe_int (fun _ _ => rfl)) (pa_cons pe_int (pa_cons (pe_op op_sub (pv 0) pe_int) pa_nil))))))))) (pss_one (ps_ret pe_bl)) pss_nil) (pss_one (ps_ret (pe_cmpR op_ne (pe_ix ix_tup (pv 1) pe_int (fun _ _ => rfl)) (pe_ix ix_tup (pv 1) pe_int (fun _ _ => rfl)) (nomark _)))))), ?_⟩
  · obtain ⟨m, p, c, rfl, _⟩ := h; rfl
  · obtain ⟨m, p, c, rfl, hp, a1, a2, b1, b2, hne, hQ⟩ := h
    have hp : H p = some (.tup [.int c.1, .int c.2]) := hp
    have i0 : ∀ Hx, Ex H Hx → Ev (tOp (rIxT K) (tVar 1) (tC (.int 0))) [some (.int m), some (.ref p)] Hx (.int c.1) := fun Hx e => ev_op (ev_var rfl) ev_c (rv_ixT (st_of (e _ _ hp)) rfl)
    have i1 : ∀ Hx, Ex H Hx → Ev (tOp (rIxT K) (tVar 1) (tC (.int 1))) [some (.int m), some (.ref p)] Hx (.int c.2) := fun Hx e => ev_op (ev_var rfl) ev_c (rv_ixT (st_of (e _ _ hp)) rfl)
    refine q_pass (g_seqN (ev_var rfl) hp rfl) fun H1 e1 => ?_
    refine q_pass (et_is (et_or (a := !wholeB (.int c.1) (some 0) (some (m - 1))) (et_not (et_B (ev_whole (lo := some 0) (hi := some (m - 1)) (i0 H1 e1) ev_c (ev_op (ev_var rfl) ev_c rv_I0) rfl))) fun _ => et_not (et_B (ev_whole (lo := some 0) (hi := some (m - 1)) (i1 H1 e1) ev_c (ev_op (ev_var rfl) ev_c rv_I0) rfl))) ?_) fun H2 e2 => ?_
    · rw [whole_in a1 (by omega), whole_in b1 (by omega)]; rfl
    · refine s_ret (ev_is (ev_op (i0 H2 (e1.trans e2)) (i1 H2 (e1.trans e2)) (rv_ne rfl)) ?_) fun H3 e3 => hQ H3 ((e1.trans e2).trans e3)
      rw [decide_eq_false fun z : V.int c.1 = V.int c.2 => hne (V.int.inj z)]; rfl
end
end LO

set_option Elab.async false
set_option linter.all false
set_option maxRecDepth 100000
set_option maxHeartbeats 4000000
namespace LO
open PySem PySem.Spec PyProof.Rows L2 LG LW LC LM Evl
section
variable {P : Program} {w : World} {K : PySem.W.Frag} {mg : Str → Option Value} {base : Heap}

/-! ### check_rules -/
/-- sorted({(r[0], r[1]) for r in rules}) -/
theorem ep_pairs {K : PySem.W.Frag} {P : Program} {w : World} {σ : L2.St} {H : Hp} {wi : TI} {j : Nat} {vs : List Nat} {cs : List Pr} {ps : List Addr} (ho : ItV wi σ H (ps.map V.ref)) (hp : Paired (PrAt H) ps cs) (h5 : In5 cs)
    (hw : ∀ x, wipe ((wipe σ vs).set j (some x)) vs = wipe σ vs) (hv : ∀ x, ((wipe σ vs).set j (some x))[j]? = some (some x)) :
    EvP (tCB (rSortedT K P w) (tCons (tScT K P w wi (gName j) (tTup (tCons (tOp (rIxT K) (tVar j) (tC (.int 0))) (tCons (tOp (rIxT K) (tVar j) (tC (.int 1))) tNil))) vs) tNil)) σ H
      (fun v H' => ∃ l L qs, v = .ref l ∧ H' l = some (.lst (qs.map V.ref)) ∧ Paired (PrAt H') qs L ∧ (∀ c, c ∈ L ↔ c ∈ cs) ∧ L.length ≤ 36) := fun H1 e Q q => by
  have hlen : ps.length = cs.length := hp.length
  refine ho H1 e _ fun J H2 e2 hJ D hD => ?_
  have inv : ∀ (n : Nat) (L : List (Addr × List Int)) (H' : Hp), (∀ q ∈ L, ∃ c ∈ cs, q.2 = [c.1, c.2] ∧ H' q.1 = some (.tup [.int c.1, .int c.2])) → (L.map (·.2)).Nodup → L.length ≤ 36 := fun n L H' h1 h2 => by
    have : (L.map fun q => prOf q.2).length ≤ 36 := by
      refine len36 ?_ ?_
      · have : (L.map fun q => prOf q.2) = (L.map (·.2)).map prOf := by rw [List.map_map]; rfl
        rw [this]
        unfold List.Nodup at h2 ⊢
        rw [List.pairwise_map]
        refine List.Pairwise.imp_of_mem (fun {x y} hx hy hne z => ?_) h2
        obtain ⟨q1, hq1, rfl⟩ := List.mem_map.mp hx
        obtain ⟨q2, hq2, rfl⟩ := List.mem_map.mp hy
        obtain ⟨c1, _, g1, _⟩ := h1 q1 hq1
        obtain ⟨c2, _, g2, _⟩ := h1 q2 hq2
        rw [g1, g2] at z
        have : c1 = c2 := z
        rw [g1, g2, this] at hne
        exact hne rfl
      · intro c hc
        obtain ⟨q, hq, rfl⟩ := List.mem_map.mp hc
        obtain ⟨d, hd, g, _⟩ := h1 q hq
        rw [g]; exact h5 d hd
    rw [List.length_map] at this; exact this
  refine ⟨fun n m H' => m = ps.length - n ∧ n ≤ ps.length ∧ Ex H2 H' ∧ ∃ L : List (Addr × List Int), H' D = some (SetTO P w D L) ∧ (∀ q ∈ L, ∃ c ∈ cs, q.2 = [c.1, c.2] ∧ H' q.1 = some (.tup [.int c.1, .int c.2])) ∧ (∀ c ∈ cs.take n, [c.1, c.2] ∈ L.map (·.2)) ∧ (L.map (·.2)).Nodup,
    ⟨ps.length, by simp, Nat.zero_le _, Ex.new hD, [], upd_same, (fun q hq => by cases hq), (fun c hc => by rw [List.take_zero] at hc; cases hc), List.nodup_nil⟩, fun n m H' hW => ?_⟩
  obtain ⟨rfl, hn, e3, L, hL, g1, g2, g3⟩ := hW
  obtain ⟨j1, j2, j3⟩ := hJ H' (.of e3)
  have l36 := inv n L H' g1 g3
  by_cases hlt : n < ps.length
  · refine .inr ⟨j1 n _ (List.getElem?_eq_getElem (by rw [List.length_map]; exact hlt)), fun H'' => Ex H2 H'' ∧ ∃ L : List (Addr × List Int), H'' D = some (SetTO P w D L) ∧ (∀ q ∈ L, ∃ c ∈ cs, q.2 = [c.1, c.2] ∧ H'' q.1 = some (.tup [.int c.1, .int c.2])) ∧ (∀ c ∈ cs.take (n + 1), [c.1, c.2] ∈ L.map (·.2)) ∧ (L.map (·.2)).Nodup, fun H'' h => ⟨_, by omega, rfl, hlt, h.1, h.2⟩, fun x H3 hy => ?_⟩
    obtain ⟨rfl, hx⟩ := j2 n x H3 hy
    rw [List.getElem?_map, List.getElem?_eq_getElem hlt] at hx
    cases hx
    obtain ⟨c, hc, hpc⟩ := paired_at hp (List.getElem?_eq_getElem hlt)
    have hpc3 : H3 ps[n] = some (.tup [.int c.1, .int c.2]) := e3 _ _ (e2 _ _ (e _ _ hpc))
    refine ⟨hw _, ?_⟩
    refine eu_tup (ea_cons (ev_op (ev_var (hv _)) ev_c (rv_ixT (st_of hpc3) (v := .int c.1) rfl)) (ea_cons (ev_op (ev_var (hv _)) ev_c (rv_ixT (st_of hpc3) (v := .int c.2) rfl)) ea_nil)) (show 2 ≤ 100000 by decide) H3 (Ex.refl H3) _ fun p H4 np e4 hp4 => ?_
    have up : ∀ b xs, H4 b = some (.tup xs) → b ≠ D := fun b xs z y => by rw [y, e4 _ _ hL] at z; cases z
    refine ⟨p, [c.1, c.2], L, rfl, st_of hp4, e4 _ _ hL, fun q hq => ?_, by omega, fun L' h1 h2 => ⟨Ex.mut (e3.trans e4) hD, L', upd_same, ?_⟩⟩
    · obtain ⟨d, _, g, z⟩ := g1 q hq
      rw [g]; exact st_of (e4 _ _ z)
    · have put : ∀ q ∈ L, ∃ c ∈ cs, q.2 = [c.1, c.2] ∧ upd H4 D (SetTO P w D L') q.1 = some (.tup [.int c.1, .int c.2]) := fun q hq => by
        obtain ⟨d, hd, g, z⟩ := g1 q hq
        exact ⟨d, hd, g, by rw [upd_ne (up _ _ (e4 _ _ z))]; exact e4 _ _ z⟩
      have tk : cs.take (n + 1) = cs.take n ++ [c] := by rw [List.take_succ, hc]; rfl
      by_cases hin : [c.1, c.2] ∈ L.map (·.2)
      · have := h1 hin
        subst this
        refine ⟨put, fun d hd => ?_, g3⟩
        rw [tk] at hd
        rcases List.mem_append.mp hd with hd | hd
        · exact g2 d hd
        · rw [List.mem_singleton.mp hd]; exact hin
      · have hperm := h2 hin
        refine ⟨fun q hq => ?_, fun d hd => ?_, ?_⟩
        · rcases List.mem_cons.mp (hperm.mem_iff.mp hq) with rfl | hq
          · exact ⟨c, List.mem_of_getElem? hc, rfl, by show upd H4 D _ p = _; rw [upd_ne (up _ _ hp4)]; exact hp4⟩
          · exact put q hq
        · have hm := (hperm.map (·.2)).mem_iff (a := [d.1, d.2])
          rw [hm, List.map_cons, List.mem_cons]
          rw [tk] at hd
          rcases List.mem_append.mp hd with hd | hd
          · exact .inr (g2 d hd)
          · rw [List.mem_singleton.mp hd]; exact .inl rfl
        · exact (hperm.map (·.2)).nodup_iff.mpr (by rw [List.map_cons]; exact List.nodup_cons.mpr ⟨hin, g3⟩)
  · have en : n = ps.length := by omega
    subst en
    refine .inl ⟨j3 _ (by rw [List.length_map]; exact Nat.le_refl _), ?_⟩
    rw [hlen, List.take_length] at g2
    refine ⟨D, L, 2, 64, rfl, hL, fun q hq => ?_, by decide, fun q hq => ?_, fun L' p hperm hnd h64 hs hnp => ?_⟩
    · obtain ⟨d, _, g, z⟩ := g1 q hq
      rw [g]; exact st_of z
    · obtain ⟨d, hd, g, _⟩ := g1 q hq
      obtain ⟨b1, b2⟩ := h5 d hd
      rw [g]
      refine ⟨rfl, fun x hx => ?_⟩
      rcases List.mem_cons.mp hx with rfl | hx
      · omega
      · rcases List.mem_cons.mp hx with rfl | hx
        · omega
        · cases hx
    · have e4 : Ex H' (upd H' p (.lst (L'.map fun q => V.ref q.1))) := Ex.new hnp
      refine q _ _ ((e2.trans e3).trans e4) ⟨p, L'.map fun q => prOf q.2, L'.map (·.1), rfl, by rw [upd_same, List.map_map]; rfl, paired_of _ _ L' fun q hq => ?_, fun c => ?_, by rw [List.length_map, hperm.length_eq]; exact l36⟩
      · obtain ⟨d, _, g, z⟩ := g1 q (hperm.mem_iff.mp hq)
        show upd H' p _ q.1 = _
        rw [g]; exact e4 _ _ z
      · constructor
        · intro hc
          obtain ⟨q, hq, rfl⟩ := List.mem_map.mp hc
          obtain ⟨d, hd, g, _⟩ := g1 q (hperm.mem_iff.mp hq)
          rw [g]; exact hd
        · intro hc
          obtain ⟨q, hq, he⟩ := List.mem_map.mp (g2 c hc)
          refine List.mem_map.mpr ⟨q, hperm.mem_iff.mpr hq, ?_⟩
          rw [he]; rfl
theorem atI_nat {α : Type} {xs : List α} {i : Nat} {x : α} (h : xs[i]? = some x) : atI xs (i : Int) = some x := by
  obtain ⟨hi, _⟩ := List.getElem?_eq_some_iff.mp h
  show (ixN xs.length (i : Int)).bind (fun j => xs[j]?) = some x
  rw [ixN_nat hi]; exact h
theorem Path.mono {rs qs : List Pr} (h : ∀ c, c ∈ rs → c ∈ qs) {a b : Int} (p : Path rs a b) : Path qs a b := by
  induction p with
  | one z => exact .one (h _ z)
  | cons z _ ih => exact .cons (h _ z) ih
def sp_check_rules : Sp := fun vs H Q _ => ∃ (m : Int) (a : Addr) (cs : List Pr), vs = [.int m, .ref a] ∧ PTp H a cs ∧ cs.length ≤ 30 ∧ m ≤ 6 ∧ (∀ c ∈ cs, 0 ≤ c.1 ∧ c.1 < m ∧ 0 ≤ c.2 ∧ c.2 < m ∧ c.1 ≠ c.2) ∧ (∀ x, ¬ Path cs x x) ∧ ∀ p L H', Ex H H' → PTp H' p L → (∀ c, c ∈ L ↔ c ∈ cs) → L.length ≤ 36 → Q (.ref p) H'
abbrev n_check_rules : List Str := ["many", "rules", "place", "couples", "rule"]
theorem sc_check_rules : FnScope n_check_rules ["many", "rules"] (defScope s_check_rules) := ⟨rfl, rfl, rfl, by decide +kernel, rfl, by decide +kernel, by decide +kernel⟩
theorem fn_check_rules (M : Mods P K mg base) : Fn P w K mg base CX0 3 "check_rules" ["many", "rules"] [] sp_check_rules := by
  have nd := sc_check_rules.nd
  have h_has_ring := (fn_has_ring (w := w) M).up (show 2 ≤ 2 by decide)
  have h_is_rule := (fn_is_rule (w := w) M).up (show 2 ≤ 2 by decide)
  refine Fn.mk0 M.F_check_rules M.g_check_rules sc_check_rules (fun vs H Q E h => ?_) (fun fd F => F.bindsN fun _ _ _ _ _ _ us hl => match us, hl with | [_, _], _ => rfl) fun cdv A outer s H vs Q E hr h => ⟨_,
    (pss_cons (ps_if (PW.pt (pw_or (pt_not (pt_val (pe_callB call_isiT rfl M.z_isinstance LW.boot_isinstance (pa_cons (pv 1) (pa_cons (pe_tup (pa_cons (pe_bltn (v := .ty "list") rfl M.z_list LW.boot_list rfl) (pa_cons (pe_bltn (v := .ty "tuple") rfl M.z_tuple LW.boot_tuple rfl) pa_nil))) pa_nil))))) (pw_or1 (pt_cmpR op_gt (pe_callB call_len_seq rfl M.z_len LW.boot_len (pa_cons (pv 1) pa_nil)) (pe_gint M.i_MOST_RULES) (nomark _))))) (pss_one ps_never) pss_nil) (pss_cons (ps_for PassesOwn.never rfl (pi_range1 rfl M.z_range (pa_cons (pe_callB call_len_seq rfl M.z_len LW.boot_len (pa_cons (pv 1) pa_nil)) pa_nil)) (pg_name (i := 2) nd rfl (.inl rfl)) (pss_one (ps_if (pt_not (pt_val (pe_fn h_is_rule hr pass0 (pa_cons (pv 0) (pa_cons (pe_ix ix_tup (pv 1) (pv 2) (fun _ _ => rfl)) pa_nil))))) (pss_one ps_never) pss_nil))) (pss_cons (ps_set (i := 3) nd rfl (.inl rfl) (pe_callB (cr_sortedT rfl) rfl M.z_sorted LW.boot_sorted (pa_cons (pe_scT (own := [("rule", 4)]) rfl (u64 hr) nd (pi_tup (pv 1)) (blkOk_by (N := n_check_rules) (sc := (defScope s_check_rules)) (by decide +kernel)) (fun _ _ _ _ _ => (pg_name (i := 4) nd rfl (.inl rfl))) (fun _ _ _ _ _ => (pe_tup (pa_cons (pe_ix (show IxR _ (rIxT K) from ix_tup) (pv 4) pe_int (fun _ _ => rfl)) (pa_cons (pe_ix (show IxR _ (rIxT K) from ix_tup) (pv 4) pe_int (fun _ _ => rfl)) pa_nil))))) pa_nil))) (pss_cons (ps_if (pt_val (pe_fn h_has_ring hr pass0 (pa_cons (pv 3) pa_nil))) (pss_one ps_never) pss_nil) (pss_one (ps_ret (pe_callTy call_tuple_of rfl M.z_tuple LW.boot_tuple (pa_cons (pv 3) pa_nil)))))))), ?_⟩
  · obtain ⟨m, a, cs, rfl, _⟩ := h; rfl
  · obtain ⟨m, a, cs, rfl, ⟨ps, ha, hps⟩, hz, h6, hok, hno, hQ⟩ := h
    have hlen : ps.length = cs.length := hps.length
    have h5 : In5 cs := fun c hc => by
      obtain ⟨a1, a2, b1, b2, _⟩ := hok c hc
      exact ⟨⟨a1, by omega⟩, b1, by omega⟩
    refine q_pass (et_or (a := false) (b := false) (et_not (et_B (ev_isiT (ev_var rfl) ev_c ev_c (.ty "list") (.ty "tuple") (.base (.tup ha)) any_tup))) fun _ => et_is (et_op (ev_lenT (ev_var rfl) (st_of ha)) ev_c rv_I0) ?_) fun H1 e1 => ?_
    · rw [List.length_map]; exact decide_eq_false (by omega)
    refine q_forR1 (n := ps.length) (ea_cons (ev_is (ev_lenT (ev_var rfl) (st_of (e1 _ _ ha))) (by rw [List.length_map])) ea_nil) ⟨by omega, by omega⟩ (fun i σ' H' => ∃ v, σ' = [some (.int m), some (.ref a), v, none, none] ∧ Ex H H') (fun H2 e2 => ⟨none, rfl, e1.trans e2⟩) (fun i σ' H' hi h => ?_) (fun σ' H' h => ?_)
    · obtain ⟨v, rfl, e⟩ := h
      have hi : i < ps.length := by omega
      obtain ⟨c, hc, hpc⟩ := paired_at hps (List.getElem?_eq_getElem hi)
      have hx : atI (ps.map V.ref) (i : Int) = some (.ref ps[i]) := atI_nat (by rw [List.getElem?_map, List.getElem?_eq_getElem hi]; rfl)
      refine s_pass (et_not (et_B (ev_fn (z := .bl true) (ea_cons (ev_var rfl) (ea_cons (ev_op (ev_var rfl) (ev_var rfl) (rv_ixT (st_of (e _ _ ha)) hx)) ea_nil)) fun H3 e3 Q E q => ?_))) fun H3 e3 => ⟨_, rfl, e.trans e3⟩
      obtain ⟨a1, a2, b1, b2, ne⟩ := hok c (List.mem_of_getElem? hc)
      exact ⟨m, ps[i], c, rfl, e3 _ _ (e _ _ hpc), a1, a2, b1, b2, ne, q⟩
    · obtain ⟨v, rfl, e⟩ := h
      refine q_asgP (ep_pairs (it_tup (ev_var rfl) (e _ _ ha)) (Paired.mapP hps fun _ _ z => e _ _ z) h5 (fun _ => rfl) (fun _ => rfl)) fun y H2 e2 hy => ?_
      obtain ⟨l, L, qs, rfl, hl, hqs, hm, h36⟩ := hy
      have hno' : ∀ x, ¬ Path L x x := fun x hx => hno x (Path.mono (fun c hc => (hm c).mp hc) hx)
      have hL5 : In5 L := fun c hc => h5 c ((hm c).mp hc)
      refine q_pass (et_B (ev_fn (z := .bl false) (ea_cons (ev_var rfl) ea_nil) fun H3 e3 Q E q => ⟨l, L, rfl, ⟨qs, .inl (e3 _ _ hl), Paired.mapP hqs fun _ _ z => e3 _ _ z⟩, hL5, by omega, hno', q⟩)) fun H3 e3 => ?_
      refine s_retU (eu_tupL (ev_var rfl) (sq_of (e3 _ _ hl))) fun p H4 np e4 hp => hQ p L H4 (((e.trans e2).trans e3).trans e4) ⟨qs, hp, Paired.mapP hqs fun _ _ z => e4 _ _ (e3 _ _ z)⟩ hm h36
end
end LO

set_option Elab.async false
set_option linter.all false
set_option maxRecDepth 100000
set_option maxHeartbeats 4000000
namespace LO
open PySem PySem.Spec PyProof.Rows L2 LG LW Evl
theorem sIx_none {n d : Nat} : HT.sIx n d none = d := rfl
theorem sIx_nat {n d i : Nat} (h : i ≤ n) : HT.sIx n d (some (i : Int)) = i := by
  rw [HT.sIx_nat]; omega
theorem cut_to {xs : List V} {i : Nat} (h : i ≤ xs.length) : cutV xs none (some (i : Int)) = xs.take i := by
  unfold cutV
  rw [sIx_nat h, sIx_none]; simp
theorem cut_from {xs : List V} {i : Nat} (h : i ≤ xs.length) : cutV xs (some (i : Int)) none = xs.drop i := by
  unfold cutV
  rw [sIx_nat h, sIx_none]
  rw [List.take_of_length_le (by rw [List.length_drop]; exact Nat.le_refl _)]
theorem inV_strs {c : Str} {ns : List Str} : inV (.str c) (ns.map V.str) = decide (c ∈ ns) := by
  unfold inV
  rw [List.any_map]
  induction ns with
  | nil => rfl
  | cons n ns ih =>
    rw [List.any_cons, ih]
    show (eqV (.str n) (.str c) || _) = _
    have : eqV (.str n) (.str c) = decide (n = c) := by
      show (n == c) = _
      by_cases h : n = c
      · subst h; rw [decide_eq_true rfl]; exact beq_self_eq_true n
      · rw [decide_eq_false h]; exact beq_eq_false_iff_ne.mpr h
    rw [this]
    by_cases h : n = c
    · simp [h]
    · have h' : ¬ c = n := fun z => h z.symm
      simp [h, h']
theorem strs_flat {ns : List Str} : (ns.map V.str).all flatV = true := by
  rw [List.all_map]
  exact List.all_eq_true.mpr fun _ _ => rfl
theorem atI_last' {α : Type} {xs : List α} {x : α} (h : xs.getLast? = some x) : atI xs (-1) = some x := by
  obtain ⟨ys, rfl⟩ := List.getLast?_eq_some_iff.mp h
  exact atI_last _ _
theorem nodup_take {α : Type} {l : List α} {i : Nat} {x : α} (h : l.Nodup) (hx : l[i]? = some x) : x ∉ l.take i := fun hm => by
  have : l.take (i + 1) = l.take i ++ [x] := by rw [List.take_succ, hx]; rfl
  have hn : (l.take (i + 1)).Nodup := h.sublist (List.take_sublist _ _)
  rw [this] at hn
  exact (List.nodup_append.mp hn).2.2 x hm x (List.mem_singleton.mpr rfl) rfl
/-- for i in range(len(xs)), told by the index -/
theorem ea_len {K : PySem.W.Frag} {σ : L2.St} {H : Hp} {ta : TE} {n : Nat} {p : Addr} {xs : List V} (ha : Ev ta σ H (.ref p)) (h : SqA H p xs) (hn : xs.length = n) : EvA (tCons (tCB (rLenS K) (tCons ta tNil)) tNil) σ H [.int (n : Int)] := by
  refine ea_cons ?_ ea_nil
  rw [← hn]
  rcases h with h | h
  · exact ev_len ha (sq_of h)
  · exact ev_lenT ha (st_of h)
end LO

set_option Elab.async false
set_option linter.all false
set_option maxRecDepth 100000
set_option maxHeartbeats 4000000
namespace LO
open PySem PySem.Spec PyProof.Rows L2 LG LW LC LM Evl
section
variable {P : Program} {w : World} {K : PySem.W.Frag} {mg : Str → Option Value} {base : Heap}

/-! ### names_of_roles -/
def sp_names_of_roles : Sp := fun vs H Q _ => ∃ (a : Addr) (ns : List Str), vs = [.ref a] ∧ H a = some (.lst (ns.map V.str)) ∧ 1 ≤ ns.length ∧ ns.length ≤ 6 ∧ (∀ n ∈ ns, NameOk n) ∧ ns.Nodup ∧ ∀ p H', H p = none → Ex H H' → H' p = some (.tup (ns.map V.str)) → Q (.ref p) H'
abbrev n_names_of_roles : List Str := ["roles", "place"]
theorem sc_names_of_roles : FnScope n_names_of_roles ["roles"] (defScope s_names_of_roles) := ⟨rfl, rfl, rfl, by decide +kernel, rfl, by decide +kernel, by decide +kernel⟩
theorem fn_names_of_roles (M : Mods P K mg base) : Fn P w K mg base CX0 3 "names_of_roles" ["roles"] [] sp_names_of_roles := by
  have nd := sc_names_of_roles.nd
  have h_is_name := (fn_is_name (w := w) M).up (show 2 ≤ 2 by decide)
  refine Fn.mk0 M.F_names_of_roles M.g_names_of_roles sc_names_of_roles (fun vs H Q E h => ?_) (fun fd F => F.bindsN fun _ _ _ _ _ _ us hl => match us, hl with | [_], _ => rfl) fun cdv A outer s H vs Q E hr h => ⟨_,
    (pss_cons (ps_if (PW.pt (pw_or (pt_not (pt_val (pe_callB call_isiT rfl M.z_isinstance LW.boot_isinstance (pa_cons (pv 0) (pa_cons (pe_tup (pa_cons (pe_bltn (v := .ty "list") rfl M.z_list LW.boot_list rfl) (pa_cons (pe_bltn (v := .ty "tuple") rfl M.z_tuple LW.boot_tuple rfl) pa_nil))) pa_nil))))) (pw_or1 (pt_not (pt_chain op_le op_le pe_int (pe_callB call_len_seq rfl M.z_len LW.boot_len (pa_cons (pv 0) pa_nil)) (pe_gint M.i_MOST_ROLES)))))) (pss_one ps_never) pss_nil) (pss_cons (ps_for PassesOwn.never rfl (pi_range1 rfl M.z_range (pa_cons (pe_callB call_len_seq rfl M.z_len LW.boot_len (pa_cons (pv 0) pa_nil)) pa_nil)) (pg_name (i := 1) nd rfl (.inl rfl)) (pss_one (ps_if (PW.pt (pw_or (pt_not (pt_val (pe_fn h_is_name hr pass0 (pa_cons (pe_ix ix_list (pv 0) (pv 1) (fun _ _ => rfl)) (pa_cons (pe_gint M.i_LONGEST_NAME) pa_nil))))) (pw_or1 (pt_cmpR op_in_seq (pe_ix ix_list (pv 0) (pv 1) (fun _ _ => rfl)) (pe_slice sl_list (pv 0) po_none (po_some (pv 1))) rfl)))) (pss_one ps_never) pss_nil))) (pss_one (ps_ret (pe_callTy call_tuple_of rfl M.z_tuple LW.boot_tuple (pa_cons (pv 0) pa_nil)))))), ?_⟩
  · obtain ⟨a, ns, rfl, _⟩ := h; rfl
  · obtain ⟨a, ns, rfl, ha, lo, hi6, hok, hnd, hQ⟩ := h
    refine q_pass (g_seqL (ev_var rfl) ha (by rw [List.length_map]; omega) (by rw [List.length_map]; omega)) fun H1 e1 => ?_
    refine q_forR1 (n := ns.length) (ea_len (ev_var rfl) (.inl (e1 _ _ ha)) (by rw [List.length_map])) ⟨by omega, by omega⟩ (fun i σ' H' => ∃ v, σ' = [some (.ref a), v] ∧ Ex H H') (fun H2 e2 => ⟨none, rfl, e1.trans e2⟩) (fun i σ' H' hi h => ?_) (fun σ' H' h => ?_)
    · obtain ⟨v, rfl, e⟩ := h
      have hi : i < ns.length := by omega
      have hx : atI (ns.map V.str) (i : Int) = some (.str ns[i]) := atI_nat (by rw [List.getElem?_map, List.getElem?_eq_getElem hi]; rfl)
      have hn := hok ns[i] (List.getElem_mem hi)
      have hq := sq_of (K := K) (e _ _ ha)
      refine s_pass (et_or (a := false) (b := false) (et_not (et_B (ev_fn (z := .bl true) (ea_cons (ev_op (ev_var rfl) (ev_var rfl) (rv_ixL hq hx)) (ea_cons ev_c ea_nil)) fun H3 e3 Q E q => ⟨ns[i], 8, rfl, hn.lo, by have := hn.hi; omega, by have := hn.hi; omega, hn.let_, q⟩))) fun _ => ?_) fun H3 e3 => ⟨_, rfl, e.trans e3⟩
      refine et_is (et_test (ev_opL (ev_op (ev_var rfl) (ev_var rfl) (rv_ixL hq hx)) (el_sl (ev_var rfl) eo_none (eo_some (ev_var rfl)) hq) fun p H4 h4 e4 => ?_)) (b := false) rfl
      have : cutV (ns.map V.str) none (some (i : Int)) = (ns.take i).map V.str := by rw [cut_to (by rw [List.length_map]; omega), List.map_take]
      rw [this] at h4
      have hr := rv_isL (K := K) (x := .str ns[i]) (sq_of h4) rfl strs_flat
      rw [inV_strs, decide_eq_false (nodup_take hnd (List.getElem?_eq_getElem hi))] at hr
      exact hr
    · obtain ⟨v, rfl, e⟩ := h
      exact s_retU (eu_tupL (ev_var rfl) (sq_of (e _ _ ha))) fun p H3 n3 e3 h3 => hQ p H3 (fresh_back e n3) (e.trans e3) h3
end
end LO

set_option Elab.async false
set_option linter.all false
set_option maxRecDepth 100000
set_option maxHeartbeats 4000000
namespace LO
open PySem PySem.Spec PyProof.Rows L2 LG LW LC LM Evl
section
variable {P : Program} {w : World} {K : PySem.W.Frag} {mg : Str → Option Value} {base : Heap}

/-! ### good_stocks -/
theorem ev_opU1 {σ : L2.St} {H : Hp} {ta tb : TE} {r : R2} {y z : V} {xs : List V} (ha : EvU ta σ H xs) (hb : ∀ H1, Ex H H1 → Ev tb σ H1 y) (hr : ∀ p H1, H1 p = some (.tup xs) → Ex H H1 → RV r (.ref p) y H1 z) : Ev (tOp r ta tb) σ H z := fun H1 e Q q =>
  ha H1 e _ fun p H2 np e2 hp => hb H2 (e.trans e2) H2 (Ex.refl _) _ fun H3 e3 => hr p H3 (e3 _ _ hp) ((e.trans e2).trans e3) H3 (Ex.refl _) Q fun H4 e4 => q H4 ((e2.trans e3).trans e4)
theorem tyx_own {K : PySem.W.Frag} {H : Hp} {a C dx : Addr} {fs : List (Str × V)} (c : Cls K C) (T : TyC K C) (h : H a = some (.ins C dx fs)) : TyX K H (.ref a) (.ref C) :=   .base (.ins h c T.ha T.hn T.ht T.hm)
abbrev St2 : Type := Str × List Row3
def StkOk (m : Int) (s : St2) : Prop := s.2 ≠ [] ∧ s.2.length ≤ 6 ∧ ∀ r ∈ s.2, 0 ≤ r.1 ∧ r.1 < m
def sp_good_stocks (K : PySem.W.Frag) : Sp := fun vs H Q _ => ∃ (m : Int) (a : Addr) (xs : List Addr) (ss : List St2), vs = [.int m, .ref a] ∧ H a = some (.lst (xs.map V.ref)) ∧ Paired (fun x (s : St2) => StockAt K H x s.1 s.2) xs ss ∧ 1 ≤ ss.length ∧ ss.length ≤ 4 ∧ (∀ s ∈ ss, StkOk m s) ∧ (ss.map (·.1)).Nodup ∧
  ∀ p H', H p = none → Ex H H' → H' p = some (.tup (xs.map V.ref)) → Q (.ref p) H'
theorem rows_last {rows : List Row3} (h : rows ≠ []) : ∃ r ∈ rows, ((rows.map (·.1)).map V.int).getLast? = some (.int r.1) := by
  refine ⟨rows.getLast h, List.getLast_mem h, ?_⟩
  rw [List.getLast?_map, List.getLast?_map, List.getLast?_eq_some_getLast h]; rfl
abbrev n_good_stocks : List Str := ["many", "stocks", "names", "place", "stock"]
theorem sc_good_stocks : FnScope n_good_stocks ["many", "stocks"] (defScope s_good_stocks) := ⟨rfl, rfl, rfl, by decide +kernel, rfl, by decide +kernel, by decide +kernel⟩
theorem fn_good_stocks (M : Mods P K mg base) : Fn P w K mg base CX0 3 "good_stocks" ["many", "stocks"] [] (sp_good_stocks K) := by
  have nd := sc_good_stocks.nd
  have h_borne := (fn_Stock_borne (w := w) M).up (show 1 ≤ 1 by decide)
  refine Fn.mk0 M.F_good_stocks M.g_good_stocks sc_good_stocks (fun vs H Q E h => ?_) (fun fd F => F.bindsN fun _ _ _ _ _ _ us hl => match us, hl with | [_, _], _ => rfl) fun cdv A outer s H vs Q E hr h => ⟨_,
    (pss_cons (ps_if (PW.pt (pw_or (pt_not (pt_val (pe_callB call_isiT rfl M.z_isinstance LW.boot_isinstance (pa_cons (pv 1) (pa_cons (pe_tup (pa_cons (pe_bltn (v := .ty "list") rfl M.z_list LW.boot_list rfl) (pa_cons (pe_bltn (v := .ty "tuple") rfl M.z_tuple LW.boot_tuple rfl) pa_nil))) pa_nil))))) (pw_or1 (pt_not (pt_chain op_le op_le pe_int (pe_callB call_len_seq rfl M.z_len LW.boot_len (pa_cons (pv 1) pa_nil)) (pe_gint M.i_MOST_STOCKS)))))) (pss_one ps_never) pss_nil) (pss_cons (ps_set (i := 2) nd rfl (.inl rfl) (pe_lst pa_nil)) (pss_cons (ps_for PassesOwn.never rfl (pi_range1 rfl M.z_range (pa_cons (pe_callB call_len_seq rfl M.z_len LW.boot_len (pa_cons (pv 1) pa_nil)) pa_nil)) (pg_name (i := 3) nd rfl (.inl rfl)) (pss_cons (ps_set (i := 4) nd rfl (.inl rfl) (pe_ix ix_list (pv 1) (pv 3) (fun _ _ => rfl))) (pss_cons (ps_if (PW.pt (pw_or (pt_not (pt_val (pe_callB call_isi rfl M.z_isinstance LW.boot_isinstance (pa_cons (pv 4) (pa_cons (pe_gref M.g_Stock) pa_nil))))) (pw_or (pt_cmpR op_in_seq (pe_fld (pv 4) rfl) (pv 2) rfl) (pw_or1 (pt_cmpR op_ge (pe_ix ix_tup (pe_propE h_borne M.cls_Stock hr (by decide) (pv 4) rfl) (pe_un un_neg pe_int) (fun _ _ => rfl)) (pv 0) (nomark _)))))) (pss_one ps_never) pss_nil) (pss_one (ps_expr (pe_bm PySem.F.plainAttrs_list PySem.F.slot_list_append PySem.F.type_list_append mt_append (pv 2) (pa_cons (pe_fld (pv 4) rfl) pa_nil))))))) (pss_one (ps_ret (pe_callTy call_tuple_of rfl M.z_tuple LW.boot_tuple (pa_cons (pv 1) pa_nil))))))), ?_⟩
  · obtain ⟨m, a, xs, ss, rfl, _⟩ := h; rfl
  · obtain ⟨m, a, xs, ss, rfl, ha, hps, lo, hi4, hok, hnd, hQ⟩ := h
    have hlen : xs.length = ss.length := hps.length
    refine q_pass (g_seqL (ev_var rfl) ha (by rw [List.length_map]; omega) (by rw [List.length_map]; omega)) fun H1 e1 => ?_
    refine q_asgL (el_lst ea_nil (Nat.zero_le _)) fun l H2 nl e2 hl => ?_
    refine q_forR1 (n := ss.length) (ea_len (ev_var rfl) (.inl (e2 _ _ (e1 _ _ ha))) (by rw [List.length_map, hlen])) ⟨by omega, by omega⟩ (fun i σ' H' => ∃ (Hk : Hp) (v3 v4 : Option V), σ' = [some (.int m), some (.ref a), some (.ref l), v3, v4] ∧ Ex H Hk ∧ Hk l = none ∧ Ex Hk H' ∧ H' l = some (.lst (((ss.take i).map (·.1)).map V.str)))
      (fun H3 e3 => ⟨H1, none, none, rfl, e1, nl, e2.trans e3, e3 _ _ hl⟩) (fun i σ' H' hi h => ?_) (fun σ' H' h => ?_)
    · obtain ⟨Hk, v3, v4, rfl, k1, k2, k3, hl3⟩ := h
      have e := k1.trans k3
      have hi : i < xs.length := by omega
      obtain ⟨s, hs, hst⟩ := paired_at hps (List.getElem?_eq_getElem hi)
      obtain ⟨ok1, ok2, ok3⟩ := hok s (List.mem_of_getElem? hs)
      refine q_asg (v := .ref xs[i]) (ev_op (ev_var rfl) (ev_var rfl) (rv_ixL (sq_of (e _ _ ha)) (atI_nat (by rw [List.getElem?_map, List.getElem?_eq_getElem hi]; rfl)))) fun H4 e4 => ?_
      have hst4 : StockAt K H4 xs[i] s.1 s.2 := StockAt.ex (e.trans e4) hst
      have hst4' := hst4
      obtain ⟨dx, q, hx, hq⟩ := hst4
      show tSeq _ _ _ [some (.int m), some (.ref a), some (.ref l), some (.int (i : Int)), some (.ref xs[i])] H4
      refine q_pass (et_or (a := false) (b := false) (et_not (et_B (ev_isi (ev_var rfl) ev_c (.own _) (tyx_own M.cls_Stock M.ty_Stock hx) M.kit_Stock))) fun _ => et_or (a := false) (b := false) ?_ fun _ => ?_) fun H5 e5 => ?_
      · have hr := rv_isL (K := K) (x := .str s.1) (sq_of (e4 _ _ hl3)) rfl strs_flat
        rw [inV_strs, decide_eq_false (by rw [List.map_take]; exact nodup_take hnd (by rw [List.getElem?_map, hs]; rfl))] at hr
        exact et_op (ev_fld (ev_var rfl) hx M.cls_Stock M.no_Stock_name rfl) (ev_var rfl) hr
      · obtain ⟨r, hr, hlast⟩ := rows_last ok1
        refine et_is (et_op (x := .int r.1) (ev_opU1 (eu_prop (ev_var rfl) hx fun H6 e6 Q E q => ⟨xs[i], s.1, s.2, rfl, StockAt.ex e6 hst4', ok2, q⟩) (fun _ _ => ev_un ev_c ru_neg) fun p H6 hp e6 => rv_ixT (st_of hp) (atI_last' hlast)) (ev_var rfl) rv_I0) (decide_eq_false (by have := (ok3 r hr).2; omega))
      · have e45 := e4.trans e5
        refine s_app (v := .str s.1) (e5 _ _ (e4 _ _ hl3)) (ev_var rfl) (ev_fld (ev_var rfl) (e5 _ _ hx) M.cls_Stock M.no_Stock_name rfl) (by rw [List.length_map, List.length_map, List.length_take]; omega) fun H6 e6 => ?_
        obtain ⟨n1, n2, n3⟩ := kn_next (X := .lst (((ss.take i).map (·.1)).map V.str ++ [.str s.1])) (k3.trans (e45.trans e6)) k2
        refine ⟨del H6 l, _, _, rfl, k1.trans n1, n2, n3, ?_⟩
        rw [upd_same, List.take_succ, hs]
        simp
    · obtain ⟨Hk, v3, v4, rfl, k1, k2, k3, hl3⟩ := h
      exact s_retU (eu_tupL (ev_var rfl) (sq_of ((k1.trans k3) _ _ ha))) fun p H3 n3 e3 h3 => hQ p H3 (fresh_back (k1.trans k3) n3) ((k1.trans k3).trans e3) h3
end
end LO

set_option Elab.async false
set_option linter.all false
set_option maxRecDepth 100000
set_option maxHeartbeats 4000000
namespace LO
open PySem PySem.Spec PyProof.Rows L2 LG LW LC LM Evl
section
variable {P : Program} {w : World} {K : PySem.W.Frag} {mg : Str → Option Value} {base : Heap}

/-! ### good_frames -/
theorem ev_opP1 {σ : L2.St} {H : Hp} {ta tb : TE} {r : R2} {y z : V} {P : V → Hp → Prop} (ha : EvP ta σ H P) (hb : ∀ H1, Ex H H1 → Ev tb σ H1 y) (hr : ∀ v H1, Ex H H1 → P v H1 → RV r v y H1 z) : Ev (tOp r ta tb) σ H z := fun H1 e Q q =>
  ha H1 e _ fun v H2 e2 hp => hb H2 (e.trans e2) H2 (Ex.refl _) _ fun H3 e3 => hr v H2 (e.trans e2) hp H3 e3 Q fun H4 e4 => q H4 ((e2.trans e3).trans e4)
structure Fr where
  name : Str
  ns : List Int
  cl : Option Int
  ag : Option Int
def FrAt (K : PySem.W.Frag) (H : Hp) (y : Addr) (f : Fr) : Prop := FrameAt K H y f.name f.ns f.cl f.ag
def Fr.slots (f : Fr) : List Int := slotsL f.ns f.cl
def FrmOk (m : Int) (f : Fr) : Prop := FrOk f.ns f.cl f.ag ∧ NameOk f.name ∧ ∀ x ∈ f.slots, x < m
theorem slots_ne {f : Fr} (h : NounsOk f.ns) : f.slots ≠ [] := fun z => by
  have := congrArg List.length z
  unfold Fr.slots slotsL at this
  rw [LM.srt_len, List.length_append, List.length_nil] at this
  have l := h.lo
  omega
def sp_good_frames (K : PySem.W.Frag) : Sp := fun vs H Q _ => ∃ (m : Int) (sa fa : Addr) (xs ys : List Addr) (ss : List St2) (fs : List Fr), vs = [.int m, .ref sa, .ref fa] ∧ H sa = some (.tup (xs.map V.ref)) ∧ Paired (fun x (s : St2) => StockAt K H x s.1 s.2) xs ss ∧ (∀ s ∈ ss, StkOk m s) ∧ m ≤ 6 ∧
  H fa = some (.lst (ys.map V.ref)) ∧ Paired (FrAt K H) ys fs ∧ 1 ≤ fs.length ∧ fs.length ≤ 4 ∧ (∀ f ∈ fs, FrmOk m f) ∧ (fs.map Fr.name).Nodup ∧ (∀ f ∈ fs, ∀ r ∈ f.ns, ∃ s ∈ ss, r ∈ s.2.map (·.1)) ∧ (∃ f ∈ fs, f.cl = none) ∧
  ∀ p H', H p = none → Ex H H' → H' p = some (.tup (ys.map V.ref)) → Q (.ref p) H'
def stkZ : Addr × St2 → V := fun q => .ref q.1
abbrev n_good_frames : List Str := ["many", "stocks", "frames", "names", "place", "borne", "frame", "role", "stock"]
theorem sc_good_frames : FnScope n_good_frames ["many", "stocks", "frames"] (defScope s_good_frames) := ⟨rfl, rfl, rfl, by decide +kernel, rfl, by decide +kernel, by decide +kernel⟩
theorem fn_good_frames (M : Mods P K mg base) : Fn P w K mg base CX0 3 "good_frames" ["many", "stocks", "frames"] [] (sp_good_frames K) := by
  have nd := sc_good_frames.nd
  have h_borne := (fn_Stock_borne (w := w) M).up (show 1 ≤ 1 by decide)
  have h_slots := (fn_Frame_slots (w := w) M).up (show 1 ≤ 1 by decide)
  refine Fn.mk0 M.F_good_frames M.g_good_frames sc_good_frames (fun vs H Q E h => ?_) (fun fd F => F.bindsN fun _ _ _ _ _ _ us hl => match us, hl with | [_, _, _], _ => rfl) fun cdv A outer s H vs Q E hr h => ⟨_,
    (pss_cons (ps_if (PW.pt (pw_or (pt_not (pt_val (pe_callB call_isiT rfl M.z_isinstance LW.boot_isinstance (pa_cons (pv 2) (pa_cons (pe_tup (pa_cons (pe_bltn (v := .ty "list") rfl M.z_list LW.boot_list rfl) (pa_cons (pe_bltn (v := .ty "tuple") rfl M.z_tuple LW.boot_tuple rfl) pa_nil))) pa_nil))))) (pw_or1 (pt_not (pt_chain op_le op_le pe_int (pe_callB call_len_seq rfl M.z_len LW.boot_len (pa_cons (pv 2) pa_nil)) (pe_gint M.i_MOST_FRAMES)))))) (pss_one ps_never) pss_nil) (pss_cons (ps_set (i := 3) nd rfl (.inl rfl) (pe_lst pa_nil)) (pss_cons (ps_for PassesOwn.never rfl (pi_range1 rfl M.z_range (pa_cons (pe_callB call_len_seq rfl M.z_len LW.boot_len (pa_cons (pv 2) pa_nil)) pa_nil)) (pg_name (i := 4) nd rfl (.inl rfl)) (pss_cons (ps_set (i := 6) nd rfl (.inl rfl) (pe_ix ix_list (pv 2) (pv 4) (fun _ _ => rfl))) (pss_cons (ps_if (PW.pt (pw_or (pt_not (pt_val (pe_callB call_isi rfl M.z_isinstance LW.boot_isinstance (pa_cons (pv 6) (pa_cons (pe_gref M.g_Frame) pa_nil))))) (pw_or (pt_cmpR op_in_seq (pe_fld (pv 6) rfl) (pv 3) rfl) (pw_or1 (pt_cmpR op_ge (pe_ix ix_tup (pe_propE h_slots M.cls_Frame hr (by decide) (pv 6) rfl) (pe_un un_neg pe_int) (fun _ _ => rfl)) (pv 0) (nomark _)))))) (pss_one ps_never) pss_nil) (pss_one (ps_expr (pe_bm PySem.F.plainAttrs_list PySem.F.slot_list_append PySem.F.type_list_append mt_append (pv 3) (pa_cons (pe_fld (pv 6) rfl) pa_nil))))))) (pss_cons (ps_set (i := 5) nd rfl (.inl rfl) (pe_callB (cr_sortedSet rfl) rfl M.z_sorted LW.boot_sorted (pa_cons (pe_sc2 (own := [("stock", 8), ("role", 7)]) (vs1 := [7]) rfl nd (pi_tup (pv 1)) (blkOk_by (N := n_good_frames) (sc := (defScope s_good_frames)) (by decide +kernel)) (by decide) (fun _ _ _ _ _ => (pg_name (i := 8) nd rfl (.inl rfl))) (fun _ _ _ _ _ => (show PI _ _ _ (iTup K _) from pi_tup (pe_propE h_borne M.cls_Stock hr (by decide) (pv 8) rfl))) (fun _ _ _ _ _ => (pg_name (i := 7) nd rfl (.inl rfl))) (fun _ _ _ _ _ => (pv 7))) pa_nil))) (pss_cons (ps_for PassesOwn.never rfl (pi_range1 rfl M.z_range (pa_cons (pe_callB call_len_seq rfl M.z_len LW.boot_len (pa_cons (pv 2) pa_nil)) pa_nil)) (pg_name (i := 4) nd rfl (.inl rfl)) (pss_one (ps_for PassesOwn.never rfl (pi_tup (pe_fld (pe_ix ix_list (pv 2) (pv 4) (fun _ _ => rfl)) rfl)) (pg_name (i := 7) nd rfl (.inl rfl)) (pss_one (ps_if (pt_cmpR op_notIn_seq (pv 7) (pv 5) rfl) (pss_one ps_never) pss_nil))))) (pss_cons (ps_for PassesOwn.never rfl (pi_list (pv 2)) (pg_name (i := 6) nd rfl (.inl rfl)) (pss_one (ps_if (pt_cmpR op_isN1 (pe_fld (pv 6) rfl) pe_non (nomark _)) (pss_one (ps_ret (pe_callTy call_tuple_of rfl M.z_tuple LW.boot_tuple (pa_cons (pv 2) pa_nil)))) pss_nil))) (pss_one ps_never))))))), ?_⟩
  · obtain ⟨m, sa, fa, xs, ys, ss, fs, rfl, _⟩ := h; rfl
  · obtain ⟨m, sa, fa, xs, ys, ss, fs, rfl, hsa, hss, hsok, m6, ha, hps, lo, hi4, hok, hnd, hb, ⟨fn, hfn, hcl⟩, hQ⟩ := h
    have hlen : ys.length = fs.length := hps.length
    refine q_pass (g_seqL (ev_var rfl) ha (by rw [List.length_map]; omega) (by rw [List.length_map]; omega)) fun H1 e1 => ?_
    refine q_asgL (el_lst ea_nil (Nat.zero_le _)) fun l H2 nl e2 hl => ?_
    refine q_forR1 (n := fs.length) (ea_len (ev_var rfl) (.inl (e2 _ _ (e1 _ _ ha))) (by rw [List.length_map, hlen])) ⟨by omega, by omega⟩ (fun i σ' H' => ∃ (Hk : Hp) (v3 v4 : Option V), σ' = [some (.int m), some (.ref sa), some (.ref fa), some (.ref l), v3, none, v4, none, none] ∧ Ex H Hk ∧ Hk l = none ∧ Ex Hk H' ∧ H' l = some (.lst (((fs.take i).map Fr.name).map V.str)))
      (fun H3 e3 => ⟨H1, none, none, rfl, e1, nl, e2.trans e3, e3 _ _ hl⟩) (fun i σ' H' hi h => ?_) (fun σ' H' h => ?_)
    · obtain ⟨Hk, v3, v4, rfl, k1, k2, k3, hl3⟩ := h
      have e := k1.trans k3
      have hi : i < ys.length := by omega
      obtain ⟨s, hs, hst⟩ := paired_at hps (List.getElem?_eq_getElem hi)
      obtain ⟨ok1, ok2, ok3⟩ := hok s (List.mem_of_getElem? hs)
      refine q_asg (v := .ref ys[i]) (ev_op (ev_var rfl) (ev_var rfl) (rv_ixL (sq_of (e _ _ ha)) (atI_nat (by rw [List.getElem?_map, List.getElem?_eq_getElem hi]; rfl)))) fun H4 e4 => ?_
      have hst4 : FrameAt K H4 ys[i] s.name s.ns s.cl s.ag := FrameAt.ex (e.trans e4) hst
      have hst4' := hst4
      obtain ⟨dx, q, hx, hq⟩ := hst4
      show tSeq _ _ _ [some (.int m), some (.ref sa), some (.ref fa), some (.ref l), some (.int (i : Int)), none, some (.ref ys[i]), none, none] H4
      refine q_pass (et_or (a := false) (b := false) (et_not (et_B (ev_isi (ev_var rfl) ev_c (.own _) (tyx_own M.cls_Frame M.ty_Frame hx) M.kit_Frame))) fun _ => et_or (a := false) (b := false) ?_ fun _ => ?_) fun H5 e5 => ?_
      · have hr := rv_isL (K := K) (x := .str s.name) (sq_of (e4 _ _ hl3)) rfl strs_flat
        rw [inV_strs, decide_eq_false (by rw [List.map_take]; exact nodup_take hnd (by rw [List.getElem?_map, hs]; rfl))] at hr
        exact et_op (ev_fld (ev_var rfl) hx M.cls_Frame M.no_Frame_name rfl) (ev_var rfl) hr
      · have hlast : (s.slots.map V.int).getLast? = some (.int (s.slots.getLast (slots_ne ok1.nouns))) := by rw [List.getLast?_map, List.getLast?_eq_some_getLast (slots_ne ok1.nouns)]; rfl
        refine et_is (et_op (x := .int (s.slots.getLast (slots_ne ok1.nouns))) (ev_opP1 (P := fun v H' => ∃ p, v = .ref p ∧ H' p = some (.tup (s.slots.map V.int))) (ep_prop (ev_var rfl) hx fun H6 e6 Q E q => ⟨ys[i], s.name, s.ns, s.cl, s.ag, rfl, hst4'.ex e6, ok1.nouns, fun p H7 e7 h7 => q _ H7 e7 ⟨p, rfl, h7⟩⟩) (fun _ _ => ev_un ev_c ru_neg) fun v H6 e6 hv => ?_) (ev_var rfl) rv_I0) (decide_eq_false (by have := ok3 _ (List.getLast_mem (slots_ne ok1.nouns)); omega))
        obtain ⟨p, rfl, hp⟩ := hv
        exact rv_ixT (st_of hp) (atI_last' hlast)
      · have e45 := e4.trans e5
        refine s_app (v := .str s.name) (e5 _ _ (e4 _ _ hl3)) (ev_var rfl) (ev_fld (ev_var rfl) (e5 _ _ hx) M.cls_Frame M.no_Frame_name rfl) (by rw [List.length_map, List.length_map, List.length_take]; omega) fun H6 e6 => ?_
        obtain ⟨n1, n2, n3⟩ := kn_next (X := .lst (((fs.take i).map Fr.name).map V.str ++ [.str s.name])) (k3.trans (e45.trans e6)) k2
        refine ⟨del H6 l, _, _, rfl, k1.trans n1, n2, n3, ?_⟩
        rw [upd_same, List.take_succ, hs]
        simp
    · obtain ⟨Hk, v3, v4, rfl, k1, k2, k3, hl3⟩ := h
      have e := k1.trans k3
      clear hl3 k1 k2 k3
      have hz := paired_zip hss
      have hxs : xs.map V.ref = (xs.zip ss).map stkZ := by
        have := congrArg (List.map V.ref) hz.1
        rw [List.map_map] at this; exact this.symm
      have hmem : ∀ x, x ∈ (xs.zip ss).flatMap (fun q => q.2.2.map (·.1)) ↔ ∃ s ∈ ss, x ∈ s.2.map (·.1) := fun x => by
        rw [List.mem_flatMap]
        constructor
        · rintro ⟨q, hq, hx⟩
          exact ⟨q.2, by rw [← hz.2.1]; exact List.mem_map.mpr ⟨q, hq, rfl⟩, hx⟩
        · rintro ⟨s, hs, hx⟩
          rw [← hz.2.1] at hs
          obtain ⟨q, hq, rfl⟩ := List.mem_map.mp hs
          exact ⟨q, hq, hx⟩
      have h5 : ∀ q ∈ xs.zip ss, ∀ x ∈ q.2.2.map (·.1), 0 ≤ x ∧ x ≤ 5 := fun q hq x hx => by
        obtain ⟨r, hr, rfl⟩ := List.mem_map.mp hx
        have := (hsok q.2 (by rw [← hz.2.1]; exact List.mem_map.mpr ⟨q, hq, rfl⟩)).2.2 r hr
        omega
      have hu5 : ∀ x ∈ uniq ((xs.zip ss).flatMap (fun q => q.2.2.map (·.1))), 0 ≤ x ∧ x ≤ 5 := fun x hx => by
        obtain ⟨q, hq, hx⟩ := List.mem_flatMap.mp (uniq_mem.mp hx)
        exact h5 q hq x hx
      refine q_asgL (el_sortedS (L := uniq ((xs.zip ss).flatMap fun q => q.2.2.map (·.1))) (es_sc2 (as := xs.zip ss) (F := stkZ) (I := fun q => q.2.2.map (·.1)) (by rw [← hxs]; exact it_tup (ev_var rfl) (e _ _ hsa)) (fun q hq Hx ex => ?_) h5 (fun _ => rfl) (fun _ _ => rfl) (fun _ _ => rfl)) (uniq_nodup _) (by have := len6 (uniq_nodup _) hu5; omega)) fun r H3 nr e3 hr => ?_
      · have hst : StockAt K Hx q.1 q.2.1 q.2.2 := StockAt.ex (e.trans ex) (hz.2.2 q hq)
        obtain ⟨dx, b, hx, _⟩ := id hst
        exact it_tupU (eu_prop (ev_var rfl) hx fun H6 e6 Q E k => ⟨q.1, q.2.1, q.2.2, rfl, hst.ex e6, (hsok q.2 (by rw [← hz.2.1]; exact List.mem_map.mpr ⟨q, hq, rfl⟩)).2.1, k⟩)
      generalize hR : LM.srt (uniq ((xs.zip ss).flatMap fun q => q.2.2.map (·.1))) = R at hr
      have hRm : ∀ f ∈ fs, ∀ x ∈ f.ns, x ∈ R := fun f hf x hx => by
        rw [← hR]
        exact LM.srt_mem.mpr (uniq_mem.mpr ((hmem x).mpr (hb f hf x hx)))
      have e' := e.trans e3
      refine q_forR1 (n := fs.length) (ea_len (ev_var rfl) (.inl (e' _ _ ha)) (by rw [List.length_map, hlen])) ⟨by omega, by omega⟩ (fun i σ' H' => ∃ v3 v4 v7, σ' = [some (.int m), some (.ref sa), some (.ref fa), some (.ref l), v3, some (.ref r), v4, v7, none] ∧ Ex H3 H') (fun H4 e4 => ⟨_, _, _, rfl, e4⟩) (fun i σ' H' hi h => ?_) (fun σ' H' h => ?_)
      · obtain ⟨v3, v4, v7, rfl, e4⟩ := h
        have hi : i < ys.length := by omega
        obtain ⟨f, hf, hft⟩ := paired_at hps (List.getElem?_eq_getElem hi)
        have hff : FrameAt K H' ys[i] f.name f.ns f.cl f.ag := FrameAt.ex (e'.trans e4) hft
        obtain ⟨dx, q, hx, hq⟩ := hff
        have hfa := e4 _ _ (e' _ _ ha)
        refine s_forTn (a := q) (ev_fld (ev_op (ev_var rfl) (ev_var rfl) (rv_ixL (sq_of hfa) (atI_nat (by rw [List.getElem?_map, List.getElem?_eq_getElem hi]; rfl)))) hx M.cls_Frame M.no_Frame_nouns rfl) (st_of hq) (fun j σ' H'' => ∃ v7, σ' = [some (.int m), some (.ref sa), some (.ref fa), some (.ref l), some (.int (i : Int)), some (.ref r), v4, v7, none] ∧ Ex H' H'')
          (fun H5 e5 => ⟨_, rfl, e5⟩) (fun j σ' H'' _ h => ?_) (fun j x σ' H'' hx h => ?_) (fun σ' H'' h => ?_)
        · obtain ⟨_, _, e5⟩ := h
          exact st_of (e5 _ _ hq)
        · obtain ⟨v7, rfl, e5⟩ := h
          rw [List.getElem?_map] at hx
          cases hn : f.ns[j]? with
          | none => rw [hn] at hx; cases hx
          | some x =>
          rw [hn] at hx; cases hx
          refine s_pass (et_is (et_op (ev_var rfl) (ev_var rfl) (rv_niL (sq_of (e5 _ _ (e4 _ _ hr))) rfl ints_flat)) ?_) fun H6 e6 => ⟨_, rfl, e5.trans e6⟩
          rw [inV_ints, decide_eq_true (hRm f (List.mem_of_getElem? hf) x (List.mem_of_getElem? hn))]; rfl
        · obtain ⟨v7, rfl, e5⟩ := h
          exact ⟨_, _, _, rfl, e4.trans e5⟩
      · obtain ⟨v3, v4, v7, rfl, e4⟩ := h
        have hfa := e4 _ _ (e' _ _ ha)
        refine q_forLn (ev_var rfl) (sq_of hfa) (fun i σ' H'' => ∃ v4, σ' = [some (.int m), some (.ref sa), some (.ref fa), some (.ref l), v3, some (.ref r), v4, v7, none] ∧ Ex H' H'' ∧ ∀ f ∈ fs.take i, f.cl ≠ none) (fun H5 e5 => ⟨_, rfl, e5, fun f hf => by rw [List.take_zero] at hf; cases hf⟩) (fun j σ' H'' _ h => ?_) (fun j x σ' H'' hx h => ?_) (fun σ' H'' h => ?_)
        · obtain ⟨_, _, e5, _⟩ := h
          exact sq_of (e5 _ _ hfa)
        · obtain ⟨v4, rfl, e5, hno⟩ := h
          rw [List.getElem?_map] at hx
          cases hn : ys[j]? with
          | none => rw [hn] at hx; cases hx
          | some y =>
          rw [hn] at hx; cases hx
          obtain ⟨f, hf, hft⟩ := paired_at hps hn
          have hff : FrameAt K H'' y f.name f.ns f.cl f.ag := FrameAt.ex ((e'.trans e4).trans e5) hft
          obtain ⟨dx, q, hx, hq⟩ := hff
          refine s_when (b := decide (optV f.cl = V.non)) (et_op (ev_fld (ev_var rfl) hx M.cls_Frame M.no_Frame_clause rfl) ev_c rv_isN) (fun hb H6 e6 => ?_) (fun hb H6 e6 => ?_)
          · exact s_retU (eu_tupL (ev_var rfl) (sq_of (e6 _ _ (e5 _ _ hfa)))) fun p H7 n7 e7 h7 => hQ p H7 (fresh_back (((e'.trans e4).trans e5).trans e6) n7) ((((e'.trans e4).trans e5).trans e6).trans e7) h7
          · refine ⟨_, rfl, e5.trans e6, fun g hg => ?_⟩
            rw [List.take_succ, hf] at hg
            rcases List.mem_append.mp hg with hg | hg
            · exact hno g hg
            · have : g = f := by simpa using hg
              subst this
              intro z
              rw [z] at hb; cases hb
        · obtain ⟨v4, rfl, e5, hno⟩ := h
          rw [List.length_map, hlen, List.take_length] at hno
          exact absurd hcl (hno fn hfn)
end
end LO

set_option Elab.async false
set_option linter.all false
set_option maxRecDepth 100000
set_option maxHeartbeats 4000000
namespace LO
open PySem PySem.Spec PyProof.Rows L2 LG LW LC LM Evl
section
variable {P : Program} {w : World} {K : PySem.W.Frag} {mg : Str → Option Value} {base : Heap}

/-! ### good_rules -/
abbrev n_good_rules : List Str := ["many", "rules", "told", "what"]
theorem sc_good_rules : FnScope n_good_rules ["many", "rules"] (defScope s_good_rules) := ⟨rfl, rfl, rfl, by decide +kernel, rfl, by decide +kernel, by decide +kernel⟩
theorem fn_good_rules (M : Mods P K mg base) : Fn P w K mg base CX0 4 "good_rules" ["many", "rules"] [] sp_check_rules := by
  have nd := sc_good_rules.nd
  have h_check_rules := (fn_check_rules (w := w) M).up (show 3 ≤ 3 by decide)
  refine Fn.mk0 M.F_good_rules M.g_good_rules sc_good_rules (fun vs H Q E h => ?_) (fun fd F => F.bindsN fun _ _ _ _ _ _ us hl => match us, hl with | [_, _], _ => rfl) fun cdv A outer s H vs Q E hr h => ⟨_,
    (pss_one (ps_try_thru0 (pss_one (ps_ret (pe_fn h_check_rules hr pass0 (pa_cons (pv 0) (pa_cons (pv 1) pa_nil))))))), ?_⟩
  · obtain ⟨m, a, cs, rfl, _⟩ := h; rfl
  · obtain ⟨m, a, cs, rfl, ha, hz, h6, hok, hno, hQ⟩ := h
    refine s_retP (P := fun v H' => ∃ p L, v = .ref p ∧ PTp H' p L ∧ (∀ c, c ∈ L ↔ c ∈ cs) ∧ L.length ≤ 36) (ep_fn (ea_cons (ev_var rfl) (ea_cons (ev_var rfl) ea_nil)) fun H1 e Q E q => ⟨m, a, cs, rfl, ha.ex e, hz, h6, hok, hno, fun p L H2 e2 hp hm hl => q _ H2 e2 ⟨p, L, rfl, hp, hm, hl⟩⟩) fun v H1 e1 hv => ?_
    obtain ⟨p, L, rfl, hp, hm, hl⟩ := hv
    exact hQ p L H1 e1 hp hm hl
/-! ### Tongue.__init__ -/
theorem ex_del {B H : Hp} {x : Addr} (e : Ex B H) (n : B x = none) : Ex B (del H x) := fun b o z => by
  rw [del_ne (ne_of_none z n)]; exact e b o z
/-- x.f = v: what is known of all else, at B -/
theorem s_fldS {K : PySem.W.Frag} {σ : L2.St} {B H : Hp} {D : Ends} {ta tv : TE} {a C dx : Addr} {f : Str} {fs : List (Str × V)} {P : V → Hp → Prop} (eB : Ex B H) (nB : B a = none) (hx : H a = some (.ins C dx fs)) (hv : EvP tv σ H P) (ha : Ev ta σ H (.ref a)) (c : Cls K C) (n : NoAttr K C f) (hl : fs.length < 1000)
    (hP : ∀ v H H', ExT H H' → P v H → P v H') (k : ∀ y B', Ex B B' → B' a = none → P y B' → ∀ H', Ex B' H' → H' a = some (.ins C dx (putF f y fs)) → D.nx σ H') : sFld K ta tv f D σ H :=
  s_fldP hv ha hx c n hl fun y H0 H1 e0 p e1 => by
    have hx1 := e1 _ _ (e0 _ _ hx)
    exact k y (del H1 a) (ex_del (eB.trans (e0.trans e1)) nB) del_same (hP _ _ _ (ExT.delI hx1) (hP _ _ _ (ExT.of e1) p)) _ (del_upd (del_ex (Ex.refl H1))) upd_same
theorem q_fldS {K : PySem.W.Frag} {σ : L2.St} {B H : Hp} {D : Ends} {tz : TS} {ta tv : TE} {a C dx : Addr} {f : Str} {fs : List (Str × V)} {P : V → Hp → Prop} (eB : Ex B H) (nB : B a = none) (hx : H a = some (.ins C dx fs)) (hv : EvP tv σ H P) (ha : Ev ta σ H (.ref a)) (c : Cls K C) (n : NoAttr K C f) (hl : fs.length < 1000)
    (hP : ∀ v H H', ExT H H' → P v H → P v H') (k : ∀ y B', Ex B B' → B' a = none → P y B' → ∀ H', Ex B' H' → H' a = some (.ins C dx (putF f y fs)) → tz D σ H') : tSeq (sFld K ta tv f) tz D σ H :=
  s_fldS (D := { D with nx := tz D }) eB nB hx hv ha c n hl hP k
def TupP (xs : List V) : V → Hp → Prop := fun v H => ∃ p, v = .ref p ∧ H p = some (.tup xs)
theorem TupP.ext {xs : List V} (v : V) (H H' : Hp) (e : ExT H H') (h : TupP xs v H) : TupP xs v H' := by
  obtain ⟨p, rfl, hp⟩ := h
  exact ⟨p, rfl, e _ _ hp⟩
def PrsP (P : List Pr → Prop) : V → Hp → Prop := fun v H => ∃ p L, v = .ref p ∧ PTp H p L ∧ P L
theorem PrsP.ext {P : List Pr → Prop} (v : V) (H H' : Hp) (e : ExT H H') (h : PrsP P v H) : PrsP P v H' := by
  obtain ⟨p, L, rfl, ⟨ps, hp, hps⟩, h⟩ := h
  exact ⟨p, L, rfl, ⟨ps, e _ _ hp, Paired.mapP hps fun _ _ z => e _ _ z⟩, h⟩
/-- a tongue: its frames, its closure -/
def TongueAt (K : PySem.W.Frag) (H : Hp) (x : Addr) (fs : List Fr) (L : List Pr) : Prop := ∃ (dx ra sa fa rl cl : Addr) (vb : Str) (ys : List Addr), H x = some (.ins (ga K "Tongue") dx [("roles", .ref ra), ("stocks", .ref sa), ("frames", .ref fa), ("rules", .ref rl), ("verbs", .str vb), ("closure", .ref cl)]) ∧
  H fa = some (.tup (ys.map V.ref)) ∧ Paired (FrAt K H) ys fs ∧ PTp H cl L
theorem TongueAt.ex {K : PySem.W.Frag} {H H' : Hp} {x : Addr} {fs : List Fr} {L : List Pr} (e : Ex H H') (h : TongueAt K H x fs L) : TongueAt K H' x fs L := by
  obtain ⟨dx, ra, sa, fa, rl, cl, vb, ys, h1, h2, h3, h4⟩ := h
  exact ⟨dx, ra, sa, fa, rl, cl, vb, ys, e _ _ h1, e _ _ h2, Paired.mapP h3 fun _ _ z => FrameAt.ex e z, h4.ex e⟩
structure TonOk (m : Int) (ss : List St2) (fs : List Fr) (cs : List Pr) : Prop where
  s1 : 1 ≤ ss.length
  s2 : ss.length ≤ 4
  sk : ∀ s ∈ ss, StkOk m s
  sn : (ss.map (·.1)).Nodup
  f1 : 1 ≤ fs.length
  f2 : fs.length ≤ 4
  fk : ∀ f ∈ fs, FrmOk m f
  fn : (fs.map Fr.name).Nodup
  fb : ∀ f ∈ fs, ∀ r ∈ f.ns, ∃ s ∈ ss, r ∈ s.2.map (·.1)
  fc : ∃ f ∈ fs, f.cl = none
  c1 : cs.length ≤ 30
  c2 : ∀ c ∈ cs, 0 ≤ c.1 ∧ c.1 < m ∧ 0 ≤ c.2 ∧ c.2 < m ∧ c.1 ≠ c.2
  c3 : ∀ x, ¬ Path cs x x
def verbsL : List Str := ["first", "last", "free"]
def sp_Tongue_init (K : PySem.W.Frag) : Sp := fun vs H Q _ => ∃ (x dx ra sa fa ca : Addr) (vb : Str) (ns : List Str) (xs ys : List Addr) (ss : List St2) (fs : List Fr) (cs : List Pr) (B : Hp), vs = [.ref x, .ref ra, .ref sa, .ref fa, .ref ca, .str vb] ∧ H x = some (.ins (ga K "Tongue") dx []) ∧
  Ex B H ∧ B x = none ∧ B ra = some (.lst (ns.map V.str)) ∧ 1 ≤ ns.length ∧ ns.length ≤ 6 ∧ (∀ n ∈ ns, NameOk n) ∧ ns.Nodup ∧ B sa = some (.lst (xs.map V.ref)) ∧ Paired (fun x (s : St2) => StockAt K B x s.1 s.2) xs ss ∧ B fa = some (.lst (ys.map V.ref)) ∧ Paired (FrAt K B) ys fs ∧
  PTp B ca cs ∧ vb ∈ verbsL ∧ TonOk ns.length ss fs cs ∧ ∀ L H', Ex B H' → TongueAt K H' x fs L → (∀ c, c ∈ L ↔ Path cs c.1 c.2) → L.length ≤ 36 → Q .non H'
abbrev n_Tongue_init : List Str := ["self", "roles", "stocks", "frames", "rules", "verbs"]
theorem sc_Tongue_init : FnScope n_Tongue_init ["self", "roles", "stocks", "frames", "rules", "verbs"] (defScope s_Tongue_init) := ⟨rfl, rfl, rfl, by decide +kernel, rfl, by decide +kernel, by decide +kernel⟩
theorem fn_Tongue_init (M : Mods P K mg base) : ∃ f fd ds, Mk K (ga K "Tongue") f ∧ FnOk P w K mg base CX0 5 f fd ["self", "roles", "stocks", "frames", "rules", "verbs"] (sp_Tongue_init K) ∧ Binds K fd ["self", "roles", "stocks", "frames", "rules", "verbs"] ds ∧ Vals [] ds := by
  have nd := sc_Tongue_init.nd
  have h_names_of_roles := (fn_names_of_roles (w := w) M).up (show 3 ≤ 4 by decide)
  have h_good_stocks := (fn_good_stocks (w := w) M).up (show 3 ≤ 4 by decide)
  have h_good_frames := (fn_good_frames (w := w) M).up (show 3 ≤ 4 by decide)
  have h_good_rules := (fn_good_rules (w := w) M).up (show 4 ≤ 4 by decide)
  have h_closure_of := (fn_closure_of (w := w) M).up (show 1 ≤ 4 by decide)
  obtain ⟨f, mk, fd, F⟩ := M.I_Tongue
  obtain ⟨ds, rd, bd⟩ := F.binds1 (ps := ["self", "roles", "stocks", "frames", "rules", "verbs"]) 6 2 (by simp) rfl fun T kV doc pm an cdv ct us its h1 h2 => match us, its, h1, h2 with | [_, _, _, _, _, _], [_, _], _, _ => ⟨_, rfl, rfl⟩
  refine ⟨f, fd, ds, mk, ?_, bd, rd⟩
  refine F.ok sc_Tongue_init (fun vs H Q E h => ?_) fun cdv A outer s H vs Q E hr h => ⟨_, PSs.nox
    (pss_cons (ps_fld (pv 0) (pe_fn h_names_of_roles hr pass0 (pa_cons (pv 1) pa_nil)) rfl) (pss_cons (ps_fld (pv 0) (pe_fn h_good_stocks hr pass0 (pa_cons (pe_callB call_len_seq rfl M.z_len LW.boot_len (pa_cons (pe_fld (pv 0) rfl) pa_nil)) (pa_cons (pv 2) pa_nil))) rfl) (pss_cons (ps_fld (pv 0) (pe_fn h_good_frames hr pass0 (pa_cons (pe_callB call_len_seq rfl M.z_len LW.boot_len (pa_cons (pe_fld (pv 0) rfl) pa_nil)) (pa_cons (pe_fld (pv 0) rfl) (pa_cons (pv 3) pa_nil)))) rfl) (pss_cons (ps_fld (pv 0) (pe_fn h_good_rules hr pass0 (pa_cons (pe_callB call_len_seq rfl M.z_len LW.boot_len (pa_cons (pe_fld (pv 0) rfl) pa_nil)) (pa_cons (pv 4) pa_nil))) rfl) (pss_cons (ps_if (PW.pt (pw_or (pt_not (pt_val (pe_callB call_isi rfl M.z_isinstance LW.boot_isinstance (pa_cons (pv 5) (pa_cons (pe_bltn (v := .ty "str") rfl M.z_str LW.boot_str rfl) pa_nil))))) (pw_or1 (pt_cmpR op_notIn_seq (pv 5) (pe_gref M.VERBS.1) rfl)))) (pss_one ps_never) pss_nil) (pss_cons (ps_fld (pv 0) (pv 5) rfl) (pss_one (ps_fld (pv 0) (pe_fn h_closure_of hr pass0 (pa_cons (pe_fld (pv 0) rfl) pa_nil)) rfl)))))))), ?_⟩
  · obtain ⟨x, dx, ra, sa, fa, ca, vb, ns, xs, ys, ss, fs, cs, B, rfl, _⟩ := h; rfl
  · obtain ⟨x, dx, ra, sa, fa, ca, vb, ns, xs, ys, ss, fs, cs, B, rfl, hx, eB, nB, hra, n1, n6, nok, nnd, hsa, hss, hfa, hfs, hca, hvb, ok, hQ⟩ := h
    refine q_fldS (P := TupP (ns.map V.str)) eB nB hx (ep_fn (ea_cons (ev_var rfl) ea_nil) fun H1 e Q E q => ⟨ra, ns, rfl, e _ _ (eB _ _ hra), n1, n6, nok, nnd, fun p H2 _ e2 hp => q _ H2 e2 ⟨p, rfl, hp⟩⟩) (ev_var rfl) M.cls_Tongue M.no_Tongue_roles (show 0 < 1000 by decide) TupP.ext fun y B1 b1 nB1 hy H1 e1 hx1 => ?_
    obtain ⟨rp, rfl, hrp⟩ := hy
    have lenR : ∀ (Bk Hk : Hp) (fs' : List (Str × V)), Ex B1 Bk → Ex Bk Hk → Hk x = some (.ins (ga K "Tongue") dx (("roles", .ref rp) :: fs')) → Ev (tCB (rLenS K) (tCons (tFld K (tVar 0) "roles") tNil)) [some (.ref x), some (.ref ra), some (.ref sa), some (.ref fa), some (.ref ca), some (.str vb)] Hk (.int (ns.length : Int)) := fun Bk Hk fs' eb ek hk =>
      ev_is (ev_lenT (ev_fld (ev_var rfl) hk M.cls_Tongue M.no_Tongue_roles rfl) (st_of (ek _ _ (eb _ _ hrp)))) (by rw [List.length_map])
    refine q_fldS (P := TupP (xs.map V.ref)) e1 nB1 hx1 (ep_fn (ea_cons (lenR B1 H1 _ (Ex.refl _) e1 hx1) (ea_cons (ev_var rfl) ea_nil)) fun H2 e Q E q => ⟨_, sa, xs, ss, rfl, e _ _ (e1 _ _ (b1 _ _ hsa)), Paired.mapP hss fun _ _ z => StockAt.ex ((b1.trans e1).trans e) z, ok.s1, ok.s2, ok.sk, ok.sn, fun p H3 _ e3 hp => q _ H3 e3 ⟨p, rfl, hp⟩⟩) (ev_var rfl) M.cls_Tongue M.no_Tongue_stocks (show 1 < 1000 by decide) TupP.ext fun y B2 b2 nB2 hy H2 e2 hx2 => ?_
    obtain ⟨sp, rfl, hsp⟩ := hy
    have c2 := b1.trans b2
    refine q_fldS (P := TupP (ys.map V.ref)) e2 nB2 hx2 (ep_fn (ea_cons (lenR B2 H2 _ b2 e2 hx2) (ea_cons (ev_fld (ev_var rfl) hx2 M.cls_Tongue M.no_Tongue_stocks rfl) (ea_cons (ev_var rfl) ea_nil))) fun H3 e Q E q => ⟨_, sp, fa, xs, ys, ss, fs, rfl, e _ _ (e2 _ _ hsp), Paired.mapP hss fun _ _ z => StockAt.ex ((c2.trans e2).trans e) z, ok.sk, by omega, e _ _ (e2 _ _ (c2 _ _ hfa)), Paired.mapP hfs fun _ _ z => FrameAt.ex ((c2.trans e2).trans e) z, ok.f1, ok.f2, ok.fk, ok.fn, ok.fb, ok.fc, fun p H3 _ e3 hp => q _ H3 e3 ⟨p, rfl, hp⟩⟩) (ev_var rfl) M.cls_Tongue M.no_Tongue_frames (show 2 < 1000 by decide) TupP.ext fun y B3 b3 nB3 hy H3 e3 hx3 => ?_
    obtain ⟨fp, rfl, hfp⟩ := hy
    have c3 := c2.trans b3
    refine q_fldS (P := PrsP fun L => (∀ c, c ∈ L ↔ c ∈ cs) ∧ L.length ≤ 36) e3 nB3 hx3 (ep_fn (ea_cons (lenR B3 H3 _ (b2.trans b3) e3 hx3) (ea_cons (ev_var rfl) ea_nil)) fun H4 e Q E q => ⟨_, ca, cs, rfl, hca.ex ((c3.trans e3).trans e), ok.c1, by omega, ok.c2, ok.c3, fun p L H5 e5 hp hm hl => q _ H5 e5 ⟨p, L, rfl, hp, hm, hl⟩⟩) (ev_var rfl) M.cls_Tongue M.no_Tongue_rules (show 3 < 1000 by decide) PrsP.ext fun y B4 b4 nB4 hy H4 e4 hx4 => ?_
    obtain ⟨cp, L, rfl, hcp, hcm, hcl⟩ := hy
    have c4 := c3.trans b4
    refine q_pass (et_or (a := false) (b := false) (et_not (et_B (ev_isi (t := .type "str") (ev_var rfl) ev_c (.ty "str") (.base (.str vb)) (kit_ty (by decide +kernel : kitB "str" "str" = some true))))) fun _ => et_is (et_op (ev_var rfl) ev_c (rv_niT (xs := verbsL.map V.str) (M.VERBS.2 H4) rfl strs_flat)) ?_) fun H5 e5 => ?_
    · rw [inV_strs, decide_eq_true hvb]; rfl
    refine q_fldS (P := fun v _ => v = .str vb) (e4.trans e5) nB4 (e5 _ _ hx4) (fun H6 e6 Q q => (ev_var rfl : Ev (tVar 5) _ H5 (.str vb)) H6 e6 Q fun H7 e7 => q _ H7 e7 rfl) (ev_var rfl) M.cls_Tongue M.no_Tongue_verbs (show 4 < 1000 by decide) (fun _ _ _ _ h => h) fun y B5 b5 nB5 hy H6 e6 hx6 => ?_
    subst hy
    have hL5 : In5 L := fun c hc => by
      obtain ⟨a1, a2, d1, d2, _⟩ := ok.c2 c ((hcm c).mp hc)
      exact ⟨⟨a1, by omega⟩, d1, by omega⟩
    have c5 := c4.trans b5
    refine s_fldS (P := PrsP fun L => (∀ c, c ∈ L ↔ Path cs c.1 c.2) ∧ L.length ≤ 36) e6 nB5 hx6 (ep_fn (ea_cons (ev_fld (ev_var rfl) hx6 M.cls_Tongue M.no_Tongue_rules rfl) ea_nil) fun H7 e Q E q => ⟨cp, L, rfl, (hcp.ex ((b5.trans e6).trans e)).seq, hL5, by omega, fun p L' H8 e8 hp hm hl => q _ H8 e8 ⟨p, L', rfl, hp, fun c => (hm c).trans ⟨fun z => Path.mono (fun d hd => (hcm d).mp hd) z, fun z => Path.mono (fun d hd => (hcm d).mpr hd) z⟩, hl⟩⟩) (ev_var rfl) M.cls_Tongue M.no_Tongue_closure (show 5 < 1000 by decide) PrsP.ext fun y B6 b6 nB6 hy H7 e7 hx7 => ?_
    obtain ⟨cl, L', rfl, hcl', hm', hl'⟩ := hy
    have c6 := c5.trans b6
    exact hQ L' H7 (c6.trans e7) ⟨dx, rp, sp, fp, cp, cl, vb, ys, hx7, e7 _ _ (b6 _ _ (b5 _ _ (b4 _ _ hfp))), Paired.mapP hfs fun _ _ z => FrameAt.ex (c6.trans e7) z, hcl'.ex e7⟩ hm' hl'
end
end LO

set_option Elab.async false
set_option linter.all false
set_option maxRecDepth 100000
set_option maxHeartbeats 4000000
namespace LO
open PySem PySem.Spec PyProof.Rows L2 LG LW LC LM Evl
/-! ### the two errors -/
def XNF (K : PySem.W.Frag) (f : V) (H : Hp) (E : XK) : Prop := ∀ d H', H d = none → Ex H H' → H' d = some (.xd [("frame", f)]) → E (.ref (ga K "NoFrame")) (some d) H'
def XNO (K : PySem.W.Frag) (H : Hp) (E : XK) : Prop := ∀ H', Ex H H' → E (.ref (ga K "NoOrder")) none H'
theorem XNF.go {K : PySem.W.Frag} {f : V} {H H1 : Hp} {E : XK} (h : XNF K f H E) (e : Ex H H1) : XNF K f H1 E := fun d H' n e' z => h d H' (fresh_back e n) (e.trans e') z
theorem XNO.go {K : PySem.W.Frag} {H H1 : Hp} {E : XK} (h : XNO K H E) (e : Ex H H1) : XNO K H1 E := fun H' e' => h H' (e.trans e')
section
variable {P : Program} {w : World} {K : PySem.W.Frag} {mg : Str → Option Value} {base : Heap} {X : Cx} {p pos : Pos} {e : Expr} {es : List Expr} {ta : TA}
theorem pmk_NF (M : Mods X.prog X.K X.mg X.base) (hr : Room 2 X.A) (ha : PA X (e :: es) ta) (hg : Gl X "NoFrame" := by rfl)
    (he : starEach (e :: es) X.env = (false, eval e X.env) :: starEach es X.env := by rfl) (hpl : (backTo pos (starEach es X.env)).any (·.1) = false := by rfl) :
    PMk X (.Call (.Name "NoFrame" p) (e :: es) [] pos) (tMkO (ga X.K "NoFrame") (LE.spNF (ga X.K "NoFrame")) [] ta) := by
  obtain ⟨f, fd, iC, tI, Y, b⟩ := M.I_NoFrame
  exact pmk_oex M.oex_NoFrame iC tI (LE.nf_ok (CX := CX0) Y M.z_super) hr b .nil (fun _ _ _ _ _ _ _ h => h.elim) hg M.g_NoFrame ha (by decide) he hpl
theorem mk_NF {σ : L2.St} {H : Hp} {te : TE} {f : V} {E : XK} (hf : Ev te σ H f) (h : XNF K f H E) : tMkO (ga K "NoFrame") (LE.spNF (ga K "NoFrame")) [] (tCons te tNil) σ H fun cls d H' => E cls d H' := by
  refine (ea_cons hf ea_nil) H (Ex.refl H) _ fun H1 e1 => ⟨show 1 ≤ 1000 by decide, fun a na => ⟨a, f, rfl, upd_same, fun dx nd hne => ⟨rfl, dx, [("frame", f)], upd_same, ?_, ?_, ?_⟩⟩⟩
  · rw [upd_ne hne, upd_same]
  · have := nd
    rw [upd_ne hne] at this; exact this
  · have nd1 : H1 dx = none := by
      have := nd
      rw [upd_ne hne] at this; exact this
    refine h dx _ (fresh_back e1 nd1) (e1.trans fun b o z => ?_) upd_same
    have hb : b ≠ dx := fun y => by rw [y, nd1] at z; cases z
    have ha : b ≠ a := fun y => by rw [y, na] at z; cases z
    rw [upd_ne hb, del_ne ha, upd_ne ha, upd_ne hb, upd_ne ha]; exact z
end
end LO
namespace LW
open PySem L2 PySem.Spec PyProof.Rows LG Evl LO LM
section
variable {K : PySem.W.Frag} {σ : L2.St} {H H' : Hp} {ta tb tc te tv : TE} {t tr : TA} {x y z v : V} {r : R2} {D : Ends} {tu tw tz : TS} {g : TG} {a C : Addr} {sp : Sp} {dv vs : List V} {E : XK}
/-- no value comes of it: an error is let out -/
def EvN (te : TE) (σ : L2.St) (H : Hp) : Prop := ∀ H1, Ex H H1 → ∀ Q : VK, te σ H1 Q
def EvAN (ta : TA) (σ : L2.St) (H : Hp) : Prop := ∀ H1, Ex H H1 → ∀ Q : List V → Hp → Prop, ta σ H1 Q
theorem en_call (ha : EvA t σ H vs) (hs : ∀ H1, Ex H H1 → ∀ Q, sp (vs ++ dv) H1 Q E) : EvN (tCall sp dv E t) σ H := fun H1 e Q => ha H1 e _ fun H2 e2 => hs H2 (e.trans e2) Q
theorem en_callA (ha : EvAN t σ H) : EvN (tCall sp dv E t) σ H := fun H1 e Q => ha H1 e _
theorem en_op2 (ha : Ev ta σ H x) (hb : EvN tb σ H) : EvN (tOp r ta tb) σ H := fun H1 e Q => ha H1 e _ fun H2 e2 => hb H2 (e.trans e2) _
theorem en_op1 (ha : EvN ta σ H) : EvN (tOp r ta tb) σ H := fun H1 e Q => ha H1 e _
theorem en_prop (ha : EvN ta σ H) : EvN (tProp C sp dv E ta) σ H := fun H1 e Q => ha H1 e _
theorem ean_1 (ha : EvN te σ H) : EvAN (tCons te tr) σ H := fun H1 e Q => ha H1 e _
theorem ean_2 (ha : Ev te σ H x) (hr : EvAN tr σ H) : EvAN (tCons te tr) σ H := fun H1 e Q => ha H1 e _ fun H2 e2 => hr H2 (e.trans e2) _
theorem en_cb {q : List V → Hp → VK → Prop} (ha : EvAN t σ H) : EvN (tCB q t) σ H := fun H1 e Q => ha H1 e _
theorem s_retX (h : EvN te σ H) : tRet te D σ H := h H (Ex.refl H) _
theorem q_asgX (h : EvN te σ H) : tSeq (tAsg te g) tz D σ H := h H (Ex.refl H) _
end
end LW

set_option Elab.async false
set_option linter.all false
set_option maxRecDepth 100000
set_option maxHeartbeats 4000000
namespace LO
open PySem PySem.Spec PyProof.Rows L2 LG LW LC LM Evl
section
variable {P : Program} {w : World} {K : PySem.W.Frag} {mg : Str → Option Value} {base : Heap}

/-! ### check_frame -/
def InF (f : Int) (fs : List Fr) : Prop := 0 ≤ f ∧ f < fs.length
def sp_check_frame (K : PySem.W.Frag) : Sp := fun vs H Q E => ∃ (x : Addr) (f : Int) (fs : List Fr) (L : List Pr), vs = [.ref x, .int f] ∧ TongueAt K H x fs L ∧ ((InF f fs ∧ ∀ H', Ex H H' → Q (.int f) H') ∨ (¬ InF f fs ∧ XNF K (.int f) H E))
abbrev n_check_frame : List Str := ["tongue", "frame"]
theorem sc_check_frame : FnScope n_check_frame ["tongue", "frame"] (defScope s_check_frame) := ⟨rfl, rfl, rfl, by decide +kernel, rfl, by decide +kernel, by decide +kernel⟩
theorem fn_check_frame (M : Mods P K mg base) : Fn P w K mg base (L2.CX P w) 3 "check_frame" ["tongue", "frame"] [] (sp_check_frame K) := by
  have nd := sc_check_frame.nd
  have h_is_whole := (fn_is_whole (w := w) M).up (show 1 ≤ 2 by decide)
  refine Fn.mk M.F_check_frame M.g_check_frame sc_check_frame (fun vs H Q E h => ?_) (fun fd F => F.bindsN fun _ _ _ _ _ _ us hl => match us, hl with | [_, _], _ => rfl) fun cdv A outer s H vs Q E hr h => ⟨_,
    (pss_cons (ps_if (pt_not (pt_val (pe_fn h_is_whole hr pass0 (pa_cons (pv 1) (pa_cons pe_int (pa_cons (pe_op op_sub (pe_callB call_len_seq rfl M.z_len LW.boot_len (pa_cons (pe_fld (pv 0) rfl) pa_nil)) pe_int) pa_nil)))))) (pss_one (ps_raise rfl (takes_of rfl rfl rfl rfl) (pmk_NF M (hr.mono (by decide)) (pa_cons (pv 1) pa_nil)))) pss_nil) (pss_one (ps_ret (pv 1)))), ?_⟩
  · obtain ⟨x, f, fs, L, rfl, _⟩ := h; rfl
  · obtain ⟨x, f, fs, L, rfl, ht, hQ⟩ := h
    obtain ⟨dx, ra, sa, fa, rl, cl, vb, ys, hx, hfa, hfs, _⟩ := ht
    have hlen : ys.length = fs.length := hfs.length
    have hw : Ev (tCall spWhole [] E0 (tCons (tVar 1) (tCons (tC (.int 0)) (tCons (tOp (rI0 fun i j => .int (i - j)) (tCB (rLenS K) (tCons (tFld K (tVar 0) "frames") tNil)) (tC (.int 1))) tNil)))) [some (.ref x), some (.int f)] H (.bl (wholeB (.int f) (some 0) (some ((ys.map V.ref).length - 1)))) :=
      ev_whole (lo := some 0) (hi := some ((ys.map V.ref).length - 1)) (ev_var rfl) ev_c (ev_op (ev_lenT (ev_fld (ev_var rfl) hx M.cls_Tongue M.no_Tongue_frames rfl) (st_of hfa)) ev_c rv_I0) rfl
    refine q_when (et_not (et_B hw)) (fun hb H1 e1 => ?_) fun hb H1 e1 => ?_
    · rcases hQ with ⟨⟨h0, h1⟩, _⟩ | ⟨_, hE⟩
      · rw [whole_in h0 (by rw [List.length_map, hlen]; omega)] at hb; cases hb
      · exact mk_NF (ev_var rfl) (hE.go e1)
    · rcases hQ with ⟨_, hQ⟩ | ⟨hn, _⟩
      · exact s_ret (ev_var rfl) fun H2 e2 => hQ H2 (e1.trans e2)
      · refine absurd ?_ hn
        have hb : wholeB (.int f) (some 0) (some ((ys.map V.ref).length - 1)) = true := by
          cases hw : wholeB (.int f) (some 0) (some (((ys.map V.ref).length : Int) - 1)) with
          | true => rfl
          | false => rw [hw] at hb; cases hb
        have hb : (decide ((0 : Int) ≤ f) && decide (f ≤ ((ys.map V.ref).length : Int) - 1)) = true := hb
        rw [Bool.and_eq_true, decide_eq_true_iff, decide_eq_true_iff, List.length_map, hlen] at hb
        exact ⟨hb.1, by omega⟩
/-! ### couples_within -/
def within (L : List Pr) (left : List Int) : List Pr := L.filter fun c => decide (c.1 ∈ left) && decide (c.2 ∈ left)
def sp_couples_within (K : PySem.W.Frag) : Sp := fun vs H Q _ => ∃ (x a : Addr) (fs : List Fr) (L : List Pr) (left : List Int), vs = [.ref x, .ref a] ∧ TongueAt K H x fs L ∧ L.length ≤ 36 ∧ H a = some (.tup (left.map V.int)) ∧ ∀ p H', Ex H H' → PTp H' p (within L left) → Q (.ref p) H'
def prZ : Addr × Pr → V := fun q => .ref q.1
abbrev n_couples_within : List Str := ["tongue", "left", "couple"]
theorem sc_couples_within : FnScope n_couples_within ["tongue", "left"] (defScope s_couples_within) := ⟨rfl, rfl, rfl, by decide +kernel, rfl, by decide +kernel, by decide +kernel⟩
theorem fn_couples_within (M : Mods P K mg base) : Fn P w K mg base CX0 1 "couples_within" ["tongue", "left"] [] (sp_couples_within K) := by
  have nd := sc_couples_within.nd
  refine Fn.mk0 M.F_couples_within M.g_couples_within sc_couples_within (fun vs H Q E h => ?_) (fun fd F => F.bindsN fun _ _ _ _ _ _ us hl => match us, hl with | [_, _], _ => rfl) fun cdv A outer s H vs Q E hr h => ⟨_,
    (pss_one (ps_ret (pe_callTy call_tuple_of rfl M.z_tuple LW.boot_tuple (pa_cons (pe_lc (own := [("couple", 2)]) rfl nd (pi_tup (pe_fld (pv 0) rfl)) (blkOk_by (N := n_couples_within) (sc := (defScope s_couples_within)) (by decide +kernel)) (fun _ _ _ _ _ => (pg_name (i := 2) nd rfl (.inl rfl))) (fun _ _ _ _ _ => (pts_one (PW.pt (pw_and (pt_cmpR (show OpR _ _ (rIn K false) from op_in_seq) (pe_ix (show IxR _ (rIxT K) from ix_tup) (pv 2) pe_int (fun _ _ => rfl)) (pv 1) rfl) (pw_and1 (pt_cmpR (show OpR _ _ (rIn K false) from op_in_seq) (pe_ix (show IxR _ (rIxT K) from ix_tup) (pv 2) pe_int (fun _ _ => rfl)) (pv 1) rfl)))))) (fun _ _ _ _ _ => (pv 2))) pa_nil)))), ?_⟩
  · obtain ⟨x, a, fs, L, left, rfl, _⟩ := h; rfl
  · obtain ⟨x, a, fs, L, left, rfl, ht, h36, ha, hQ⟩ := h
    obtain ⟨dx, ra, sa, fa, rl, cl, vb, ys, hx, hfa, hfs, ps, hcl, hps⟩ := ht
    obtain ⟨z1, z2, z3⟩ := paired_zip hps
    have hq' : SqT K H cl ((ps.zip L).map prZ) := by
      have : (ps.zip L).map prZ = ps.map V.ref := by
        have := congrArg (List.map V.ref) z1
        rw [List.map_map] at this; exact this
      rw [this]; exact st_of hcl
    have hlen : (ps.zip L).length = L.length := by have := congrArg List.length z2; rw [List.length_map] at this; exact this
    have ix : ∀ (z : Addr × Pr), z ∈ ps.zip L → ∀ H1, Ex H H1 → ∀ σ, σ[2]? = some (some (prZ z)) → Ev (tOp (rIxT K) (tVar 2) (tC (.int 0))) σ H1 (.int z.2.1) ∧ Ev (tOp (rIxT K) (tVar 2) (tC (.int 1))) σ H1 (.int z.2.2) := fun z hz H1 e σ hs => by
      have g := st_of (K := K) (e _ _ (z3 z hz))
      exact ⟨ev_op (ev_var hs) ev_c (rv_ixT g rfl), ev_op (ev_var hs) ev_c (rv_ixT g rfl)⟩
    refine s_retU (eu_tupN (el_lcT (as := ps.zip L) (F := prZ) (p := fun q => decide (q.2.1 ∈ left) && decide (q.2.2 ∈ left)) (g := prZ) (ev_fld (ev_var rfl) hx M.cls_Tongue M.no_Tongue_closure rfl) hq' (by omega) (fun _ => rfl) (fun z H1 e hz => ?_) fun z H1 e hz _ => ev_var rfl)) fun p H1 hp e h1 => hQ p H1 e ?_
    · have hL := st_of (K := K) (e _ _ ha)
      refine et_and (et_op (x := .int z.2.1) (y := .ref a) ?_ (ev_var rfl) ?_) fun _ => et_op (x := .int z.2.2) (y := .ref a) ?_ (ev_var rfl) ?_
      · exact (ix z hz H1 e _ rfl).1
      · have hr := rv_isT (K := K) (x := .int z.2.1) hL rfl ints_flat
        rw [inV_ints] at hr; exact hr
      · exact (ix z hz H1 e _ rfl).2
      · have hr := rv_isT (K := K) (x := .int z.2.2) hL rfl ints_flat
        rw [inV_ints] at hr; exact hr
    · refine ⟨((ps.zip L).filter fun q => decide (q.2.1 ∈ left) && decide (q.2.2 ∈ left)).map (·.1), by rw [h1, List.map_map]; rfl, ?_⟩
      have hw : within L left = ((ps.zip L).filter fun q => decide (q.2.1 ∈ left) && decide (q.2.2 ∈ left)).map (·.2) := by
        unfold within
        conv => lhs; rw [← z2]
        rw [List.filter_map]; rfl
      rw [hw]
      exact paired_of _ _ _ fun q hq => e _ _ (z3 q (List.mem_filter.mp hq).1)
/-! ### slots_of -/
def FsOk (fs : List Fr) : Prop := ∀ f ∈ fs, NounsOk f.ns
def sp_slots_of (K : PySem.W.Frag) : Sp := fun vs H Q E => ∃ (x : Addr) (f : Int) (fs : List Fr) (L : List Pr), vs = [.ref x, .int f] ∧ TongueAt K H x fs L ∧ FsOk fs ∧ ((∃ (j : Nat) (fr : Fr), f = (j : Int) ∧ fs[j]? = some fr ∧ ∀ p H', Ex H H' → H' p = some (.tup (fr.slots.map V.int)) → Q (.ref p) H') ∨ (¬ InF f fs ∧ XNF K (.int f) H E))
abbrev n_slots_of : List Str := ["tongue", "frame"]
theorem sc_slots_of : FnScope n_slots_of ["tongue", "frame"] (defScope s_slots_of) := ⟨rfl, rfl, rfl, by decide +kernel, rfl, by decide +kernel, by decide +kernel⟩
theorem fn_slots_of (M : Mods P K mg base) : Fn P w K mg base (L2.CX P w) 4 "slots_of" ["tongue", "frame"] [] (sp_slots_of K) := by
  have nd := sc_slots_of.nd
  have h_slots := (fn_Frame_slots (w := w) M).up (show 1 ≤ 2 by decide)
  have h_check_frame := (fn_check_frame (w := w) M).up (show 3 ≤ 3 by decide)
  refine Fn.mk M.F_slots_of M.g_slots_of sc_slots_of (fun vs H Q E h => ?_) (fun fd F => F.bindsN fun _ _ _ _ _ _ us hl => match us, hl with | [_, _], _ => rfl) fun cdv A outer s H vs Q E hr h => ⟨_,
    (pss_one (ps_ret (pe_callTy call_tuple_of rfl M.z_tuple LW.boot_tuple (pa_cons (pe_propE h_slots M.cls_Frame hr (by decide) (pe_ix ix_tup (pe_fld (pv 0) rfl) (pe_fn h_check_frame hr (passes_call (takes_of rfl rfl rfl rfl) (fun _ _ _ _ h => h)) (pa_cons (pv 0) (pa_cons (pv 1) pa_nil))) (fun _ _ => rfl)) rfl) pa_nil)))), ?_⟩
  · obtain ⟨x, f, fs, L, rfl, _⟩ := h; rfl
  · obtain ⟨x, f, fs, L, rfl, ht, hok, hQ⟩ := h
    rcases hQ with ⟨j, fr, rfl, hj, hQ⟩ | ⟨hn, hE⟩
    · obtain ⟨hlt, _⟩ := List.getElem?_eq_some_iff.mp hj
      obtain ⟨dx, ra, sa, fa, rl, cl, vb, ys, hx, hfa, hfs, hcl⟩ := id ht
      have hlen : ys.length = fs.length := hfs.length
      have hy : j < ys.length := by omega
      obtain ⟨fr', hf', hft⟩ := paired_at hfs (List.getElem?_eq_getElem hy)
      rw [hj] at hf'; cases hf'
      obtain ⟨dx2, q, hx2, hq⟩ := id hft
      have hok2 := hok fr (List.mem_of_getElem? hj)
      refine s_retP (P := fun v H' => ∃ p, v = .ref p ∧ H' p = some (.tup (fr.slots.map V.int))) (fun H1 e1 Q q => ?_) fun v H1 e1 hv => ?_
      · refine ep_prop (C := ga K "Frame") (a := ys[j]) (P := fun v H' => ∃ p, v = .ref p ∧ H' p = some (.tup (fr.slots.map V.int))) (ev_op (ev_fld (ev_var rfl) (e1 _ _ hx) M.cls_Tongue M.no_Tongue_frames rfl) (ev_fn (z := .int (j : Int)) (ea_cons (ev_var rfl) (ea_cons (ev_var rfl) ea_nil)) fun H2 e2 Q E q => ⟨x, _, fs, L, rfl, ht.ex (e1.trans e2), .inl ⟨⟨by omega, by omega⟩, q⟩⟩) (rv_ixT (st_of (e1 _ _ hfa)) (atI_nat (by rw [List.getElem?_map, List.getElem?_eq_getElem hy]; rfl)))) (e1 _ _ hx2) (fun H2 e2 Q E q => ⟨ys[j], fr.name, fr.ns, fr.cl, fr.ag, rfl, FrameAt.ex (e1.trans e2) hft, hok2, fun p H3 e3 h3 => q _ H3 e3 ⟨p, rfl, h3⟩⟩) H1 (Ex.refl H1) _ fun v H2 e2 hv => ?_
        obtain ⟨p, rfl, hp⟩ := hv
        exact ⟨p, _, rfl, .inr ⟨st_of hp, q _ H2 e2 ⟨p, rfl, hp⟩⟩⟩
      · obtain ⟨p, rfl, hp⟩ := hv
        exact hQ p H1 e1 hp
    · obtain ⟨dx, ra, sa, fa, rl, cl, vb, ys, hx, hfa, hfs, hcl⟩ := id ht
      exact s_retX (en_cb (ean_1 (en_prop (en_op2 (ev_fld (ev_var rfl) hx M.cls_Tongue M.no_Tongue_frames rfl) (en_call (ea_cons (ev_var rfl) (ea_cons (ev_var rfl) ea_nil)) fun H2 e2 Q => ⟨x, f, fs, L, rfl, ht.ex e2, .inr ⟨hn, hE.go e2⟩⟩)))))
end
end LO

set_option Elab.async false
set_option linter.all false
set_option maxRecDepth 100000
set_option maxHeartbeats 4000000
namespace LM
open LG
theorem rowsN_eq (cs : List Pr) : ∀ (d e : Nat) (left : List Int), left.length ≤ d → left.length ≤ e → rowsN d left cs = rowsN e left cs
  | 0, e, left, hd, _ => by
    have : left = [] := List.length_eq_zero_iff.mp (Nat.le_zero.mp hd)
    subst this
    cases e with
    | zero => rfl
    | succ e => rfl
  | d + 1, 0, left, _, he => by
    have : left = [] := List.length_eq_zero_iff.mp (Nat.le_zero.mp he)
    subst this
    rfl
  | d + 1, e + 1, left, hd, he => by
    show _ ++ _ = _ ++ _
    congr 1
    have : ∀ r ∈ left, (if isFirst left cs r then (rowsN d (without left r) cs).map (r :: ·) else []) = (if isFirst left cs r then (rowsN e (without left r) cs).map (r :: ·) else []) := fun r hr => by
      have := without_lt hr
      rw [rowsN_eq cs d e (without left r) (by omega) (by omega)]
    rw [List.flatMap_def, List.flatMap_def, List.map_congr_left this]
def rows (left : List Int) (cs : List Pr) : List (List Int) := rowsN left.length left cs
def cnt (left : List Int) (cs : List Pr) : Int := (rows left cs).length
theorem cnt_nil (cs : List Pr) : cnt [] cs = 1 := rfl
theorem rows_step {left : List Int} {cs : List Pr} (h : left ≠ []) : rows left cs = left.flatMap fun r => if isFirst left cs r then (rows (without left r) cs).map (r :: ·) else [] := by
  unfold rows
  obtain ⟨n, hn⟩ : ∃ n, left.length = n + 1 := ⟨left.length - 1, by have := List.length_pos_iff.mpr h; omega⟩
  rw [hn]
  show (if left = [] then [[]] else []) ++ _ = _
  rw [if_neg h, List.nil_append, List.flatMap_def, List.flatMap_def]
  congr 1
  refine List.map_congr_left fun r hr => ?_
  have := without_lt hr
  rw [rowsN_eq cs n (without left r).length (without left r) (by omega) (Nat.le_refl _)]
def part (left : List Int) (cs : List Pr) (r : Int) : Int := if isFirst left cs r then cnt (without left r) cs else 0
theorem cnt_step {left : List Int} {cs : List Pr} (h : left ≠ []) : cnt left cs = (left.map (part left cs)).sum := by
  unfold cnt
  rw [rows_step h]
  have key : ∀ l : List Int, ((l.flatMap fun r => if isFirst left cs r then (rows (without left r) cs).map (r :: ·) else []).length : Int) = (l.map (part left cs)).sum := by
    intro l
    induction l with
    | nil => rfl
    | cons r l ih =>
      rw [List.flatMap_cons, List.length_append, List.map_cons, List.sum_cons, ← ih, Int.natCast_add]
      congr 1
      unfold part
      by_cases hf : isFirst left cs r
      · rw [if_pos hf, if_pos hf, List.length_map]; rfl
      · rw [if_neg hf, if_neg hf]; rfl
  exact key left
def capF : Nat → Nat
  | 0 => 0
  | n + 1 => 1 + (n + 1) * capF n
end LM
namespace LW
open PySem L2 PySem.Spec PyProof.Rows LG Evl LO LM
section
variable {K : PySem.W.Frag} {σ : L2.St} {H H' : Hp} {ta tb tl td tk te tv ty : TE} {x y z v : V} {D : Ends} {tz : TS} {a d : Addr} {xs : List V} {l : List Int} {kvs : List (List Key × V)}
def kI (l : List Int) : List Key := l.map Sum.inl
theorem kI_map (l : List Int) : (kI l).map kV = l.map V.int := by
  unfold kI
  rw [List.map_map]; rfl
theorem kI_inj {l m : List Int} (h : kI l = kI m) : l = m := by
  unfold kI at h
  exact List.map_inj_right (fun x y z => by injection z) |>.mp h
theorem ev_dgetT (hd : Ev td σ H (.ref d)) (hk : Ev ty σ H (.ref a)) (h1 : H d = some (.dT kvs)) (h2 : H a = some (.tup (l.map V.int))) (hv : valV kvs (kI l) = some v) : Ev (tDGet td ty) σ H v := fun H1 e Q q =>
  hd H1 e _ fun H2 e2 => hk H2 (e.trans e2) _ fun H3 e3 => ⟨d, v, rfl, by rw [← hv]; exact DGet.t ((e.trans (e2.trans e3)) _ _ h1) (by rw [kI_map]; exact (e.trans (e2.trans e3)) _ _ h2), q H3 (e2.trans e3)⟩
theorem et_dnotinT (hd : Ev td σ H (.ref d)) (hk : Ev ty σ H (.ref a)) (h1 : H d = some (.dT kvs)) (h2 : H a = some (.tup (l.map V.int))) : EvT (tB (tDNotIn ty td)) σ H (!(valV kvs (kI l)).isSome) := fun H1 e Q q =>
  hk H1 e _ fun H2 e2 => hd H2 (e.trans e2) _ fun H3 e3 => ⟨d, _, rfl, DGet.t (k := kI l) ((e.trans (e2.trans e3)) _ _ h1) (by rw [kI_map]; exact (e.trans (e2.trans e3)) _ _ h2), ⟨_, rfl, q H3 (e2.trans e3)⟩⟩
theorem s_dputT (hv : Ev tv σ H v) (hd : Ev td σ H (.ref d)) (hk : Ev ty σ H (.ref a)) (h1 : H d = some (.dT kvs)) (h2 : H a = some (.tup (l.map V.int))) (hz : kvs.length < 100000) (k : ∀ H1, Ex H H1 → D.nx σ (upd H1 d (.dT (putK kvs (kI l) v)))) : sDPut td ty tv D σ H :=
  hv H (Ex.refl H) _ fun H1 e1 => hd H1 e1 _ fun H2 e2 => hk H2 (e1.trans e2) _ fun H3 e3 => ⟨d, _, rfl, DPut.t (k := kI l) (((e1.trans e2).trans e3) _ _ h1) (by rw [kI_map]; exact ((e1.trans e2).trans e3) _ _ h2) (sz_lt hz), k H3 ((e1.trans e2).trans e3)⟩
/-- n += a call that changes more than its answer -/
theorem s_augW {i : Nat} {f : Int → Int → Int} {n : Int} (hx : σ[i]? = some (some (.int n))) (h : te σ H fun v H1 => ∃ b, v = .int b ∧ D.nx (σ.set i (some (.int (f n b)))) H1) : tAug i te (ipI f) D σ H :=
  ⟨.int n, hx, by
    have : (fun (v : V) (H1 : Hp) => ∃ b, v = V.int b ∧ D.nx (σ.set i (some (.int (f n b)))) H1) = fun y H1 => ipI f (.int n) y H1 fun z H2 => D.nx (σ.set i (some z)) H2 := by
      funext v H1
      apply propext
      constructor
      · rintro ⟨b, rfl, q⟩
        exact ⟨n, b, rfl, rfl, q⟩
      · rintro ⟨n', b, e1, rfl, q⟩
        cases e1
        exact ⟨b, rfl, q⟩
    rw [← this]; exact h⟩
end
end LW

set_option Elab.async false
set_option linter.all false
set_option maxRecDepth 100000
set_option maxHeartbeats 4000000
namespace LO
open PySem PySem.Spec PyProof.Rows L2 LG LW LC LM Evl
section
variable {P : Program} {w : World} {K : PySem.W.Frag} {mg : Str → Option Value} {base : Heap}

/-! ### count_from -/
def Known (cs : List Pr) (kvs : List (List Key × V)) : Prop := ∀ l v, valV kvs (kI l) = some v → v = .int (cnt l cs)
theorem Known.put {cs : List Pr} {kvs : List (List Key × V)} {l : List Int} (h : Known cs kvs) : Known cs (putK kvs (kI l) (.int (cnt l cs))) := fun m v hv => by
  rw [valV_put] at hv
  by_cases e : kI m = kI l
  · rw [if_pos e] at hv
    rw [kI_inj e]
    exact (Option.some.inj hv).symm
  · rw [if_neg e] at hv
    exact h m v hv
def sp_count (n : Nat) : Sp := fun vs H Q _ => ∃ (a b d : Addr) (left : List Int) (cs : List Pr) (kvs : List (List Key × V)), vs = [.ref a, .ref b, .ref d] ∧ H a = some (.tup (left.map V.int)) ∧ PTp H b cs ∧ H d = some (.dT kvs) ∧ Known cs kvs ∧ left.length ≤ n ∧ n ≤ 900 ∧ kvs.length + capF n ≤ 90000 ∧
  ∀ kvs' H', Ex (del H d) H' → H' d = some (.dT kvs') → Known cs kvs' → kvs'.length ≤ kvs.length + capF n → Q (.int (cnt left cs)) H'
def spRec (n : Nat) : Sp := fun vs H Q E => ∃ m, n = m + 1 ∧ sp_count m vs H Q E
abbrev n_count_from : List Str := ["left", "couples", "known", "total", "role"]
theorem sc_count_from : FnScope n_count_from ["left", "couples", "known"] (defScope s_count_from) := ⟨rfl, rfl, rfl, by decide +kernel, rfl, by decide +kernel, by decide +kernel⟩
theorem step_count_from (M : Mods P K mg base) (n : Nat) (hrec : Fn P w K mg base CX0 (n + 1) "count_from" ["left", "couples", "known"] [] (spRec n)) : Fn P w K mg base CX0 (n + 2) "count_from" ["left", "couples", "known"] [] (sp_count n) := by
  have nd := sc_count_from.nd
  have h_is_first := (fn_is_first (w := w) M).up (show 1 ≤ n + 1 by omega)
  have h_without_role := (fn_without_role (w := w) M).up (show 1 ≤ n + 1 by omega)
  refine Fn.mk0 M.F_count_from M.g_count_from sc_count_from (fun vs H Q E h => ?_) (fun fd F => F.bindsN fun _ _ _ _ _ _ us hl => match us, hl with | [_, _, _], _ => rfl) fun cdv A outer s H vs Q E hr h => ⟨_,
    (pss_cons (ps_if (pt_not (pt_truth (pv 0) (by intro _; rfl))) (pss_one (ps_ret pe_int)) pss_nil) (pss_cons (ps_if (pt_cmp (pc_dnotin (hu_of hr) (pv 0) (pv 2))) (pss_cons (ps_set (i := 3) nd rfl (.inl rfl) pe_int) (pss_cons (ps_for PassesOwn.never rfl (pi_tup (pv 0)) (pg_name (i := 4) nd rfl (.inl rfl)) (pss_one (ps_if (pt_val (pe_fn h_is_first hr pass0 (pa_cons (pv 0) (pa_cons (pv 1) (pa_cons (pv 4) pa_nil))))) (pss_one (ps_aug (i := 3) nd rfl (.inl rfl) (pe_fn hrec hr pass0 (pa_cons (pe_fn h_without_role hr pass0 (pa_cons (pv 0) (pa_cons (pv 4) pa_nil))) (pa_cons (pv 1) (pa_cons (pv 2) pa_nil)))) ip_add)) pss_nil))) (pss_one (ps_dput (hu_of hr) (pv 2) (pv 0) (pv 3) rfl)))) pss_nil) (pss_one (ps_ret (pe_dget (hu_of hr) (pv 2) (pv 0) (fun _ _ => rfl)))))), ?_⟩
  · obtain ⟨a, b, d, left, cs, kvs, rfl, _⟩ := h; rfl
  · obtain ⟨a, b, d, left, cs, kvs, rfl, ha, hb, hd, hk, hn, h900, hz, hQ⟩ := h
    refine q_when (et_not (et_truT (ev_var rfl) (st_of ha))) (fun he H1 e1 => ?_) fun he H1 e1 => ?_
    · have hl : left = [] := by
        cases left with
        | nil => rfl
        | cons x l => cases he
      subst hl
      exact s_ret ev_c fun H2 e2 => hQ kvs H2 (del_ex (e1.trans e2)) ((e1.trans e2) _ _ hd) hk (Nat.le_add_right _ _)
    have hl : left ≠ [] := by
      intro z
      subst z
      cases he
    obtain ⟨m, rfl⟩ : ∃ m, n = m + 1 := ⟨n - 1, by have := List.length_pos_iff.mpr hl; omega⟩
    have hcap : capF (m + 1) = 1 + (m + 1) * capF m := rfl
    have ad : ∀ {o}, H a = some o → a ≠ d := fun h z => by rw [z, hd] at ha; cases ha
    have fin : ∀ (H' : Hp) (kvs' : List (List Key × V)) (v3 v4 : Option V), Ex (del H d) H' → H' d = some (.dT kvs') → Known cs kvs' → kvs'.length ≤ kvs.length + capF (m + 1) → (valV kvs' (kI left)).isSome = true →
        tRet (tDGet (tVar 2) (tVar 0)) { nx := fun _ H' => Q .non H', rt := Q } [some (.ref a), some (.ref b), some (.ref d), v3, v4] H' := fun H' kvs' v3 v4 f1 f2 f3 f4 f5 => by
      obtain ⟨v, hv⟩ := Option.isSome_iff_exists.mp f5
      have hvc := f3 left v hv
      subst hvc
      have ha' : H' a = some (.tup (left.map V.int)) := f1 _ _ (by rw [del_ne (ad ha)]; exact ha)
      exact s_ret (ev_dgetT (ev_var rfl) (ev_var rfl) f2 ha' hv) fun H2 e2 => hQ kvs' H2 (f1.trans e2) (e2 _ _ f2) f3 f4
    have hd1 := e1 _ _ hd
    have k0 : Ex (del H d) H1 := del_ex e1
    refine q_when (et_dnotinT (l := left) (ev_var rfl) (ev_var rfl) hd1 (e1 _ _ ha)) (fun hin H2 e2 => ?_) fun hin H2 e2 => ?_
    · refine q_asg (v := .int 0) ev_c fun H3 e3 => ?_
      have k3 : Ex (del H d) H3 := (k0.trans e2).trans e3
      refine q_forTn (xs := left.map V.int) (ev_var rfl) (st_of (e3 _ _ (e2 _ _ (e1 _ _ ha)))) (fun i σ' H' => ∃ (v4 : Option V) (kvs' : List (List Key × V)), σ' = [some (.ref a), some (.ref b), some (.ref d), some (.int (((left.take i).map (part left cs)).sum)), v4] ∧ Ex (del H d) H' ∧ H' d = some (.dT kvs') ∧ Known cs kvs' ∧ kvs'.length ≤ kvs.length + i * capF m)
        (fun H4 e4 => ⟨none, kvs, rfl, k3.trans e4, e4 _ _ (e3 _ _ (e2 _ _ hd1)), hk, by omega⟩) (fun i σ' H' _ h => ?_) (fun i x σ' H' hx h => ?_) (fun σ' H' h => ?_)
      · obtain ⟨_, _, _, e, _⟩ := h
        exact st_of (e _ _ (by rw [del_ne (ad ha)]; exact ha))
      · obtain ⟨v4, kvs', rfl, e, hd', hk', hz'⟩ := h
        rw [List.getElem?_map] at hx
        cases hr' : left[i]? with
        | none => rw [hr'] at hx; cases hx
        | some r =>
        rw [hr'] at hx; cases hx
        obtain ⟨hi, _⟩ := List.getElem?_eq_some_iff.mp hr'
        have hmem := List.mem_of_getElem? hr'
        have ha' : H' a = some (.tup (left.map V.int)) := e _ _ (by rw [del_ne (ad ha)]; exact ha)
        have hb' : PTp H' b cs := by
          obtain ⟨ps, h1, h2⟩ := hb
          have up : ∀ c xs, H c = some (.tup xs) → H' c = some (.tup xs) := fun c xs z => e _ _ (del_in z hd (fun y => by cases y))
          exact ⟨ps, up _ _ h1, Paired.mapP h2 fun _ _ z => up _ _ z⟩
        have hsum : ((left.take (i + 1)).map (part left cs)).sum = ((left.take i).map (part left cs)).sum + part left cs r := by
          rw [List.take_succ, hr', List.map_append, List.sum_append]
          show _ + (part left cs r + 0) = _
          omega
        have hmul : (i + 1) * capF m = i * capF m + capF m := Nat.succ_mul _ _
        have hle : (i + 1) * capF m ≤ (m + 1) * capF m := Nat.mul_le_mul_right _ (by omega)
        refine s_when (b := isFirst left cs r) (et_B (ev_fn (z := .bl (isFirst left cs r)) (ea_cons (ev_var rfl) (ea_cons (ev_var rfl) (ea_cons (ev_var rfl) ea_nil))) fun H4 e4 Q E q => ⟨a, b, left, cs, r, rfl, st_of (e4 _ _ ha'), (hb'.ex e4).pt, q⟩)) (fun hf H4 e4 => ?_) (fun hf H4 e4 => ?_)
        · refine s_augW rfl ?_
          have hw : EvU (tCall (spWithout K) [] E0 (tCons (tVar 0) (tCons (tVar 4) tNil))) [some (.ref a), some (.ref b), some (.ref d), some (.int (((left.take i).map (part left cs)).sum)), some (.int r)] H4 ((without left r).map V.int) := fun H5 e5 Q q =>
            (ea_cons (ev_var rfl) (ea_cons (ev_var rfl) ea_nil) : EvA (tCons (tVar 0) (tCons (tVar 4) tNil)) [some (.ref a), some (.ref b), some (.ref d), some (.int (((left.take i).map (part left cs)).sum)), some (.int r)] H5 [.ref a, .int r]) H5 (Ex.refl H5) _ fun H6 e6 =>
              ⟨a, left, r, rfl, st_of (e6 _ _ (e5 _ _ (e4 _ _ ha'))), by omega, fun H7 p e7 n7 h7 => q p H7 (fresh_back e6 n7) (e6.trans e7) h7⟩
          refine hw H4 (Ex.refl H4) _ fun p H5 np e5 hp => ?_
          refine (ea_cons (ev_var rfl) (ea_cons (ev_var rfl) ea_nil) : EvA (tCons (tVar 1) (tCons (tVar 2) tNil)) [some (.ref a), some (.ref b), some (.ref d), some (.int (((left.take i).map (part left cs)).sum)), some (.int r)] H5 [.ref b, .ref d]) H5 (Ex.refl H5) _ fun H6 e6 => ?_
          have e46 : Ex H' H6 := (e4.trans e5).trans e6
          refine ⟨m, rfl, p, b, d, without left r, cs, kvs', rfl, e6 _ _ hp, hb'.ex e46, e46 _ _ hd', hk', ?_, by omega, ?_, fun kvs2 H7 e7 hd7 hk7 hz7 => ⟨_, rfl, some (.int r), kvs2, ?_, ?_, hd7, hk7, ?_⟩⟩
          · have := without_lt hmem; omega
          · omega
          · rw [hsum]
            unfold LM.part
            rw [if_pos hf]; rfl
          · exact Ex.trans (ex_del (e.trans e46) del_same) e7
          · omega
        · refine ⟨some (.int r), kvs', ?_, e.trans e4, e4 _ _ hd', hk', by omega⟩
          rw [hsum]
          unfold LM.part
          rw [if_neg (by rw [hf]; exact Bool.false_ne_true), Int.add_zero]; rfl
      · obtain ⟨v4, kvs', rfl, e, hd', hk', hz'⟩ := h
        rw [List.length_map, List.take_length] at *
        have ha' : H' a = some (.tup (left.map V.int)) := e _ _ (by rw [del_ne (ad ha)]; exact ha)
        have hle : left.length * capF m ≤ (m + 1) * capF m := Nat.mul_le_mul_right _ (by omega)
        rw [← cnt_step hl]
        refine s_dputT (l := left) (ev_var rfl) (ev_var rfl) (ev_var rfl) hd' ha' (by omega) fun H4 e4 => ?_
        refine fin _ (putK kvs' (kI left) (.int (cnt left cs))) _ _ (del_upd (e.trans e4)) upd_same hk'.put ?_ (by rw [valV_put, if_pos rfl]; rfl)
        have := length_putK kvs' (kI left) (.int (cnt left cs))
        omega
    · refine fin _ kvs _ _ (k0.trans e2) (e2 _ _ hd1) hk (Nat.le_add_right _ _) ?_
      cases hv : (valV kvs (kI left)).isSome with
      | true => rfl
      | false => rw [hv] at hin; cases hin
theorem Fn.no {ps : List Str} {x : Str} {j k : Nat} {sp sp' : Sp} (F : ∃ f fd ds, Binds K fd ps ds ∧ Vals [] ds ∧ mg x = some (.ref f) ∧ PySem.W.keepIn K (.ref f) = true) (h : ∀ vs H Q E, ¬ sp vs H Q E) : Fn P w K mg base CX0 k x ps [] sp := by
  obtain ⟨f, fd, ds, h1, h2, h3, h4⟩ := F
  exact ⟨f, fd, ds, ⟨fun vs H Q E z => absurd z (h vs H Q E), fun A outer s H args us vs Q E _ _ _ _ z => absurd z (h vs H Q E)⟩, h3, h4, h1, h2⟩
theorem fn_count_from (M : Mods P K mg base) : ∀ n, Fn P w K mg base CX0 (n + 2) "count_from" ["left", "couples", "known"] [] (sp_count n)
  | 0 => by
    refine step_count_from M 0 (Fn.no (j := 0) (sp' := spRec 0) ?_ fun vs H Q E h => by obtain ⟨m, h, _⟩ := h; cases h)
    obtain ⟨fd, F⟩ := M.F_count_from
    exact ⟨_, fd, [], F.bindsN fun _ _ _ _ _ _ us hl => match us, hl with | [_, _, _], _ => rfl, .nil, M.g_count_from, F.kp⟩
  | n + 1 => step_count_from M (n + 1) (Fn.imp (fn_count_from M n) fun vs H Q E h => by
      obtain ⟨m, h1, h2⟩ := h
      cases h1
      exact h2)
end
end LO

set_option Elab.async false
set_option linter.all false
set_option maxRecDepth 100000
set_option maxHeartbeats 4000000
namespace LW
open PySem L2 PySem.Spec PyProof.Rows LG Evl LO LM LC
section
variable {K : PySem.W.Frag} {σ : L2.St} {H H' : Hp} {ta tb tl te : TE} {wi : TI} {t : TT} {α : Type} {as : List α} {F : α → V} {p : α → Bool} {g : α → V}
theorem lc_it {J : It} {xs : List V} {g : TG} {tt : TT} {te : TE} {vs : List Nat} {σ : L2.St} {H1 : Hp} {D : Addr} {Qd : Hp → Prop} (Pv : Nat → Hp → Prop) (h0 : Pv 0 (upd H1 D (.lst []))) (hl : ∀ i H, i ≤ xs.length → Pv i H → IsIt J xs H)
    (hs : ∀ i x H, xs[i]? = some x → Pv i H → g x (wipe σ vs) H fun σ2 H2 => wipe σ2 vs = wipe σ vs ∧ tt σ2 H2 fun b H3 =>
      if b = true then te σ2 H3 fun y H4 => ∃ acc, H4 D = some (.lst acc) ∧ acc.length < sizeLine ∧ Pv (i + 1) (upd H4 D (.lst (acc ++ [y]))) else Pv (i + 1) H3) (hd : ∀ H, Pv xs.length H → Qd H) :
    ∃ W : Nat → Nat → Hp → Prop, (∃ m, W 0 m (upd H1 D (.lst []))) ∧ ∀ i m H, W i m H →
      (J.stop i H ∧ Qd H) ∨ (J.go i H ∧ ∃ Nx : Hp → Prop, (∀ H', Nx H' → ∃ m', m' < m ∧ W (i + 1) m' H') ∧ ∀ x H', J.yld i H x H' → g x (wipe σ vs) H' fun σ2 H2 => wipe σ2 vs = wipe σ vs ∧ tt σ2 H2 fun b H3 =>
        if b = true then te σ2 H3 fun y H4 => ∃ acc, H4 D = some (.lst acc) ∧ acc.length < sizeLine ∧ Nx (upd H4 D (.lst (acc ++ [y]))) else Nx H3) := by
  refine ⟨fun i m H => m = xs.length - i ∧ i ≤ xs.length ∧ Pv i H, ⟨xs.length, by simp, Nat.zero_le _, h0⟩, ?_⟩
  rintro i m H ⟨rfl, hi, p⟩
  obtain ⟨j1, j2, j3⟩ := hl i H hi p
  by_cases hlt : i < xs.length
  · refine .inr ⟨j1 i xs[i] (List.getElem?_eq_getElem hlt), Pv (i + 1), fun H' p' => ⟨xs.length - (i + 1), by omega, rfl, hlt, p'⟩, fun x H' y => ?_⟩
    obtain ⟨rfl, hxy⟩ := j2 i x H' y
    exact hs i x _ hxy p
  · have e : i = xs.length := by omega
    subst e
    exact .inl ⟨j3 _ (Nat.le_refl _), hd H p⟩
/-- [e for x in .. if ..], over what ItV tells -/
theorem el_lcV {j : Nat} {vs : List Nat} (ho : ItV wi σ H (as.map F)) (hz : as.length ≤ 40000) (hw : ∀ x, wipe ((wipe σ vs).set j (some x)) vs = wipe σ vs)
    (ht : ∀ x H1, Ex H H1 → x ∈ as → EvT t ((wipe σ vs).set j (some (F x))) H1 (p x)) (he : ∀ x H1, Ex H H1 → x ∈ as → p x = true → Ev te ((wipe σ vs).set j (some (F x))) H1 (g x)) : EvL (tLc wi (gName j) t te vs) σ H ((as.filter p).map g) := fun H0 e Q q =>
  ho H0 e _ fun J H1 e1 hJ Dl hD => lc_it (xs := as.map F) (Cz H1 (accOf as p g) Dl) ⟨hD, Ex.new hD, upd_same⟩ (fun i H' _ c => hJ H' (.of c.2.1))
    (fun i x H' hi c => by
      rw [List.getElem?_map] at hi
      cases ha : as[i]? with
      | none => rw [ha] at hi; cases hi
      | some b =>
        rw [ha] at hi; cases hi
        have hm := List.mem_of_getElem? ha
        exact ⟨hw _, cz_turn c (by omega) ha (ht b H1 (e.trans e1) hm) (fun hf => he b H1 (e.trans e1) hm hf)⟩)
    (fun H' c => q Dl H' (fresh_back e1 c.1) (e1.trans c.2.1) (by rw [← acc_all, ← List.length_map (f := F)]; exact c.2.2))
end
section
variable {X : Cx}
/-- t.index(y), flat items -/
def rIndexT (K : PySem.W.Frag) : V → List V → Hp → VK → Prop := fun x xs H Q => ∃ (a : Addr) (ys : List V) (y : V) (j : Nat) (z : V), x = V.ref a ∧ xs = [y] ∧ SqT K H a ys ∧ flatV y = true ∧ ys.all flatV = true ∧ ys[j]? = some z ∧ eqV z y = true ∧
  (∀ (m : Nat) (z' : V), m < j → ys[m]? = some z' → eqV z' y = false) ∧ Q (.int (j : Nat)) H
theorem mt_indexT : MtR X "tuple.index" (rIndexT X.K) := by
  intro pins s σ H x xs v us Q I rx rxs h
  obtain ⟨a, ys, y, j, z, rfl, rfl, hs, fy, fys, hz, hzj, hno, q⟩ := h
  cases rx
  cases rxs with
  | cons ry rt =>
    rename_i uy ut
    cases rt
    obtain ⟨its, rv, pl, hlen⟩ := I.tuple hs
    obtain ⟨⟨cls, dd, dt, sl⟩, ho, hc, n, hd⟩ := pl
    simp only at hc hd
    subst hc hd
    obtain ⟨u, hu, ru⟩ := rv.get hz
    obtain ⟨hjl, hje⟩ := List.getElem?_eq_some_iff.mp hu
    have hvl := rv.length
    have hj : j < its.toArray.size := by simpa using hjl
    refine call_meets PySem.F.slot_tuple_index ⟨_, ho, rfl⟩ PySem.F.entry_tuple_index (PySem.F.args_tuple_index_2 _ _)
      (TI.tuple_indexAt a its.toArray n dd sl uy (eqU y) j hj ?_ ?_) ⟨ho, fun u' hu' => mem_eqAt ry fy rv fys u' (by simpa using hu'), ?_⟩
    · have e1 : its.toArray[j] = u := by simpa using hje
      rw [e1, eqU_of ru (flat_at fys hz)]
      exact hzj
    · intro m hm hmj
      have hml : m < its.length := by simpa using hm
      have hmy : m < ys.length := by omega
      have hy' : ys[m]? = some ys[m] := List.getElem?_eq_getElem hmy
      obtain ⟨u2, hu2, ru2⟩ := rv.get hy'
      obtain ⟨_, hme⟩ := List.getElem?_eq_some_iff.mp hu2
      have e1 : its.toArray[m] = u2 := by simpa using hme
      rw [e1, eqU_of ru2 (flat_at fys hy')]
      exact hno m _ hmj hy'
    · exact ⟨.int (j : Nat), H, I.tok _, ⟨_, rfl⟩, q⟩
end
end LW

set_option Elab.async false
set_option linter.all false
set_option maxRecDepth 100000
set_option maxHeartbeats 4000000
namespace LM
def idx (c : Int) : List Int → Nat
  | [] => 0
  | x :: l => if x = c then 0 else idx c l + 1
theorem idx_at {c : Int} : ∀ {l : List Int}, c ∈ l → l[idx c l]? = some c
  | x :: l, h => by
    unfold idx
    by_cases e : x = c
    · rw [if_pos e, e]; rfl
    · rw [if_neg e, List.getElem?_cons_succ]
      rcases List.mem_cons.mp h with h | h
      · exact absurd h.symm e
      · exact idx_at h
theorem idx_no {c : Int} : ∀ {l : List Int} {m : Nat} {z : Int}, m < idx c l → l[m]? = some z → z ≠ c
  | [], m, z, h, _ => by cases h
  | x :: l, m, z, h, hz => by
    unfold idx at h
    by_cases e : x = c
    · rw [if_pos e] at h; cases h
    · rw [if_neg e] at h
      cases m with
      | zero => cases hz; exact e
      | succ m => exact idx_no (l := l) (m := m) (by omega) (by rw [List.getElem?_cons_succ] at hz; exact hz)
end LM
namespace LW
open PySem L2 PySem.Spec PyProof.Rows LG Evl LO LM LC
/-- a tuple whose object is known: it has no dict -/
def FzT (H : Hp) (a : Addr) (xs : List V) : Prop := ∃ ob : Obj, H a = some (.frz ob (.tup xs)) ∧ ob.dict = none ∧ ob.cls = .type "tuple"
theorem FzT.ex {H H' : Hp} {a : Addr} {xs : List V} (e : Ex H H') (h : FzT H a xs) : FzT H' a xs := by
  obtain ⟨ob, h1, h2⟩ := h
  exact ⟨ob, e _ _ h1, h2⟩
theorem FzT.st {K : PySem.W.Frag} {H : Hp} {a : Addr} {xs : List V} (h : FzT H a xs) : SqT K H a xs := by
  obtain ⟨ob, h1, _⟩ := h
  exact .inl (.inr ⟨ob, h1⟩)
/-- a list, a tuple, a tuple whose object is known -/
def SqB (H : Hp) (a : Addr) (xs : List V) : Prop := H a = some (.lst xs) ∨ H a = some (.tup xs) ∨ FzT H a xs
theorem SqB.ex {H H' : Hp} {a : Addr} {xs : List V} (e : Ex H H') (h : SqB H a xs) : SqB H' a xs := h.elim (fun h => .inl (e _ _ h)) fun h => .inr (h.elim (fun h => .inl (e _ _ h)) fun h => .inr (h.ex e))
theorem SqB.sq {K : PySem.W.Frag} {H : Hp} {a : Addr} {xs : List V} (h : SqB H a xs) : SqL K H a xs ∨ SqT K H a xs := h.elim (fun h => .inl (sq_of h)) fun h => .inr (h.elim st_of FzT.st)
/-- a row: a list, or a tuple whose object is known -/
def RowA (H : Hp) (a : Addr) (xs : List V) : Prop := H a = some (.lst xs) ∨ FzT H a xs
theorem RowA.ex {H H' : Hp} {a : Addr} {xs : List V} (e : Ex H H') (h : RowA H a xs) : RowA H' a xs := h.elim (fun h => .inl (e _ _ h)) fun h => .inr (h.ex e)
theorem RowA.b {H : Hp} {a : Addr} {xs : List V} (h : RowA H a xs) : SqB H a xs := h.elim .inl fun h => .inr (.inr h)
section
variable {K : PySem.W.Frag} {σ : L2.St} {H H' : Hp} {ta tb tl te to : TE} {a : Addr} {xs : List V}
theorem any_tupK : PySem.W.kitAny K (.type "tuple") [.type "list", .type "tuple"] = some true := any_tup
theorem isi_seqB (hx : Ev ta σ H (.ref a)) (h : SqB H a xs) : Ev (tIsSeq K ta) σ H (.bl true) := by
  rcases h with h | h | ⟨ob, h, _⟩
  · exact ev_isiT hx ev_c ev_c (.ty "list") (.ty "tuple") (.base (.lst h)) any_lst
  · exact ev_isiT hx ev_c ev_c (.ty "list") (.ty "tuple") (.base (.tup h)) any_tup
  · exact ev_isiT hx ev_c ev_c (.ty "list") (.ty "tuple") (.fTuple h) any_tup
theorem any_flat {x : V} (h : flat4 x = true) : PySem.W.kitAny K (.type (tyN x)) [.type "list", .type "tuple"] = some false := by
  have k : ∀ c : String, (c = "list" ∨ c = "tuple") → kitB (tyN x) c = some false := fun c hc => by
    have kb : ∀ d : String, (d = "bool" ∨ d = "int" ∨ d = "NoneType" ∨ d = "str") → kitB d c = some false := by
      intro d hd
      rcases hc with rfl | rfl <;> rcases hd with rfl | rfl | rfl | rfl <;> decide +kernel
    cases x with
    | bl b => exact kb _ (.inl rfl)
    | int i => exact kb _ (.inr (.inl rfl))
    | non => exact kb _ (.inr (.inr (.inl rfl)))
    | str z => exact kb _ (.inr (.inr (.inr rfl)))
    | _ => cases h
  exact kitAny_cons (kit_ty (k "list" (.inl rfl))) (fun _ => kitAny_cons (kit_ty (k "tuple" (.inr rfl))) (fun _ => rfl) fun h => by cases h) fun h => by cases h
theorem isi_flat {x : V} (hx : Ev ta σ H x) (h : flat4 x = true) : Ev (tIsSeq K ta) σ H (.bl false) := ev_isiT hx ev_c ev_c (.ty "list") (.ty "tuple") (tyx_flat h) (any_flat h)
theorem ev_lenB (hx : Ev ta σ H (.ref a)) (h : SqB H a xs) : Ev (tLen K ta) σ H (.int (xs.length : Int)) := by
  rcases h.sq (K := K) with h | h
  · exact ev_len hx h
  · exact ev_lenT hx h
theorem it_frz {ob : Obj} (h : Ev tl σ H (.ref a)) (hx : H a = some (.frz ob (.tup xs))) : ∀ H1, Ex H H1 → ∀ R : It → Hp → Prop, (∀ J H2, Ex H1 H2 → (∀ H', Ex H2 H' → IsIt J xs H') → R J H2) → iTup K tl σ H1 R := fun H1 e R k =>
  h H1 e _ fun H2 e2 => ⟨a, rfl, ⟨xs, .inl (.inr ⟨ob, (e.trans e2) _ _ hx⟩)⟩, k _ H2 e2 fun H' e' => isT (.inl (.inr ⟨ob, (((e.trans e2).trans e') _ _ hx)⟩))⟩
/-- an iteration, the heap only growing -/
def ItE (wi : TI) (σ : L2.St) (H : Hp) (xs : List V) : Prop := ∀ H1, Ex H H1 → ∀ R : It → Hp → Prop, (∀ J H2, Ex H1 H2 → (∀ H', Ex H2 H' → IsIt J xs H') → R J H2) → wi σ H1 R
theorem ItV.e {wi : TI} (h : ItV wi σ H xs) : ItE wi σ H xs := fun H1 e R k => h H1 e R fun J H2 e2 hJ => k J H2 e2 fun H' e' => hJ H' (.of e')
theorem ie_seqB (h : Ev tl σ H (.ref a)) (hx : SqB H a xs) : ItE (iOr (iList K tl) (iTup K tl)) σ H xs := fun H1 e R k => by
  rcases hx with hx | hx | ⟨ob, hx, _⟩
  · exact .inl ((it_list h hx).e H1 e R k)
  · exact .inr ((it_tup h hx).e H1 e R k)
  · exact .inr (it_frz h hx H1 e R k)
theorem el_lcE {wi : TI} {t : TT} {α : Type} {as : List α} {F : α → V} {p : α → Bool} {g : α → V} {j : Nat} {vs : List Nat} (ho : ItE wi σ H (as.map F)) (hz : as.length ≤ 40000) (hw : ∀ x, wipe ((wipe σ vs).set j (some x)) vs = wipe σ vs)
    (ht : ∀ x H1, Ex H H1 → x ∈ as → EvT t ((wipe σ vs).set j (some (F x))) H1 (p x)) (he : ∀ x H1, Ex H H1 → x ∈ as → p x = true → Ev te ((wipe σ vs).set j (some (F x))) H1 (g x)) : EvL (tLc wi (gName j) t te vs) σ H ((as.filter p).map g) := fun H0 e Q q =>
  ho H0 e _ fun J H1 e1 hJ Dl hD => lc_it (xs := as.map F) (Cz H1 (accOf as p g) Dl) ⟨hD, Ex.new hD, upd_same⟩ (fun i H' _ c => hJ H' c.2.1)
    (fun i x H' hi c => by
      rw [List.getElem?_map] at hi
      cases ha : as[i]? with
      | none => rw [ha] at hi; cases hi
      | some b =>
        rw [ha] at hi; cases hi
        have hm := List.mem_of_getElem? ha
        exact ⟨hw _, cz_turn c (by omega) ha (ht b H1 (e.trans e1) hm) (fun hf => he b H1 (e.trans e1) hm hf)⟩)
    (fun H' c => q Dl H' (fresh_back e1 c.1) (e1.trans c.2.1) (by rw [← acc_all, ← List.length_map (f := F)]; exact c.2.2))
end
section
variable {X : Cx}
/-- tuple(l), the new tuple's object known -/
def rTupF (K : PySem.W.Frag) : List V → Hp → VK → Prop := fun xs H Q => ∃ p ys, xs = [.ref p] ∧ SqL K H p ys ∧ ∀ l ob, H l = none → ob.dict = none → ob.cls = Value.type "tuple" → Q (.ref l) (upd H l (.frz ob (.tup ys)))
theorem call_tupleF : CallR X (.type "tuple") (rTupF X.K) := by
  intro pins s σ H xs us Q I r h
  obtain ⟨p, ys, rfl, hq, q⟩ := h
  obtain ⟨u, rfl, rx⟩ := vals1 r
  cases rx
  obtain ⟨its, r', pl, hz⟩ := I.list hq
  have hlen := r'.length
  refine call_tuple_list pl.isList (fun h' kp => ?_) (by simp only [List.size_toArray] <;> omega)
  have I1 : Inv X pins σ H { s with heap := h' } := I.kept (t' := s.toks) kp
  have I2 : Inv X pins σ (upd H h'.objs.size (.frz { cls := .type "tuple", data := .seq its.toArray } (.tup ys))) { s with heap := h'.push { cls := .type "tuple", data := .seq its.toArray } } :=
    I1.laid (t' := s.toks) (fun b o e => Heap.get?_push_of_some _ e) (Nat.le_refl _) (show ObjOk X.prog X.w _ _ _ (.frz _ (.tup ys)) from ⟨Heap.get?_push_size _ rfl, hz, its, r', IsTup.new _ _⟩)
  exact ⟨.ref h'.objs.size, _, I2, rfl, q _ _ (I1.hok.fresh (Nat.le_refl _)) rfl rfl⟩
/-- a method of such a tuple -/
def tBMF (r : V → List V → Hp → VK → Prop) (to : TE) (t : TA) : TE := fun σ H Q => to σ H fun x H1 => (∃ a xs, x = .ref a ∧ FzT H1 a xs) ∧ t σ H1 fun xs H2 => r x xs H2 Q
theorem pe_bmF {o e : Expr} {es : List Expr} {to : TE} {t : TA} {name : Str} {apos cpos : Pos} {id : String} {r : V → List V → Hp → VK → Prop} (pa : PlainAttrs "tuple") (slot : Slot "tuple" name id) (hty : typeOf (.builtin id) = pure (.type "method_descriptor")) (hm : MtR X id r) (ho : PE X o to) (ha : PA X (e :: es) t)
    (hbase : attributeBase o name X.env (eval o X.env) = eval o X.env := by rfl)
    (hfew : ((backTo cpos (starEach (e :: es) X.env)).all (fun x => !x.1) && (backToKw cpos (keywordEach [] X.env)).all (fun x => x.1.isSome)
      && decide ((e :: es).length + ([] : List Keyword).length + (if ([] : List Keyword).isEmpty then 0 else 1) < 30)) = true := by rfl)
    (hline : (apos.endLine == cpos.line) = true := by rfl) (hs : starEach (e :: es) X.env = (false, eval e X.env) :: starEach es X.env := by rfl) (hplain : (backTo cpos (starEach es X.env)).any (·.1) = false := by rfl) :
    PE X (.Call (.Attribute o name apos) (e :: es) [] cpos) (tBMF r to t) := by
  refine ⟨fun pins s σ H Q I h => ?_⟩
  refine wpAny_Call_method_late hbase hfew hline rfl (thn (ho.run pins s σ H _ I h) fun v s1 ⟨x, H1, I1, r1, ty, q1⟩ => ?_)
  have h12 : s1.TypeIs v "tuple" ∧ ∀ a, v = .ref a → ∃ ob, s1.heap.get? a = some ob ∧ ob.dict = none := by
    obtain ⟨a, xs, rfl, ob, h1, h2, h3⟩ := ty
    cases r1
    obtain ⟨hg, _⟩ := I1.hok a _ h1
    exact ⟨⟨ob, hg, h3⟩, fun b e => by cases e; exact ⟨ob, hg, h2⟩⟩
  refine ⟨"tuple", id, pa, slot, hty, h12.1, h12.2, ?_⟩
  have hA := ha.run cpos pins s1 σ H1 _ I1 q1
  rw [hs] at hA ⊢
  refine Calls.callWith_builtin (by show (false || (backTo cpos (starEach es X.env)).any (·.1)) = false; rw [hplain] <;> rfl) (Calls.evalArgs_plain ?_)
  exact thn hA fun us s2 ⟨vs, H2, I2, r2, q2⟩ => hm pins s2 σ H2 x vs v us Q I2 r1 r2 q2
end
section
variable {K : PySem.W.Frag} {σ : L2.St} {H : Hp} {to te : TE} {a : Addr} {row : List Int} {c : Int}
theorem ev_index (ho : Ev to σ H (.ref a)) (he : Ev te σ H (.int c)) (h : RowA H a (row.map V.int)) (hc : c ∈ row) : Ev (tOrE (tBM K "list" (rIndex K) to (tCons te tNil)) (tBMF (rIndexT K) to (tCons te tNil))) σ H (.int (idx c row : Nat)) := fun H1 e Q q => by
  have hj : (row.map V.int)[idx c row]? = some (.int c) := by rw [List.getElem?_map, idx_at hc]; rfl
  have hno : ∀ (m : Nat) (z' : V), m < idx c row → (row.map V.int)[m]? = some z' → eqV z' (.int c) = false := fun m z' hm hz => by
    rw [List.getElem?_map] at hz
    cases hr : row[m]? with
    | none => rw [hr] at hz; cases hz
    | some z =>
      rw [hr] at hz; cases hz
      exact beq_eq_false_iff_ne.mpr (idx_no hm hr)
  have hbe : eqV (.int c) (.int c) = true := beq_self_eq_true c
  rcases h with h | h
  · refine .inl (ho H1 e _ fun H2 e2 => ⟨.inl ⟨rfl, _, sq_of ((e.trans e2) _ _ h)⟩, (ea_cons he ea_nil) H2 (e.trans e2) _ fun H3 e3 => ?_⟩)
    exact ⟨a, _, .int c, idx c row, .int c, rfl, rfl, sq_of (((e.trans e2).trans e3) _ _ h), rfl, ints_flat, hj, hbe, hno, q H3 (e2.trans e3)⟩
  · refine .inr (ho H1 e _ fun H2 e2 => ⟨⟨a, _, rfl, h.ex (e.trans e2)⟩, (ea_cons he ea_nil) H2 (e.trans e2) _ fun H3 e3 => ?_⟩)
    exact ⟨a, _, .int c, idx c row, .int c, rfl, rfl, (h.ex ((e.trans e2).trans e3)).st, rfl, ints_flat, hj, hbe, hno, q H3 (e2.trans e3)⟩
end
end LW

set_option Elab.async false
set_option linter.all false
set_option maxRecDepth 100000
set_option maxHeartbeats 4000000
namespace LO
open PySem PySem.Spec PyProof.Rows L2 LG LW LC LM Evl
section
variable {P : Program} {w : World} {K : PySem.W.Frag} {mg : Str → Option Value} {base : Heap}

/-! ### keeps_rules -/
def keepsB (row : List Int) (cs : List Pr) : Bool := cs.all fun c => decide (idx c.1 row ≤ idx c.2 row)
def sp_keeps_rules : Sp := fun vs H Q _ => ∃ (r b : Addr) (row : List Int) (cs : List Pr), vs = [.ref r, .ref b] ∧ RowA H r (row.map V.int) ∧ PTp H b cs ∧ (∀ c ∈ cs, c.1 ∈ row ∧ c.2 ∈ row) ∧ ∀ H', Ex H H' → Q (.bl (keepsB row cs)) H'
abbrev n_keeps_rules : List Str := ["row", "rules", "ahead", "behind"]
theorem sc_keeps_rules : FnScope n_keeps_rules ["row", "rules"] (defScope s_keeps_rules) := ⟨rfl, rfl, rfl, by decide +kernel, rfl, by decide +kernel, by decide +kernel⟩
theorem fn_keeps_rules (M : Mods P K mg base) : Fn P w K mg base CX0 1 "keeps_rules" ["row", "rules"] [] sp_keeps_rules := by
  have nd := sc_keeps_rules.nd
  refine Fn.mk0 M.F_keeps_rules M.g_keeps_rules sc_keeps_rules (fun vs H Q E h => ?_) (fun fd F => F.bindsN fun _ _ _ _ _ _ us hl => match us, hl with | [_, _], _ => rfl) fun cdv A outer s H vs Q E hr h => ⟨_,
    (pss_cons (ps_for PassesOwn.never rfl (pi_tup (pv 1)) (pg_tup rfl (pgs_cons (pg_name (i := 2) nd rfl (.inl rfl)) (pgs_cons (pg_name (i := 3) nd rfl (.inl rfl)) pgs_nil))) (pss_one (ps_if (pt_cmpR op_gt (pe_or2 (pe_bm PySem.F.plainAttrs_list PySem.F.slot_list_index PySem.F.type_list_index mt_index (pv 0) (pa_cons (pv 2) pa_nil)) (pe_bmF PySem.F.plainAttrs_tuple PySem.F.slot_tuple_index PySem.F.type_tuple_index mt_indexT (pv 0) (pa_cons (pv 2) pa_nil))) (pe_or2 (pe_bm PySem.F.plainAttrs_list PySem.F.slot_list_index PySem.F.type_list_index mt_index (pv 0) (pa_cons (pv 3) pa_nil)) (pe_bmF PySem.F.plainAttrs_tuple PySem.F.slot_tuple_index PySem.F.type_tuple_index mt_indexT (pv 0) (pa_cons (pv 3) pa_nil))) (nomark _)) (pss_one (ps_ret pe_bl)) pss_nil))) (pss_one (ps_ret pe_bl))), ?_⟩
  · obtain ⟨r, b, row, cs, rfl, _⟩ := h; rfl
  · obtain ⟨r, b, row, cs, rfl, hr', ⟨ps, hb, hps⟩, hin, hQ⟩ := h
    have hlen : ps.length = cs.length := hps.length
    refine q_forT (ev_var rfl) (st_of hb) (fun i σ' H' => ∃ v2 v3, σ' = [some (.ref r), some (.ref b), v2, v3] ∧ Ex H H' ∧ (cs.take i).all (fun c => decide (idx c.1 row ≤ idx c.2 row)) = true) (fun H1 e => ⟨none, none, rfl, e, rfl⟩) (fun i σ' H' _ h => ?_) (fun i x σ' H' hx h => ?_) (fun σ' H' h => ?_)
    · obtain ⟨_, _, _, e, _⟩ := h
      exact st_of (e _ _ hb)
    · obtain ⟨v2, v3, rfl, e, hall⟩ := h
      rw [List.getElem?_map] at hx
      cases hq : ps[i]? with
      | none => rw [hq] at hx; cases hx
      | some q =>
      rw [hq] at hx; cases hx
      obtain ⟨c, hc, hpc⟩ := paired_at hps hq
      obtain ⟨i1, i2⟩ := hin c (List.mem_of_getElem? hc)
      refine g_pair (e _ _ hpc) ?_
      show tIfS _ _ _ _ [some (.ref r), some (.ref b), some (.int c.1), some (.int c.2)] H'
      refine s_when (b := decide ((idx c.2 row : Int) < (idx c.1 row : Int))) (et_op (ev_index (ev_var rfl) (ev_var rfl) (hr'.ex e) i1) (ev_index (ev_var rfl) (ev_var rfl) (hr'.ex e) i2) rv_I0) (fun hb H1 e1 => ?_) (fun hb H1 e1 => ?_)
      · refine s_ret ev_c fun H2 e2 => ?_
        have : keepsB row cs = false := by
          refine Bool.eq_false_iff.mpr fun z => ?_
          have := of_decide_eq_true (List.all_eq_true.mp z c (List.mem_of_getElem? hc))
          have := of_decide_eq_true hb
          omega
        have q := hQ H2 ((e.trans e1).trans e2)
        rw [this] at q; exact q
      · refine ⟨_, _, rfl, e.trans e1, ?_⟩
        rw [List.take_succ, hc, List.all_append, hall]
        have := of_decide_eq_false hb
        simp; omega
    · obtain ⟨v2, v3, rfl, e, hall⟩ := h
      rw [List.length_map, hlen, List.take_length] at hall
      refine s_ret ev_c fun H2 e2 => ?_
      have q := hQ H2 (e.trans e2)
      rw [show keepsB row cs = true from hall] at q; exact q
/-! ### is_row_of -/
/-- what may be asked for a row -/
inductive Thing where
  | flat (x : V)
  | seq (xs : List V)
def ThAt (H : Hp) (v : V) : Thing → Prop
  | .flat x => v = x ∧ flat4 x = true
  | .seq xs => ∃ a, v = .ref a ∧ SqB H a xs ∧ xs.length ≤ 1000 ∧ ∀ x ∈ xs, flat4 x = true
theorem ThAt.ex {H H' : Hp} {v : V} {t : Thing} (e : Ex H H') (h : ThAt H v t) : ThAt H' v t := by
  cases t with
  | flat x => exact h
  | seq xs =>
    obtain ⟨a, h1, h2, h3⟩ := h
    exact ⟨a, h1, h2.ex e, h3⟩
def isIntB (r : Int) (x : V) : Bool := wholeB x none none && decide (x = .int r)
def rowB (left : List Int) : Thing → Bool
  | .flat _ => false
  | .seq xs => decide (xs.length = left.length) && left.all fun r => xs.any (isIntB r)
def sp_is_row_of : Sp := fun vs H Q _ => ∃ (v : V) (a : Addr) (t : Thing) (left : List Int), vs = [v, .ref a] ∧ ThAt H v t ∧ H a = some (.tup (left.map V.int)) ∧ ∀ H', Ex H H' → Q (.bl (rowB left t)) H'
theorem filt_any {α : Type} (l : List α) (p : α → Bool) (g : α → V) : ((l.filter p).map g).isEmpty = !l.any p := by
  cases h : l.any p with
  | true =>
    obtain ⟨x, hx, hp⟩ := List.any_eq_true.mp h
    have hm : x ∈ l.filter p := List.mem_filter.mpr ⟨hx, hp⟩
    cases hf : l.filter p with
    | nil => rw [hf] at hm; cases hm
    | cons y m => rfl
  | false =>
    have : l.filter p = [] := List.filter_eq_nil_iff.mpr fun x hx hp => by
      rw [List.any_eq_true.mpr ⟨x, hx, hp⟩] at h; cases h
    rw [this]; rfl
abbrev n_is_row_of : List Str := ["thing", "left", "role", "entry"]
theorem sc_is_row_of : FnScope n_is_row_of ["thing", "left"] (defScope s_is_row_of) := ⟨rfl, rfl, rfl, by decide +kernel, rfl, by decide +kernel, by decide +kernel⟩
theorem fn_is_row_of (M : Mods P K mg base) : Fn P w K mg base CX0 2 "is_row_of" ["thing", "left"] [] sp_is_row_of := by
  have nd := sc_is_row_of.nd
  have h_is_whole1 := (fn_is_whole1 (w := w) M).up (show 1 ≤ 1 by decide)
  refine Fn.mk0 M.F_is_row_of M.g_is_row_of sc_is_row_of (fun vs H Q E h => ?_) (fun fd F => F.bindsN fun _ _ _ _ _ _ us hl => match us, hl with | [_, _], _ => rfl) fun cdv A outer s H vs Q E hr h => ⟨_,
    (pss_cons (ps_if (PW.pt (pw_or (pt_not (pt_val (pe_callB call_isiT rfl M.z_isinstance LW.boot_isinstance (pa_cons (pv 0) (pa_cons (pe_tup (pa_cons (pe_bltn (v := .ty "list") rfl M.z_list LW.boot_list rfl) (pa_cons (pe_bltn (v := .ty "tuple") rfl M.z_tuple LW.boot_tuple rfl) pa_nil))) pa_nil))))) (pw_or1 (pt_cmpR op_ne (pe_callB call_len_seq rfl M.z_len LW.boot_len (pa_cons (pv 0) pa_nil)) (pe_callB call_len_seq rfl M.z_len LW.boot_len (pa_cons (pv 1) pa_nil)) (nomark _))))) (pss_one (ps_ret pe_bl)) pss_nil) (pss_cons (ps_for PassesOwn.never rfl (pi_tup (pv 1)) (pg_name (i := 2) nd rfl (.inr rfl)) (pss_one (ps_if (pt_not (pt_truth (pe_lc (own := [("entry", 3)]) rfl nd (pi_or (pi_list (pv 0)) (pi_tup (pv 0))) (blkOk_by (N := n_is_row_of) (sc := (defScope s_is_row_of)) (by decide +kernel)) (fun _ _ _ _ _ => (pg_name (i := 3) nd rfl (.inl rfl))) (fun _ _ _ _ _ => (pts_one (PW.pt (pw_and (pt_val (pe_fn h_is_whole1 hr pass0 (pa_cons (pv 3) pa_nil))) (pw_and1 (pt_cmpR op_eq (pv 3) (pv 2) (nomark _))))))) (fun _ _ _ _ _ => pe_bl)) (by intro _; rfl))) (pss_one (ps_ret pe_bl)) pss_nil))) (pss_one (ps_ret pe_bl)))), ?_⟩
  · obtain ⟨v, a, t, left, rfl, _⟩ := h; rfl
  · obtain ⟨v, a, t, left, rfl, ht, ha, hQ⟩ := h
    cases t with
    | flat x =>
      obtain ⟨rfl, hf⟩ := ht
      exact q_when (b := true) (et_or (a := true) (b := true) (et_not (et_B (isi_flat (ev_var rfl) hf))) fun z => by cases z) (fun _ H1 e1 => s_ret ev_c fun H2 e2 => hQ H2 (e1.trans e2)) fun z => by cases z
    | seq xs =>
      obtain ⟨p, rfl, hp, hz, hfl⟩ := ht
      refine q_when (b := !decide ((xs.length : Int) = (left.map V.int).length)) (et_is (et_or (a := false) (b := !decide (V.int (xs.length : Int) = V.int ((left.map V.int).length : Int))) (et_not (et_B (isi_seqB (ev_var rfl) hp))) fun _ => et_op (ev_lenB (ev_var rfl) hp) (ev_lenT (ev_var rfl) (st_of ha)) (rv_ne rfl)) ?_) (fun hb H1 e1 => ?_) fun hb H1 e1 => ?_
      · by_cases hc : (xs.length : Int) = ((left.map V.int).length : Int)
        · rw [decide_eq_true hc, hc, decide_eq_true rfl]; rfl
        · rw [decide_eq_false hc, decide_eq_false (fun z => hc (V.int.inj z))]; rfl
      · refine s_ret ev_c fun H2 e2 => ?_
        have : rowB left (.seq xs) = false := by
          show (decide (xs.length = left.length) && _) = false
          rw [decide_eq_false]; rfl
          intro z
          rw [List.length_map, z, decide_eq_true rfl] at hb; cases hb
        have q := hQ H2 (e1.trans e2)
        rw [this] at q; exact q
      · have hlen : xs.length = left.length := by
          by_cases hc : (xs.length : Int) = ((left.map V.int).length : Int)
          · rw [List.length_map] at hc; omega
          · rw [decide_eq_false hc] at hb; cases hb
        refine q_forTn (ev_var rfl) (st_of (e1 _ _ ha)) (fun i σ' H' => ∃ v2, σ' = [some (.ref p), some (.ref a), v2, none] ∧ Ex H H' ∧ (left.take i).all (fun r => xs.any (isIntB r)) = true) (fun H2 e2 => ⟨none, rfl, e1.trans e2, rfl⟩) (fun i σ' H' _ h => ?_) (fun i x σ' H' hx h => ?_) (fun σ' H' h => ?_)
        · obtain ⟨_, _, e, _⟩ := h
          exact st_of (e _ _ ha)
        · obtain ⟨v2, rfl, e, hall⟩ := h
          rw [List.getElem?_map] at hx
          cases hr' : left[i]? with
          | none => rw [hr'] at hx; cases hx
          | some r =>
          rw [hr'] at hx; cases hx
          have hcomp : EvL (tLc (iOr (iList K (tVar 0)) (iTup K (tVar 0))) (gName 3) (tAnd (tB (tCall spWhole [.non, .non] E0 (tCons (tVar 3) tNil))) (tTest (tOp rEq (tVar 3) (tVar 2)))) (tC (.bl true)) [3]) [some (.ref p), some (.ref a), some (.int r), none] H' ((xs.filter (isIntB r)).map fun _ => V.bl true) :=
            el_lcE (as := xs) (F := fun x => x) (by rw [List.map_id']; exact ie_seqB (ev_var rfl) (hp.ex e)) (by omega) (fun _ => rfl) (fun x H1 e1 hx => ?_) fun x H1 e1 hx _ => ev_c
          · refine s_when (b := !xs.any (isIntB r)) (et_is (et_not (et_truN hcomp)) (by rw [filt_any, Bool.not_not])) (fun hb H1 e1 => ?_) (fun hb H1 e1 => ?_)
            · refine s_ret ev_c fun H2 e2 => ?_
              have : rowB left (.seq xs) = false := by
                show (decide (xs.length = left.length) && _) = false
                rw [Bool.and_eq_false_iff]
                refine .inr (Bool.eq_false_iff.mpr fun z => ?_)
                have := List.all_eq_true.mp z r (List.mem_of_getElem? hr')
                rw [this] at hb; cases hb
              have q := hQ H2 ((e.trans e1).trans e2)
              rw [this] at q; exact q
            · refine ⟨_, rfl, e.trans e1, ?_⟩
              rw [List.take_succ, hr', List.all_append, hall]
              have : xs.any (isIntB r) = true := by
                cases hx : xs.any (isIntB r) with
                | true => rfl
                | false => rw [hx] at hb; cases hb
              simp [this]
          · show EvT _ _ H1 (wholeB x none none && decide (x = .int r))
            refine et_and (et_B (ev_whole1 (ev_var rfl) (hfl x hx))) fun hw => et_op (ev_var rfl) (ev_var rfl) (rv_eq ?_)
            cases x with
            | int i => rfl
            | bl b => cases hw
            | non => cases hw
            | str z => cases hw
            | _ => cases hw
        · obtain ⟨v2, rfl, e, hall⟩ := h
          rw [List.length_map, List.take_length] at hall
          refine s_ret ev_c fun H2 e2 => ?_
          have : rowB left (.seq xs) = true := by
            show (decide (xs.length = left.length) && _) = true
            rw [decide_eq_true hlen, hall]; rfl
          have q := hQ H2 (e.trans e2)
          rw [this] at q; exact q
end
end LO

set_option Elab.async false
set_option linter.all false
set_option maxRecDepth 100000
set_option maxHeartbeats 4000000
namespace LO
open PySem PySem.Spec PyProof.Rows L2 LG LW LC LM Evl
section
variable {P : Program} {w : World} {K : PySem.W.Frag} {mg : Str → Option Value} {base : Heap}
/-! ### NoOrder.__init__ -/
def sp_NoOrder_init (K : PySem.W.Frag) : Sp := fun vs H Q _ => ∃ a : Addr, vs = [.ref a] ∧ H a = some (exo a (ga K "NoOrder") none) ∧ Q .non H
abbrev n_NoOrder_init : List Str := ["self"]
theorem sc_NoOrder_init : FnScope n_NoOrder_init ["self"] (defScope s_NoOrder_init) := ⟨rfl, rfl, rfl, by decide +kernel, rfl, by decide +kernel, by decide +kernel⟩
theorem fn_NoOrder_init (M : Mods P K mg base) : ∃ f fd, PySem.W.findIn K (.ref (ga K "NoOrder")) "__init__" = some (some (.ref f)) ∧ PySem.W.typeIn K (.ref f) = some (.type "function") ∧ FnOk P w K mg base CX0 1 f fd ["self"] (sp_NoOrder_init K) ∧ Binds K fd ["self"] [] := by
  obtain ⟨f, iC, tI, fd, F⟩ := M.I_NoOrder
  obtain ⟨mc, cr, hf⟩ := M.base_NoOrder
  refine ⟨f, fd, iC, tI, ?_, F.bindsN fun _ _ _ _ _ _ us hl => match us, hl with | [_], _ => rfl⟩
  refine F.ok sc_NoOrder_init (fun vs H Q E h => ?_) fun cdv A outer s H vs Q E hr h => ⟨_, PSs.nox
    (pss_one (ps_expr (LE.pe_binit rfl M.g_TongueError cr hf (pa_cons (pv 0) (pa_cons pe_str pa_nil))))), ?_⟩
  · obtain ⟨a, rfl, _⟩ := h; rfl
  · obtain ⟨a, rfl, ha, hq⟩ := h
    exact ⟨.ref a, rfl, a, ga K "NoOrder", [.str "no order of this frame"], rfl, show 1 ≤ 1000 by decide, M.oex_NoOrder, ha, hq⟩
end
section
variable {X : Cx} {p pos : Pos}
theorem pmk_NO (M : Mods X.prog X.K X.mg X.base) (hr : Room 2 X.A) (hg : Gl X "NoOrder" := by rfl) : PMk X (.Call (.Name "NoOrder" p) [] [] pos) (LE.tMk0 (ga X.K "NoOrder") (sp_NoOrder_init X.K)) := by
  obtain ⟨f, fd, iC, tI, F, b⟩ := fn_NoOrder_init (w := X.w) M
  exact LE.pmk_oex0 M.oex_NoOrder iC tI F hr b (fun _ _ _ _ _ _ _ h => h.elim) hg M.g_NoOrder
theorem mk_NO {K : PySem.W.Frag} {σ : L2.St} {H : Hp} {E : XK} (h : XNO K H E) : LE.tMk0 (ga K "NoOrder") (sp_NoOrder_init K) σ H fun cls d H' => E cls d H' := fun a na =>
  ⟨a, rfl, upd_same, rfl, upd_same, h _ fun b o z => by
    have hb : b ≠ a := fun y => by rw [y, na] at z; cases z
    rw [del_ne hb, upd_ne hb]; exact z⟩
end
end LO
namespace LW
open PySem L2 PySem.Spec PyProof.Rows LG Evl LO LM LC
section
variable {K : PySem.W.Frag} {σ : L2.St} {H H' : Hp} {te : TE} {t tr : TA} {x y z v : V} {D : Ends} {tz : TS} {sp : Sp} {dv vs : List V} {E : XK} {Q : VK} {QA : List V → Hp → Prop} {P : V → Hp → Prop} {i : Nat}
theorem w_ret (h : te σ H D.rt) : tRet te D σ H := h
theorem w_asg (h : te σ H fun v H1 => D.nx (σ.set i (some v)) H1) : tAsg te (gName i) D σ H := h
theorem wq_asg (h : te σ H fun v H1 => tz D (σ.set i (some v)) H1) : tSeq (tAsg te (gName i)) tz D σ H := h
theorem w_call (h : t σ H fun vs H1 => sp (vs ++ dv) H1 Q E) : tCall sp dv E t σ H Q := h
theorem w_ev (h : Ev te σ H x) (k : ∀ H1, Ex H H1 → Q x H1) : te σ H Q := h H (Ex.refl H) Q k
theorem w_evP (h : EvP te σ H P) (k : ∀ v H1, Ex H H1 → P v H1 → Q v H1) : te σ H Q := h H (Ex.refl H) Q k
theorem w_evU {xs : List V} (h : EvU te σ H xs) (k : ∀ p H1, H p = none → Ex H H1 → H1 p = some (.tup xs) → Q (.ref p) H1) : te σ H Q := h H (Ex.refl H) Q k
theorem w_evL {xs : List V} (h : EvL te σ H xs) (k : ∀ p H1, H p = none → Ex H H1 → H1 p = some (.lst xs) → Q (.ref p) H1) : te σ H Q := h H (Ex.refl H) Q k
theorem w_cons (h : Ev te σ H x) (k : ∀ H1, Ex H H1 → tr σ H1 fun xs H2 => QA (x :: xs) H2) : tCons te tr σ H QA := h H (Ex.refl H) _ k
theorem w_consP (h : EvP te σ H P) (k : ∀ v H1, Ex H H1 → P v H1 → tr σ H1 fun xs H2 => QA (v :: xs) H2) : tCons te tr σ H QA := h H (Ex.refl H) _ k
theorem w_consU {xs : List V} (h : EvU te σ H xs) (k : ∀ p H1, H p = none → Ex H H1 → H1 p = some (.tup xs) → tr σ H1 fun ys H2 => QA (.ref p :: ys) H2) : tCons te tr σ H QA := h H (Ex.refl H) _ k
theorem w_consL {xs : List V} (h : EvL te σ H xs) (k : ∀ p H1, H p = none → Ex H H1 → H1 p = some (.lst xs) → tr σ H1 fun ys H2 => QA (.ref p :: ys) H2) : tCons te tr σ H QA := h H (Ex.refl H) _ k
theorem w_consD (k : ∀ p, H p = none → tr σ (upd H p (.dT [])) fun xs H2 => QA (.ref p :: xs) H2) : tCons tDNewT tr σ H QA := k
theorem w_consW (h : te σ H fun v H1 => tr σ H1 fun xs H2 => QA (v :: xs) H2) : tCons te tr σ H QA := h
theorem w_nil (h : QA [] H) : tNil σ H QA := h
theorem wq_asgD (k : ∀ p, H p = none → tz D (σ.set i (some (.ref p))) (upd H p (.dT []))) : tSeq (tAsg tDNewT (gName i)) tz D σ H := k
end
end LW

set_option Elab.async false
set_option linter.all false
set_option maxRecDepth 100000
set_option maxHeartbeats 4000000
namespace LO
open PySem PySem.Spec PyProof.Rows L2 LG LW LC LM Evl
section
variable {P : Program} {w : World} {K : PySem.W.Frag} {mg : Str → Option Value} {base : Heap}

/-! ### how_many_orders -/
structure TgAt (K : PySem.W.Frag) (H : Hp) (x : Addr) (fs : List Fr) (L : List Pr) : Prop where
  at_ : TongueAt K H x fs L
  ok : FsOk fs
  l36 : L.length ≤ 36
theorem TgAt.ex {K : PySem.W.Frag} {H H' : Hp} {x : Addr} {fs : List Fr} {L : List Pr} (e : Ex H H') (h : TgAt K H x fs L) : TgAt K H' x fs L := ⟨h.at_.ex e, h.ok, h.l36⟩
theorem TgAt.six {K : PySem.W.Frag} {H : Hp} {x : Addr} {fs : List Fr} {L : List Pr} (h : TgAt K H x fs L) {fr : Fr} {j : Nat} (hj : fs[j]? = some fr) : fr.slots.length ≤ 6 := by
  have := (h.ok fr (List.mem_of_getElem? hj)).hi
  unfold Fr.slots slotsL
  rw [LM.srt_len, List.length_append]
  have : fr.cl.toList.length ≤ 1 := by cases fr.cl <;> simp
  omega
/-- the roles' tuple of a frame, at p -/
def SlP (fr : Fr) : V → Hp → Prop := fun v H => ∃ p, v = .ref p ∧ H p = some (.tup (fr.slots.map V.int))
def CsP (cs : List Pr) : V → Hp → Prop := fun v H => ∃ p, v = .ref p ∧ PTp H p cs
def fcs (L : List Pr) (fr : Fr) : List Pr := within L fr.slots
section
variable {σ : L2.St} {H : Hp} {x p : Addr} {fs : List Fr} {L : List Pr} {t : TA} {E : XK} {j : Nat} {fr : Fr} {f : Int}
theorem ep_slots (ha : EvA t σ H [.ref x, .int (j : Int)]) (h : TgAt K H x fs L) (hj : fs[j]? = some fr) : EvP (tCall (sp_slots_of K) [] E t) σ H (SlP fr) := ep_fn ha fun H1 e Q E q =>
  ⟨x, j, fs, L, rfl, h.at_.ex e, h.ok, .inl ⟨j, fr, rfl, hj, fun p H2 e2 hp => q _ H2 e2 ⟨p, rfl, hp⟩⟩⟩
theorem en_slots (ha : EvA t σ H [.ref x, .int f]) (h : TgAt K H x fs L) (hn : ¬ InF f fs) (hE : XNF K (.int f) H E) : EvN (tCall (sp_slots_of K) [] E t) σ H := en_call ha fun H1 e Q => ⟨x, f, fs, L, rfl, h.at_.ex e, h.ok, .inr ⟨hn, hE.go e⟩⟩
theorem ep_couples (ha : EvA t σ H [.ref x, .ref p]) (h : TgAt K H x fs L) (hp : H p = some (.tup (fr.slots.map V.int))) : EvP (tCall (sp_couples_within K) [] E t) σ H (CsP (fcs L fr)) := ep_fn ha fun H1 e Q E q =>
  ⟨x, p, fs, L, fr.slots, rfl, h.at_.ex e, h.l36, e _ _ hp, fun r H2 e2 hr => q _ H2 e2 ⟨r, rfl, hr⟩⟩
end
theorem ex_updel {H : Hp} {d : Addr} {o : HO} (n : H d = none) : Ex H (del (upd H d o) d) := fun b u z => by
  have hb : b ≠ d := fun y => by rw [y, n] at z; cases z
  rw [del_ne hb, upd_ne hb]; exact z
/-- of a frame that is there, or not -/
def Fram (K : PySem.W.Frag) (f : Int) (fs : List Fr) (H : Hp) (E : XK) (A : Fr → Prop) : Prop := (∃ (j : Nat) (fr : Fr), f = (j : Int) ∧ fs[j]? = some fr ∧ A fr) ∨ (¬ InF f fs ∧ XNF K (.int f) H E)
def sp_how_many (K : PySem.W.Frag) : Sp := fun vs H Q E => ∃ (x : Addr) (f : Int) (fs : List Fr) (L : List Pr), vs = [.ref x, .int f] ∧ TgAt K H x fs L ∧ Fram K f fs H E fun fr => ∀ H', Ex H H' → Q (.int (cnt fr.slots (fcs L fr))) H'
theorem known_nil (cs : List Pr) : Known cs [] := fun l v h => by cases h
abbrev n_how_many_orders : List Str := ["tongue", "frame", "left"]
theorem sc_how_many_orders : FnScope n_how_many_orders ["tongue", "frame"] (defScope s_how_many_orders) := ⟨rfl, rfl, rfl, by decide +kernel, rfl, by decide +kernel, by decide +kernel⟩
theorem fn_how_many_orders (M : Mods P K mg base) : Fn P w K mg base (L2.CX P w) 9 "how_many_orders" ["tongue", "frame"] [] (sp_how_many K) := by
  have nd := sc_how_many_orders.nd
  have h_slots_of := (fn_slots_of (w := w) M).up (show 4 ≤ 8 by decide)
  have h_count_from := (fn_count_from (w := w) M 6).up (show 8 ≤ 8 by decide)
  have h_couples_within := (fn_couples_within (w := w) M).up (show 1 ≤ 8 by decide)
  refine Fn.mk M.F_how_many_orders M.g_how_many_orders sc_how_many_orders (fun vs H Q E h => ?_) (fun fd F => F.bindsN fun _ _ _ _ _ _ us hl => match us, hl with | [_, _], _ => rfl) fun cdv A outer s H vs Q E hr h => ⟨_,
    (pss_cons (ps_set (i := 2) nd rfl (.inl rfl) (pe_fn h_slots_of hr (passes_call (takes_of rfl rfl rfl rfl) (fun _ _ _ _ h => h)) (pa_cons (pv 0) (pa_cons (pv 1) pa_nil)))) (pss_one (ps_ret (pe_fn h_count_from hr pass0 (pa_cons (pv 2) (pa_cons (pe_fn h_couples_within hr pass0 (pa_cons (pv 0) (pa_cons (pv 2) pa_nil))) (pa_cons pe_dnewT pa_nil))))))), ?_⟩
  · obtain ⟨x, f, fs, L, rfl, _⟩ := h; rfl
  · obtain ⟨x, f, fs, L, rfl, ht, ⟨j, fr, rfl, hj, hQ⟩ | ⟨hn, hE⟩⟩ := h
    · refine q_asgP (ep_slots (ea_cons (ev_var rfl) (ea_cons (ev_var rfl) ea_nil)) ht hj) fun v H1 e1 hv => ?_
      obtain ⟨p, rfl, hp⟩ := hv
      have h6 := ht.six hj
      refine w_ret (w_call (w_cons (x := .ref p) (ev_var rfl) fun H2 e2 => w_consP (ep_couples (fr := fr) (E := E0) (ea_cons (ev_var rfl) (ea_cons (ev_var rfl) ea_nil)) (ht.ex (e1.trans e2)) (e2 _ _ hp)) fun v H3 e3 hv => w_consD fun d nd => w_nil ?_))
      obtain ⟨b, rfl, hb⟩ := hv
      have e4 : Ex H3 (upd H3 d (.dT [])) := Ex.new nd
      refine ⟨p, b, d, fr.slots, fcs L fr, [], rfl, e4 _ _ (e3 _ _ (e2 _ _ hp)), hb.ex e4, upd_same, known_nil _, h6, by decide, by decide, fun kvs' H' e5 _ _ _ => ?_⟩
      exact hQ H' ((((e1.trans e2).trans e3).trans (ex_updel nd)).trans e5)
    · exact q_asgX (en_slots (ea_cons (ev_var rfl) (ea_cons (ev_var rfl) ea_nil)) ht hn hE)
/-! ### check_order -/
theorem rowB_ints {left row : List Int} (h : rowB left (.seq (row.map V.int)) = true) : row.length = left.length ∧ ∀ r ∈ left, r ∈ row := by
  have h : (decide ((row.map V.int).length = left.length) && left.all fun r => (row.map V.int).any (isIntB r)) = true := h
  rw [Bool.and_eq_true, decide_eq_true_iff, List.length_map] at h
  refine ⟨h.1, fun r hr => ?_⟩
  obtain ⟨v, hv, h1⟩ := List.any_eq_true.mp (List.all_eq_true.mp h.2 r hr)
  obtain ⟨i, hi, rfl⟩ := List.mem_map.mp hv
  have h1 : (wholeB (.int i) none none && decide (V.int i = V.int r)) = true := h1
  rw [Bool.and_eq_true, decide_eq_true_iff] at h1
  rw [← V.int.inj h1.2]; exact hi
theorem within_in {L : List Pr} {left : List Int} {c : Pr} (h : c ∈ within L left) : c ∈ L ∧ c.1 ∈ left ∧ c.2 ∈ left := by
  obtain ⟨h1, h2⟩ := List.mem_filter.mp h
  rw [Bool.and_eq_true, decide_eq_true_iff, decide_eq_true_iff] at h2
  exact ⟨h1, h2⟩
/-- a tuple of the row -/
def RT (H : Hp) (p : Addr) (xs : List V) : Prop := H p = some (.tup xs) ∨ FzT H p xs
theorem RT.ex {H H' : Hp} {a : Addr} {xs : List V} (e : Ex H H') (h : RT H a xs) : RT H' a xs := h.elim (fun h => .inl (e _ _ h)) fun h => .inr (h.ex e)
theorem RT.st {H : Hp} {a : Addr} {xs : List V} (h : RT H a xs) : SqT K H a xs := h.elim st_of FzT.st
/-- of a row asked: none of this frame, or one of it -/
def Row3c (K : PySem.W.Frag) (H : Hp) (v : V) (t : Thing) (left : List Int) (cs : List Pr) (E : XK) (A : List Int → Prop) : Prop :=
  (rowB left t = false ∧ XNO K H E) ∨ ∃ (r : Addr) (row : List Int), v = .ref r ∧ t = .seq (row.map V.int) ∧ RowA H r (row.map V.int) ∧ rowB left t = true ∧ ((keepsB row cs = false ∧ XNO K H E) ∨ (keepsB row cs = true ∧ A row))
def sp_check_order (K : PySem.W.Frag) : Sp := fun vs H Q E => ∃ (x : Addr) (f : Int) (fs : List Fr) (L : List Pr) (v : V) (t : Thing), vs = [.ref x, .int f, v] ∧ TgAt K H x fs L ∧ ThAt H v t ∧ Fram K f fs H E fun fr => Row3c K H v t fr.slots (fcs L fr) E fun row => ∀ p H', Ex H H' → RT H' p (row.map V.int) → Q (.ref p) H'
abbrev n_check_order : List Str := ["tongue", "frame", "order", "left"]
theorem sc_check_order : FnScope n_check_order ["tongue", "frame", "order"] (defScope s_check_order) := ⟨rfl, rfl, rfl, by decide +kernel, rfl, by decide +kernel, by decide +kernel⟩
theorem fn_check_order (M : Mods P K mg base) : Fn P w K mg base (L2.CX P w) 5 "check_order" ["tongue", "frame", "order"] [] (sp_check_order K) := by
  have nd := sc_check_order.nd
  have h_slots_of := (fn_slots_of (w := w) M).up (show 4 ≤ 4 by decide)
  have h_is_row_of := (fn_is_row_of (w := w) M).up (show 2 ≤ 4 by decide)
  have h_keeps_rules := (fn_keeps_rules (w := w) M).up (show 1 ≤ 4 by decide)
  have h_couples_within := (fn_couples_within (w := w) M).up (show 1 ≤ 4 by decide)
  refine Fn.mk M.F_check_order M.g_check_order sc_check_order (fun vs H Q E h => ?_) (fun fd F => F.bindsN fun _ _ _ _ _ _ us hl => match us, hl with | [_, _, _], _ => rfl) fun cdv A outer s H vs Q E hr h => ⟨_,
    (pss_cons (ps_set (i := 3) nd rfl (.inl rfl) (pe_fn h_slots_of hr (passes_call (takes_of rfl rfl rfl rfl) (fun _ _ _ _ h => h)) (pa_cons (pv 0) (pa_cons (pv 1) pa_nil)))) (pss_cons (ps_if (pt_not (pt_val (pe_fn h_is_row_of hr pass0 (pa_cons (pv 2) (pa_cons (pv 3) pa_nil))))) (pss_one (ps_raise rfl (takes_of rfl rfl rfl rfl) (pmk_NO M (hr.mono (by decide))))) pss_nil) (pss_cons (ps_if (pt_not (pt_val (pe_fn h_keeps_rules hr pass0 (pa_cons (pv 2) (pa_cons (pe_fn h_couples_within hr pass0 (pa_cons (pv 0) (pa_cons (pv 3) pa_nil))) pa_nil))))) (pss_one (ps_raise rfl (takes_of rfl rfl rfl rfl) (pmk_NO M (hr.mono (by decide))))) pss_nil) (pss_one (ps_ret (pe_callTy call_tuple_of rfl M.z_tuple LW.boot_tuple (pa_cons (pv 2) pa_nil))))))), ?_⟩
  · obtain ⟨x, f, fs, L, v, t, rfl, _⟩ := h; rfl
  · obtain ⟨x, f, fs, L, v, t, rfl, ht, hth, ⟨j, fr, rfl, hj, hA⟩ | ⟨hn, hE⟩⟩ := h
    · refine q_asgP (ep_slots (ea_cons (ev_var rfl) (ea_cons (ev_var rfl) ea_nil)) ht hj) fun w H1 e1 hv => ?_
      obtain ⟨p, rfl, hp⟩ := hv
      refine q_when (b := !rowB fr.slots t) (et_not (et_B (ev_fn (z := .bl (rowB fr.slots t)) (ea_cons (ev_var rfl) (ea_cons (ev_var rfl) ea_nil)) fun H2 e2 Q E q => ⟨v, p, t, fr.slots, rfl, hth.ex (e1.trans e2), e2 _ _ hp, q⟩))) (fun hb H2 e2 => ?_) fun hb H2 e2 => ?_
      · rcases hA with ⟨_, hE⟩ | ⟨_, _, _, _, _, hr, _⟩
        · exact mk_NO (hE.go (e1.trans e2))
        · rw [hr] at hb; cases hb
      · rcases hA with ⟨hr, _⟩ | ⟨r, row, rfl, rfl, hra, hr, hA⟩
        · rw [hr] at hb; cases hb
        have hin : ∀ c ∈ fcs L fr, c.1 ∈ row ∧ c.2 ∈ row := fun c hc => by
          obtain ⟨_, h1, h2⟩ := within_in hc
          exact ⟨(rowB_ints hr).2 _ h1, (rowB_ints hr).2 _ h2⟩
        have e12 := e1.trans e2
        refine q_when (b := !keepsB row (fcs L fr)) (et_not (et_B fun H3 e3 Q q => ?_)) (fun hb H3 e3 => ?_) fun hb H3 e3 => ?_
        · refine w_call (w_cons (x := .ref r) (ev_var rfl) fun H4 e4 => w_consP (ep_couples (fr := fr) (E := E0) (ea_cons (ev_var rfl) (ea_cons (ev_var rfl) ea_nil)) (ht.ex ((e12.trans e3).trans e4)) (e4 _ _ (e3 _ _ (e2 _ _ hp)))) fun w H5 e5 hw => w_nil ?_)
          obtain ⟨b, rfl, hb⟩ := hw
          exact ⟨r, b, row, fcs L fr, rfl, hra.ex (((e12.trans e3).trans e4).trans e5), hb, hin, fun H6 e6 => q H6 ((e4.trans e5).trans e6)⟩
        · rcases hA with ⟨_, hE⟩ | ⟨hk, _⟩
          · exact mk_NO (hE.go (e12.trans e3))
          · rw [hk] at hb; cases hb
        · rcases hA with ⟨hk, _⟩ | ⟨_, hQ⟩
          · rw [hk] at hb; cases hb
          have e13 := e12.trans e3
          rcases hra with hra | hra
          · exact s_retU (eu_tupL (ev_var rfl) (sq_of (e13 _ _ hra))) fun q H4 nq e4 hq => hQ q H4 (e13.trans e4) (.inl hq)
          · exact s_ret (ev_tupT (ev_var rfl) (hra.ex e13).st) fun H4 e4 => hQ r H4 (e13.trans e4) (.inr (hra.ex (e13.trans e4)))
    · exact q_asgX (en_slots (ea_cons (ev_var rfl) (ea_cons (ev_var rfl) ea_nil)) ht hn hE)
end
end LO

set_option Elab.async false
set_option linter.all false
set_option maxRecDepth 100000
set_option maxHeartbeats 4000000
namespace LO
open PySem PySem.Spec PyProof.Rows L2 LG LW LC LM Evl
section
variable {P : Program} {w : World} {K : PySem.W.Frag} {mg : Str → Option Value} {base : Heap}

/-! ### order_place -/
section
variable {σ : L2.St} {H : Hp} {t : TA} {ta tb td : TE} {E : XK} {a b d : Addr} {left l : List Int} {cs : List Pr} {r : Int} {kvs : List (List Key × V)} {Q : VK}
theorem eu_without (ha : EvA t σ H [.ref a, .int r]) (h : H a = some (.tup (left.map V.int))) (hz : left.length ≤ 1000) : EvU (tCall (spWithout K) [] E t) σ H ((without left r).map V.int) := fun H1 e Q q =>
  ha H1 e _ fun H2 e2 => ⟨a, left, r, rfl, st_of ((e.trans e2) _ _ h), hz, fun H3 p e3 n3 h3 => q p H3 (fresh_back e2 n3) (e2.trans e3) h3⟩
theorem ev_first (ha : EvA t σ H [.ref a, .ref b, .int r]) (h : H a = some (.tup (left.map V.int))) (hb : PTp H b cs) : Ev (tCall (spFirst K) [] E t) σ H (.bl (isFirst left cs r)) :=
  ev_fn ha fun H1 e Q E q => ⟨a, b, left, cs, r, rfl, st_of (e _ _ h), (hb.ex e).pt, q⟩
theorem w_countV (ha : Ev ta σ H (.ref a)) (hb : Ev tb σ H (.ref b)) (hd : Ev td σ H (.ref d)) (fa : H a = some (.tup (l.map V.int))) (fb : PTp H b cs) (fd : H d = some (.dT kvs)) (kn : Known cs kvs) (h6 : l.length ≤ 6) (hz : kvs.length + 1237 ≤ 90000)
    (k : ∀ kvs' H', Ex (del H d) H' → H' d = some (.dT kvs') → Known cs kvs' → kvs'.length ≤ kvs.length + 1237 → Q (.int (cnt l cs)) H') : tCall (sp_count 6) [] E (tCons ta (tCons tb (tCons td tNil))) σ H Q :=
  w_call (w_cons ha fun H1 e1 => w_cons (hb.mono e1) fun H2 e2 => w_cons (hd.mono (e1.trans e2)) fun H3 e3 => w_nil
    ⟨a, b, d, l, cs, kvs, rfl, ((e1.trans e2).trans e3) _ _ fa, fb.ex ((e1.trans e2).trans e3), ((e1.trans e2).trans e3) _ _ fd, kn, h6, by decide, hz, fun kvs' H' e' h1 h2 h3 => k kvs' H' (Ex.trans (ex_del (del_ex ((e1.trans e2).trans e3)) del_same) e') h1 h2 h3⟩)
theorem w_countU (ha : EvU ta σ H (l.map V.int)) (hb : Ev tb σ H (.ref b)) (hd : Ev td σ H (.ref d)) (fb : PTp H b cs) (fd : H d = some (.dT kvs)) (kn : Known cs kvs) (h6 : l.length ≤ 6) (hz : kvs.length + 1237 ≤ 90000)
    (k : ∀ kvs' H', Ex (del H d) H' → H' d = some (.dT kvs') → Known cs kvs' → kvs'.length ≤ kvs.length + 1237 → Q (.int (cnt l cs)) H') : tCall (sp_count 6) [] E (tCons ta (tCons tb (tCons td tNil))) σ H Q :=
  w_call (w_consU ha fun a H1 na e1 fa => w_cons (hb.mono e1) fun H2 e2 => w_cons (hd.mono (e1.trans e2)) fun H3 e3 => w_nil
    ⟨a, b, d, l, cs, kvs, rfl, (e2.trans e3) _ _ fa, fb.ex ((e1.trans e2).trans e3), ((e1.trans e2).trans e3) _ _ fd, kn, h6, by decide, hz, fun kvs' H' e' h1 h2 h3 => k kvs' H' (Ex.trans (ex_del (del_ex ((e1.trans e2).trans e3)) del_same) e') h1 h2 h3⟩)
end
def ptO (left : List Int) (cs : List Pr) (r : Int) (o : Int) : Int := if (decide (o < r) && isFirst left cs o) = true then cnt (without left o) cs else 0
def placeI (cs : List Pr) : List Int → List Int → Int
  | [], _ => 0
  | r :: row, left => (left.map (ptO left cs r)).sum + placeI cs row (without left r)
def sp_order_place (K : PySem.W.Frag) : Sp := fun vs H Q E => ∃ (x : Addr) (f : Int) (fs : List Fr) (L : List Pr) (v : V) (t : Thing), vs = [.ref x, .int f, v] ∧ TgAt K H x fs L ∧ ThAt H v t ∧ Fram K f fs H E fun fr => Row3c K H v t fr.slots (fcs L fr) E fun row => ∀ H', Ex H H' → Q (.int (placeI (fcs L fr) row fr.slots)) H'
theorem en_check {K : PySem.W.Frag} {σ : L2.St} {H : Hp} {t : TA} {E : XK} {vs : List V} (ha : EvA t σ H vs) (h : ∀ H1, Ex H H1 → ∀ Q, sp_check_order K vs H1 Q E) : EvN (tCall (sp_check_order K) [] E t) σ H := en_call ha fun H1 e Q => by rw [List.append_nil]; exact h H1 e Q
abbrev n_order_place : List Str := ["tongue", "frame", "order", "row", "left", "couples", "known", "place", "role", "other"]
theorem sc_order_place : FnScope n_order_place ["tongue", "frame", "order"] (defScope s_order_place) := ⟨rfl, rfl, rfl, by decide +kernel, rfl, by decide +kernel, by decide +kernel⟩
theorem fn_order_place (M : Mods P K mg base) : Fn P w K mg base (L2.CX P w) 9 "order_place" ["tongue", "frame", "order"] [] (sp_order_place K) := by
  have nd := sc_order_place.nd
  have h_check_order := (fn_check_order (w := w) M).up (show 5 ≤ 8 by decide)
  have h_slots_of := (fn_slots_of (w := w) M).up (show 4 ≤ 8 by decide)
  have h_couples_within := (fn_couples_within (w := w) M).up (show 1 ≤ 8 by decide)
  have h_without_role := (fn_without_role (w := w) M).up (show 1 ≤ 8 by decide)
  have h_is_first := (fn_is_first (w := w) M).up (show 1 ≤ 8 by decide)
  have h_count_from := (fn_count_from (w := w) M 6).up (show 8 ≤ 8 by decide)
  refine Fn.mk M.F_order_place M.g_order_place sc_order_place (fun vs H Q E h => ?_) (fun fd F => F.bindsN fun _ _ _ _ _ _ us hl => match us, hl with | [_, _, _], _ => rfl) fun cdv A outer s H vs Q E hr h => ⟨_,
    (pss_cons (ps_set (i := 3) nd rfl (.inl rfl) (pe_fn h_check_order hr (passes_call (takes_of rfl rfl rfl rfl) (fun _ _ _ _ h => h)) (pa_cons (pv 0) (pa_cons (pv 1) (pa_cons (pv 2) pa_nil))))) (pss_cons (ps_set (i := 4) nd rfl (.inl rfl) (pe_fn h_slots_of hr (passes_call (takes_of rfl rfl rfl rfl) (fun _ _ _ _ h => h)) (pa_cons (pv 0) (pa_cons (pv 1) pa_nil)))) (pss_cons (ps_set (i := 5) nd rfl (.inl rfl) (pe_fn h_couples_within hr pass0 (pa_cons (pv 0) (pa_cons (pv 4) pa_nil)))) (pss_cons (ps_set (i := 6) nd rfl (.inl rfl) pe_dnewT) (pss_cons (ps_set (i := 7) nd rfl (.inl rfl) pe_int) (pss_cons (ps_for (passes_of rfl) rfl (pi_tup (pv 3)) (pg_name (i := 8) nd rfl (.inl rfl)) (pss_cons (ps_for (passes_of rfl) rfl (pi_tup (pv 4)) (pg_name (i := 9) nd rfl (.inl rfl)) (pss_one (ps_if (PW.pt (pw_and (pt_cmpR op_lt (pv 9) (pv 8) (nomark _)) (pw_and1 (pt_val (pe_fn h_is_first hr pass0 (pa_cons (pv 4) (pa_cons (pv 5) (pa_cons (pv 9) pa_nil)))))))) (pss_one (ps_aug (i := 7) nd rfl (.inl rfl) (pe_fn h_count_from hr pass0 (pa_cons (pe_fn h_without_role hr pass0 (pa_cons (pv 4) (pa_cons (pv 9) pa_nil))) (pa_cons (pv 5) (pa_cons (pv 6) pa_nil)))) ip_add)) pss_nil))) (pss_one (ps_set (i := 4) nd rfl (.inl rfl) (pe_fn h_without_role hr pass0 (pa_cons (pv 4) (pa_cons (pv 8) pa_nil))))))) (pss_one (ps_ret (pv 7))))))))), ?_⟩
  · obtain ⟨x, f, fs, L, v, t, rfl, _⟩ := h; rfl
  · obtain ⟨x, f, fs, L, v, t, rfl, ht, hth, ⟨j, fr, rfl, hj, hA⟩ | ⟨hn, hE⟩⟩ := h
    rotate_left
    · exact q_asgX (en_check (ea_cons (ev_var rfl) (ea_cons (ev_var rfl) (ea_cons (ev_var rfl) ea_nil))) fun H1 e Q => ⟨x, f, fs, L, v, t, rfl, ht.ex e, hth.ex e, .inr ⟨hn, hE.go e⟩⟩)
    rcases hA with ⟨hr, hE⟩ | ⟨r, row, rfl, rfl, hra, hr, ⟨hk, hE⟩ | ⟨hk, hQ⟩⟩
    · exact q_asgX (en_check (ea_cons (ev_var rfl) (ea_cons (ev_var rfl) (ea_cons (ev_var rfl) ea_nil))) fun H1 e Q => ⟨x, j, fs, L, v, t, rfl, ht.ex e, hth.ex e, .inl ⟨j, fr, rfl, hj, .inl ⟨hr, hE.go e⟩⟩⟩)
    · exact q_asgX (en_check (ea_cons (ev_var rfl) (ea_cons (ev_var rfl) (ea_cons (ev_var rfl) ea_nil))) fun H1 e Q => ⟨x, j, fs, L, _, _, rfl, ht.ex e, hth.ex e, .inl ⟨j, fr, rfl, hj, .inr ⟨r, row, rfl, rfl, hra.ex e, hr, .inl ⟨hk, hE.go e⟩⟩⟩⟩)
    have h6 := ht.six hj
    have hlen := (rowB_ints hr).1
    generalize hcs : fcs L fr = cs at hQ hk
    refine q_asgP (P := fun v H' => ∃ rp, v = .ref rp ∧ RT H' rp (row.map V.int)) (ep_fn (ea_cons (ev_var rfl) (ea_cons (ev_var rfl) (ea_cons (ev_var rfl) ea_nil))) fun H1 e Q E q => ⟨x, j, fs, L, _, _, rfl, ht.ex e, hth.ex e, .inl ⟨j, fr, rfl, hj, .inr ⟨r, row, rfl, rfl, hra.ex e, hr, .inr ⟨by rw [hcs]; exact hk, fun p H2 e2 hp => q _ H2 e2 ⟨p, rfl, hp⟩⟩⟩⟩⟩) fun w H1 e1 hw => ?_
    obtain ⟨rp, rfl, hrp⟩ := hw
    refine q_asgP (ep_slots (ea_cons (ev_var rfl) (ea_cons (ev_var rfl) ea_nil)) (ht.ex e1) hj) fun w H2 e2 hw => ?_
    obtain ⟨p, rfl, hp⟩ := hw
    have e12 := e1.trans e2
    refine q_asgP (ep_couples (fr := fr) (E := E0) (ea_cons (ev_var rfl) (ea_cons (ev_var rfl) ea_nil)) (ht.ex e12) hp) fun w H3 e3 hw => ?_
    obtain ⟨b, rfl, hb⟩ := hw
    rw [hcs] at hb
    have e13 := e12.trans e3
    refine wq_asgD fun d nd => ?_
    have e4 : Ex H3 (upd H3 d (.dT [])) := Ex.new nd
    refine q_asg (v := .int 0) ev_c fun H5 e5 => ?_
    have hrp3 := (hrp.ex (e2.trans e3)).st (K := K)
    refine q_forTn (xs := row.map V.int) (ev_var rfl) (((hrp.ex (e2.trans e3)).ex (e4.trans e5)).st) (fun i σ' H' => ∃ (Hk : Hp) (p : Addr) (left : List Int) (acc : Int) (v8 v9 : Option V) (kvs : List (List Key × V)), σ' = [some (.ref x), some (.int (j : Int)), some (.ref r), some (.ref rp), some (.ref p), some (.ref b), some (.ref d), some (.int acc), v8, v9] ∧
        Ex H3 Hk ∧ Hk d = none ∧ Ex Hk H' ∧ Hk p = some (.tup (left.map V.int)) ∧ H' d = some (.dT kvs) ∧ Known cs kvs ∧ kvs.length ≤ i * 7422 ∧ left.length ≤ 6 ∧ acc + placeI cs (row.drop i) left = placeI cs row fr.slots)
      (fun H6 e6 => ⟨H3, p, fr.slots, 0, none, none, [], rfl, Ex.refl _, nd, e4.trans (e5.trans e6), e3 _ _ hp, (e5.trans e6) _ _ upd_same, known_nil _, Nat.zero_le _, h6, by rw [List.drop_zero]; omega⟩) (fun i σ' H' _ h => ?_) (fun i y σ' H' hy h => ?_) (fun σ' H' h => ?_)
    · obtain ⟨Hk, _, _, _, _, _, _, _, k1, _, k3, _⟩ := h
      exact (((hrp.ex (e2.trans e3)).ex k1).ex k3).st
    · obtain ⟨Hk, p, left, acc, v8, v9, kvs, rfl, k1, k2, k3, hp, hd, hkn, hz, hl6, hacc⟩ := h
      rw [List.getElem?_map] at hy
      cases hrow : row[i]? with
      | none => rw [hrow] at hy; cases hy
      | some o =>
      rw [hrow] at hy; cases hy
      obtain ⟨hi, hrow'⟩ := List.getElem?_eq_some_iff.mp hrow
      have hdrop : row.drop i = o :: row.drop (i + 1) := by rw [List.drop_eq_getElem_cons hi, hrow']
      rw [hdrop] at hacc
      have hi6 : i ≤ 5 := by omega
      have hp' := k3 _ _ hp
      have pd : p ≠ d := fun z => by rw [z, k2] at hp; cases hp
      refine q_forTn (xs := left.map V.int) (ev_var rfl) (st_of hp') (fun k σ' H'' => ∃ (v9 : Option V) (kvs' : List (List Key × V)), σ' = [some (.ref x), some (.int (j : Int)), some (.ref r), some (.ref rp), some (.ref p), some (.ref b), some (.ref d), some (.int (acc + ((left.take k).map (ptO left cs o)).sum)), some (.int o), v9] ∧
          Ex Hk H'' ∧ H'' d = some (.dT kvs') ∧ Known cs kvs' ∧ kvs'.length ≤ i * 7422 + k * 1237)
        (fun H6 e6 => ⟨v9, kvs, by rw [List.take_zero, List.map_nil, List.sum_nil, Int.add_zero]; rfl, k3.trans e6, e6 _ _ hd, hkn, by omega⟩) (fun k σ' H'' _ h => ?_) (fun k y σ' H'' hy h => ?_) (fun σ' H'' h => ?_)
      · obtain ⟨_, _, _, e, _⟩ := h
        exact st_of (e _ _ hp)
      · obtain ⟨v9, kvs', rfl, e, hd', hkn', hz'⟩ := h
        rw [List.getElem?_map] at hy
        cases hlf : left[k]? with
        | none => rw [hlf] at hy; cases hy
        | some q =>
        rw [hlf] at hy; cases hy
        obtain ⟨hk6, _⟩ := List.getElem?_eq_some_iff.mp hlf
        have hsum : acc + ((left.take (k + 1)).map (ptO left cs o)).sum = acc + ((left.take k).map (ptO left cs o)).sum + ptO left cs o q := by
          rw [List.take_succ, hlf, List.map_append, List.sum_append]
          show acc + (_ + (ptO left cs o q + 0)) = _
          omega
        have hp2 := e _ _ hp
        have hb2 : PTp H'' b cs := (hb.ex k1).ex e
        refine s_when (b := decide (q < o) && isFirst left cs q) (et_and (et_op (ev_var rfl) (ev_var rfl) rv_I0) fun _ => et_B (ev_first (ea_cons (ev_var rfl) (ea_cons (ev_var rfl) (ea_cons (ev_var rfl) ea_nil))) hp2 hb2)) (fun hf H6 e6 => ?_) (fun hf H6 e6 => ?_)
        · refine s_augW rfl (w_countU (l := without left q) (eu_without (ea_cons (ev_var rfl) (ea_cons (ev_var rfl) ea_nil)) (e6 _ _ hp2) (by omega)) (ev_var rfl) (ev_var rfl) (hb2.ex e6) (e6 _ _ hd') hkn' (by have := without_lt (List.mem_of_getElem? hlf); omega) (by omega) fun kvs2 H7 e7 hd7 hk7 hz7 => ⟨_, rfl, some (.int q), kvs2, ?_, Ex.trans (ex_del (e.trans e6) k2) e7, hd7, hk7, by omega⟩)
          rw [hsum]
          unfold ptO
          rw [if_pos hf]; rfl
        · refine ⟨some (.int q), kvs', ?_, e.trans e6, e6 _ _ hd', hkn', by omega⟩
          rw [hsum]
          have : ptO left cs o q = 0 := by unfold ptO; rw [if_neg (by rw [hf]; exact Bool.false_ne_true)]
          rw [this, Int.add_zero]; rfl
      · obtain ⟨v9, kvs', rfl, e, hd', hkn', hz'⟩ := h
        rw [List.length_map] at *
        rw [List.take_length]
        refine s_asgU (eu_without (left := left) (r := o) (ea_cons (ev_var rfl) (ea_cons (ev_var rfl) ea_nil)) (e _ _ hp) (by omega)) fun p2 H6 np2 e6 hp2 => ?_
        have pd2 : p2 ≠ d := fun z => by rw [z, hd'] at np2; cases np2
        refine ⟨del H6 d, p2, without left o, acc + (left.map (ptO left cs o)).sum, some (.int o), v9, kvs', rfl, ex_del (k1.trans (e.trans e6)) nd, del_same, del_ex (Ex.refl H6), by rw [del_ne pd2]; exact hp2, e6 _ _ hd', hkn', by omega, ?_, ?_⟩
        · have : (without left o).length ≤ left.length := List.length_filter_le _ _
          omega
        · have : placeI cs (o :: row.drop (i + 1)) left = (left.map (ptO left cs o)).sum + placeI cs (row.drop (i + 1)) (without left o) := rfl
          omega
    · obtain ⟨Hk, p, left, acc, v8, v9, kvs, rfl, k1, k2, k3, hp, hd, hkn, hz, hl6, hacc⟩ := h
      rw [List.length_map, List.drop_length] at hacc
      have : acc = placeI cs row fr.slots := by
        have h0 : placeI cs [] left = 0 := rfl
        omega
      refine s_ret (ev_var rfl) fun H6 e6 => ?_
      rw [this]
      exact hQ H6 (((e13.trans k1).trans k3).trans e6)
end
end LO

set_option Elab.async false
set_option linter.all false
set_option maxRecDepth 100000
set_option maxHeartbeats 4000000
namespace LO
open PySem PySem.Spec PyProof.Rows L2 LG LW LC LM Evl
section
variable {P : Program} {w : World} {K : PySem.W.Frag} {mg : Str → Option Value} {base : Heap}

/-! ### order_at -/
theorem wq_when {σ : L2.St} {H : Hp} {D : Ends} {t : TT} {tu tz : TS} (h : t σ H fun b H1 => if b = true then tu { D with nx := tz D } σ H1 else tz D σ H1) : tSeq (tIfS t tu tNext) tz D σ H := h
theorem wt_not {σ : L2.St} {H : Hp} {t : TT} {Q : Bool → Hp → Prop} (h : t σ H fun b H1 => Q (!b) H1) : tNot t σ H Q := h
theorem wt_B {σ : L2.St} {H : Hp} {te : TE} {Q : Bool → Hp → Prop} (h : te σ H fun v H1 => ∃ b, v = .bl b ∧ Q b H1) : tB te σ H Q := h
theorem w_op {σ : L2.St} {H : Hp} {ta tb : TE} {r : R2} {Q : VK} (h : ta σ H fun x H1 => tb σ H1 fun y H2 => r x y H2 Q) : tOp r ta tb σ H Q := h
theorem s_break {D : Ends} {σ : L2.St} {H : Hp} (h : D.bk σ H) : tBreak D σ H := h
def fR (left : List Int) (cs : List Pr) (r : Int) : List (List Int) := if isFirst left cs r then (rows (without left r) cs).map (r :: ·) else []
theorem fR_hit {left : List Int} {cs : List Pr} {q : Int} {R : List (List Int)} {k : Nat} {tail : List Int} (hf : isFirst left cs q = true) (hk : k < (rows (without left q) cs).length) (h : (fR left cs q ++ R)[k]? = some tail) : ∃ t', tail = q :: t' ∧ (rows (without left q) cs)[k]? = some t' := by
  have hfr : fR left cs q = (rows (without left q) cs).map (q :: ·) := if_pos hf
  rw [hfr, List.getElem?_append_left (by rw [List.length_map]; exact hk), List.getElem?_map] at h
  cases hr : (rows (without left q) cs)[k]? with
  | none => rw [hr] at h; cases h
  | some t' => rw [hr] at h; cases h; exact ⟨t', rfl, rfl⟩
theorem fR_skip {left : List Int} {cs : List Pr} {q : Int} {R : List (List Int)} {k : Nat} (hf : isFirst left cs q = true) (hk : (rows (without left q) cs).length ≤ k) : (fR left cs q ++ R)[k]? = R[k - (rows (without left q) cs).length]? := by
  have hfr : fR left cs q = (rows (without left q) cs).map (q :: ·) := if_pos hf
  rw [hfr, List.getElem?_append_right (by rw [List.length_map]; exact hk), List.length_map]
theorem fR_no {left : List Int} {cs : List Pr} {q : Int} (hf : isFirst left cs q = false) : fR left cs q = [] := if_neg (by rw [hf]; exact Bool.false_ne_true)
def sp_order_at (K : PySem.W.Frag) : Sp := fun vs H Q E => ∃ (x : Addr) (f : Int) (fs : List Fr) (L : List Pr) (v : V), vs = [.ref x, .int f, v] ∧ TgAt K H x fs L ∧ flat4 v = true ∧ Fram K f fs H E fun fr =>
  (wholeB v (some 0) (some (cnt fr.slots (fcs L fr) - 1)) = false ∧ XNO K H E) ∨ ∃ (k : Nat) (row : List Int), v = .int (k : Int) ∧ (rows fr.slots (fcs L fr))[k]? = some row ∧ ∀ p H', Ex H H' → FzT H' p (row.map V.int) → Q (.ref p) H'
theorem s_app2 {K : PySem.W.Frag} {σ : L2.St} {H : Hp} {D : Ends} {ta te : TE} {tz : TS} {l : Addr} {xs : List V} {v : V} (hl : H l = some (.lst xs)) (ha : Ev ta σ H (.ref l)) (h : Ev te σ H v) (hz : xs.length < 100000) (k : ∀ H1, Ex H H1 → tz D σ (upd H1 l (.lst (xs ++ [v])))) : tSeq (tDrop (tBM K "list" rAppend ta (tCons te tNil))) tz D σ H := s_app (D := { D with nx := tz D }) hl ha h hz k
abbrev n_order_at : List Str := ["tongue", "frame", "place", "left", "couples", "known", "row", "rest", "role", "many"]
theorem sc_order_at : FnScope n_order_at ["tongue", "frame", "place"] (defScope s_order_at) := ⟨rfl, rfl, rfl, by decide +kernel, rfl, by decide +kernel, by decide +kernel⟩
theorem fn_order_at (M : Mods P K mg base) : Fn P w K mg base (L2.CX P w) 9 "order_at" ["tongue", "frame", "place"] [] (sp_order_at K) := by
  have nd := sc_order_at.nd
  have h_slots_of := (fn_slots_of (w := w) M).up (show 4 ≤ 8 by decide)
  have h_couples_within := (fn_couples_within (w := w) M).up (show 1 ≤ 8 by decide)
  have h_is_whole := (fn_is_whole (w := w) M).up (show 1 ≤ 8 by decide)
  have h_without_role := (fn_without_role (w := w) M).up (show 1 ≤ 8 by decide)
  have h_is_first := (fn_is_first (w := w) M).up (show 1 ≤ 8 by decide)
  have h_count_from := (fn_count_from (w := w) M 6).up (show 8 ≤ 8 by decide)
  refine Fn.mk M.F_order_at M.g_order_at sc_order_at (fun vs H Q E h => ?_) (fun fd F => F.bindsN fun _ _ _ _ _ _ us hl => match us, hl with | [_, _, _], _ => rfl) fun cdv A outer s H vs Q E hr h => ⟨_,
    (pss_cons (ps_set (i := 3) nd rfl (.inl rfl) (pe_fn h_slots_of hr (passes_call (takes_of rfl rfl rfl rfl) (fun _ _ _ _ h => h)) (pa_cons (pv 0) (pa_cons (pv 1) pa_nil)))) (pss_cons (ps_set (i := 4) nd rfl (.inl rfl) (pe_fn h_couples_within hr pass0 (pa_cons (pv 0) (pa_cons (pv 3) pa_nil)))) (pss_cons (ps_set (i := 5) nd rfl (.inl rfl) pe_dnewT) (pss_cons (ps_if (pt_not (pt_val (pe_fn h_is_whole hr pass0 (pa_cons (pv 2) (pa_cons pe_int (pa_cons (pe_op op_sub (pe_fn h_count_from hr pass0 (pa_cons (pv 3) (pa_cons (pv 4) (pa_cons (pv 5) pa_nil)))) pe_int) pa_nil)))))) (pss_one (ps_raise rfl (takes_of rfl rfl rfl rfl) (pmk_NO M (hr.mono (by decide))))) pss_nil) (pss_cons (ps_set (i := 6) nd rfl (.inl rfl) (pe_lst pa_nil)) (pss_cons (ps_set (i := 7) nd rfl (.inl rfl) (pv 2)) (pss_cons (ps_while (passes_of rfl) (pt_truth (pv 3) (by intro _; rfl)) (pss_cons (ps_for (passes_of rfl) rfl (pi_tup (pv 3)) (pg_name (i := 8) nd rfl (.inl rfl)) (pss_one (ps_if (pt_val (pe_fn h_is_first hr pass0 (pa_cons (pv 3) (pa_cons (pv 4) (pa_cons (pv 8) pa_nil))))) (pss_cons (ps_set (i := 9) nd rfl (.inl rfl) (pe_fn h_count_from hr pass0 (pa_cons (pe_fn h_without_role hr pass0 (pa_cons (pv 3) (pa_cons (pv 8) pa_nil))) (pa_cons (pv 4) (pa_cons (pv 5) pa_nil))))) (pss_cons (ps_if (pt_cmpR op_lt (pv 7) (pv 9) (nomark _)) (pss_cons (ps_expr (pe_bm PySem.F.plainAttrs_list PySem.F.slot_list_append PySem.F.type_list_append mt_append (pv 6) (pa_cons (pv 8) pa_nil))) (pss_one ps_break)) pss_nil) (pss_one (ps_aug (i := 7) nd rfl (.inl rfl) (pv 9) ip_sub)))) pss_nil))) (pss_one (ps_set (i := 3) nd rfl (.inl rfl) (pe_fn h_without_role hr pass0 (pa_cons (pv 3) (pa_cons (pe_ix ix_list (pv 6) (pe_un un_neg pe_int) (fun _ _ => rfl)) pa_nil))))))) (pss_one (ps_ret (pe_callTy call_tupleF rfl M.z_tuple LW.boot_tuple (pa_cons (pv 6) pa_nil))))))))))), ?_⟩
  · obtain ⟨x, f, fs, L, v, rfl, _⟩ := h; rfl
  · obtain ⟨x, f, fs, L, v, rfl, ht, hv4, ⟨j, fr, rfl, hj, hA⟩ | ⟨hn, hE⟩⟩ := h
    rotate_left
    · exact q_asgX (en_slots (ea_cons (ev_var rfl) (ea_cons (ev_var rfl) ea_nil)) ht hn hE)
    have h6 := ht.six hj
    refine q_asgP (ep_slots (ea_cons (ev_var rfl) (ea_cons (ev_var rfl) ea_nil)) ht hj) fun w H1 e1 hw => ?_
    obtain ⟨p, rfl, hp⟩ := hw
    refine q_asgP (ep_couples (fr := fr) (E := E0) (ea_cons (ev_var rfl) (ea_cons (ev_var rfl) ea_nil)) (ht.ex e1) hp) fun w H2 e2 hw => ?_
    obtain ⟨b, rfl, hb⟩ := hw
    generalize hcs : fcs L fr = cs at hA hb
    have e12 := e1.trans e2
    refine wq_asgD fun d nd => ?_
    have e3 : Ex H2 (upd H2 d (.dT [])) := Ex.new nd
    refine wq_when (wt_not (wt_B (w_call (w_cons (x := v) (ev_var rfl) fun H4 e4 => w_cons (x := .int 0) ev_c fun H5 e5 => w_consW (w_op ?_)))))
    have e35 := (e3.trans e4).trans e5
    refine w_countV (l := fr.slots) (ev_var rfl) (ev_var rfl) (ev_var rfl) (e35 _ _ (e2 _ _ hp)) (hb.ex e35) ((e4.trans e5) _ _ upd_same) (known_nil cs) h6 (by decide) fun kvs H6 e6 hd6 hk6 hz6 => ?_
    refine w_ev ev_c fun H7 e7 => ⟨_, _, rfl, rfl, w_nil ⟨v, some 0, some (cnt fr.slots cs - 1), rfl, hv4, fun H8 e8 => ⟨_, rfl, ?_⟩⟩⟩
    have e28 : Ex H2 H8 := ((Ex.trans (ex_del e35 nd) e6).trans e7).trans e8
    rcases hA with ⟨hw, hE⟩ | ⟨k, row, rfl, hrow, hQ⟩
    · rw [hw, if_pos (show (!false) = true from rfl)]
      exact mk_NO (hE.go (e12.trans e28))
    obtain ⟨hk, _⟩ := List.getElem?_eq_some_iff.mp hrow
    have hkc : ((k : Int)) ≤ cnt fr.slots cs - 1 := by
      have : cnt fr.slots cs = (rows fr.slots cs).length := rfl
      omega
    rw [whole_in (by omega) hkc, if_neg (show ¬ (!true) = true from by decide)]
    have hd8 : H8 d = some (.dT kvs) := e8 _ _ (e7 _ _ hd6)
    refine q_asgL (el_lst ea_nil (Nat.zero_le _)) fun l H9 nl e9 hl => ?_
    refine q_asg (v := .int (k : Int)) (ev_var rfl) fun H10 e10 => ?_
    have dl : d ≠ l := fun z => by rw [← z, hd8] at nl; cases nl
    have base0 : Ex H2 (del (del H10 d) l) := ex_del (ex_del ((e28.trans e9).trans e10) nd) (fresh_back e28 nl)
    refine q_while (fun m σ' H' => ∃ (Hk : Hp) (p : Addr) (left acc : List Int) (n : Nat) (v8 v9 : Option V) (kvs : List (List Key × V)) (tail : List Int), m = left.length ∧ σ' = [some (.ref x), some (.int (j : Int)), some (.int (k : Int)), some (.ref p), some (.ref b), some (.ref d), some (.ref l), some (.int (n : Int)), v8, v9] ∧
        Ex H2 Hk ∧ Hk d = none ∧ Hk l = none ∧ Ex Hk H' ∧ Hk p = some (.tup (left.map V.int)) ∧ H' d = some (.dT kvs) ∧ H' l = some (.lst (acc.map V.int)) ∧ Known cs kvs ∧ kvs.length ≤ 1237 + acc.length * 7422 ∧ acc.length + left.length ≤ 6 ∧ (rows left cs)[n]? = some tail ∧ acc ++ tail = row) fr.slots.length
      ⟨del (del H10 d) l, p, fr.slots, [], k, none, none, kvs, row, rfl, rfl, base0, by rw [del_ne dl, del_same], del_same, Ex.trans (del_ex (Ex.refl _)) (del_ex (Ex.refl _)), base0 _ _ (e2 _ _ hp), e10 _ _ (e9 _ _ hd8), e10 _ _ hl, hk6, by have : ([] : List (List Key × V)).length = 0 := rfl; omega, by have : ([] : List Int).length = 0 := rfl; omega, hrow, rfl⟩ fun m σ' H' hW => ?_
    obtain ⟨Hk, p, left, acc, n, v8, v9, kvs, tail, rfl, rfl, k1, k2, k2', k3, hp, hd, hl, hkn, hz, hsz, hn, hrow2⟩ := hW
    refine ⟨!(left.map V.int).isEmpty, et_truT (ev_var rfl) (st_of (k3 _ _ hp)), fun hne H11 e11 => ?_, fun he H11 e11 => ?_⟩
    rotate_left
    · have hl0 : left = [] := by
        cases left with
        | nil => rfl
        | cons a t => cases he
      subst hl0
      have ht0 : tail = [] := by
        have hr0 : rows [] cs = [[]] := rfl
        rw [hr0] at hn
        cases n with
        | zero => cases hn; rfl
        | succ n => cases hn
      subst ht0
      rw [List.append_nil] at hrow2
      subst hrow2
      refine w_ret (w_ev (te := tVar 6) (ev_var rfl) fun H12 e12' => ⟨l, _, rfl, sq_of (e12' _ _ (e11 _ _ hl)), fun q ob nq h1 h2 => hQ q _ (((((e12.trans k1).trans k3).trans e11).trans e12').trans (Ex.new nq)) ⟨ob, upd_same, h1, h2⟩⟩)
    have hlne : left ≠ [] := fun z => by subst z; cases hne
    refine ⟨fun σ2 H2' => ∃ m', m' < left.length ∧ ∃ (Hk : Hp) (p : Addr) (left acc : List Int) (n : Nat) (v8 v9 : Option V) (kvs : List (List Key × V)) (tail : List Int), m' = left.length ∧ σ2 = [some (.ref x), some (.int (j : Int)), some (.int (k : Int)), some (.ref p), some (.ref b), some (.ref d), some (.ref l), some (.int (n : Int)), v8, v9] ∧
        Ex H2 Hk ∧ Hk d = none ∧ Hk l = none ∧ Ex Hk H2' ∧ Hk p = some (.tup (left.map V.int)) ∧ H2' d = some (.dT kvs) ∧ H2' l = some (.lst (acc.map V.int)) ∧ Known cs kvs ∧ kvs.length ≤ 1237 + acc.length * 7422 ∧ acc.length + left.length ≤ 6 ∧ (rows left cs)[n]? = some tail ∧ acc ++ tail = row, fun σ2 H2' h => h, ?_⟩
    rw [rows_step hlne] at hn
    have hlen6 : left.length ≤ 6 := by omega
    -- what stands behind the inner loop
    refine q_forTn (xs := left.map V.int) (ev_var rfl) (st_of (e11 _ _ (k3 _ _ hp))) (fun i σ' H'' => ∃ (n' : Nat) (v8 v9 : Option V) (kvs' : List (List Key × V)), σ' = [some (.ref x), some (.int (j : Int)), some (.int (k : Int)), some (.ref p), some (.ref b), some (.ref d), some (.ref l), some (.int (n' : Int)), v8, v9] ∧
        Ex Hk H'' ∧ H'' d = some (.dT kvs') ∧ H'' l = some (.lst (acc.map V.int)) ∧ Known cs kvs' ∧ kvs'.length ≤ 1237 + acc.length * 7422 + i * 1237 ∧ ((left.drop i).flatMap (fR left cs))[n']? = some tail)
      (fun H12 e12' => ⟨n, v8, v9, kvs, rfl, (k3.trans e11).trans e12', e12' _ _ (e11 _ _ hd), e12' _ _ (e11 _ _ hl), hkn, by omega, by rw [List.drop_zero]; exact hn⟩) (fun i σ' H'' _ h => ?_) (fun i y σ' H'' hy h => ?_) (fun σ' H'' h => ?_)
    · obtain ⟨_, _, _, _, _, e, _⟩ := h
      exact st_of (e _ _ hp)
    · obtain ⟨n', v8, v9, kvs', rfl, e, hd', hl', hkn', hz', hn'⟩ := h
      rw [List.getElem?_map] at hy
      cases hlf : left[i]? with
      | none => rw [hlf] at hy; cases hy
      | some q =>
      rw [hlf] at hy; cases hy
      obtain ⟨hi, hlf'⟩ := List.getElem?_eq_some_iff.mp hlf
      have hdrop : left.drop i = q :: left.drop (i + 1) := by rw [List.drop_eq_getElem_cons hi, hlf']
      rw [hdrop, List.flatMap_cons] at hn'
      have hp2 := e _ _ hp
      have hb2 : PTp H'' b cs := (hb.ex k1).ex e
      have hwl := without_lt (List.mem_of_getElem? hlf)
      refine s_when (b := isFirst left cs q) (et_B (ev_first (ea_cons (ev_var rfl) (ea_cons (ev_var rfl) (ea_cons (ev_var rfl) ea_nil))) hp2 hb2)) (fun hf H12 e12' => ?_) (fun hf H12 e12' => ?_)
      rotate_left
      · rw [fR_no hf, List.nil_append] at hn'
        exact ⟨n', some (.int q), v9, kvs', rfl, e.trans e12', e12' _ _ hd', e12' _ _ hl', hkn', by omega, hn'⟩
      refine wq_asg (w_countU (l := without left q) (eu_without (ea_cons (ev_var rfl) (ea_cons (ev_var rfl) ea_nil)) (e12' _ _ hp2) (by omega)) (ev_var rfl) (ev_var rfl) (hb2.ex e12') (e12' _ _ hd') hkn' (by omega) (by omega) fun kvs2 H13 e13 hd13 hk13 hz13 => ?_)
      have hl13 : H13 l = some (.lst (acc.map V.int)) := e13 _ _ (by rw [del_ne (Ne.symm dl)]; exact e12' _ _ hl')
      have e13' : Ex Hk H13 := Ex.trans (ex_del (e.trans e12') k2) e13
      refine q_when (b := decide ((n' : Int) < cnt (without left q) cs)) (et_op (ev_var rfl) (ev_var rfl) rv_I0) (fun hlt H14 e14 => ?_) (fun hlt H14 e14 => ?_)
      · -- the row grows; break
        obtain ⟨t', rfl, ht'⟩ := fR_hit hf (by have := of_decide_eq_true hlt; have hc : cnt (without left q) cs = (rows (without left q) cs).length := rfl; omega) hn'
        refine s_app2 (e14 _ _ hl13) (ev_var rfl) (v := .int q) (ev_var rfl) (by rw [List.length_map]; omega) fun H15 e15 => ?_
        have e1315 := e14.trans e15
        refine s_break ?_
        have hp15 : upd H15 l (.lst (acc.map V.int ++ [.int q])) p = some (.tup (left.map V.int)) := Ex.mut (e13'.trans e1315) k2' _ _ hp
        refine s_asgU (eu_without (left := left) (r := q) (ea_cons (ev_var rfl) (ea_cons (ev_op (ev_var rfl) (ev_un ev_c ru_neg) (rv_ixL (sq_of upd_same) (atI_last _ _))) ea_nil)) hp15 (by omega)) fun p2 H16 np2 e16 hp2' => ?_
        have pd2 : p2 ≠ d := fun z => by
          rw [z, upd_ne dl, e1315 _ _ hd13] at np2; cases np2
        have pl2 : p2 ≠ l := fun z => by
          rw [z, upd_same] at np2; cases np2
        have b16 : Ex Hk (del (del H16 d) l) := ex_del (ex_del ((Ex.mut (e13'.trans e1315) k2').trans e16) k2) k2'
        refine ⟨_, hwl, del (del H16 d) l, p2, without left q, acc ++ [q], n', some (.int q), some (.int (cnt (without left q) cs)), kvs2, t', rfl, rfl, k1.trans b16, by rw [del_ne dl, del_same], del_same, Ex.trans (del_ex (Ex.refl _)) (del_ex (Ex.refl _)), by rw [del_ne pl2, del_ne pd2]; exact hp2',
          e16 _ _ (by rw [upd_ne dl]; exact e1315 _ _ hd13), by rw [List.map_append]; exact e16 _ _ upd_same, hk13, ?_, ?_, ht', ?_⟩
        · have : (acc ++ [q]).length = acc.length + 1 := by rw [List.length_append]; rfl
          omega
        · have : (acc ++ [q]).length = acc.length + 1 := by rw [List.length_append]; rfl
          omega
        · rw [List.append_assoc]; exact hrow2
      · have hge := of_decide_eq_false hlt
        have hc : cnt (without left q) cs = (rows (without left q) cs).length := rfl
        refine s_aug rfl (ev_var rfl) fun H15 e15 => ⟨n' - (rows (without left q) cs).length, some (.int q), some (.int (cnt (without left q) cs)), kvs2, ?_, (e13'.trans e14).trans e15, e15 _ _ (e14 _ _ hd13), e15 _ _ (e14 _ _ hl13), hk13, by omega, ?_⟩
        · have : ((n' : Int) - cnt (without left q) cs) = ((n' - (rows (without left q) cs).length : Nat) : Int) := by omega
          rw [this]; rfl
        · rw [← fR_skip hf (by omega)]; exact hn'
    · obtain ⟨n', v8, v9, kvs', rfl, e, hd', hl', hkn', hz', hn'⟩ := h
      rw [List.length_map, List.drop_length] at hn'
      cases hn'
end
end LO

set_option Elab.async false
set_option linter.all false
set_option maxRecDepth 100000
set_option maxHeartbeats 4000000
namespace LO
open PySem PySem.Spec PyProof.Rows L2 LG LW LC LM Evl
theorem pe_mkE {X : Cx} {C : Addr} {x : Str} {k j : Nat} {ps : List Str} {sp : Sp} {e : Expr} {es : List Expr} {p pos : Pos} {t : TA} (F : ∃ f fd ds, Mk X.K C f ∧ FnOk X.prog X.w X.K X.mg X.base CX0 k f fd ps sp ∧ L2.Binds X.K fd ps ds ∧ Vals [] ds) (hr : Room j X.A) (hk : k + 1 ≤ j) (hg : Gl X x) (hm : X.mg x = some (.ref C)) (ha : PA X (e :: es) t)
    (hdb : (x == ("__debug__" : Str)) = false := by decide) (he : starEach (e :: es) X.env = (false, eval e X.env) :: starEach es X.env := by rfl) (hpl : (backTo pos (starEach es X.env)).any (·.1) = false := by rfl) :
    PE X (.Call (.Name x p) (e :: es) [] pos) (tMake C sp [] E0 t) := by
  obtain ⟨f, fd, ds, m, F1, b, d⟩ := F
  exact pe_make m F1 (hr.mono hk) hg hm b d pass0 ha hdb he hpl
/-! ### the hand that draws -/
def HandAt (B H : Hp) (h : Addr) : Prop := ∃ (c : Addr) (ns : List Int) (a b t : Int), H h = some (.lst [.ref c, .int a, .int b, .int t]) ∧ B c = some (.lst (ns.map V.int)) ∧ (∀ n ∈ ns, 0 ≤ n) ∧ (0 ≤ a ∧ a ≤ ns.length) ∧ ns.length ≤ 2 ^ 24 ∧ 0 ≤ b ∧ (0 ≤ t ∧ t < 2 ^ 31)
/-- what is known of all else: B -/
structure Hd (B : Hp) (h : Addr) (H : Hp) : Prop where
  ex : Ex B H
  no : B h = none
  hand : HandAt B H h
theorem HandAt.ex {B H H' : Hp} {h : Addr} (e : Ex H H') (z : HandAt B H h) : HandAt B H' h := by
  obtain ⟨c, ns, a, b, t, h1, r⟩ := z
  exact ⟨c, ns, a, b, t, e _ _ h1, r⟩
theorem HandAt.exB {B B' H : Hp} {h : Addr} (e : Ex B B') (z : HandAt B H h) : HandAt B' H h := by
  obtain ⟨c, ns, a, b, t, h1, h2, r⟩ := z
  exact ⟨c, ns, a, b, t, h1, e _ _ h2, r⟩
/-- more of it known -/
theorem Hd.step {B H H' : Hp} {h : Addr} (z : Hd B h H) (e : Ex H H') : Hd B h H' := ⟨z.ex.trans e, z.no, z.hand.ex e⟩
theorem Hd.grow {B H H' : Hp} {h : Addr} (z : Hd B h H) (e : Ex H H') : Ex B (del H' h) ∧ Hd (del H' h) h H' := ⟨ex_del (z.ex.trans e) z.no, del_ex (Ex.refl _), del_same, (z.hand.ex e).exB (ex_del (z.ex.trans e) z.no)⟩
/-- all but the hand kept, and the hand's own list -/
def fst0 : Option HO → Option V
  | some (.lst (x :: _)) => some x
  | _ => none
structure Kp (H : Hp) (h : Addr) (H' : Hp) : Prop where
  ex : Ex (del H h) H'
  fst : fst0 (H' h) = fst0 (H h)
theorem Kp.trans {H1 H2 H3 : Hp} {h : Addr} (a : Kp H1 h H2) (b : Kp H2 h H3) : Kp H1 h H3 := ⟨Ex.trans (ex_del a.ex del_same) b.ex, b.fst.trans a.fst⟩
theorem Hd.kp {B H H' : Hp} {h : Addr} (z : Hd B h H) (e : Ex H H') : Kp H h H' := by
  obtain ⟨c, ns, a, b, t, h1, _⟩ := z.hand
  exact ⟨del_ex e, by rw [h1, e _ _ h1]⟩
/-- back to what was known -/
theorem hand_back {Bk B2 H1 H2 : Hp} {h : Addr} (z1 : Hd Bk h H1) (k : Kp H1 h H2) (z2 : Hd B2 h H2) : Hd Bk h H2 := by
  obtain ⟨c, ns, a, b, t, h1, h2, h3⟩ := z1.hand
  obtain ⟨c', ns', a', b', t', g1, g2, g3⟩ := z2.hand
  have e : Ex Bk H2 := Ex.trans (ex_del z1.ex z1.no) k.ex
  have hf := k.fst
  rw [h1, g1] at hf
  have hc : c' = c := by
    have : some (V.ref c') = some (V.ref c) := hf
    injection this with this
    injection this
  subst hc
  have hn : ns' = ns := by
    have e1 := z2.ex _ _ g2
    rw [e _ _ h2] at e1
    have : ns.map V.int = ns'.map V.int := by injection e1 with e1; injection e1
    exact ((List.map_inj_right (fun x y z => by injection z)).mp this).symm
  subst hn
  exact ⟨e, z1.no, c', ns', a', b', t', g1, h2, g3⟩
/-- an own list that changes -/
theorem Kp.mut {H H' : Hp} {h D : Addr} {o : HO} (k : Kp H h H') (n : H D = none) (dh : D ≠ h) : Kp H h (upd H' D o) := ⟨Ex.mut k.ex (by rw [del_ne dh]; exact n), by rw [upd_ne (Ne.symm dh)]; exact k.fst⟩
theorem Kp.at {H H' : Hp} {h p : Addr} {o : HO} (k : Kp H h H') (ph : p ≠ h) (hp : H p = some o) : H' p = some o := k.ex _ _ (by rw [del_ne ph]; exact hp)
theorem Hd.ne {B H : Hp} {h p : Addr} (z : Hd B h H) (np : H p = none) : p ≠ h := fun y => by
  obtain ⟨c, ns, a, b, t, h1, _⟩ := z.hand
  rw [y, h1] at np; cases np
theorem Hd.neT {B H : Hp} {h p : Addr} {xs : List V} (z : Hd B h H) (hp : H p = some (.tup xs)) : p ≠ h := fun y => by
  obtain ⟨c, ns, a, b, t, h1, _⟩ := z.hand
  rw [y, h1] at hp; cases hp
theorem Hd.mut {B H : Hp} {h g : Addr} {o : HO} (z : Hd B h H) (nB : B g = none) (gh : g ≠ h) : Hd B h (upd H g o) := by
  obtain ⟨c, ns, a, b, t, h1, h2⟩ := z.hand
  exact ⟨Ex.mut z.ex nB, z.no, c, ns, a, b, t, by rw [upd_ne (Ne.symm gh)]; exact h1, h2⟩
/-- all known but the hand and an own list -/
theorem hd_but {Bk H : Hp} {h g : Addr} (z : Hd Bk h H) (nB : Bk g = none) (gh : g ≠ h) : ∃ Bk', Ex Bk Bk' ∧ Bk' g = none ∧ Hd Bk' h H ∧ ∀ p o, p ≠ g → p ≠ h → H p = some o → Bk' p = some o := by
  have eb : Ex Bk (del (del H g) h) := ex_del (ex_del z.ex nB) z.no
  exact ⟨del (del H g) h, eb, by rw [del_ne gh, del_same], ⟨Ex.trans (del_ex (Ex.refl _)) (fun b o y => by
    by_cases hb : b = g
    · rw [hb, del_same] at y; cases y
    · rw [del_ne hb] at y; exact y), del_same, z.hand.exB eb⟩, fun p o pg ph hp => by rw [del_ne ph, del_ne pg]; exact hp⟩
/-- a value drawn or made, the hand turning -/
def EvH (te : TE) (σ : L2.St) (B : Hp) (h : Addr) (P : V → Hp → Prop) : Prop := ∀ B1 H1, Ex B B1 → Hd B1 h H1 → ∀ Q : VK, (∀ v B2 H2, Ex B1 B2 → Hd B2 h H2 → Kp H1 h H2 → P v B2 → Q v H2) → te σ H1 Q
def EvHT (tt : TT) (σ : L2.St) (B : Hp) (h : Addr) (P : Bool → Prop) : Prop := ∀ B1 H1, Ex B B1 → Hd B1 h H1 → ∀ Q : Bool → Hp → Prop, (∀ b B2 H2, Ex B1 B2 → Hd B2 h H2 → Kp H1 h H2 → P b → Q b H2) → tt σ H1 Q
theorem dtr {H1 H2 H3 : Hp} {h : Addr} (a : Kp H1 h H2) (b : Kp H2 h H3) : Kp H1 h H3 := a.trans b
section
variable {σ : L2.St} {B H : Hp} {h : Addr} {te ta tb : TE} {tr : TA} {D : Ends} {tz tu : TS} {i : Nat} {P : V → Hp → Prop} {v x : V} {Q : VK} {QA : List V → Hp → Prop} {xs : List V}
theorem q_asgH (hd : Hd B h H) (he : EvH te σ B h P) (k : ∀ v B' H', Ex B B' → Hd B' h H' → P v B' → tz D (σ.set i (some v)) H') : tSeq (tAsg te (gName i)) tz D σ H := he B H (Ex.refl B) hd _ fun v B' H' e z _ p => k v B' H' e z p
theorem s_asgH (hd : Hd B h H) (he : EvH te σ B h P) (k : ∀ v B' H', Ex B B' → Hd B' h H' → P v B' → D.nx (σ.set i (some v)) H') : tAsg te (gName i) D σ H := he B H (Ex.refl B) hd _ fun v B' H' e z _ p => k v B' H' e z p
theorem s_retH (hd : Hd B h H) (he : EvH te σ B h P) (k : ∀ v B' H', Ex B B' → Hd B' h H' → Kp H h H' → P v B' → D.rt v H') : tRet te D σ H := he B H (Ex.refl B) hd _ fun v B' H' e z d p => k v B' H' e z d p
theorem q_asgH' (hd : Hd B h H) (he : EvH te σ B h P) (k : ∀ v B' H', Ex B B' → Hd B' h H' → Kp H h H' → P v B' → tz D (σ.set i (some v)) H') : tSeq (tAsg te (gName i)) tz D σ H := he B H (Ex.refl B) hd _ fun v B' H' e z d p => k v B' H' e z d p
/-- what is pure -/
theorem eh_ev (he : Ev te σ B v) : EvH te σ B h (fun w _ => w = v) := fun B1 H1 e z Q q => he H1 (e.trans z.ex) Q fun H2 e2 => q v B1 H2 (Ex.refl B1) (z.step e2) (z.kp e2) rfl
theorem eh_evU (he : EvU te σ B xs) : EvH te σ B h (TupP xs) := fun B1 H1 e z Q q => he H1 (e.trans z.ex) Q fun p H2 np e2 hp => by
  obtain ⟨z1, z2⟩ := z.grow e2
  refine q (.ref p) _ H2 z1 z2 (z.kp e2) ⟨p, rfl, ?_⟩
  have : p ≠ h := fun y => by
    obtain ⟨c, ns, a, b, t, h1, _⟩ := z.hand
    rw [y, h1] at np; cases np
  rw [del_ne this]; exact hp
def LstP (xs : List V) : V → Hp → Prop := fun v H => ∃ p, v = .ref p ∧ H p = some (.lst xs)
theorem eh_evL (he : EvL te σ B xs) : EvH te σ B h (LstP xs) := fun B1 H1 e z Q q => he H1 (e.trans z.ex) Q fun p H2 np e2 hp => by
  obtain ⟨z1, z2⟩ := z.grow e2
  refine q (.ref p) _ H2 z1 z2 (z.kp e2) ⟨p, rfl, ?_⟩
  have : p ≠ h := fun y => by
    obtain ⟨c, ns, a, b, t, h1, _⟩ := z.hand
    rw [y, h1] at np; cases np
  rw [del_ne this]; exact hp
theorem EvH.imp {P' : V → Hp → Prop} (he : EvH te σ B h P) (k : ∀ v H, P v H → P' v H) : EvH te σ B h P' := fun B1 H1 e z Q q => he B1 H1 e z Q fun v B2 H2 e2 z2 d2 p => q v B2 H2 e2 z2 d2 (k v B2 p)
theorem EvH.mono {B' : Hp} (e : Ex B B') (he : EvH te σ B h P) : EvH te σ B' h P := fun B1 H1 e1 z Q q => he B1 H1 (e.trans e1) z Q q
/-- arguments -/
def EvHA (ta : TA) (σ : L2.St) (B : Hp) (h : Addr) (P : List V → Hp → Prop) : Prop := ∀ B1 H1, Ex B B1 → Hd B1 h H1 → ∀ Q : List V → Hp → Prop, (∀ vs B2 H2, Ex B1 B2 → Hd B2 h H2 → Kp H1 h H2 → P vs B2 → Q vs H2) → ta σ H1 Q
theorem eha_nil : EvHA tNil σ B h (fun vs _ => vs = []) := fun B1 H1 e z Q q => q [] B1 H1 (Ex.refl _) z (z.kp (Ex.refl _)) rfl
theorem eha_cons {Pv : V → Hp → Prop} {Pa : V → List V → Hp → Prop} (he : EvH te σ B h Pv) (hr : ∀ v B', Ex B B' → Pv v B' → EvHA tr σ B' h (Pa v)) : EvHA (tCons te tr) σ B h (fun vs H => ∃ v r, vs = v :: r ∧ Pa v r H) := fun B1 H1 e z Q q =>
  he B1 H1 e z _ fun v B2 H2 e2 z2 d2 p => hr v B2 (e.trans e2) p B2 H2 (Ex.refl _) z2 _ fun r B3 H3 e3 z3 d3 pr => q (v :: r) B3 H3 (e2.trans e3) z3 (dtr d2 d3) ⟨v, r, rfl, pr⟩
theorem eh_call {sp : Sp} {dv : List V} {E : XK} {Pa : List V → Hp → Prop} (ha : EvHA tr σ B h Pa) (hs : ∀ vs B1 H1, Ex B B1 → Hd B1 h H1 → Pa vs B1 → ∀ Q : VK, (∀ v B2 H2, Ex B1 B2 → Hd B2 h H2 → Kp H1 h H2 → P v B2 → Q v H2) → sp (vs ++ dv) H1 Q E) : EvH (tCall sp dv E tr) σ B h P := fun B1 H1 e z Q q =>
  ha B1 H1 e z _ fun vs B2 H2 e2 z2 d2 p => hs vs B2 H2 (e.trans e2) z2 p Q fun v B3 H3 e3 z3 d3 p3 => q v B3 H3 (e2.trans e3) z3 (dtr d2 d3) p3
/-- two of them, an operator -/
theorem eh_op {r : R2} {Pa Pb P : V → Hp → Prop} (ha : EvH ta σ B h Pa) (hb : ∀ x B', Ex B B' → Pa x B' → EvH tb σ B' h Pb) (hr : ∀ x y B', Ex B B' → (∃ B0, Ex B0 B' ∧ Pa x B0) → Pb y B' → ∃ w, RV r x y B' w ∧ P w B') : EvH (tOp r ta tb) σ B h P := fun B1 H1 e z Q q =>
  ha B1 H1 e z _ fun x B2 H2 e2 z2 d2 p2 => hb x B2 (e.trans e2) p2 B2 H2 (Ex.refl _) z2 _ fun y B3 H3 e3 z3 d3 p3 => by
    obtain ⟨w, rw_, pw⟩ := hr x y B3 ((e.trans e2).trans e3) ⟨B2, e3, p2⟩ p3
    exact rw_ H3 z3.ex Q fun H4 e4 => q w B3 H4 (e2.trans e3) (z3.step e4) ((dtr d2 d3).trans (z3.kp e4)) pw
end
end LO

set_option Elab.async false
set_option linter.all false
set_option maxRecDepth 100000
set_option maxHeartbeats 4000000
namespace LO
open PySem PySem.Spec PyProof.Rows L2 LG LW LC LM Evl
section
variable {P : Program} {w : World} {K : PySem.W.Frag} {mg : Str → Option Value} {base : Heap}

/-! ### _law_mixed -/
theorem ev_int1 {σ : L2.St} {H : Hp} {ta : TE} {i : Int} (h : Ev ta σ H (.int i)) : Ev (tCB (fun xs H Q => (∃ i, xs = [V.int i] ∧ Q (.int i) H) ∨ ∃ k, xs = [V.bl k] ∧ Q (.int (if k then 1 else 0)) H) (tCons ta tNil)) σ H (.int i) := fun H1 e Q q =>
  h H1 e _ fun H2 e2 => .inl ⟨i, rfl, q H2 e2⟩
theorem mod_lt {i j : Int} (h : 0 < j) : 0 ≤ i % j ∧ i % j < j := ⟨Int.emod_nonneg _ (by omega), Int.emod_lt_of_pos _ h⟩
theorem mulW {i j : Int} (a b : Nat) (h1 : i.natAbs < 2 ^ a) (h2 : j.natAbs < 2 ^ b) (h : a + b ≤ 1000000 ∧ 0 < a ∧ 0 < b := by decide) : CMulW i j := wide_mul h1 h2 h.2.1 h.2.2 h.1
def sp__law_mixed : Sp := fun vs H Q _ => ∃ n t : Int, vs = [.int n, .int t] ∧ n.natAbs < 2 ^ 32 ∧ t.natAbs < 2 ^ 32 ∧ ∀ r H', Ex H H' → Q (.int r) H'
abbrev n__law_mixed : List Str := ["_law_number", "_law_turn", "_law_once", "_law_twice"]
theorem sc__law_mixed : FnScope n__law_mixed ["_law_number", "_law_turn"] (defScope s__law_mixed) := ⟨rfl, rfl, rfl, by decide +kernel, rfl, by decide +kernel, by decide +kernel⟩
theorem fn__law_mixed (M : Mods P K mg base) : Fn P w K mg base CX0 1 "_law_mixed" ["_law_number", "_law_turn"] [] sp__law_mixed := by
  have nd := sc__law_mixed.nd
  refine Fn.mk0 M.F__law_mixed M.g__law_mixed sc__law_mixed (fun vs H Q E h => ?_) (fun fd F => F.bindsN fun _ _ _ _ _ _ us hl => match us, hl with | [_, _], _ => rfl) fun cdv A outer s H vs Q E hr h => ⟨_,
    (pss_cons (ps_set (i := 2) nd rfl (.inl rfl) (pe_op op_mod (pe_callTy call_int1 rfl M.z_int LW.boot_int (pa_cons (pe_op op_add (pe_op op_add (pe_op op_mulW (pv 0) pe_int) (pe_op op_mulW (pv 1) pe_int)) pe_int) pa_nil)) pe_int)) (pss_cons (ps_set (i := 3) nd rfl (.inl rfl) (pe_op op_mod (pe_callTy call_int1 rfl M.z_int LW.boot_int (pa_cons (pe_op op_add (pe_op op_add (pe_op op_mulW (pv 2) (pv 2)) (pe_op op_mulW (pv 1) pe_int)) (pe_op op_fdivW (pv 2) pe_int)) pa_nil)) pe_int)) (pss_one (ps_ret (pe_op op_fdivW (pe_callTy call_int1 rfl M.z_int LW.boot_int (pa_cons (pe_op op_mod (pe_callTy call_int1 rfl M.z_int LW.boot_int (pa_cons (pe_op op_add (pe_op op_mulW (pv 3) pe_int) (pe_op op_fdivW (pv 2) pe_int)) pa_nil)) pe_int) pa_nil)) pe_int))))), ?_⟩
  · obtain ⟨n, t, rfl, _⟩ := h; rfl
  · obtain ⟨n, t, rfl, hn, ht, hQ⟩ := h
    refine q_asg (ev_op (ev_int1 (ev_op (ev_op (ev_op (ev_var rfl) ev_c (rv_I (mulW 32 16 hn (by decide)))) (ev_op (ev_var rfl) ev_c (rv_I (mulW 32 13 ht (by decide)))) rv_I0) ev_c rv_I0)) ev_c (rv_I (by decide))) fun H1 e1 => ?_
    obtain ⟨o1, o2⟩ := mod_lt (i := n * 48271 + t * 7919 + 65537) (j := 2147483647) (by decide)
    generalize (n * 48271 + t * 7919 + 65537) % 2147483647 = o at o1 o2
    have ho : o.natAbs < 2 ^ 32 := by omega
    refine q_asg (ev_op (ev_int1 (ev_op (ev_op (ev_op (ev_var rfl) (ev_var rfl) (rv_I (mulW 32 32 ho ho))) (ev_op (ev_var rfl) ev_c (rv_I (mulW 32 17 ht (by decide)))) rv_I0) (ev_op (ev_var rfl) ev_c (rv_I ⟨by decide, by decide⟩)) rv_I0)) ev_c (rv_I (by decide))) fun H2 e2 => ?_
    obtain ⟨w1, w2⟩ := mod_lt (i := o * o + t * 104729 + o / 127) (j := 2147483629) (by decide)
    generalize (o * o + t * 104729 + o / 127) % 2147483629 = w at w1 w2
    have hw : w.natAbs < 2 ^ 32 := by omega
    exact s_ret (ev_op (ev_int1 (ev_op (ev_int1 (ev_op (ev_op (ev_var rfl) ev_c (rv_I (mulW 32 17 hw (by decide)))) (ev_op (ev_var rfl) ev_c (rv_I ⟨by decide, by decide⟩)) rv_I0)) ev_c (rv_I (by decide)))) ev_c (rv_I ⟨by decide, by decide⟩)) fun H3 e3 => hQ _ H3 ((e1.trans e2).trans e3)
/-! ### _law_hand -/
def sp__law_hand (K : PySem.W.Frag) : Sp := fun vs H Q _ => ∃ (a : Addr) (ns : List Int), vs = [.ref a] ∧ SqL K H a (ns.map V.int) ∧ ns.length ≤ 63 ∧ ∀ h H', H h = none → Ex H H' → Hd (del H' h) h H' → Q (.ref h) H'
def absI (i : Int) : Int := if 0 ≤ i then i else -i
abbrev n__law_hand : List Str := ["_law_script", "_law_total", "_law_cells", "_law_cell"]
theorem sc__law_hand : FnScope n__law_hand ["_law_script"] (defScope s__law_hand) := ⟨rfl, rfl, rfl, by decide +kernel, rfl, by decide +kernel, by decide +kernel⟩
theorem fn__law_hand (M : Mods P K mg base) : Fn P w K mg base CX0 1 "_law_hand" ["_law_script"] [] (sp__law_hand K) := by
  have nd := sc__law_hand.nd
  refine Fn.mk0 M.F__law_hand M.g__law_hand sc__law_hand (fun vs H Q E h => ?_) (fun fd F => F.bindsN fun _ _ _ _ _ _ us hl => match us, hl with | [_], _ => rfl) fun cdv A outer s H vs Q E hr h => ⟨_,
    (pss_cons (ps_set (i := 1) nd rfl (.inl rfl) (pe_op op_add (pe_callB call_len_seq rfl M.z_len LW.boot_len (pa_cons (pv 0) pa_nil)) pe_int)) (pss_cons (ps_set (i := 2) nd rfl (.inl rfl) (pe_lst pa_nil)) (pss_cons (ps_for PassesOwn.never rfl (pi_list (pv 0)) (pg_name (i := 3) nd rfl (.inl rfl)) (pss_cons (ps_set (i := 1) nd rfl (.inl rfl) (pe_op op_mod (pe_callTy call_int1 rfl M.z_int LW.boot_int (pa_cons (pe_op op_add (pe_op op_mulW (pv 1) pe_int) (pe_callTy call_int1 rfl M.z_int LW.boot_int (pa_cons (pv 3) pa_nil))) pa_nil)) pe_int)) (pss_one (ps_expr (pe_bm PySem.F.plainAttrs_list PySem.F.slot_list_append PySem.F.type_list_append mt_append (pv 2) (pa_cons (pe_ifExp (pt_cmpR op_ge (pv 3) pe_int (nomark _)) (pe_callTy call_int1 rfl M.z_int LW.boot_int (pa_cons (pv 3) pa_nil)) (pe_un un_neg (pe_callTy call_int1 rfl M.z_int LW.boot_int (pa_cons (pv 3) pa_nil)))) pa_nil)))))) (pss_one (ps_ret (pe_lst (pa_cons (pv 2) (pa_cons pe_int (pa_cons pe_int (pa_cons (pv 1) pa_nil)))))))))), ?_⟩
  · obtain ⟨a, ns, rfl, _⟩ := h; rfl
  · obtain ⟨a, ns, rfl, ha, hz, hQ⟩ := h
    refine q_asg (v := .int (ns.length + 31)) (ev_is (ev_op (ev_len (ev_var rfl) ha) ev_c rv_I0) (by rw [List.length_map])) fun H1 e1 => ?_
    refine q_asgL (el_lst ea_nil (Nat.zero_le _)) fun c H2 nc e2 hc => ?_
    have e12 := e1.trans e2
    refine q_forLn (ev_var rfl) (ex_l e12 ha) (fun i σ' H' => ∃ (Hk : Hp) (t : Int) (v : Option V), σ' = [some (.ref a), some (.int t), some (.ref c), v] ∧ Ex H Hk ∧ Hk c = none ∧ Ex Hk H' ∧ H' c = some (.lst (((ns.take i).map absI).map V.int)) ∧ 0 ≤ t ∧ t < 2 ^ 31)
      (fun H3 e3 => ⟨H1, _, none, rfl, e1, nc, e2.trans e3, e3 _ _ hc, by omega, by omega⟩) (fun i σ' H' _ h => ?_) (fun i x σ' H' hx h => ?_) (fun σ' H' h => ?_)
    · obtain ⟨Hk, _, _, _, k1, _, k3, _⟩ := h
      exact ex_l (k1.trans k3) ha
    · obtain ⟨Hk, t, v, rfl, k1, k2, k3, hc3, t1, t2⟩ := h
      rw [List.getElem?_map] at hx
      cases hn : ns[i]? with
      | none => rw [hn] at hx; cases hx
      | some n =>
      rw [hn] at hx; cases hx
      refine q_asg (ev_op (ev_int1 (ev_op (ev_op (ev_var rfl) ev_c (rv_I (mulW 32 10 (by omega) (by decide)))) (ev_int1 (ev_var rfl)) rv_I0)) ev_c (rv_I (by decide))) fun H4 e4 => ?_
      obtain ⟨w1, w2⟩ := mod_lt (i := t * 1019 + n) (j := 2147483629) (by decide)
      generalize (t * 1019 + n) % 2147483629 = w at w1 w2
      refine s_app (v := .int (absI n)) (e4 _ _ hc3) (ev_var rfl) (ev_if (b := decide (0 ≤ n)) (et_op (ev_var rfl) ev_c rv_I0) (fun hb => ev_is (ev_int1 (ev_var rfl)) ?_) (fun hb => ev_is (ev_un (ev_int1 (ev_var rfl)) ru_neg) ?_)) (by rw [List.length_map, List.length_map, List.length_take]; omega) fun H5 e5 => ?_
      · unfold absI; rw [if_pos (of_decide_eq_true hb)]
      · unfold absI; rw [if_neg (of_decide_eq_false hb)]
      · obtain ⟨n1, n2, n3⟩ := kn_next (X := .lst (((ns.take i).map absI).map V.int ++ [.int (absI n)])) (k3.trans (e4.trans e5)) k2
        refine ⟨del H5 c, w, _, rfl, k1.trans n1, n2, n3, ?_, w1, by omega⟩
        rw [upd_same, List.take_succ, hn]
        simp
    · obtain ⟨Hk, t, v, rfl, k1, k2, k3, hc3, t1, t2⟩ := h
      rw [List.length_map, List.take_length] at hc3
      refine s_retL (el_lst (ea_cons (ev_var rfl) (ea_cons ev_c (ea_cons ev_c (ea_cons (ev_var rfl) ea_nil)))) (show 4 ≤ 100000 by decide)) fun h H4 nh e4 hh => hQ h H4 (fresh_back (k1.trans k3) nh) ((k1.trans k3).trans e4) ⟨del_ex (Ex.refl _), del_same, c, ns.map absI, 0, 0, t, hh, by rw [del_ne (fun z => by rw [← z, hc3] at nh; cases nh)]; exact e4 _ _ hc3, fun n hn => ?_, ⟨Int.le_refl _, by rw [List.length_map]; omega⟩, by rw [List.length_map]; omega, Int.le_refl _, t1, t2⟩
      obtain ⟨m, _, rfl⟩ := List.mem_map.mp hn
      unfold absI
      split <;> omega
end
end LO

set_option Elab.async false
set_option linter.all false
set_option maxRecDepth 100000
set_option maxHeartbeats 4000000
namespace LO
open PySem PySem.Spec PyProof.Rows L2 LG LW LC LM Evl
section
variable {P : Program} {w : World} {K : PySem.W.Frag} {mg : Str → Option Value} {base : Heap}

/-! ### _law_take -/
def sp__law_take : Sp := fun vs H Q _ => ∃ (h : Addr) (m : Int) (B : Hp), vs = [.ref h, .int m] ∧ Hd B h H ∧ 0 < m ∧ m < 2 ^ 31 ∧ ∀ k H', Kp H h H' → Hd B h H' → 0 ≤ k → k < m → Q (.int k) H'
def IntP : V → Hp → Prop := fun v _ => ∃ r : Int, v = .int r
section
variable {σ : L2.St} {H : Hp} {ta tb : TE}
theorem ep_int1 (h : EvP ta σ H IntP) : EvP (tCB (fun xs H Q => (∃ i, xs = [V.int i] ∧ Q (.int i) H) ∨ ∃ k, xs = [V.bl k] ∧ Q (.int (if k then 1 else 0)) H) (tCons ta tNil)) σ H IntP := fun H1 e Q q =>
  h H1 e _ fun v H2 e2 ⟨i, hv⟩ => .inl ⟨i, by rw [hv], q _ H2 e2 ⟨i, rfl⟩⟩
theorem ep_mod {m : Int} (hm : 0 < m) (h : EvP ta σ H IntP) (hb : ∀ H1, Ex H H1 → Ev tb σ H1 (.int m)) : EvP (tOp (rI (fun _ j => 0 < j) fun i j => .int (i % j)) ta tb) σ H (fun v _ => ∃ k, v = .int k ∧ 0 ≤ k ∧ k < m) := fun H1 e Q q =>
  h H1 e _ fun v H2 e2 ⟨i, hv⟩ => hb H2 (e.trans e2) H2 (Ex.refl _) _ fun H3 e3 => ⟨i, m, hv, rfl, hm, q _ H3 (e2.trans e3) ⟨_, rfl, (mod_lt hm).1, (mod_lt hm).2⟩⟩
theorem ep_mixed {n t : Int} {E : XK} (ha : Ev ta σ H (.int n)) (hb : Ev tb σ H (.int t)) (hn : n.natAbs < 2 ^ 32) (ht : t.natAbs < 2 ^ 32) : EvP (tCall sp__law_mixed [] E (tCons ta (tCons tb tNil))) σ H IntP :=
  ep_fn (ea_cons ha (ea_cons hb ea_nil)) fun H1 e Q E q => ⟨n, t, rfl, hn, ht, fun r H2 e2 => q _ H2 e2 ⟨r, rfl⟩⟩
end
/-- the list of the hand, its first item -/
theorem kp_of {H H' : Hp} {h : Addr} {x : V} {xs ys : List V} (e : Ex (del H h) H') (h1 : H h = some (.lst (x :: xs))) (h2 : H' h = some (.lst (x :: ys))) : Kp H h H' := ⟨e, by rw [h1, h2]; rfl⟩
theorem hand_mk {B H : Hp} {h c : Addr} {ns : List Int} {a b t : Int} (hc : B c = some (.lst (ns.map V.int))) (h1 : ∀ n ∈ ns, 0 ≤ n) (h2 : 0 ≤ a ∧ a ≤ ns.length) (h3 : ns.length ≤ 2 ^ 24) (h4 : 0 ≤ b) (h5 : 0 ≤ t ∧ t < 2 ^ 31) : HandAt B (upd H h (.lst [.ref c, .int a, .int b, .int t])) h :=
  ⟨c, ns, a, b, t, upd_same, hc, h1, h2, h3, h4, h5⟩
abbrev tInt1 (te : TE) : TE := tCB (fun xs H Q => (∃ i, xs = [V.int i] ∧ Q (.int i) H) ∨ ∃ k, xs = [V.bl k] ∧ Q (.int (if k then 1 else 0)) H) (tCons te tNil)
abbrev tHand (K : PySem.W.Frag) (i : Int) : TE := tOp (rIxL K) (tVar 0) (tC (.int i))
abbrev rModI : R2 := rI (fun _ j => 0 < j) fun i j => .int (i % j)
/-- behind the first if -/
theorem take_tail {K : PySem.W.Frag} {Q : VK} {H B D0 : Hp} {h c : Addr} {ns : List Int} {a b t m : Int} {v2 : Option V} (hh : H h = some (.lst [.ref c, .int a, .int b, .int t])) (hc : B c = some (.lst (ns.map V.int))) (eB : Ex D0 H) (nB : D0 h = none)
    (hns : ∀ n ∈ ns, 0 ≤ n) (a0 : 0 ≤ a ∧ a ≤ ns.length) (hz : ns.length ≤ 2 ^ 24) (b0 : 0 ≤ b) (t0 : 0 ≤ t ∧ t < 2 ^ 31) (hm : 0 < m) (hm2 : m < 2 ^ 31) (hQ : ∀ k H', Ex D0 H' → (∃ ys, H' h = some (.lst (.ref c :: ys))) → HandAt B H' h → 0 ≤ k → k < m → Q (.int k) H') :
    tSeq (tIfS (tTest (tOp (rI0 fun i j => .bl (decide (j < i))) (tHand K 2) (tC (.int 0)))) (tSeq (tAsg (tHand K 2) (gName 3)) (tSeq (tAsg (tOp (rI CDivW fun i j => .int (i / j)) (tInt1 (tVar 3)) (tVar 1)) (gSub (tVar 0) (tC (.int 2)) rSetL)) (tRet (tOp rModI (tInt1 (tVar 3)) (tVar 1))))) tNext)
      (tSeq (tAsg (tOp rModI (tInt1 (tOp (rI0 fun i j => .int (i + j)) (tHand K 3) (tC (.int 1)))) (tC (.int 2147483629))) (gSub (tVar 0) (tC (.int 3)) rSetL)) (tRet (tOp rModI (tInt1 (tCall sp__law_mixed [] E0 (tCons (tHand K 3) (tCons (tHand K 1) tNil)))) (tVar 1))))
      { nx := fun _ H' => Q .non H', rt := Q } [some (.ref h), some (.int m), v2, none] H := by
  have hz2 : ns.length ≤ 16777216 := hz
  obtain ⟨t1, t2⟩ := t0
  obtain ⟨a1, a2⟩ := a0
  refine q_when (b := decide (0 < b)) (et_op (ev_op (ev_var rfl) ev_c (rv_ixL (sq_of hh) rfl)) ev_c rv_I0) (fun hb H1 e1 => ?_) fun hb H1 e1 => ?_
  · refine q_asg (v := .int b) (ev_op (ev_var rfl) ev_c (rv_ixL (sq_of (e1 _ _ hh)) rfl)) fun H2 e2 => ?_
    refine q_setL (j := 2) (e2 _ _ (e1 _ _ hh)) (ev_op (ev_int1 (ev_var rfl)) (ev_var rfl) (rv_I (wide_div hm (show m.natAbs < 2 ^ 32 by omega) (by decide) (by decide)))) (ev_var rfl) (ev_is ev_c rfl) (show 2 < 4 by decide) fun H3 e3 => ?_
    have e13 := (e1.trans e2).trans e3
    have h3 : HandAt B (upd H3 h (.lst [.ref c, .int a, .int (b / m), .int t])) h := hand_mk hc hns ⟨a1, a2⟩ hz (Int.ediv_nonneg b0 (Int.le_of_lt hm)) ⟨t1, t2⟩
    refine s_ret (ev_op (ev_int1 (ev_var rfl)) (ev_var rfl) (rv_I hm)) fun H4 e4 => hQ _ H4 ((Ex.mut (eB.trans e13) nB).trans e4) ⟨_, e4 _ _ upd_same⟩ (h3.ex e4) (mod_lt hm).1 (mod_lt hm).2
  · refine q_setL (j := 3) (e1 _ _ hh) (ev_op (ev_int1 (ev_op (ev_op (ev_var rfl) ev_c (rv_ixL (sq_of (e1 _ _ hh)) rfl)) ev_c rv_I0)) ev_c (rv_I (by decide))) (ev_var rfl) (ev_is ev_c rfl) (show 3 < 4 by decide) fun H3 e3 => ?_
    have e13 := e1.trans e3
    obtain ⟨w1, w2⟩ := mod_lt (i := t + 1) (j := 2147483629) (by decide)
    generalize (t + 1) % 2147483629 = w at w1 w2
    have hh3 : upd H3 h (.lst [.ref c, .int a, .int b, .int w]) h = some (.lst [.ref c, .int a, .int b, .int w]) := upd_same
    have h3 : HandAt B (upd H3 h (.lst [.ref c, .int a, .int b, .int w])) h := hand_mk hc hns ⟨a1, a2⟩ hz b0 ⟨w1, by omega⟩
    show tRet _ _ _ (upd H3 h (.lst [.ref c, .int a, .int b, .int w]))
    refine s_retP (ep_mod hm (ep_int1 (ep_mixed (n := w) (t := a) (ev_op (ev_var rfl) ev_c (rv_ixL (sq_of hh3) rfl)) (ev_op (ev_var rfl) ev_c (rv_ixL (sq_of hh3) rfl)) (by omega) (by omega))) fun _ _ => ev_var rfl) fun v H5 e5 ⟨k, hv, k0, k1⟩ => ?_
    rw [hv]
    exact hQ k H5 ((Ex.mut (eB.trans e13) nB).trans e5) ⟨_, e5 _ _ upd_same⟩ (h3.ex e5) k0 k1
abbrev n__law_take : List Str := ["_law_hand_here", "_law_many_here", "_law_cell", "_law_rest"]
theorem sc__law_take : FnScope n__law_take ["_law_hand_here", "_law_many_here"] (defScope s__law_take) := ⟨rfl, rfl, rfl, by decide +kernel, rfl, by decide +kernel, by decide +kernel⟩
theorem fn__law_take (M : Mods P K mg base) : Fn P w K mg base CX0 2 "_law_take" ["_law_hand_here", "_law_many_here"] [] sp__law_take := by
  have nd := sc__law_take.nd
  have h__law_mixed := (fn__law_mixed (w := w) M).up (show 1 ≤ 1 by decide)
  refine Fn.mk0 M.F__law_take M.g__law_take sc__law_take (fun vs H Q E h => ?_) (fun fd F => F.bindsN fun _ _ _ _ _ _ us hl => match us, hl with | [_, _], _ => rfl) fun cdv A outer s H vs Q E hr h => ⟨_,
    (pss_cons (ps_if (PW.pt (pw_and (pt_cmpR op_eq (pe_ix ix_list (pv 0) pe_int (fun _ _ => rfl)) pe_int (nomark _)) (pw_and1 (pt_cmpR op_lt (pe_ix ix_list (pv 0) pe_int (fun _ _ => rfl)) (pe_callB call_len_seq rfl M.z_len LW.boot_len (pa_cons (pe_ix ix_list (pv 0) pe_int (fun _ _ => rfl)) pa_nil)) (nomark _))))) (pss_cons (ps_set (i := 2) nd rfl (.inl rfl) (pe_ix ix_list (pe_ix ix_list (pv 0) pe_int (fun _ _ => rfl)) (pe_ix ix_list (pv 0) pe_int (fun _ _ => rfl)) (fun _ _ => rfl))) (pss_cons (ps_asg (pe_op op_add (pe_ix ix_list (pv 0) pe_int (fun _ _ => rfl)) pe_int) (pg_sub (pv 0) pe_int set_list)) (pss_cons (ps_if (pt_cmpR op_lt (pv 2) (pe_op op_pow pe_int pe_int) (nomark _)) (pss_one (ps_ret (pe_op op_mod (pe_callTy call_int1 rfl M.z_int LW.boot_int (pa_cons (pe_fn h__law_mixed hr pass0 (pa_cons (pe_op op_mod (pe_callTy call_int1 rfl M.z_int LW.boot_int (pa_cons (pv 2) pa_nil)) pe_int) (pa_cons (pe_ix ix_list (pv 0) pe_int (fun _ _ => rfl)) pa_nil))) pa_nil)) (pv 1)))) pss_nil) (pss_one (ps_asg (pv 2) (pg_sub (pv 0) pe_int set_list)))))) pss_nil) (pss_cons (ps_if (pt_cmpR op_gt (pe_ix ix_list (pv 0) pe_int (fun _ _ => rfl)) pe_int (nomark _)) (pss_cons (ps_set (i := 3) nd rfl (.inl rfl) (pe_ix ix_list (pv 0) pe_int (fun _ _ => rfl))) (pss_cons (ps_asg (pe_op op_fdivW (pe_callTy call_int1 rfl M.z_int LW.boot_int (pa_cons (pv 3) pa_nil)) (pv 1)) (pg_sub (pv 0) pe_int set_list)) (pss_one (ps_ret (pe_op op_mod (pe_callTy call_int1 rfl M.z_int LW.boot_int (pa_cons (pv 3) pa_nil)) (pv 1)))))) pss_nil) (pss_cons (ps_asg (pe_op op_mod (pe_callTy call_int1 rfl M.z_int LW.boot_int (pa_cons (pe_op op_add (pe_ix ix_list (pv 0) pe_int (fun _ _ => rfl)) pe_int) pa_nil)) pe_int) (pg_sub (pv 0) pe_int set_list)) (pss_one (ps_ret (pe_op op_mod (pe_callTy call_int1 rfl M.z_int LW.boot_int (pa_cons (pe_fn h__law_mixed hr pass0 (pa_cons (pe_ix ix_list (pv 0) pe_int (fun _ _ => rfl)) (pa_cons (pe_ix ix_list (pv 0) pe_int (fun _ _ => rfl)) pa_nil))) pa_nil)) (pv 1))))))), ?_⟩
  · obtain ⟨h, m, B, rfl, _⟩ := h; rfl
  · obtain ⟨h, m, B, rfl, hd, hm, hm2, hQ⟩ := h
    obtain ⟨c, ns, a, b, t, hh, hcB, hns, ⟨a0, a1⟩, hz, b0, t0, t1⟩ := id hd.hand
    have hc := hd.ex _ _ hcB
    have hQ : ∀ k H', Ex (del H h) H' → (∃ ys, H' h = some (.lst (.ref c :: ys))) → HandAt B H' h → 0 ≤ k → k < m → Q (.int k) H' := fun k H' e ⟨ys, hy⟩ z => hQ k H' (kp_of e hh hy) ⟨(ex_del hd.ex hd.no).trans e, hd.no, z⟩
    have nB : del H h h = none := del_same
    have eB : Ex (del H h) H := del_ex (Ex.refl H)
    have ch : c ≠ h := fun z => by
      rw [z, hh] at hc
      cases ns with
      | nil => cases hc
      | cons x l => cases hc
    have hlen : ∀ {Hx}, Ex H Hx → Ev (tCB (rLenS K) (tCons (tOp (rIxL K) (tVar 0) (tC (.int 0))) tNil)) [some (.ref h), some (.int m), none, none] Hx (.int (ns.length : Int)) := fun {Hx} e => ev_is (ev_len (ev_op (ev_var rfl) ev_c (rv_ixL (sq_of (e _ _ hh)) rfl)) (sq_of (e _ _ hc))) (by rw [List.length_map])
    refine q_when (b := decide (V.int b = V.int 0) && decide (a < ns.length)) (et_and (et_op (ev_op (ev_var rfl) ev_c (rv_ixL (sq_of hh) rfl)) ev_c (rv_eq rfl)) fun _ => et_op (ev_op (ev_var rfl) ev_c (rv_ixL (sq_of hh) rfl)) (hlen (Ex.refl _)) rv_I0) (fun hb H1 e1 => ?_) fun hb H1 e1 => ?_
    · rw [Bool.and_eq_true, decide_eq_true_iff, decide_eq_true_iff] at hb
      have hal := hb.2
      have hcell : ns[a.toNat]? = some (ns[a.toNat]'(by omega)) := List.getElem?_eq_getElem (by omega)
      have hcn := hns _ (List.mem_of_getElem? hcell)
      generalize (ns[a.toNat]'(by omega)) = cell at hcell hcn
      refine q_asg (v := .int cell) (ev_op (ev_op (ev_var rfl) ev_c (rv_ixL (sq_of (e1 _ _ hh)) rfl)) (ev_op (ev_var rfl) ev_c (rv_ixL (sq_of (e1 _ _ hh)) rfl)) (rv_ixL (sq_of (e1 _ _ hc)) (by
        have : a = ((a.toNat : Nat) : Int) := by omega
        rw [this]
        exact atI_nat (by rw [List.getElem?_map, hcell]; rfl)))) fun H2 e2 => ?_
      have hh2 := e2 _ _ (e1 _ _ hh)
      refine q_setL (j := 1) hh2 (ev_op (ev_op (ev_var rfl) ev_c (rv_ixL (sq_of hh2) rfl)) ev_c rv_I0) (ev_var rfl) (ev_is ev_c rfl) (show 1 < 4 by decide) fun H3 e3 => ?_
      have hc3 : H3 c = some (.lst (ns.map V.int)) := e3 _ _ (e2 _ _ (e1 _ _ hc))
      show tSeq _ _ _ _ (upd H3 h (.lst [.ref c, .int (a + 1), .int b, .int t]))
      have hh3 : upd H3 h (.lst [.ref c, .int (a + 1), .int b, .int t]) h = some (.lst [.ref c, .int (a + 1), .int b, .int t]) := upd_same
      have eB3 : Ex (del H h) (upd H3 h (.lst [.ref c, .int (a + 1), .int b, .int t])) := Ex.mut (eB.trans ((e1.trans e2).trans e3)) nB
      have hd3 : HandAt B (upd H3 h (.lst [.ref c, .int (a + 1), .int b, .int t])) h := hand_mk hcB hns ⟨by omega, by omega⟩ hz b0 ⟨t0, t1⟩
      refine q_when (b := decide (cell < 1000000000000000000)) (et_op (ev_var rfl) (ev_is (ev_op ev_c ev_c (rv_I ⟨by decide, by decide, by decide⟩)) (by decide)) rv_I0) (fun _ H4 e4 => ?_) (fun _ H4 e4 => ?_)
      · have hz2 : ns.length ≤ 16777216 := hz
        refine s_retP (ep_mod hm (ep_int1 (ep_mixed (n := cell % 2147483647) (t := a + 1) (ev_op (ev_int1 (ev_var rfl)) ev_c (rv_I (by decide))) (ev_op (ev_var rfl) ev_c (rv_ixL (sq_of (e4 _ _ hh3)) rfl)) (by have := mod_lt (i := cell) (j := 2147483647) (by decide); omega) (by omega))) fun _ _ => ev_var rfl) fun v H5 e5 ⟨k, hv, k0, k1⟩ => ?_
        rw [hv]
        exact hQ k H5 (eB3.trans (e4.trans e5)) ⟨_, (e4.trans e5) _ _ hh3⟩ (hd3.ex (e4.trans e5)) k0 k1
      · refine q_setL (j := 2) (e4 _ _ hh3) (ev_var rfl) (ev_var rfl) (ev_is ev_c rfl) (show 2 < 4 by decide) fun H5 e5 => ?_
        exact take_tail (c := c) (ns := ns) (a := a + 1) (b := cell) (t := t) upd_same hcB (Ex.mut (eB3.trans (e4.trans e5)) nB) nB hns ⟨by omega, by omega⟩ hz hcn ⟨t0, t1⟩ hm hm2 hQ
    · exact take_tail (c := c) (ns := ns) (e1 _ _ hh) hcB (eB.trans e1) nB hns ⟨a0, a1⟩ hz b0 ⟨t0, t1⟩ hm hm2 hQ
end
end LO

set_option Elab.async false
set_option linter.all false
set_option maxRecDepth 100000
set_option maxHeartbeats 4000000
namespace LO
open PySem PySem.Spec PyProof.Rows L2 LG LW LC LM Evl
section
variable {P : Program} {w : World} {K : PySem.W.Frag} {mg : Str → Option Value} {base : Heap}

/-! ### _law_shuffled -/
def IkP (m : Int) : V → Hp → Prop := fun v _ => ∃ k : Int, v = .int k ∧ 0 ≤ k ∧ k < m
section
variable {K : PySem.W.Frag} {σ : L2.St} {B H : Hp} {h : Addr} {t : TA} {ta tb : TE} {m : Int} {E : XK} {a : Addr} {xs : List V} {D : Ends} {tz : TS} {i j : Nat}
theorem eh_take (ha : EvA t σ B [.ref h, .int m]) (hm : 0 < m) (hm2 : m < 2 ^ 31) : EvH (tCall sp__law_take [] E t) σ B h (IkP m) := fun B1 H1 e z Q q => ha H1 (e.trans z.ex) _ fun H2 e2 =>
  ⟨h, m, B1, rfl, z.step e2, hm, hm2, fun k H3 d3 z3 k0 k1 => q _ B1 H3 (Ex.refl _) z3 (dtr (z.kp e2) d3) ⟨k, rfl, k0, k1⟩⟩
theorem el_listB (h : Ev ta σ H (.ref a)) (hx : SqB H a xs) : EvL (tCB (rListS K) (tCons ta tNil)) σ H xs := fun H1 e Q q =>
  h H1 e _ fun H2 e2 => ⟨a, xs, rfl, (hx.ex (e.trans e2)).sq, fun l hl => q l _ (fresh_back e2 hl) (e2.trans (Ex.new hl)) upd_same⟩
theorem w_bm {T : String} {r : V → List V → Hp → VK → Prop} {Q : VK} (h : ta σ H fun x H1 => tyV K T x H1 ∧ t σ H1 fun xs H2 => r x xs H2 Q) : tBM K T r ta t σ H Q := h
theorem w_drop (h : ta σ H fun _ H1 => D.nx σ H1) : tDrop ta D σ H := h
theorem wq_par (h : tCons ta (tCons tb tNil) σ H fun vs H1 => ∃ v w, vs = [v, w] ∧ tz D ((σ.set i (some v)).set j (some w)) H1) : tSeq (tPar i j (tCons ta (tCons tb tNil))) tz D σ H := h
end
theorem seqI {k : Int} {n : Nat} (h0 : 0 ≤ k) (h1 : k < n) : seqIndex? k n = some k.toNat := by
  have : k = ((k.toNat : Nat) : Int) := by omega
  have h2 := ixN_nat (n := n) (j := k.toNat) (by omega)
  rw [← this] at h2
  exact (ixN_seq h2).1
theorem perm_pull {α : Type} {xs : List α} {k : Nat} {y : α} (h : xs[k]? = some y) : (y :: xs.eraseIdx k).Perm xs := by
  induction xs generalizing k with
  | nil => cases h
  | cons x xs ih =>
    cases k with
    | zero => cases h; exact .refl _
    | succ k =>
      rw [List.getElem?_cons_succ] at h
      rw [List.eraseIdx_cons_succ]
      exact (List.Perm.swap x y _).trans ((ih h).cons x)
def sp__law_shuffled : Sp := fun vs H Q _ => ∃ (h r : Addr) (B : Hp) (xs : List V), vs = [.ref h, .ref r] ∧ Hd B h H ∧ SqB B r xs ∧ xs.length ≤ 1000 ∧ ∀ q ys B' H', Ex B B' → Hd B' h H' → Kp H h H' → B' q = some (.lst ys) → ys.Perm xs → Q (.ref q) H'
abbrev n__law_shuffled : List Str := ["_law_hand_here", "_law_row", "_law_left", "_law_found"]
theorem sc__law_shuffled : FnScope n__law_shuffled ["_law_hand_here", "_law_row"] (defScope s__law_shuffled) := ⟨rfl, rfl, rfl, by decide +kernel, rfl, by decide +kernel, by decide +kernel⟩
theorem fn__law_shuffled (M : Mods P K mg base) : Fn P w K mg base CX0 3 "_law_shuffled" ["_law_hand_here", "_law_row"] [] sp__law_shuffled := by
  have nd := sc__law_shuffled.nd
  have h__law_take := (fn__law_take (w := w) M).up (show 2 ≤ 2 by decide)
  refine Fn.mk0 M.F__law_shuffled M.g__law_shuffled sc__law_shuffled (fun vs H Q E h => ?_) (fun fd F => F.bindsN fun _ _ _ _ _ _ us hl => match us, hl with | [_, _], _ => rfl) fun cdv A outer s H vs Q E hr h => ⟨_,
    (pss_cons (ps_par (i := 2) (j := 3) rfl nd rfl rfl (by decide) rfl rfl (pa_cons (pe_callTy call_list_of rfl M.z_list LW.boot_list (pa_cons (pv 1) pa_nil)) (pa_cons (pe_lst pa_nil) pa_nil)) rfl) (pss_cons (ps_while PassesOwn.never (pt_truth (pv 2) (by intro _; rfl)) (pss_one (ps_expr (pe_bm PySem.F.plainAttrs_list PySem.F.slot_list_append PySem.F.type_list_append mt_append (pv 3) (pa_cons (pe_bm PySem.F.plainAttrs_list PySem.F.slot_list_pop PySem.F.type_list_pop mt_popAt (pv 2) (pa_cons (pe_fn h__law_take hr pass0 (pa_cons (pv 0) (pa_cons (pe_callB call_len_seq rfl M.z_len LW.boot_len (pa_cons (pv 2) pa_nil)) pa_nil))) pa_nil)) pa_nil))))) (pss_one (ps_ret (pv 3))))), ?_⟩
  · obtain ⟨h, r, B, xs, rfl, _⟩ := h; rfl
  · obtain ⟨h, r, B, xs, rfl, z, hr', hz, hQ⟩ := h
    refine wq_par (w_consL (el_listB (ev_var rfl) (hr'.ex z.ex)) fun l H1 nl e1 hl => w_consL (el_lst ea_nil (Nat.zero_le _)) fun f H2 nf e2 hf => w_nil ⟨_, _, rfl, ?_⟩)
    have e12 := e1.trans e2
    have hl2 := e2 _ _ hl
    have nBl : B l = none := fresh_back z.ex nl
    have nBf : B f = none := fresh_back z.ex (fresh_back e1 nf)
    have lf : l ≠ f := fun y => by rw [y, nf] at hl; cases hl
    have fh : f ≠ h := fun y => by
      obtain ⟨c, ns, a, b, t, h1, _⟩ := z.hand
      have := e1 _ _ h1
      rw [← y, nf] at this; cases this
    have lh : l ≠ h := fun y => by
      obtain ⟨c, ns, a, b, t, h1, _⟩ := z.hand
      rw [← y, nl] at h1; cases h1
    refine q_while (fun m σ' H' => ∃ (xs' ys : List V), m = xs'.length ∧ σ' = [some (.ref h), some (.ref r), some (.ref l), some (.ref f)] ∧ Ex B H' ∧ Kp H h H' ∧ HandAt B H' h ∧ H' l = some (.lst xs') ∧ H' f = some (.lst ys) ∧ (ys ++ xs').Perm xs) xs.length ⟨xs, [], rfl, rfl, z.ex.trans e12, z.kp e12, z.hand.ex e12, hl2, hf, .refl _⟩ fun m σ' H' hW => ?_
    obtain ⟨xs', ys, rfl, rfl, eB, dH, hh, hl, hf, hp⟩ := hW
    have nDl : del H h l = none := by rw [del_ne lh]; exact nl
    have nDf : del H h f = none := by rw [del_ne fh]; exact fresh_back e1 nf
    have hlen := hp.length_eq
    rw [List.length_append] at hlen
    refine ⟨!xs'.isEmpty, et_truL (ev_var rfl) (sq_of hl), fun hne H3 e3 => ⟨fun σ2 H2' => ∃ m', m' < xs'.length ∧ ∃ (xs' ys : List V), m' = xs'.length ∧ σ2 = [some (.ref h), some (.ref r), some (.ref l), some (.ref f)] ∧ Ex B H2' ∧ Kp H h H2' ∧ HandAt B H2' h ∧ H2' l = some (.lst xs') ∧ H2' f = some (.lst ys) ∧ (ys ++ xs').Perm xs, fun _ _ h => h, ?_⟩, fun he H3 e3 => ?_⟩
    · have hpos : 0 < xs'.length := by
        cases xs' with
        | nil => cases hne
        | cons a t => exact Nat.succ_pos _
      have hl3 := e3 _ _ hl
      have hf3 := e3 _ _ hf
      refine w_drop (w_bm (w_ev (x := .ref f) (ev_var rfl) fun H4 e4 => ⟨.inl ⟨rfl, _, sq_of (e4 _ _ hf3)⟩, w_consW (w_bm (w_ev (x := .ref l) (ev_var rfl) fun H5 e5 => ⟨.inl ⟨rfl, _, sq_of (e5 _ _ (e4 _ _ hl3))⟩, w_consW (w_call (w_cons (x := .ref h) (ev_var rfl) fun H6 e6 => w_cons (ev_len (ev_var rfl) (sq_of (e6 _ _ (e5 _ _ (e4 _ _ hl3))))) fun H7 e7 => w_nil ?_))⟩))⟩))
      have e37 : Ex H3 H7 := ((e4.trans e5).trans e6).trans e7
      refine ⟨h, _, B, rfl, ⟨eB.trans (e3.trans e37), z.no, hh.ex (e3.trans e37)⟩, by omega, by omega, fun k H8 e8 z8 k0 k1 => w_nil ?_⟩
      have hl8 : H8 l = some (.lst xs') := e8.ex _ _ (by rw [del_ne lh]; exact e37 _ _ hl3)
      have hf8 : H8 f = some (.lst ys) := e8.ex _ _ (by rw [del_ne fh]; exact e37 _ _ hf3)
      have hk : k.toNat < xs'.length := by omega
      have hy : xs'[k.toNat]? = some xs'[k.toNat] := List.getElem?_eq_getElem hk
      refine ⟨l, xs', k, k.toNat, xs'[k.toNat], rfl, rfl, hl8, by omega, by omega, seqI k0 (by omega), hy, w_nil ⟨f, ys, xs'[k.toNat], rfl, rfl, by rw [upd_ne (Ne.symm lf)]; exact hf8, sz_lt (by omega), ?_⟩⟩
      have zz : Hd B h H' := ⟨eB, z.no, hh⟩
      have kk : Kp H h H8 := dtr (dH.trans (zz.kp (e3.trans e37))) e8
      have hE : (xs'.eraseIdx k.toNat).length + 1 = xs'.length := by
        have := (perm_pull hy).length_eq
        rw [List.length_cons] at this; exact this
      refine ⟨(xs'.eraseIdx k.toNat).length, by omega, xs'.eraseIdx k.toNat, ys ++ [xs'[k.toNat]], rfl, rfl, Ex.mut (Ex.mut z8.ex nBl) nBf, ⟨Ex.mut (Ex.mut kk.ex nDl) nDf, by rw [upd_ne (Ne.symm fh), upd_ne (Ne.symm lh)]; exact kk.fst⟩, ?_, by rw [upd_ne lf, upd_same], upd_same, ?_⟩
      · obtain ⟨c, ns, a, b, t, h1, h2⟩ := z8.hand
        exact ⟨c, ns, a, b, t, by rw [upd_ne (Ne.symm fh), upd_ne (Ne.symm lh)]; exact h1, h2⟩
      · rw [List.append_assoc]
        exact ((perm_pull hy).append_left ys).trans hp
    · have hx0 : xs' = [] := by
        cases xs' with
        | nil => rfl
        | cons a t => cases he
      subst hx0
      rw [List.append_nil] at hp
      refine s_ret (ev_var rfl) fun H4 e4 => hQ f ys (del H4 h) H4 (ex_del (eB.trans (e3.trans e4)) z.no) ⟨del_ex (Ex.refl _), del_same, (hh.ex (e3.trans e4)).exB (ex_del (eB.trans (e3.trans e4)) z.no)⟩ (dH.trans ((⟨eB, z.no, hh⟩ : Hd B h H').kp (e3.trans e4))) (by rw [del_ne fh]; exact e4 _ _ (e3 _ _ hf)) hp
end
end LO

set_option Elab.async false
set_option linter.all false
set_option maxRecDepth 100000
set_option maxHeartbeats 4000000
namespace LO
open PySem PySem.Spec PyProof.Rows L2 LG LW LC LM Evl
section
variable {K : PySem.W.Frag} {σ : L2.St} {B H : Hp} {h : Addr} {t tr : TA} {te ta tb : TE} {m i : Int} {E : XK} {a : Addr} {xs : List V} {D : Ends} {tz tu : TS} {P P2 : V → Hp → Prop} {tt : TT} {lo hi : TO} {r : List V → Hp → VK → Prop} {rs : V → Option Int → Option Int → Hp → VK → Prop}
theorem eh_evF {v : V} (he : Ev te σ B v) (hp : ∀ B1, Ex B B1 → P v B1) : EvH te σ B h P := fun B1 H1 e z Q q => he H1 (e.trans z.ex) Q fun H2 e2 => q v B1 H2 (Ex.refl B1) (z.step e2) (z.kp e2) (hp B1 e)
theorem eh_add (hb : EvH tb σ B h (IkP m)) : EvH (tOp (rI0 fun i j => .int (i + j)) (tC (.int i)) tb) σ B h (fun v _ => ∃ k, v = .int (i + k) ∧ 0 ≤ k ∧ k < m) := fun B1 H1 e z Q q =>
  hb B1 H1 e z _ fun v B2 H2 e2 z2 d2 ⟨k, hv, k0, k1⟩ => ⟨i, k, rfl, hv, q _ B2 H2 e2 z2 d2 ⟨k, rfl, k0, k1⟩⟩
/-- a call on a drawn or made value -/
theorem eh_cb1 (he : EvH te σ B h P) (k : ∀ v B', Ex B B' → P v B' → EvH (tCB r (tCons (tC v) tNil)) σ B' h P2) : EvH (tCB r (tCons te tNil)) σ B h P2 := fun B1 H1 e z Q q =>
  he B1 H1 e z _ fun v B2 H2 e2 z2 d2 p => k v B2 (e.trans e2) p B2 H2 (Ex.refl _) z2 Q fun w B3 H3 e3 z3 d3 p3 => q w B3 H3 (e2.trans e3) z3 (dtr d2 d3) p3
theorem eh_sl1 (he : EvH te σ B h P) (k : ∀ v B', Ex B B' → P v B' → EvH (tSl rs (tC v) lo hi) σ B' h P2) : EvH (tSl rs te lo hi) σ B h P2 := fun B1 H1 e z Q q =>
  he B1 H1 e z _ fun v B2 H2 e2 z2 d2 p => k v B2 (e.trans e2) p B2 H2 (Ex.refl _) z2 Q fun w B3 H3 e3 z3 d3 p3 => q w B3 H3 (e2.trans e3) z3 (dtr d2 d3) p3
/-- a test of a drawn value -/
theorem eht_test (he : EvH te σ B h P) {Pb : Bool → Prop} (k : ∀ v B', P v B' → ∃ b, v = .bl b ∧ Pb b) : EvHT (tTest te) σ B h Pb := fun B1 H1 e z Q q =>
  he B1 H1 e z _ fun v B2 H2 e2 z2 d2 p => by
    obtain ⟨b, hv, hb⟩ := k v B2 p
    exact ⟨b, hv, q b B2 H2 e2 z2 d2 hb⟩
theorem q_whenH {Pb : Bool → Prop} (hd : Hd B h H) (he : EvHT tt σ B h Pb) (h1 : ∀ B' H', Ex B B' → Hd B' h H' → Kp H h H' → Pb true → tu { D with nx := tz D } σ H') (h2 : ∀ B' H', Ex B B' → Hd B' h H' → Kp H h H' → Pb false → tz D σ H') : tSeq (tIfS tt tu tNext) tz D σ H :=
  he B H (Ex.refl B) hd _ fun b B' H' e z d p => by
    cases b with
    | true => exact h1 B' H' e z d p
    | false => exact h2 B' H' e z d p
theorem s_ifH {Pb : Bool → Prop} {tw : TS} (hd : Hd B h H) (he : EvHT tt σ B h Pb) (h1 : ∀ B' H', Ex B B' → Hd B' h H' → Kp H h H' → Pb true → tu D σ H') (h2 : ∀ B' H', Ex B B' → Hd B' h H' → Kp H h H' → Pb false → tw D σ H') : tIfS tt tu tw D σ H :=
  he B H (Ex.refl B) hd _ fun b B' H' e z d p => by
    cases b with
    | true => exact h1 B' H' e z d p
    | false => exact h2 B' H' e z d p
theorem el_sortedL {ns : List Int} (h : Ev te σ H (.ref a)) (hx : SqL K H a (ns.map V.int)) (h64 : ns.length < 64) : EvL (tCB (rSorted K) (tCons te tNil)) σ H ((LM.srt ns).map V.int) := fun H1 e Q q =>
  h H1 e _ fun H2 e2 => ⟨a, ns, rfl, ex_l (e.trans e2) hx, h64, fun ns' p h1 h2 h3 => by
    have : ns' = LM.srt ns := LM.srt_eq h1 h2
    subst this
    exact q p _ (fresh_back e2 h3) (e2.trans (Ex.new h3)) upd_same⟩
def ShP (xs : List V) : V → Hp → Prop := fun v H => ∃ q ys, v = .ref q ∧ H q = some (.lst ys) ∧ ys.Perm xs
theorem eh_shuf (ha : EvH ta σ B h (fun v H => ∃ r, v = .ref r ∧ SqB H r xs)) (hh : ∀ H1, Ev tb σ H1 (.ref h)) (hz : xs.length ≤ 1000) : EvH (tCall sp__law_shuffled [] E (tCons tb (tCons ta tNil))) σ B h (ShP xs) := fun B1 H1 e z Q q =>
  w_call (w_cons (hh H1) fun H2 e2 => w_consW (ha B1 H2 e (z.step e2) _ fun v B3 H3 e3 z3 d3 ⟨r, hv, hr⟩ => w_nil ⟨h, r, B3, xs, by rw [hv]; rfl, z3, hr, hz, fun p ys B4 H4 e4 z4 d4 hp hperm => q _ B4 H4 (e3.trans e4) z4 (dtr (dtr (z.kp e2) d3) d4) ⟨p, ys, rfl, hp, hperm⟩⟩))
end
def unI : V → Int
  | .int i => i
  | _ => 0
theorem unI_map (ms : List Int) : (ms.map V.int).map unI = ms := by
  rw [List.map_map]
  show ms.map (fun i => i) = ms
  exact List.map_id' ms
theorem perm_ints {ys : List V} {ns : List Int} (h : ys.Perm (ns.map V.int)) : ∃ ms : List Int, ys = ms.map V.int ∧ ms.Perm ns := by
  have g : ∀ (ys : List V), (∀ y ∈ ys, ∃ i, y = V.int i) → ∃ ms : List Int, ys = ms.map V.int := by
    intro ys
    induction ys with
    | nil => exact fun _ => ⟨[], rfl⟩
    | cons y ys ih =>
      intro hy
      obtain ⟨i, rfl⟩ := hy y List.mem_cons_self
      obtain ⟨ms, rfl⟩ := ih fun z hz => hy z (List.mem_cons_of_mem _ hz)
      exact ⟨i :: ms, rfl⟩
  obtain ⟨ms, rfl⟩ := g ys fun y hy => by
    obtain ⟨i, _, rfl⟩ := List.mem_map.mp (h.mem_iff.mp hy)
    exact ⟨i, rfl⟩
  refine ⟨ms, rfl, ?_⟩
  have := h.map unI
  rw [unI_map, unI_map] at this
  exact this
end LO

set_option Elab.async false
set_option linter.all false
set_option maxRecDepth 100000
set_option maxHeartbeats 4000000
namespace LO
open PySem PySem.Spec PyProof.Rows L2 LG LW LC LM Evl
section
variable {P : Program} {w : World} {K : PySem.W.Frag} {mg : Str → Option Value} {base : Heap}

/-! ### _law_many -/
def sp__law_many : Sp := fun vs H Q _ => ∃ (h : Addr) (B : Hp), vs = [.ref h, .int 6] ∧ Hd B h H ∧ ∀ k B' H', Ex B B' → Hd B' h H' → Kp H h H' → 1 ≤ k → k ≤ 6 → Q (.int k) H'
abbrev n__law_many : List Str := ["_law_hand_here", "_law_most", "_law_draw"]
theorem sc__law_many : FnScope n__law_many ["_law_hand_here", "_law_most"] (defScope s__law_many) := ⟨rfl, rfl, rfl, by decide +kernel, rfl, by decide +kernel, by decide +kernel⟩
theorem fn__law_many (M : Mods P K mg base) : Fn P w K mg base CX0 3 "_law_many" ["_law_hand_here", "_law_most"] [] sp__law_many := by
  have nd := sc__law_many.nd
  have h__law_take := (fn__law_take (w := w) M).up (show 2 ≤ 2 by decide)
  refine Fn.mk0 M.F__law_many M.g__law_many sc__law_many (fun vs H Q E h => ?_) (fun fd F => F.bindsN fun _ _ _ _ _ _ us hl => match us, hl with | [_, _], _ => rfl) fun cdv A outer s H vs Q E hr h => ⟨_,
    (pss_cons (ps_set (i := 2) nd rfl (.inl rfl) (pe_fn h__law_take hr pass0 (pa_cons (pv 0) (pa_cons pe_int pa_nil)))) (pss_cons (ps_if (PW.pt (pw_and (pt_cmpR op_eq (pv 2) pe_int (nomark _)) (pw_and1 (pt_cmpR op_gt (pv 1) pe_int (nomark _))))) (pss_one (ps_ret (pe_op op_add pe_int (pe_fn h__law_take hr pass0 (pa_cons (pv 0) (pa_cons (pe_op op_sub (pv 1) pe_int) pa_nil)))))) pss_nil) (pss_cons (ps_if (pt_cmpR op_eq (pv 2) pe_int (nomark _)) (pss_one (ps_ret (pe_op op_add pe_int (pe_fn h__law_take hr pass0 (pa_cons (pv 0) (pa_cons pe_int pa_nil)))))) pss_nil) (pss_one (ps_ret (pe_op op_add pe_int (pe_fn h__law_take hr pass0 (pa_cons (pv 0) (pa_cons pe_int pa_nil))))))))), ?_⟩
  · obtain ⟨h, B, rfl, _⟩ := h; rfl
  · obtain ⟨h, B, rfl, z, hQ⟩ := h
    refine q_asgH' z (eh_take (m := 8) (ea_cons (ev_var rfl) (ea_cons ev_c ea_nil)) (by decide) (by decide)) fun v B1 H1 e1 z1 d1 hv => ?_
    obtain ⟨d, rfl, dd0, dd1⟩ := hv
    refine q_when (b := decide (V.int d = V.int 0) && decide ((4 : Int) < 6)) (et_and (et_op (ev_var rfl) ev_c (rv_eq rfl)) fun _ => et_op (ev_var rfl) ev_c rv_I0) (fun hb H2 e2 => ?_) fun hb H2 e2 => ?_
    · refine s_retH (z1.step e2) (eh_add (m := 2) (eh_take (ea_cons (ev_var rfl) (ea_cons (ev_op (ev_var rfl) ev_c rv_I0) ea_nil)) (by decide) (by decide))) fun v B3 H3 e3 z3 d3 ⟨k, hv, k0, k1⟩ => ?_
      rw [hv]
      exact hQ _ B3 H3 (e1.trans e3) z3 (dtr (dtr d1 (z1.kp e2)) d3) (by omega) (by omega)
    · refine q_when (b := decide (V.int d = V.int 1)) (et_op (ev_var rfl) ev_c (rv_eq rfl)) (fun hb H3 e3 => ?_) fun hb H3 e3 => ?_
      · refine s_retH (z1.step (e2.trans e3)) (eh_add (m := 2) (eh_take (ea_cons (ev_var rfl) (ea_cons ev_c ea_nil)) (by decide) (by decide))) fun v B4 H4 e4 z4 d4 ⟨k, hv, k0, k1⟩ => ?_
        rw [hv]
        exact hQ _ B4 H4 (e1.trans e4) z4 (dtr (dtr d1 (z1.kp (e2.trans e3))) d4) (by omega) (by omega)
      · refine s_retH (z1.step (e2.trans e3)) (eh_add (m := 2) (eh_take (ea_cons (ev_var rfl) (ea_cons ev_c ea_nil)) (by decide) (by decide))) fun v B4 H4 e4 z4 d4 ⟨k, hv, k0, k1⟩ => ?_
        rw [hv]
        exact hQ _ B4 H4 (e1.trans e4) z4 (dtr (dtr d1 (z1.kp (e2.trans e3))) d4) (by omega) (by omega)
/-! ### _law_some -/
def SomeP (ns : List Int) (k : Nat) : V → Hp → Prop := fun v H => ∃ (p : Addr) (ms : List Int), v = .ref p ∧ H p = some (.tup (ms.map V.int)) ∧ ms.length = k ∧ ms.Pairwise (· ≤ ·) ∧ (∀ x ∈ ms, x ∈ ns) ∧ (ns.Nodup → ms.Nodup)
def sp__law_some : Sp := fun vs H Q _ => ∃ (h r : Addr) (k : Nat) (B : Hp) (ns : List Int), vs = [.ref h, .ref r, .int (k : Int)] ∧ Hd B h H ∧ B r = some (.lst (ns.map V.int)) ∧ k ≤ ns.length ∧ ns.length ≤ 60 ∧ ∀ v B' H', Ex B B' → Hd B' h H' → Kp H h H' → SomeP ns k v B' → Q v H'
abbrev n__law_some : List Str := ["_law_hand_here", "_law_row", "_law_many_here"]
theorem sc__law_some : FnScope n__law_some ["_law_hand_here", "_law_row", "_law_many_here"] (defScope s__law_some) := ⟨rfl, rfl, rfl, by decide +kernel, rfl, by decide +kernel, by decide +kernel⟩
theorem fn__law_some (M : Mods P K mg base) : Fn P w K mg base CX0 4 "_law_some" ["_law_hand_here", "_law_row", "_law_many_here"] [] sp__law_some := by
  have nd := sc__law_some.nd
  have h__law_shuffled := (fn__law_shuffled (w := w) M).up (show 3 ≤ 3 by decide)
  refine Fn.mk0 M.F__law_some M.g__law_some sc__law_some (fun vs H Q E h => ?_) (fun fd F => F.bindsN fun _ _ _ _ _ _ us hl => match us, hl with | [_, _, _], _ => rfl) fun cdv A outer s H vs Q E hr h => ⟨_,
    (pss_one (ps_ret (pe_callTy call_tuple_of rfl M.z_tuple LW.boot_tuple (pa_cons (pe_callB cr_sorted rfl M.z_sorted LW.boot_sorted (pa_cons (pe_slice sl_list (pe_fn h__law_shuffled hr pass0 (pa_cons (pv 0) (pa_cons (pv 1) pa_nil))) po_none (po_some (pv 2))) pa_nil)) pa_nil)))), ?_⟩
  · obtain ⟨h, r, k, B, ns, rfl, _⟩ := h; rfl
  · obtain ⟨h, r, k, B, ns, rfl, z, hr', hk, hz, hQ⟩ := h
    refine s_retH (P := SomeP ns k) z (eh_cb1 (P := fun v H => ∃ (q : Addr) (ms : List Int), v = .ref q ∧ H q = some (.lst (ms.map V.int)) ∧ ms.length = k ∧ ms.Pairwise (· ≤ ·) ∧ (∀ x ∈ ms, x ∈ ns) ∧ (ns.Nodup → ms.Nodup)) (eh_cb1 (P := fun v H => ∃ (q : Addr) (ms : List Int), v = .ref q ∧ H q = some (.lst (ms.map V.int)) ∧ ms.length = k ∧ (∀ x ∈ ms, x ∈ ns) ∧ (ns.Nodup → ms.Nodup)) (eh_sl1 (P := ShP (ns.map V.int)) (eh_shuf (eh_evF (v := .ref r) (ev_var rfl) fun B1 e => ⟨r, rfl, .inl (e _ _ hr')⟩) (fun _ => ev_var rfl) (by rw [List.length_map]; omega)) ?_) ?_) ?_) fun v B1 H1 e1 z1 d1 hv => hQ v B1 H1 e1 z1 d1 hv
    · rintro v B' e ⟨q, ys, rfl, hq, hp⟩
      obtain ⟨ms, rfl, hms⟩ := perm_ints hp
      have hl := hms.length_eq
      refine (eh_evL (el_sl ev_c eo_none (eo_some (ev_var rfl)) (sq_of hq))).imp fun v H ⟨p, hv, hp⟩ => ⟨p, ms.take k, hv, ?_, by rw [List.length_take]; omega, fun x hx => hms.mem_iff.mp (List.mem_of_mem_take hx), fun hn => ((hms.nodup_iff).mpr hn).sublist (List.take_sublist _ _)⟩
      rw [hp, cut_to (by rw [List.length_map]; omega), List.map_take]
    · rintro v B' e ⟨q, ms, rfl, hq, h1, h2, h3⟩
      exact (eh_evL (el_sortedL ev_c (sq_of hq) (by omega))).imp fun v H ⟨p, hv, hp⟩ => ⟨p, LM.srt ms, hv, hp, by rw [LM.srt_len]; exact h1, LM.srt_sorted ms, fun x hx => h2 x (LM.srt_mem.mp hx), fun hn => ((LM.srt_perm ms).nodup_iff).mpr (h3 hn)⟩
    · rintro v B' e ⟨q, ms, rfl, hq, h1⟩
      exact (eh_evU (eu_tupL ev_c (sq_of hq))).imp fun v H ⟨p, hv, hp⟩ => ⟨p, ms, hv, hp, h1⟩
end
end LO

set_option Elab.async false
set_option linter.all false
set_option maxRecDepth 100000
set_option maxHeartbeats 4000000
namespace LO
open PySem PySem.Spec PyProof.Rows L2 LG LW LC LM Evl
section
variable {P : Program} {w : World} {K : PySem.W.Frag} {mg : Str → Option Value} {base : Heap}

/-! ### _law_closure -/
def rng (n : Nat) : List Int := (List.range n).map Int.ofNat
theorem rng_at {n i : Nat} (h : i < n) : (rng n)[i]? = some (i : Int) := by
  unfold rng
  rw [List.getElem?_map, List.getElem?_range h]; rfl
theorem rng_mem {n : Nat} {x : Int} : x ∈ rng n ↔ 0 ≤ x ∧ x < n := by
  unfold rng
  rw [List.mem_map]
  constructor
  · rintro ⟨a, ha, rfl⟩
    have := List.mem_range.mp ha
    exact ⟨Int.natCast_nonneg a, by show ((a : Nat) : Int) < n; omega⟩
  · rintro ⟨h0, h1⟩
    exact ⟨x.toNat, List.mem_range.mpr (by omega), by show ((x.toNat : Nat) : Int) = x; omega⟩
theorem rng_len (n : Nat) : (rng n).length = n := by unfold rng; rw [List.length_map, List.length_range]
def Led (cs L : List Pr) : Prop := (∀ c, c ∈ L ↔ Path cs c.1 c.2) ∧ Good L
def sp__law_closure : Sp := fun vs H Q _ => ∃ (n : Nat) (a : Addr) (cs : List Pr), vs = [.int (n : Int), .ref a] ∧ PTp H a cs ∧ n ≤ 6 ∧ cs.length ≤ 100 ∧ (∀ c ∈ cs, (0 ≤ c.1 ∧ c.1 < n) ∧ 0 ≤ c.2 ∧ c.2 < n) ∧ ∀ l L H', H l = none → Ex H H' → H' l = some (.dT (dP L)) → Led cs L → Q (.ref l) H'
abbrev n__law_closure : List Str := ["_law_many_here", "_law_rules_here", "_law_led", "_law_rule", "_law_middle", "_law_first", "_law_last"]
theorem sc__law_closure : FnScope n__law_closure ["_law_many_here", "_law_rules_here"] (defScope s__law_closure) := ⟨rfl, rfl, rfl, by decide +kernel, rfl, by decide +kernel, by decide +kernel⟩
theorem fn__law_closure (M : Mods P K mg base) : Fn P w K mg base CX0 1 "_law_closure" ["_law_many_here", "_law_rules_here"] [] sp__law_closure := by
  have nd := sc__law_closure.nd
  refine Fn.mk0 M.F__law_closure M.g__law_closure sc__law_closure (fun vs H Q E h => ?_) (fun fd F => F.bindsN fun _ _ _ _ _ _ us hl => match us, hl with | [_, _], _ => rfl) fun cdv A outer s H vs Q E hr h => ⟨_,
    (pss_cons (ps_set (i := 2) nd rfl (.inl rfl) pe_dnewT) (pss_cons (ps_for PassesOwn.never rfl (pi_tup (pv 1)) (pg_name (i := 3) nd rfl (.inl rfl)) (pss_one (ps_dput (hu_of hr) (pv 2) (pe_tup (pa_cons (pe_ix ix_tup (pv 3) pe_int (fun _ _ => rfl)) (pa_cons (pe_ix ix_tup (pv 3) pe_int (fun _ _ => rfl)) pa_nil))) pe_bl rfl))) (pss_cons (ps_for PassesOwn.never rfl (pi_range1 rfl M.z_range (pa_cons (pv 0) pa_nil)) (pg_name (i := 4) nd rfl (.inl rfl)) (pss_one (ps_for PassesOwn.never rfl (pi_range1 rfl M.z_range (pa_cons (pv 0) pa_nil)) (pg_name (i := 5) nd rfl (.inl rfl)) (pss_one (ps_if (pt_cmp (pc_din (hu_of hr) (pe_tup (pa_cons (pv 5) (pa_cons (pv 4) pa_nil))) (pv 2))) (pss_one (ps_for PassesOwn.never rfl (pi_range1 rfl M.z_range (pa_cons (pv 0) pa_nil)) (pg_name (i := 6) nd rfl (.inl rfl)) (pss_one (ps_if (pt_cmp (pc_din (hu_of hr) (pe_tup (pa_cons (pv 4) (pa_cons (pv 6) pa_nil))) (pv 2))) (pss_one (ps_dput (hu_of hr) (pv 2) (pe_tup (pa_cons (pv 5) (pa_cons (pv 6) pa_nil))) pe_bl rfl)) pss_nil)))) pss_nil))))) (pss_one (ps_ret (pv 2)))))), ?_⟩
  · obtain ⟨n, a, cs, rfl, _⟩ := h; rfl
  · obtain ⟨n, a, cs, rfl, ⟨ps, ha, hps⟩, h6, hz, hin, hQ⟩ := h
    have hlen : ps.length = cs.length := hps.length
    have h5 : In5 cs := fun c hc => by
      obtain ⟨⟨a1, a2⟩, b1, b2⟩ := hin c hc
      exact ⟨⟨a1, by omega⟩, b1, by omega⟩
    have hRm : ∀ c ∈ cs, c.1 ∈ rng n ∧ c.2 ∈ rng n := fun c hc => ⟨rng_mem.mpr (hin c hc).1, rng_mem.mpr (hin c hc).2⟩
    have hR5 : ∀ x ∈ rng n, 0 ≤ x ∧ x ≤ 5 := fun x hx => by
      have := rng_mem.mp hx
      omega
    refine wq_asgD fun l nl => ?_
    have hl : upd H l (.dT []) l = some (.dT []) := upd_same
    have e1 : Ex H (upd H l (.dT [])) := Ex.new nl
    refine q_forTn (ev_var rfl) (st_of (e1 _ _ ha)) (fun i σ' H' => ∃ v3, σ' = [some (.int (n : Int)), some (.ref a), some (.ref l), v3, none, none, none] ∧ Ex H H' ∧ H' l = some (.dT (dP (once (cs.take i))))) (fun H2 e2 => ⟨none, rfl, e1.trans e2, e2 _ _ hl⟩) (fun i σ' H' _ h => ?_) (fun i x σ' H' hx h => ?_) (fun σ' H' h => ?_)
    · obtain ⟨_, _, e, _⟩ := h
      exact st_of (e _ _ ha)
    · obtain ⟨v3, rfl, e, hl'⟩ := h
      rw [List.getElem?_map] at hx
      cases hq : ps[i]? with
      | none => rw [hq] at hx; cases hx
      | some q =>
      rw [hq] at hx; cases hx
      obtain ⟨c, hc, hpc⟩ := paired_at hps hq
      have hq' : ∀ Hx, Ex H' Hx → Hx q = some (.tup [.int c.1, .int c.2]) := fun Hx ex => ex _ _ (e _ _ hpc)
      have i0 : ∀ Hx, Ex H' Hx → Ev (tOp (rIxT K) (tVar 3) (tC (.int 0))) [some (.int (n : Int)), some (.ref a), some (.ref l), some (.ref q), none, none, none] Hx (.int c.1) := fun Hx ex => ev_op (ev_var rfl) ev_c (rv_ixT (st_of (hq' Hx ex)) rfl)
      have i1 : ∀ Hx, Ex H' Hx → Ev (tOp (rIxT K) (tVar 3) (tC (.int 1))) [some (.int (n : Int)), some (.ref a), some (.ref l), some (.ref q), none, none, none] Hx (.int c.2) := fun Hx ex => ev_op (ev_var rfl) ev_c (rv_ixT (st_of (hq' Hx ex)) rfl)
      have g0 : Good (once (cs.take i)) := ⟨once_nodup _, once_in5 fun d hd => h5 d (List.mem_of_mem_take hd)⟩
      refine s_dput (c := c) ev_c (fun _ _ => ev_var rfl) (fun Hx ex => eu_tup (ea_cons (i0 Hx ex) (ea_cons (i1 Hx ex) ea_nil)) (show 2 ≤ 100000 by decide)) hl' (by have := g0.len; omega) fun H2 e2 => ⟨_, rfl, Ex.mut (e.trans e2) nl, ?_⟩
      have : addP (once (cs.take i)) c = once (cs.take (i + 1)) := by
        unfold once
        rw [List.take_succ, hc, List.foldl_append]; rfl
      rw [this]; exact upd_same
    · obtain ⟨v3, rfl, e, hl'⟩ := h
      rw [List.length_map, hlen, List.take_length] at hl'
      have g0 : Good (once cs) := ⟨once_nodup cs, once_in5 h5⟩
      refine q_forR1 (n := (n : Int)) (ea_cons (ev_var rfl) ea_nil) ⟨by omega, by omega⟩ (fun i σ' H'' => ∃ v4 v5 v6, σ' = [some (.int (n : Int)), some (.ref a), some (.ref l), v3, v4, v5, v6] ∧ Ex H H'' ∧ H'' l = some (.dT (dP (((rng n).take i).foldl (warM (rng n) (rng n)) (once cs)))))
        (fun H3 e3 => ⟨none, none, none, rfl, e.trans e3, e3 _ _ hl'⟩) (fun i σ' H'' hi h => ?_) (fun σ' H'' h => ?_)
      · obtain ⟨v4, v5, v6, rfl, e3, hl3⟩ := h
        have hm := rng_at (n := n) (i := i) (by omega)
        have gm : Good (((rng n).take i).foldl (warM (rng n) (rng n)) (once cs)) := g0.ms _
        have stM : ((rng n).take (i + 1)).foldl (warM (rng n) (rng n)) (once cs) = (rng n).foldl (warF (rng n) (i : Int)) (((rng n).take i).foldl (warM (rng n) (rng n)) (once cs)) := foldl_take hm
        generalize ((rng n).take i).foldl (warM (rng n) (rng n)) (once cs) = csM at hl3 gm stM
        refine s_forR1 (n := (n : Int)) (ea_cons (ev_var rfl) ea_nil) ⟨by omega, by omega⟩ (fun j σ' H'' => ∃ v5 v6, σ' = [some (.int (n : Int)), some (.ref a), some (.ref l), v3, some (.int (i : Int)), v5, v6] ∧ Ex H H'' ∧ H'' l = some (.dT (dP (((rng n).take j).foldl (warF (rng n) (i : Int)) csM))))
          (fun H4 e4 => ⟨v5, v6, rfl, e3.trans e4, e4 _ _ hl3⟩) (fun j σ' H'' hj h => ?_) (fun σ' H'' h => ?_)
        · obtain ⟨v5, v6, rfl, e4, hl4⟩ := h
          have hf := rng_at (n := n) (i := j) (by omega)
          have hf5 := hR5 _ (List.mem_of_getElem? hf)
          have gf : Good (((rng n).take j).foldl (warF (rng n) (i : Int)) csM) := gm.fs _
          have st1 := foldl_take (f := warF (rng n) (i : Int)) (x := csM) hf
          generalize hcs : ((rng n).take j).foldl (warF (rng n) (i : Int)) csM = csF at hl4 gf st1
          refine s_if (b := decide (((j : Int), (i : Int)) ∈ csF)) (et_din (c := ((j : Int), (i : Int))) (eu_tup (ea_cons (ev_var rfl) (ea_cons (ev_var rfl) ea_nil)) (show 2 ≤ 100000 by decide)) (fun H5 _ => ev_var rfl) hl4) (fun hb H5 e5 => ?_) (fun hb H5 e5 => ?_)
          · have st2 : warF (rng n) (i : Int) csF (j : Int) = (rng n).foldl (warL (i : Int) (j : Int)) csF := if_pos (of_decide_eq_true hb)
            refine s_forR1 (n := (n : Int)) (ea_cons (ev_var rfl) ea_nil) ⟨by omega, by omega⟩ (fun k σ' H'' => ∃ v6, σ' = [some (.int (n : Int)), some (.ref a), some (.ref l), v3, some (.int (i : Int)), some (.int (j : Int)), v6] ∧ Ex H H'' ∧ H'' l = some (.dT (dP (((rng n).take k).foldl (warL (i : Int) (j : Int)) csF))))
              (fun H6 e6 => ⟨v6, rfl, (e4.trans e5).trans e6, e6 _ _ (e5 _ _ hl4)⟩) (fun k σ' H'' hk h => ?_) (fun σ' H'' h => ?_)
            · obtain ⟨v6, rfl, e6, hl6⟩ := h
              have hz := rng_at (n := n) (i := k) (by omega)
              have gz : Good (((rng n).take k).foldl (warL (i : Int) (j : Int)) csF) := gf.ls hf5 _
              have st3 := foldl_take (f := warL (i : Int) (j : Int)) (x := csF) hz
              generalize hcl : ((rng n).take k).foldl (warL (i : Int) (j : Int)) csF = csL at hl6 gz st3
              refine s_if (b := decide (((i : Int), (k : Int)) ∈ csL)) (et_din (c := ((i : Int), (k : Int))) (eu_tup (ea_cons (ev_var rfl) (ea_cons (ev_var rfl) ea_nil)) (show 2 ≤ 100000 by decide)) (fun H5 _ => ev_var rfl) hl6) (fun hb H7 e7 => ?_) (fun hb H7 e7 => ?_)
              · have st4 : warL (i : Int) (j : Int) csL (k : Int) = addP csL ((j : Int), (k : Int)) := if_pos (of_decide_eq_true hb)
                refine s_dput (c := ((j : Int), (k : Int))) ev_c (fun _ _ => ev_var rfl) (fun _ _ => eu_tup (ea_cons (ev_var rfl) (ea_cons (ev_var rfl) ea_nil)) (show 2 ≤ 100000 by decide)) (e7 _ _ hl6) (by have := gz.len; omega) fun H8 e8 => ⟨_, rfl, Ex.mut ((e6.trans e7).trans e8) nl, ?_⟩
                rw [st3, st4]; exact upd_same
              · have st4 : warL (i : Int) (j : Int) csL (k : Int) = csL := if_neg (of_decide_eq_false hb)
                refine ⟨_, rfl, e6.trans e7, ?_⟩
                rw [st3, st4]; exact e7 _ _ hl6
            · obtain ⟨v6, rfl, e6, hl6⟩ := h
              have hn : (n : Int).toNat = n := by omega
              rw [hn] at hl6
              rw [show (rng n).take n = rng n from List.take_of_length_le (by rw [rng_len]; exact Nat.le_refl _)] at hl6
              refine ⟨_, v6, rfl, e6, ?_⟩
              rw [st1, st2]; exact hl6
          · have st2 : warF (rng n) (i : Int) csF (j : Int) = csF := if_neg (of_decide_eq_false hb)
            refine ⟨_, v6, rfl, e4.trans e5, ?_⟩
            rw [st1, st2]; exact e5 _ _ hl4
        · obtain ⟨v5, v6, rfl, e4, hl4⟩ := h
          have hn : (n : Int).toNat = n := by omega
          rw [hn] at hl4
          rw [show (rng n).take n = rng n from List.take_of_length_le (by rw [rng_len]; exact Nat.le_refl _)] at hl4
          refine ⟨_, v5, v6, rfl, e4, ?_⟩
          rw [stM]; exact hl4
      · obtain ⟨v4, v5, v6, rfl, e3, hl3⟩ := h
        have hn : (n : Int).toNat = n := by omega
        rw [hn] at hl3
        rw [show (rng n).take n = rng n from List.take_of_length_le (by rw [rng_len]; exact Nat.le_refl _)] at hl3
        exact s_ret (ev_var rfl) fun H4 e4 => hQ l _ H4 nl (e3.trans e4) (e4 _ _ hl3) ⟨fun c => war_iff hRm c, g0.ms _⟩
end
end LO

set_option Elab.async false
set_option linter.all false
set_option maxRecDepth 100000
set_option maxHeartbeats 4000000
namespace LO
open PySem PySem.Spec PyProof.Rows L2 LG LW LC LM Evl
theorem di_depth : ∀ ns : List Int, PyData.depthAll (ns.map PyData.int) ≤ 2
  | [] => by simp [PyData.depthAll]
  | z :: zs => by
    have h1 := di_depth zs
    simp only [List.map_cons, PyData.depthAll, PyData.depth]
    omega
theorem di_lay : ∀ ns : List Int, PyData.canLayAll0 (ns.map PyData.int) = true
  | [] => by simp [PyData.canLayAll0]
  | z :: zs => by simp only [List.map_cons, PyData.canLayAll0, PyData.canLay0, di_lay zs, Bool.and_self]
theorem di_shL (ns : List Int) : SeqAt.shaped (.list (ns.map PyData.int)) = true := by
  have h1 := di_depth ns
  have h2 : PyData.depth (.list (ns.map PyData.int)) ≤ 64 := by simp only [PyData.depth]; omega
  show (PyData.canLay0 (.list (ns.map PyData.int)) && decide (PyData.depth (.list (ns.map PyData.int)) ≤ 64)) = true
  rw [Bool.and_eq_true]
  exact ⟨by simp only [PyData.canLay0]; exact di_lay ns, decide_eq_true h2⟩
theorem di_shT (ns : List Int) : SeqAt.shaped (.tuple (ns.map PyData.int)) = true := by
  have h1 := di_depth ns
  have h2 : PyData.depth (.tuple (ns.map PyData.int)) ≤ 64 := by simp only [PyData.depth]; omega
  show (PyData.canLay0 (.tuple (ns.map PyData.int)) && decide (PyData.depth (.tuple (ns.map PyData.int)) ≤ 64)) = true
  rw [Bool.and_eq_true]
  exact ⟨by simp only [PyData.canLay0]; exact di_lay ns, decide_eq_true h2⟩
theorem di_all {K : PySem.W.Frag} {H : Hp} : ∀ ns : List Int, DpAll K H (ns.map V.int) (ns.map PyData.int)
  | [] => .nil
  | n :: ns => .cons (.int n) (di_all ns)
theorem di_eqv : ∀ ns ms : List Int, PyData.eqvAll (ns.map PyData.int) (ms.map PyData.int) = decide (ns = ms)
  | [], [] => by simp [PyData.eqvAll]
  | [], m :: ms => by simp [PyData.eqvAll]
  | n :: ns, [] => by simp [PyData.eqvAll]
  | n :: ns, m :: ms => by
    simp only [List.map_cons, PyData.eqvAll, PyData.eqv, di_eqv ns ms]
    by_cases h : n = m
    · subst h; simp
    · simp [h]
section
variable {K : PySem.W.Frag} {σ : L2.St} {H : Hp} {ta tb te : TE} {a b : Addr} {ns ms : List Int}
theorem rv_eqLL (h1 : SqL K H a (ns.map V.int)) (h2 : SqL K H b (ms.map V.int)) : RV (rEqD K) (.ref a) (.ref b) H (.bl (decide (ns = ms))) := fun H1 e Q q =>
  ⟨_, _, .lst (ex_l e h1) (di_all ns), .lst (ex_l e h2) (di_all ms), di_shL ns, di_shL ms, by
    have : PyData.eqv (.list (ns.map PyData.int)) (.list (ms.map PyData.int)) = decide (ns = ms) := by simp only [PyData.eqv]; exact di_eqv ns ms
    rw [this]; exact q H1 (Ex.refl H1)⟩
theorem rv_neLL (h1 : SqL K H a (ns.map V.int)) (h2 : SqL K H b (ms.map V.int)) : RV (rNeD K) (.ref a) (.ref b) H (.bl (!decide (ns = ms))) := fun H1 e Q q =>
  ⟨_, _, .lst (ex_l e h1) (di_all ns), .lst (ex_l e h2) (di_all ms), di_shL ns, di_shL ms, by
    have : PyData.eqv (.list (ns.map PyData.int)) (.list (ms.map PyData.int)) = decide (ns = ms) := by simp only [PyData.eqv]; exact di_eqv ns ms
    rw [this]; exact q H1 (Ex.refl H1)⟩
theorem rv_eqTT (h1 : SqT K H a (ns.map V.int)) (h2 : SqT K H b (ms.map V.int)) : RV (rEqD K) (.ref a) (.ref b) H (.bl (decide (ns = ms))) := fun H1 e Q q =>
  ⟨_, _, .tup (ex_t e h1) (di_all ns), .tup (ex_t e h2) (di_all ms), di_shT ns, di_shT ms, by
    have : PyData.eqv (.tuple (ns.map PyData.int)) (.tuple (ms.map PyData.int)) = decide (ns = ms) := by simp only [PyData.eqv]; exact di_eqv ns ms
    rw [this]; exact q H1 (Ex.refl H1)⟩
/-- .. == [] -/
theorem ev_eqNil (h : EvL te σ H (ns.map V.int)) : Ev (tOp (rEqD K) te (tLst tNil)) σ H (.bl (decide (ns = []))) :=
  ev_opLL h (el_lst ea_nil (Nat.zero_le _)) fun p q H1 hp hq e => rv_eqLL (ms := []) (sq_of hp) (sq_of hq)
/-- list + list -/
theorem el_cat {xs ys : List V} (h1 : EvL ta σ H xs) (h2 : EvL tb σ H ys) (hz : xs.length + ys.length ≤ 100000) : EvL (tOp rCat ta tb) σ H (xs ++ ys) := fun H1 e Q q =>
  h1 H1 e _ fun p H2 np e2 hp => h2 H2 (e.trans e2) _ fun r H3 nr e3 hr => ⟨p, r, xs, ys, rfl, rfl, e3 _ _ hp, hr, sz_of hz, fun s ns => q s _ (fresh_back (e2.trans e3) ns) ((e2.trans e3).trans (Ex.new ns)) upd_same⟩
theorem el_sortedN (h : EvL te σ H (ns.map V.int)) (h64 : ns.length < 64) : EvL (tCB (rSorted K) (tCons te tNil)) σ H ((LM.srt ns).map V.int) := fun H1 e Q q =>
  h H1 e _ fun p H2 np e2 hp => ⟨p, ns, rfl, sq_of hp, h64, fun ns' p' h1 h2 h3 => by
    have : ns' = LM.srt ns := LM.srt_eq h1 h2
    subst this
    exact q p' _ (fresh_back e2 h3) (e2.trans (Ex.new h3)) upd_same⟩
theorem isi_rt {ta : TE} (hx : Ev ta σ H (.ref a)) {xs : List V} (h : RT H a xs) : Ev (tCB (rIsi K) (tCons ta (tCons (tC (.ty "tuple")) tNil))) σ H (.bl true) := by
  have k := kit_ty (K := K) (by decide +kernel : kitB "tuple" "tuple" = some true)
  rcases h with h | ⟨ob, h, _⟩
  · exact ev_isi hx ev_c (.ty "tuple") (.base (.tup h)) k
  · exact ev_isi hx ev_c (.ty "tuple") (.fTuple h) k
end
end LO

set_option Elab.async false
set_option linter.all false
set_option maxRecDepth 100000
set_option maxHeartbeats 4000000
namespace LO
open PySem PySem.Spec PyProof.Rows L2 LG LW LC LM Evl
section
variable {P : Program} {w : World} {K : PySem.W.Frag} {mg : Str → Option Value} {base : Heap}

/-! ### _law_is_whole -/
def sp__law_is_whole : Sp := fun vs H Q _ => ∃ x, vs = [x] ∧ flat4 x = true ∧ ∀ H', Ex H H' → Q (.bl (wholeB x none none)) H'
abbrev n__law_is_whole : List Str := ["_law_thing"]
theorem sc__law_is_whole : FnScope n__law_is_whole ["_law_thing"] (defScope s__law_is_whole) := ⟨rfl, rfl, rfl, by decide +kernel, rfl, by decide +kernel, by decide +kernel⟩
theorem fn__law_is_whole (M : Mods P K mg base) : Fn P w K mg base CX0 1 "_law_is_whole" ["_law_thing"] [] sp__law_is_whole := by
  have nd := sc__law_is_whole.nd
  refine Fn.mk0 M.F__law_is_whole M.g__law_is_whole sc__law_is_whole (fun vs H Q E h => ?_) (fun fd F => F.bindsN fun _ _ _ _ _ _ us hl => match us, hl with | [_], _ => rfl) fun cdv A outer s H vs Q E hr h => ⟨_,
    (pss_one (ps_ret (pe_and (pe_callB call_isi rfl M.z_isinstance LW.boot_isinstance (pa_cons (pv 0) (pa_cons (pe_bltn (v := .ty "int") rfl M.z_int LW.boot_int rfl) pa_nil))) (pe_one (pe_not (pe_callB call_isi rfl M.z_isinstance LW.boot_isinstance (pa_cons (pv 0) (pa_cons (pe_bltn (v := .ty "bool") rfl M.z_bool LW.boot_bool rfl) pa_nil)))))))), ?_⟩
  · obtain ⟨x, rfl, _⟩ := h; rfl
  · obtain ⟨x, rfl, hf, hQ⟩ := h
    have e1 := ev_isi (K := K) (σ := [some x]) (H := H) (ta := tVar 0) (tb := tC (.ty "int")) (ev_var rfl) ev_c (.ty "int") (tyx_flat hf) (kit_ty (kit_int x hf))
    have e2 := ev_isi (K := K) (σ := [some x]) (H := H) (ta := tVar 0) (tb := tC (.ty "bool")) (ev_var rfl) ev_c (.ty "bool") (tyx_flat hf) (kit_ty (kit_bool x hf))
    refine s_ret (ev_is (ev_andV e1 fun _ => ev_notV e2) ?_) fun H1 ex => hQ H1 ex
    cases x <;> first | rfl | cases hf
/-! ### _law_same_row -/
def sp__law_same_row : Sp := fun vs H Q _ => ∃ (a b : Addr) (row : List Int), vs = [.ref a, .ref b] ∧ RT H a (row.map V.int) ∧ H b = some (.tup (row.map V.int)) ∧ row.length ≤ 1000 ∧ ∀ H', Ex H H' → Q (.bl true) H'
abbrev n__law_same_row : List Str := ["_law_told", "_law_due", "_law_k"]
theorem sc__law_same_row : FnScope n__law_same_row ["_law_told", "_law_due"] (defScope s__law_same_row) := ⟨rfl, rfl, rfl, by decide +kernel, rfl, by decide +kernel, by decide +kernel⟩
theorem fn__law_same_row (M : Mods P K mg base) : Fn P w K mg base CX0 2 "_law_same_row" ["_law_told", "_law_due"] [] sp__law_same_row := by
  have nd := sc__law_same_row.nd
  have h__law_is_whole := (fn__law_is_whole (w := w) M).up (show 1 ≤ 1 by decide)
  refine Fn.mk0 M.F__law_same_row M.g__law_same_row sc__law_same_row (fun vs H Q E h => ?_) (fun fd F => F.bindsN fun _ _ _ _ _ _ us hl => match us, hl with | [_, _], _ => rfl) fun cdv A outer s H vs Q E hr h => ⟨_,
    (pss_cons (ps_if (PW.pt (pw_or (pt_not (pt_val (pe_callB call_isi rfl M.z_isinstance LW.boot_isinstance (pa_cons (pv 0) (pa_cons (pe_bltn (v := .ty "tuple") rfl M.z_tuple LW.boot_tuple rfl) pa_nil))))) (pw_or1 (pt_cmpR op_ne (pe_callB call_len_seq rfl M.z_len LW.boot_len (pa_cons (pv 0) pa_nil)) (pe_callB call_len_seq rfl M.z_len LW.boot_len (pa_cons (pv 1) pa_nil)) (nomark _))))) (pss_one (ps_ret pe_bl)) pss_nil) (pss_cons (ps_for PassesOwn.never rfl (pi_range1 rfl M.z_range (pa_cons (pe_callB call_len_seq rfl M.z_len LW.boot_len (pa_cons (pv 1) pa_nil)) pa_nil)) (pg_name (i := 2) nd rfl (.inl rfl)) (pss_one (ps_if (PW.pt (pw_or (pt_not (pt_val (pe_fn h__law_is_whole hr pass0 (pa_cons (pe_ix ix_tup (pv 0) (pv 2) (fun _ _ => rfl)) pa_nil)))) (pw_or1 (pt_cmpR op_ne (pe_ix ix_tup (pv 0) (pv 2) (fun _ _ => rfl)) (pe_ix ix_tup (pv 1) (pv 2) (fun _ _ => rfl)) (nomark _))))) (pss_one (ps_ret pe_bl)) pss_nil))) (pss_one (ps_ret pe_bl)))), ?_⟩
  · obtain ⟨a, b, row, rfl, _⟩ := h; rfl
  · obtain ⟨a, b, row, rfl, ha, hb, hz, hQ⟩ := h
    refine q_pass (et_or (a := false) (b := false) (et_not (et_B (isi_rt (ev_var rfl) ha))) fun _ => et_is (et_op (ev_lenT (ev_var rfl) ha.st) (ev_lenT (ev_var rfl) (st_of hb)) (rv_ne rfl)) ?_) fun H1 e1 => ?_
    · rw [decide_eq_true rfl]; rfl
    refine q_forR1 (n := row.length) (ea_len (ev_var rfl) (.inr (e1 _ _ hb)) (by rw [List.length_map])) ⟨by omega, by omega⟩ (fun i σ' H' => ∃ v, σ' = [some (.ref a), some (.ref b), v] ∧ Ex H H') (fun H2 e2 => ⟨none, rfl, e1.trans e2⟩) (fun i σ' H' hi h => ?_) (fun σ' H' h => ?_)
    · obtain ⟨v, rfl, e⟩ := h
      have hi : i < row.length := by omega
      have hx : atI (row.map V.int) (i : Int) = some (.int row[i]) := atI_nat (by rw [List.getElem?_map, List.getElem?_eq_getElem hi]; rfl)
      have i0 := fun (Hx : Hp) (ex : Ex H Hx) => (ev_op (ev_var rfl) (ev_var rfl) (rv_ixT ((ha.ex ex).st (K := K)) hx) : Ev (tOp (rIxT K) (tVar 0) (tVar 2)) [some (.ref a), some (.ref b), some (.int (i : Int))] Hx (.int row[i]))
      have i1 := fun (Hx : Hp) (ex : Ex H Hx) => (ev_op (ev_var rfl) (ev_var rfl) (rv_ixT (st_of (K := K) (ex _ _ hb)) hx) : Ev (tOp (rIxT K) (tVar 1) (tVar 2)) [some (.ref a), some (.ref b), some (.int (i : Int))] Hx (.int row[i]))
      refine s_pass (et_or (a := false) (b := false) (et_not (et_B (ev_fn (z := .bl true) (ea_cons (i0 H' e) ea_nil) fun H3 e3 Q E q => ⟨.int row[i], rfl, rfl, q⟩))) fun _ => et_is (et_op (i0 H' e) (i1 H' e) (rv_ne rfl)) ?_) fun H3 e3 => ⟨_, rfl, e.trans e3⟩
      rw [decide_eq_true rfl]; rfl
    · obtain ⟨v, rfl, e⟩ := h
      exact s_ret ev_c fun H3 e3 => hQ H3 (e.trans e3)
/-! ### _law_slots -/
def sp__law_slots : Sp := fun vs H Q _ => ∃ (a q : Addr) (ns : List Int) (cl ag : Option Int), vs = [.ref a] ∧ H a = some (.tup [.ref q, optV cl, optV ag]) ∧ H q = some (.tup (ns.map V.int)) ∧ ns.length ≤ 10 ∧ ∀ p H', H p = none → Ex H H' → H' p = some (.lst ((slotsL ns cl).map V.int)) → Q (.ref p) H'
abbrev n__law_slots : List Str := ["_law_frame", "_law_role"]
theorem sc__law_slots : FnScope n__law_slots ["_law_frame"] (defScope s__law_slots) := ⟨rfl, rfl, rfl, by decide +kernel, rfl, by decide +kernel, by decide +kernel⟩
theorem fn__law_slots (M : Mods P K mg base) : Fn P w K mg base CX0 1 "_law_slots" ["_law_frame"] [] sp__law_slots := by
  have nd := sc__law_slots.nd
  refine Fn.mk0 M.F__law_slots M.g__law_slots sc__law_slots (fun vs H Q E h => ?_) (fun fd F => F.bindsN fun _ _ _ _ _ _ us hl => match us, hl with | [_], _ => rfl) fun cdv A outer s H vs Q E hr h => ⟨_,
    (pss_one (ps_ret (pe_callB cr_sorted rfl M.z_sorted LW.boot_sorted (pa_cons (pe_op op_cat (pe_callTy call_list_of rfl M.z_list LW.boot_list (pa_cons (pe_ix ix_tup (pv 0) pe_int (fun _ _ => rfl)) pa_nil)) (pe_lc (own := [("_law_role", 1)]) rfl nd (pi_tup (pe_tup (pa_cons (pe_ix ix_tup (pv 0) pe_int (fun _ _ => rfl)) pa_nil))) (blkOk_by (N := n__law_slots) (sc := (defScope s__law_slots)) (by decide +kernel)) (fun _ _ _ _ _ => (pg_name (i := 1) nd rfl (.inl rfl))) (fun _ _ _ _ _ => (pts_one (pt_cmpR op_notN1 (pv 1) pe_non (nomark _)))) (fun _ _ _ _ _ => (pv 1)))) pa_nil)))), ?_⟩
  · obtain ⟨a, q, ns, cl, ag, rfl, _⟩ := h; rfl
  · obtain ⟨a, q, ns, cl, ag, rfl, ha, hq, hz, hQ⟩ := h
    have hcl : EvL (tLc (iTup K (tTup (tCons (tOp (rIxT K) (tVar 0) (tC (.int 1))) tNil))) (gName 1) (tTest (tOp rNotN (tVar 1) (tC .non))) (tVar 1) [1]) [some (.ref a), none] H (([cl].filter fun o => !decide (optV o = V.non)).map optV) :=
      el_lcV (as := [cl]) (F := optV) (it_tupU (eu_tup (ea_cons (ev_op (ev_var rfl) ev_c (rv_ixT (st_of ha) rfl)) ea_nil) (show 1 ≤ 100000 by decide))) (show 1 ≤ 40000 by decide) (fun _ => rfl) (fun x H1 e hx => et_op (ev_var rfl) ev_c rv_notN) fun x H1 e hx _ => ev_var rfl
    have hc : (([cl].filter fun o => !decide (optV o = V.non)).map optV) = cl.toList.map V.int := by
      cases cl with
      | none => rfl
      | some c => rfl
    rw [hc] at hcl
    have hcl2 : cl.toList.length ≤ 1 := by cases cl <;> simp
    refine s_retL (el_sortedN (ns := ns ++ cl.toList) (el_is (el_cat (el_listB (ev_op (ev_var rfl) ev_c (rv_ixT (st_of ha) rfl)) (.inr (.inl hq))) hcl ?_) ?_) ?_) fun p H1 np e hp => hQ p H1 np e hp
    · rw [List.length_map, List.length_map]; omega
    · rw [List.map_append]
    · rw [List.length_append]; omega
end
end LO

set_option Elab.async false
set_option linter.all false
set_option maxRecDepth 100000
set_option maxHeartbeats 4000000
namespace LO
open PySem PySem.Spec PyProof.Rows L2 LG LW LC LM Evl
section
variable {P : Program} {w : World} {K : PySem.W.Frag} {mg : Str → Option Value} {base : Heap}

/-! ### _law_orders -/
def okB (sl : List Int) (L : List Pr) (row : List Int) (r : Int) : Bool := !decide (r ∈ row) && decide ((sl.filter fun o => decide ((o, r) ∈ L) && !decide (o ∈ row)) = [])
def stepB (sl : List Int) (L : List Pr) (row : List Int) : List (List Int) := (sl.filter (okB sl L row)).map fun r => row ++ [r]
def rowsB (sl : List Int) (L : List Pr) : Nat → List (List Int)
  | 0 => [[]]
  | t + 1 => (rowsB sl L t).flatMap (stepB sl L)
theorem flat_len {α β : Type} {f : α → List β} {k : Nat} : ∀ l : List α, (∀ x, (f x).length ≤ k) → (l.flatMap f).length ≤ l.length * k
  | [], _ => by simp
  | x :: l, h => by
    rw [List.flatMap_cons, List.length_append, List.length_cons, Nat.succ_mul]
    have := flat_len l h
    have := h x
    omega
theorem stepB_len {sl : List Int} {L : List Pr} (h6 : sl.length ≤ 6) (row : List Int) : (stepB sl L row).length ≤ 6 := by
  unfold stepB
  rw [List.length_map]
  exact Nat.le_trans (List.length_filter_le _ _) h6
theorem rowsB_len {sl : List Int} {L : List Pr} (h6 : sl.length ≤ 6) : ∀ t, (rowsB sl L t).length ≤ 6 ^ t
  | 0 => Nat.le_refl _
  | t + 1 => by
    have := flat_len (rowsB sl L t) (stepB_len (L := L) h6)
    have h2 := rowsB_len (L := L) h6 t
    have h3 : (rowsB sl L t).length * 6 ≤ 6 ^ t * 6 := Nat.mul_le_mul_right _ h2
    rw [Nat.pow_succ]
    exact Nat.le_trans this h3
theorem rowsB_row {sl : List Int} {L : List Pr} : ∀ t, ∀ row ∈ rowsB sl L t, row.length = t
  | 0, row, h => by rw [List.mem_singleton.mp h]; rfl
  | t + 1, row, h => by
    obtain ⟨r0, h0, h1⟩ := List.mem_flatMap.mp h
    obtain ⟨x, _, rfl⟩ := List.mem_map.mp h1
    rw [List.length_append, rowsB_row t r0 h0]; rfl
def RwAt (H : Hp) (p : Addr) (row : List Int) : Prop := H p = some (.tup (row.map V.int))
/-- a list of rows -/
def RowsL (H : Hp) (q : Addr) (rs : List (List Int)) : Prop := ∃ ps : List Addr, H q = some (.lst (ps.map V.ref)) ∧ Paired (RwAt H) ps rs
theorem RowsL.ex {H H' : Hp} {q : Addr} {rs : List (List Int)} (e : Ex H H') (h : RowsL H q rs) : RowsL H' q rs := by
  obtain ⟨ps, h1, h2⟩ := h
  exact ⟨ps, e _ _ h1, Paired.mapP h2 fun _ _ z => e _ _ z⟩
def sp__law_orders : Sp := fun vs H Q _ => ∃ (s l : Addr) (sl : List Int) (L : List Pr), vs = [.ref s, .ref l] ∧ H s = some (.lst (sl.map V.int)) ∧ H l = some (.dT (dP L)) ∧ sl.length ≤ 6 ∧ ∀ q H', Ex H H' → RowsL H' q (rowsB sl L sl.length) → Q (.ref q) H'
theorem w_lst {σ : L2.St} {H : Hp} {ta : TA} {Q : VK} (h : ta σ H fun vs H1 => vs.length ≤ sizeLine ∧ ∀ p, H1 p = none → Q (.ref p) (upd H1 p (.lst vs))) : tLst ta σ H Q := h
theorem eu_catA {K : PySem.W.Frag} {σ : L2.St} {H : Hp} {ta tb : TE} {q : Addr} {xs ys : List V} (h : Ev ta σ H (.ref q)) (h2 : EvU tb σ H ys) (hx : SqT K H q xs) (ny : ys ≠ []) (hz : xs.length + ys.length ≤ 100000) : EvU (tOp (rCatA K) ta tb) σ H (xs ++ ys) := fun H1 e Q k =>
  h H1 e _ fun H2 e2 => h2 H2 (e.trans e2) _ fun p H3 n e3 hp => ⟨q, p, xs, ys, rfl, rfl, ex_t ((e.trans e2).trans e3) hx, st_of hp, sz_of hz, fun z => by subst z; exact k p H3 (fresh_back e2 n) (e2.trans e3) hp, fun _ z => absurd z ny, fun _ _ r hr =>
    k r _ (fresh_back (e2.trans e3) hr) ((e2.trans e3).trans (Ex.new hr)) upd_same⟩
abbrev n__law_orders : List Str := ["_law_slots_here", "_law_led", "_law_rows", "_law_turn", "_law_longer", "_law_row", "_law_role", "_law_other"]
theorem sc__law_orders : FnScope n__law_orders ["_law_slots_here", "_law_led"] (defScope s__law_orders) := ⟨rfl, rfl, rfl, by decide +kernel, rfl, by decide +kernel, by decide +kernel⟩
theorem fn__law_orders (M : Mods P K mg base) : Fn P w K mg base CX0 1 "_law_orders" ["_law_slots_here", "_law_led"] [] sp__law_orders := by
  have nd := sc__law_orders.nd
  refine Fn.mk0 M.F__law_orders M.g__law_orders sc__law_orders (fun vs H Q E h => ?_) (fun fd F => F.bindsN fun _ _ _ _ _ _ us hl => match us, hl with | [_, _], _ => rfl) fun cdv A outer s H vs Q E hr h => ⟨_,
    (pss_cons (ps_set (i := 2) nd rfl (.inl rfl) (pe_lst (pa_cons (pe_tup pa_nil) pa_nil))) (pss_cons (ps_for PassesOwn.never rfl (pi_range1 rfl M.z_range (pa_cons (pe_callB call_len_seq rfl M.z_len LW.boot_len (pa_cons (pv 0) pa_nil)) pa_nil)) (pg_name (i := 3) nd rfl (.inl rfl)) (pss_cons (ps_set (i := 4) nd rfl (.inl rfl) (pe_lst pa_nil)) (pss_cons (ps_for PassesOwn.never rfl (pi_list (pv 2)) (pg_name (i := 5) nd rfl (.inr rfl)) (pss_one (ps_for PassesOwn.never rfl (pi_list (pv 0)) (pg_name (i := 6) nd rfl (.inr rfl)) (pss_one (ps_if (PW.pt (pw_and (pt_cmpR op_notIn_seq (pv 6) (pv 5) rfl) (pw_and1 (pt_cmpR (op_eqD hr.units) (pe_lc (own := [("_law_other", 7)]) rfl nd (pi_list (pv 0)) (blkOk_by (N := n__law_orders) (sc := (defScope s__law_orders)) (by decide +kernel)) (fun _ _ _ _ _ => (pg_name (i := 7) nd rfl (.inl rfl))) (fun _ _ _ _ _ => (pts_one (PW.pt (pw_and (pt_cmp (pc_din (hu_of hr) (pe_tup (pa_cons (pv 7) (pa_cons (pv 6) pa_nil))) (pv 1))) (pw_and1 (pt_cmpR (show OpR _ _ (rIn K true) from op_notIn_seq) (pv 7) (pv 5) rfl)))))) (fun _ _ _ _ _ => (pv 7))) (pe_lst pa_nil) (nomark _))))) (pss_one (ps_expr (pe_bm PySem.F.plainAttrs_list PySem.F.slot_list_append PySem.F.type_list_append mt_append (pv 4) (pa_cons (pe_op op_catA (pv 5) (pe_tup (pa_cons (pv 6) pa_nil))) pa_nil)))) pss_nil))))) (pss_one (ps_set (i := 2) nd rfl (.inl rfl) (pe_callTy call_list_of rfl M.z_list LW.boot_list (pa_cons (pv 4) pa_nil))))))) (pss_one (ps_ret (pv 2))))), ?_⟩
  · obtain ⟨s, l, sl, L, rfl, _⟩ := h; rfl
  · obtain ⟨s, l, sl, L, rfl, hs, hl, h6, hQ⟩ := h
    refine q_asgP (P := fun v H' => ∃ q, v = .ref q ∧ RowsL H' q [[]]) (fun H1 e Q q => ?_) fun v H1 e1 hv => ?_
    · exact w_lst (w_consU (xs := []) (eu_tup ea_nil (Nat.zero_le _)) fun p H2 np e2 hp => w_nil ⟨show 1 ≤ sizeLine by decide, fun g ng => q _ _ (e2.trans (Ex.new ng)) ⟨g, rfl, [p], upd_same, .cons (Ex.new ng _ _ hp) .nil⟩⟩)
    obtain ⟨q0, rfl, hq0⟩ := hv
    refine q_forR1 (n := sl.length) (ea_len (ev_var rfl) (.inl (e1 _ _ hs)) (by rw [List.length_map])) ⟨by omega, by omega⟩ (fun t σ' H' => ∃ (q : Addr) (v3 v4 v5 v6 : Option V), σ' = [some (.ref s), some (.ref l), some (.ref q), v3, v4, v5, v6, none] ∧ Ex H H' ∧ RowsL H' q (rowsB sl L t))
      (fun H2 e2 => ⟨q0, none, none, none, none, rfl, e1.trans e2, hq0.ex e2⟩) (fun t σ' H' ht h => ?_) (fun σ' H' h => ?_)
    · obtain ⟨q, v3, v4, v5, v6, rfl, e, hrows⟩ := h
      have ht : t < sl.length := by omega
      have hpow : 6 ^ t * 6 ≤ 46656 := by
        have : 6 ^ (t + 1) ≤ 6 ^ 6 := Nat.pow_le_pow_right (by decide) (by omega)
        rw [Nat.pow_succ] at this
        exact this
      have hrl := rowsB_len (L := L) h6 t
      have hrr := rowsB_row (sl := sl) (L := L) t
      have hrow1 : rowsB sl L (t + 1) = (rowsB sl L t).flatMap (stepB sl L) := rfl
      rw [hrow1]
      generalize rowsB sl L t = rs at hrows hrl hrr
      obtain ⟨ps, hq, hps⟩ := hrows
      have hpl : ps.length = rs.length := hps.length
      refine q_asgL (el_lst ea_nil (Nat.zero_le _)) fun g H2 ng e2 hg => ?_
      have eH2 := e.trans e2
      refine q_forLn (ev_var rfl) (sq_of (e2 _ _ hq)) (fun i σ' H'' => ∃ (Hk : Hp) (v5 v6 : Option V) (gs : List Addr), σ' = [some (.ref s), some (.ref l), some (.ref q), some (.int (t : Int)), some (.ref g), v5, v6, none] ∧ Ex H' Hk ∧ Hk g = none ∧ Ex Hk H'' ∧ H'' g = some (.lst (gs.map V.ref)) ∧ Paired (RwAt Hk) gs ((rs.take i).flatMap (stepB sl L)))
        (fun H3 e3 => ⟨H', v5, v6, [], rfl, Ex.refl _, ng, e2.trans e3, e3 _ _ hg, .nil⟩) (fun i σ' H'' _ h => ?_) (fun i x σ' H'' hx h => ?_) (fun σ' H'' h => ?_)
      · obtain ⟨Hk, _, _, _, _, k1, _, k3, _⟩ := h
        exact sq_of (k3 _ _ (k1 _ _ hq))
      · obtain ⟨Hk, v5, v6, gs, rfl, k1, k2, k3, hg3, hgs⟩ := h
        rw [List.getElem?_map] at hx
        cases hp : ps[i]? with
        | none => rw [hp] at hx; cases hx
        | some p =>
        rw [hp] at hx; cases hx
        obtain ⟨row, hrow, hpr⟩ := paired_at hps hp
        obtain ⟨hi, _⟩ := List.getElem?_eq_some_iff.mp hrow
        have hrowl := hrr row (List.mem_of_getElem? hrow)
        have hpr : H' p = some (.tup (row.map V.int)) := hpr
        have hbound : ((rs.take i).flatMap (stepB sl L)).length ≤ i * 6 := by
          have := flat_len (rs.take i) (stepB_len (L := L) h6)
          rw [List.length_take] at this
          have h2 : min i rs.length * 6 ≤ i * 6 := Nat.mul_le_mul_right _ (Nat.min_le_left _ _)
          omega
        have hstep : (rs.take (i + 1)).flatMap (stepB sl L) = (rs.take i).flatMap (stepB sl L) ++ (sl.filter (okB sl L row)).map (fun r => row ++ [r]) := by
          rw [List.take_succ, hrow, List.flatMap_append]
          simp [stepB]
        have eHk := e.trans k1
        refine s_forLn (xs := sl.map V.int) (ev_var rfl) (sq_of (k3 _ _ (eHk _ _ hs))) (fun j σ' H3 => ∃ (Hk : Hp) (v6 : Option V) (gs : List Addr), σ' = [some (.ref s), some (.ref l), some (.ref q), some (.int (t : Int)), some (.ref g), some (.ref p), v6, none] ∧ Ex H' Hk ∧ Hk g = none ∧ Ex Hk H3 ∧ H3 g = some (.lst (gs.map V.ref)) ∧ Paired (RwAt Hk) gs ((rs.take i).flatMap (stepB sl L) ++ ((sl.take j).filter (okB sl L row)).map (fun r => row ++ [r])))
          (fun H4 e4 => ⟨Hk, v6, gs, rfl, k1, k2, k3.trans e4, e4 _ _ hg3, by rw [List.take_zero, List.filter_nil, List.map_nil, List.append_nil]; exact hgs⟩) (fun j σ' H3 _ h => ?_) (fun j x σ' H3 hx h => ?_) (fun σ' H3 h => ?_)
        · obtain ⟨Hk, _, _, _, k1, _, k3, _⟩ := h
          exact sq_of (k3 _ _ (k1 _ _ (e _ _ hs)))
        · obtain ⟨Hk, v6, gs, rfl, k1, k2, k3, hg3, hgs⟩ := h
          rw [List.getElem?_map] at hx
          cases hr' : sl[j]? with
          | none => rw [hr'] at hx; cases hx
          | some r =>
          rw [hr'] at hx; cases hx
          obtain ⟨hj, _⟩ := List.getElem?_eq_some_iff.mp hr'
          have e03 := k1.trans k3
          have hs3 := e03 _ _ (e _ _ hs)
          have hl3 := e03 _ _ (e _ _ hl)
          have hp3 := e03 _ _ hpr
          have hlen3 := hgs.length
          rw [List.length_append, List.length_map] at hlen3
          have hf6 : ((sl.take j).filter (okB sl L row)).length ≤ j := Nat.le_trans (List.length_filter_le _ _) (List.length_take_le _ _)
          have hts : (sl.take (j + 1)).filter (okB sl L row) = (sl.take j).filter (okB sl L row) ++ if okB sl L row r then [r] else [] := by
            rw [List.take_succ, hr', List.filter_append]
            congr 1
            show List.filter _ [r] = _
            rw [List.filter_cons]; rfl
          have hcomp : EvL (tLc (iList K (tVar 0)) (gName 7) (tAnd (tB (tDIn (tTup (tCons (tVar 7) (tCons (tVar 6) tNil))) (tVar 1))) (tTest (tOp (rIn K true) (tVar 7) (tVar 5)))) (tVar 7) [7]) [some (.ref s), some (.ref l), some (.ref q), some (.int (t : Int)), some (.ref g), some (.ref p), some (.int r), none] H3 ((sl.filter fun o => decide ((o, r) ∈ L) && !decide (o ∈ row)).map V.int) :=
            el_lcL' (as := sl) (F := V.int) (ev_var rfl) (sq_of hs3) (by omega) (fun _ => rfl) (fun o H4 e4 ho => et_and (et_din (c := (o, r)) (eu_tup (ea_cons (ev_var rfl) (ea_cons (ev_var rfl) ea_nil)) (show 2 ≤ 100000 by decide)) (fun _ _ => ev_var rfl) (e4 _ _ hl3)) fun _ => ?_) fun o H4 e4 ho _ => ev_var rfl
          · refine s_when (b := okB sl L row r) (et_and (et_op (ev_var rfl) (ev_var rfl) ?_) fun _ => et_test (ev_eqNil hcomp)) (fun hb H4 e4 => ?_) (fun hb H4 e4 => ?_)
            · have hr2 := rv_niT (K := K) (x := .int r) (st_of hp3) rfl ints_flat
              rw [inV_ints] at hr2; exact hr2
            · refine s_appU (xs := gs.map V.ref) (ys := (row ++ [r]).map V.int) (e4 _ _ hg3) (ev_var rfl) (eu_is (eu_catA (ev_var rfl) (eu_tup (vs := [.int r]) (ea_cons (ev_var rfl) ea_nil) (show 1 ≤ 100000 by decide)) (st_of (e4 _ _ hp3)) (by intro z; cases z) (by rw [List.length_map]; show row.length + 1 ≤ 100000; omega)) (by rw [List.map_append]; rfl)) (by rw [List.length_map, hlen3]; omega) fun p2 H5 np2 e5 hp2 => ?_
              obtain ⟨n1, n2, n3⟩ := kn_next (X := .lst (gs.map V.ref ++ [.ref p2])) (k3.trans (e4.trans e5)) k2
              have pg : p2 ≠ g := fun z => by rw [z, e4 _ _ hg3] at np2; cases np2
              refine ⟨del H5 g, some (.int r), gs ++ [p2], rfl, k1.trans n1, n2, n3, by rw [List.map_append]; exact upd_same, ?_⟩
              rw [hts, hb, if_pos rfl, List.map_append, ← List.append_assoc]
              exact LG.paired_app (Paired.mapP hgs fun _ _ z => n1 _ _ z) (by show RwAt _ _ _; unfold RwAt; rw [del_ne pg]; exact hp2)
            · refine ⟨Hk, some (.int r), gs, rfl, k1, k2, k3.trans e4, e4 _ _ hg3, ?_⟩
              rw [hts, hb, if_neg Bool.false_ne_true, List.append_nil]; exact hgs
          · have hr2 := rv_niT (K := K) (x := .int o) (st_of (e4 _ _ hp3)) rfl ints_flat
            rw [inV_ints] at hr2
            exact et_op (ev_var rfl) (ev_var rfl) hr2
        · obtain ⟨Hk, v6, gs, rfl, k1, k2, k3, hg3, hgs⟩ := h
          rw [List.length_map, List.take_length] at hgs
          refine ⟨Hk, some (.ref p), v6, gs, rfl, k1, k2, k3, hg3, ?_⟩
          rw [hstep]; exact hgs
      · obtain ⟨Hk, v5, v6, gs, rfl, k1, k2, k3, hg3, hgs⟩ := h
        rw [List.length_map, hpl, List.take_length] at hgs
        refine s_asgL (el_listB (ev_var rfl) (.inl hg3)) fun q2 H4 nq2 e4 hq2 => ⟨q2, _, _, v5, v6, rfl, e.trans ((k1.trans k3).trans e4), gs, hq2, Paired.mapP hgs fun _ _ z => e4 _ _ (k3 _ _ z)⟩
    · obtain ⟨q, v3, v4, v5, v6, rfl, e, hrows⟩ := h
      have hn : ((sl.length : Nat) : Int).toNat = sl.length := by omega
      rw [hn] at hrows
      exact s_ret (ev_var rfl) fun H2 e2 => hQ q H2 (e.trans e2) (hrows.ex e2)
end
end LO

set_option Elab.async false
set_option linter.all false
set_option maxRecDepth 100000
set_option maxHeartbeats 4000000
namespace LO
open PySem PySem.Spec PyProof.Rows L2 LG LW LC LM Evl
section
variable {P : Program} {w : World} {K : PySem.W.Frag} {mg : Str → Option Value} {base : Heap}

/-! ### _law_rules -/
theorem el_rng {σ : L2.St} {H : Hp} {ta : TE} {n : Nat} (h : Ev ta σ H (.int (n : Int))) (hn : n ≤ 1000) : EvL (tLstRg (tRg1 ta)) σ H ((rng n).map V.int) := fun H1 e Q q =>
  h H1 e _ fun H2 e2 => ⟨n, rfl, RgOk.of_le (by omega) (by omega) (by omega) (by omega), fun p np => q p _ (fresh_back e2 np) (e2.trans (Ex.new np)) (by
    rw [upd_same]
    unfold rgV rng
    have : ((n : Int) - 0).toNat = n := by omega
    rw [this, List.map_map]
    congr 2
    refine List.map_congr_left fun i _ => ?_
    show V.int (0 + (i : Int)) = V.int (Int.ofNat i)
    rw [Int.zero_add]; rfl)⟩
/-- if take(hand, m) < rate: .. -/
theorem s_ifTake {σ : L2.St} {B H : Hp} {h : Addr} {D : Ends} {tu tw : TS} {E : XK} {hi i : Nat} {m rate : Int} (hh : σ[hi]? = some (some (.ref h))) (hr : σ[i]? = some (some (.int rate))) (z : Hd B h H) (hm : 0 < m) (hm2 : m < 2 ^ 31)
    (k1 : ∀ H1, Ex (del H h) H1 → Hd B h H1 → tu D σ H1) (k2 : ∀ H1, Ex (del H h) H1 → Hd B h H1 → tw D σ H1) : tIfS (tTest (tOp (rI0 fun i j => .bl (decide (i < j))) (tCall sp__law_take [] E (tCons (tVar hi) (tCons (tC (.int m)) tNil))) (tVar i))) tu tw D σ H :=
  (w_op (w_call (w_cons (x := .ref h) (ev_var hh) fun H1 e1 => w_cons (x := .int m) ev_c fun H2 e2 => w_nil ⟨h, m, B, rfl, z.step (e1.trans e2), hm, hm2, fun k H3 e3 z3 _ _ => (w_ev (x := .int rate) (ev_var hr) fun H4 e4 => ⟨k, rate, rfl, rfl, _, rfl, by
    have e : Ex (del H h) H4 := (Ex.trans (ex_del (del_ex (e1.trans e2)) del_same) e3.ex).trans e4
    cases decide (k < rate) with
    | true => exact k1 H4 e (z3.step e4)
    | false => exact k2 H4 e (z3.step e4)⟩ : tVar i σ H3 _)⟩)) : tOp (rI0 fun i j => .bl (decide (i < j))) _ _ σ H _)
theorem perm_map {α β : Type} {f : α → β} {l k : List β} (p : l.Perm k) : ∀ m : List α, k = m.map f → ∃ m' : List α, m'.Perm m ∧ l = m'.map f := by
  induction p with
  | nil => intro m h; exact ⟨m, .refl _, h⟩
  | cons x _ ih =>
    intro m h
    cases m with
    | nil => cases h
    | cons a m =>
      rw [List.map_cons] at h
      injection h with h1 h2
      obtain ⟨m', hp, he⟩ := ih m h2
      exact ⟨a :: m', hp.cons a, by rw [List.map_cons, h1, he]⟩
  | swap x y l =>
    intro m h
    match m, h with
    | a :: b :: m, h =>
      rw [List.map_cons, List.map_cons] at h
      injection h with h1 h2
      injection h2 with h2 h3
      exact ⟨b :: a :: m, .swap _ _ _, by rw [List.map_cons, List.map_cons, h1, h2, h3]⟩
  | trans _ _ ih1 ih2 =>
    intro m h
    obtain ⟨m1, p1, e1⟩ := ih2 m h
    obtain ⟨m2, p2, e2⟩ := ih1 m1 e1
    exact ⟨m2, p2.trans p1, e2⟩
structure RulesOk (n : Nat) (cs : List Pr) : Prop where
  len : cs.length ≤ 30
  bd : ∀ c ∈ cs, 0 ≤ c.1 ∧ c.1 < n ∧ 0 ≤ c.2 ∧ c.2 < n ∧ c.1 ≠ c.2
  no : ∀ x, ¬ Path cs x x
def RulP (n : Nat) : V → Hp → Prop := fun v H => ∃ p cs, v = .ref p ∧ PTp H p cs ∧ RulesOk n cs
def sp__law_rules : Sp := fun vs H Q _ => ∃ (h : Addr) (n : Nat) (B : Hp), vs = [.ref h, .int (n : Int)] ∧ Hd B h H ∧ n ≤ 6 ∧ ∀ v B' H', Ex B B' → Hd B' h H' → RulP n v B' → Q v H'
/-- ahead in the row -/
def Ahead (row : List Int) (c : Pr) : Prop := ∃ a b : Nat, a < b ∧ row[a]? = some c.1 ∧ row[b]? = some c.2
theorem path_ahead {row : List Int} (hn : row.Nodup) {cs : List Pr} (h : ∀ c ∈ cs, Ahead row c) {x y : Int} (p : Path cs x y) : ∃ a b : Nat, a < b ∧ row[a]? = some x ∧ row[b]? = some y := by
  induction p with
  | one z => exact h _ z
  | cons z _ ih =>
    obtain ⟨a, b, h1, h2, h3⟩ := h _ z
    obtain ⟨b', c, h4, h5, h6⟩ := ih
    have : b = b' := by
      obtain ⟨p1, q1⟩ := List.getElem?_eq_some_iff.mp h3
      obtain ⟨p2, q2⟩ := List.getElem?_eq_some_iff.mp h5
      exact (List.getElem_inj hn).mp (q1.trans q2.symm)
    exact ⟨a, c, by omega, h2, h6⟩
theorem ahead_ok {row : List Int} {n : Nat} (hp : row.Perm (rng n)) {cs : List Pr} (h : ∀ c ∈ cs, Ahead row c) (hl : cs.length ≤ 30) : RulesOk n cs := by
  have hn : row.Nodup := hp.nodup_iff.mpr (by
    unfold rng
    unfold List.Nodup
    rw [List.pairwise_map]
    exact List.Pairwise.imp (fun h z => h (Int.ofNat.inj z)) List.nodup_range)
  have ne : ∀ a b : Nat, a < b → ∀ x, row[a]? = some x → row[b]? = some x → False := fun a b hab x h1 h2 => by
    obtain ⟨p1, q1⟩ := List.getElem?_eq_some_iff.mp h1
    obtain ⟨p2, q2⟩ := List.getElem?_eq_some_iff.mp h2
    have := (List.getElem_inj hn).mp (q1.trans q2.symm)
    omega
  refine ⟨hl, fun c hc => ?_, fun x hx => ?_⟩
  · obtain ⟨a, b, hab, h1, h2⟩ := h c hc
    have m1 := rng_mem.mp (hp.mem_iff.mp (List.mem_of_getElem? h1))
    have m2 := rng_mem.mp (hp.mem_iff.mp (List.mem_of_getElem? h2))
    exact ⟨m1.1, m1.2, m2.1, m2.2, fun z => ne a b hab c.1 h1 (by rw [z]; exact h2)⟩
  · obtain ⟨a, b, hab, h1, h2⟩ := path_ahead hn h hx
    exact ne a b hab x h1 h2
abbrev n__law_rules : List Str := ["_law_hand_here", "_law_many_here", "_law_found", "_law_k", "_law_row", "_law_rate", "_law_m"]
theorem sc__law_rules : FnScope n__law_rules ["_law_hand_here", "_law_many_here"] (defScope s__law_rules) := ⟨rfl, rfl, rfl, by decide +kernel, rfl, by decide +kernel, by decide +kernel⟩
theorem fn__law_rules (M : Mods P K mg base) : Fn P w K mg base CX0 4 "_law_rules" ["_law_hand_here", "_law_many_here"] [] sp__law_rules := by
  have nd := sc__law_rules.nd
  have h__law_shuffled := (fn__law_shuffled (w := w) M).up (show 3 ≤ 3 by decide)
  have h__law_take := (fn__law_take (w := w) M).up (show 2 ≤ 3 by decide)
  refine Fn.mk0 M.F__law_rules M.g__law_rules sc__law_rules (fun vs H Q E h => ?_) (fun fd F => F.bindsN fun _ _ _ _ _ _ us hl => match us, hl with | [_, _], _ => rfl) fun cdv A outer s H vs Q E hr h => ⟨_,
    (pss_cons (ps_par (i := 4) (j := 5) rfl nd rfl rfl (by decide) rfl rfl (pa_cons (pe_fn h__law_shuffled hr pass0 (pa_cons (pv 0) (pa_cons (pe_listRg rfl rfl M.z_list (prg_1 rfl M.z_range (pv 1))) pa_nil))) (pa_cons (pe_fn h__law_take hr pass0 (pa_cons (pv 0) (pa_cons pe_int pa_nil))) pa_nil)) rfl) (pss_cons (ps_set (i := 2) nd rfl (.inl rfl) (pe_lst pa_nil)) (pss_cons (ps_for PassesOwn.never rfl (pi_range1 rfl M.z_range (pa_cons (pv 1) pa_nil)) (pg_name (i := 3) nd rfl (.inl rfl)) (pss_one (ps_for PassesOwn.never rfl (pi_range2 rfl M.z_range (pa_cons (pe_op op_add (pv 3) pe_int) (pa_cons (pv 1) pa_nil))) (pg_name (i := 6) nd rfl (.inl rfl)) (pss_one (ps_if (pt_cmpR op_lt (pe_fn h__law_take hr pass0 (pa_cons (pv 0) (pa_cons pe_int pa_nil))) (pv 5) (nomark _)) (pss_one (ps_expr (pe_bm PySem.F.plainAttrs_list PySem.F.slot_list_append PySem.F.type_list_append mt_append (pv 2) (pa_cons (pe_tup (pa_cons (pe_ix ix_list (pv 4) (pv 3) (fun _ _ => rfl)) (pa_cons (pe_ix ix_list (pv 4) (pv 6) (fun _ _ => rfl)) pa_nil))) pa_nil)))) pss_nil))))) (pss_one (ps_ret (pe_callTy call_tuple_of rfl M.z_tuple LW.boot_tuple (pa_cons (pe_callB cr_sortedP rfl M.z_sorted LW.boot_sorted (pa_cons (pv 2) pa_nil)) pa_nil))))))), ?_⟩
  · obtain ⟨h, n, B, rfl, _⟩ := h; rfl
  · obtain ⟨h, n, B, rfl, z, h6, hQ⟩ := h
    refine wq_par (w_consW (w_call (w_cons (x := .ref h) (ev_var rfl) fun H1 e1 => w_consL (el_rng (n := n) (ev_var rfl) (by omega)) fun r H2 nr e2 hr' => w_nil ?_)))
    obtain ⟨g1, g2⟩ := (z.step e1).grow e2
    have rh : r ≠ h := fun y => by
      obtain ⟨c, ns, a, b, t, h1, _⟩ := (z.step e1).hand
      rw [y, h1] at nr; cases nr
    refine ⟨h, r, del H2 h, (rng n).map V.int, rfl, g2, .inl (by rw [del_ne rh]; exact hr'), by rw [List.length_map, rng_len]; omega, fun q ys B3 H3 e3 z3 _ hq hp => ?_⟩
    obtain ⟨row, rfl, hrow⟩ := perm_ints hp
    have hrl : row.length = n := by rw [hrow.length_eq, rng_len]
    refine w_consW (w_call (w_cons (x := .ref h) (ev_var rfl) fun H4 e4 => w_cons (x := .int 3) ev_c fun H5 e5 => w_nil ⟨h, 3, B3, rfl, z3.step (e4.trans e5), by decide, by decide, fun rate H6 _ z6 _ _ => w_nil ⟨_, _, rfl, ?_⟩⟩))
    have eB3 : Ex B B3 := g1.trans e3
    refine q_asgL (el_lst ea_nil (Nat.zero_le _)) fun g H7 ng e7 hg => ?_
    have nBg : B3 g = none := fresh_back z6.ex ng
    have gh : g ≠ h := fun y => by
      obtain ⟨c, ns, a, b, t, h1, _⟩ := z6.hand
      rw [y, h1] at ng; cases ng
    refine q_forR1 (n := (n : Int)) (ea_cons (ev_var rfl) ea_nil) ⟨by omega, by omega⟩ (fun i σ' H' => ∃ (Bk : Hp) (gs : List Addr) (cs : List Pr) (v3 v6 : Option V), σ' = [some (.ref h), some (.int (n : Int)), some (.ref g), v3, some (.ref q), some (.int rate), v6] ∧ Ex B3 Bk ∧ Bk g = none ∧ Hd Bk h H' ∧ H' g = some (.lst (gs.map V.ref)) ∧ Paired (PrAt Bk) gs cs ∧ (∀ c ∈ cs, Ahead row c) ∧ cs.length ≤ 5 * i)
      (fun H8 e8 => ⟨B3, [], [], none, none, rfl, Ex.refl _, nBg, z6.step (e7.trans e8), e8 _ _ hg, .nil, (fun c hc => by cases hc), Nat.zero_le _⟩) (fun i σ' H' hi h => ?_) (fun σ' H' h => ?_)
    · obtain ⟨Bk, gs, cs, v3, v6, rfl, k1, k2, zk, hg', hgs, hah, hlen⟩ := h
      refine s_forR2 (lo := (i : Int) + 1) (n := (n : Int)) (ea_cons (ev_op (ev_var rfl) ev_c rv_I0) (ea_cons (ev_var rfl) ea_nil)) ⟨by omega, by omega, by omega, by omega⟩ (fun j σ' H' => ∃ (Bk : Hp) (gs : List Addr) (cs : List Pr) (v6 : Option V), σ' = [some (.ref h), some (.int (n : Int)), some (.ref g), some (.int (i : Int)), some (.ref q), some (.int rate), v6] ∧ Ex B3 Bk ∧ Bk g = none ∧ Hd Bk h H' ∧ H' g = some (.lst (gs.map V.ref)) ∧ Paired (PrAt Bk) gs cs ∧ (∀ c ∈ cs, Ahead row c) ∧ cs.length ≤ 5 * i + j)
        (fun H8 e8 => ⟨Bk, gs, cs, v6, rfl, k1, k2, zk.step e8, e8 _ _ hg', hgs, hah, by omega⟩) (fun j σ' H' hj h => ?_) (fun σ' H' h => ?_)
      · obtain ⟨Bk, gs, cs, v6, rfl, k1, k2, zk, hg', hgs, hah, hlen⟩ := h
        refine s_ifTake (hi := 0) (i := 5) (h := h) (rate := rate) (m := 3) rfl rfl zk (by decide) (by decide) (fun H8 e8 z8 => ?_) fun H8 e8 z8 => ⟨Bk, gs, cs, _, rfl, k1, k2, z8, e8 _ _ (by rw [del_ne gh]; exact hg'), hgs, hah, by omega⟩
        have hg8 : H8 g = some (.lst (gs.map V.ref)) := e8 _ _ (by rw [del_ne gh]; exact hg')
        have hq8 := z8.ex _ _ (k1 _ _ hq)
        have hi' : i < row.length := by omega
        have hm' : i + 1 + j < row.length := by omega
        have ei : atI (row.map V.int) (i : Int) = some (.int row[i]) := atI_nat (by rw [List.getElem?_map, List.getElem?_eq_getElem hi']; rfl)
        have em : atI (row.map V.int) ((i : Int) + 1 + (j : Int)) = some (.int row[i + 1 + j]) := by
          have : ((i : Int) + 1 + (j : Int)) = ((i + 1 + j : Nat) : Int) := by omega
          rw [this]
          exact atI_nat (by rw [List.getElem?_map, List.getElem?_eq_getElem hm']; rfl)
        have hgl : gs.length = cs.length := hgs.length
        refine s_appU (xs := gs.map V.ref) (ys := [.int row[i], .int row[i + 1 + j]]) hg8 (ev_var rfl) (eu_tup (ea_cons (ev_op (ev_var rfl) (ev_var rfl) (rv_ixL (sq_of hq8) ei)) (ea_cons (ev_op (ev_var rfl) (ev_var rfl) (rv_ixL (sq_of hq8) em)) ea_nil)) (show 2 ≤ 100000 by decide)) (by rw [List.length_map]; omega) fun p2 H9 np2 e9 hp2 => ?_
        have pg : p2 ≠ g := fun y => by rw [y, hg8] at np2; cases np2
        have ph : p2 ≠ h := fun y => by
          obtain ⟨c, ns, a, b, t, h1, _⟩ := z8.hand
          rw [y, h1] at np2; cases np2
        have eb : Ex Bk (del (del H9 g) h) := ex_del (ex_del (z8.ex.trans e9) k2) z8.no
        refine ⟨del (del H9 g) h, gs ++ [p2], cs ++ [(row[i], row[i + 1 + j])], _, rfl, k1.trans eb, by rw [del_ne gh, del_same], ⟨Ex.trans (del_ex (Ex.refl _)) (del_upd (del_ex (Ex.refl H9))), del_same, ?_⟩, by rw [List.map_append]; exact upd_same, LG.paired_app (Paired.mapP hgs fun _ _ y => eb _ _ y) (by show PrAt _ _ _; unfold PrAt; rw [del_ne ph, del_ne pg]; exact hp2), fun c hc => ?_, by rw [List.length_append]; show cs.length + 1 ≤ _; omega⟩
        · obtain ⟨c, ns, a, b, t, h1, h2, h3⟩ := z8.hand
          exact ⟨c, ns, a, b, t, by rw [upd_ne (Ne.symm gh)]; exact e9 _ _ h1, eb _ _ h2, h3⟩
        · rcases List.mem_append.mp hc with hc | hc
          · exact hah c hc
          · rw [List.mem_singleton.mp hc]
            exact ⟨i, i + 1 + j, by omega, List.getElem?_eq_getElem hi', List.getElem?_eq_getElem hm'⟩
      · obtain ⟨Bk, gs, cs, v6, rfl, k1, k2, zk, hg', hgs, hah, hlen⟩ := h
        exact ⟨Bk, gs, cs, _, v6, rfl, k1, k2, zk, hg', hgs, hah, by omega⟩
    · obtain ⟨Bk, gs, cs, v3, v6, rfl, k1, k2, zk, hg', hgs, hah, hlen⟩ := h
      have hn : ((n : Nat) : Int).toNat = n := by omega
      rw [hn] at hlen
      have hgl : gs.length = cs.length := hgs.length
      obtain ⟨z1, zz2, zz3⟩ := paired_zip hgs
      have hzip : gs.map V.ref = (gs.zip cs).map rowP := by
        have := congrArg (List.map V.ref) z1
        rw [List.map_map] at this; exact this.symm
      refine w_ret ?_
      refine (ev_var rfl : Ev (tVar 2) [some (.ref h), some (.int (n : Int)), some (.ref g), v3, some (.ref q), some (.int rate), v6] H' (.ref g)) H' (Ex.refl _) _ fun H8 e8 => ?_
      refine ⟨g, gs.map V.ref, rfl, sq_of (e8 _ _ hg'), fun x hx => ?_, fun ys p hperm np => ?_⟩
      · rw [hzip] at hx
        obtain ⟨w, hw, rfl⟩ := List.mem_map.mp hx
        exact ⟨w.1, w.2.1, w.2.2, rfl, e8 _ _ (zk.ex _ _ (zz3 w hw))⟩
      · obtain ⟨ws, hws, rfl⟩ := perm_map hperm (gs.zip cs) hzip
        have e9 : Ex H8 (upd H8 p (.lst (ws.map rowP))) := Ex.new np
        refine ⟨p, _, rfl, .inl ⟨sq_of upd_same, fun l nl => ?_⟩⟩
        obtain ⟨y1, y2⟩ := zk.grow ((e8.trans e9).trans (Ex.new (o := .tup (ws.map rowP)) nl))
        have lh : l ≠ h := fun y => by
          obtain ⟨c, ns, a, b, t, h1, _⟩ := (zk.step (e8.trans e9)).hand
          rw [y, h1] at nl; cases nl
        have hpr : Paired (PrAt (del (upd (upd H8 p (.lst (ws.map rowP))) l (.tup (ws.map rowP))) h)) (ws.map fun w => w.1) (ws.map fun w => w.2) := paired_of (fun w : Addr × Pr => w.1) (fun w => w.2) ws fun w hw => y1 w.1 (.tup [.int w.2.1, .int w.2.2]) (show Bk w.1 = some (.tup [.int w.2.1, .int w.2.2]) from zz3 w (hws.mem_iff.mp hw))
        refine hQ (.ref l) _ _ ((eB3.trans k1).trans y1) y2 ⟨l, ws.map (·.2), rfl, ⟨ws.map (·.1), by rw [del_ne lh, upd_same, List.map_map]; rfl, hpr⟩, ahead_ok hrow (fun c hc => ?_) ?_⟩
        · obtain ⟨w, hw, rfl⟩ := List.mem_map.mp hc
          exact hah _ (by rw [← zz2]; exact List.mem_map.mpr ⟨w, hws.mem_iff.mp hw, rfl⟩)
        · rw [List.length_map, hws.length_eq, List.length_zip, hgl]
          omega
end
end LO

set_option Elab.async false
set_option linter.all false
set_option maxRecDepth 100000
set_option maxHeartbeats 4000000
namespace LO
open PySem PySem.Spec PyProof.Rows L2 LG LW LC LM Evl
section
variable {P : Program} {w : World} {K : PySem.W.Frag} {mg : Str → Option Value} {base : Heap}

/-! ### _law_pool -/
theorem hd_app {Bk H H5 : Hp} {h g p : Addr} {xs zs ys : List V} (z : Hd Bk h H) (hg : H g = some (.lst xs)) (nB : Bk g = none) (gh : g ≠ h) (e : Ex H H5) (np : H p = none) (hp : H5 p = some (.tup ys)) :
    ∃ Bk', Ex Bk Bk' ∧ Bk' g = none ∧ Hd Bk' h (upd H5 g (.lst zs)) ∧ Bk' p = some (.tup ys) := by
  have pg : p ≠ g := fun y => by rw [y, hg] at np; cases np
  obtain ⟨c, ns, a, b, t, h1, h2, h3⟩ := z.hand
  have ph : p ≠ h := fun y => by rw [y, h1] at np; cases np
  have eb : Ex Bk (del (del H5 g) h) := ex_del (ex_del (z.ex.trans e) nB) z.no
  exact ⟨del (del H5 g) h, eb, by rw [del_ne gh, del_same], ⟨Ex.trans (del_ex (Ex.refl _)) (del_upd (del_ex (Ex.refl H5))), del_same, c, ns, a, b, t, by rw [upd_ne (Ne.symm gh)]; exact e _ _ h1, eb _ _ h2, h3⟩, by rw [del_ne ph, del_ne pg]; exact hp⟩
def StAt (H : Hp) (p : Addr) (e : List Str) : Prop := H p = some (.tup (e.map V.str))
/-- a list of endings -/
def PoolP (n : Nat) : V → Hp → Prop := fun v H => ∃ q gs es, v = .ref q ∧ H q = some (.lst (gs.map V.ref)) ∧ Paired (StAt H) gs es ∧ es.length = n ∧ ∀ e ∈ es, EndOk e
def sp__law_pool : Sp := fun vs H Q _ => ∃ (h : Addr) (n : Nat) (B : Hp), vs = [.ref h, .int (n : Int)] ∧ Hd B h H ∧ n ≤ 12 ∧ ∀ v B' H', Ex B B' → Hd B' h H' → PoolP n v B' → Q v H'
def txt20 : Str := "abcdefghijklmnopqrst"
def endB (ps : List Str) : Bool := decide (1 ≤ ps.length) && decide (ps.length ≤ 4) && ps.all fun p => decide (p.length ≤ 3) && lettersB p
theorem endB_ok {ps : List Str} (h : endB ps = true) : EndOk ps := by
  unfold endB at h
  rw [Bool.and_eq_true, Bool.and_eq_true, decide_eq_true_iff, decide_eq_true_iff] at h
  refine ⟨h.1.1, h.1.2, fun p hp => ?_⟩
  have := List.all_eq_true.mp h.2 p hp
  rw [Bool.and_eq_true, decide_eq_true_iff] at this
  exact this
def e1L : Str := "e"
def sL : Str := "s"
def nL : Str := ""
theorem all20 : (txt20.cps.toList.all fun c => endB [⟨#[c]⟩, sL] && (endB [nL, ⟨#[c]⟩] && (endB [e1L ++ ⟨#[c]⟩] && endB [⟨#[c]⟩]))) = true := by decide +kernel
def PoolPv (B1 : Hp) (h q g : Addr) (n i : Nat) (σ' : L2.St) (H' : Hp) : Prop := ∃ (Bk : Hp) (gs : List Addr) (es : List (List Str)) (v4 v5 : Option V), σ' = [some (.ref h), some (.int (n : Int)), some (.ref q), some (.ref g), v4, v5] ∧ Ex B1 Bk ∧ Bk g = none ∧ Hd Bk h H' ∧ H' g = some (.lst (gs.map V.ref)) ∧ Paired (StAt Bk) gs es ∧ (∀ e ∈ es, EndOk e) ∧ es.length = i
theorem rv_addS {H : Hp} {x y : Str} (h : x.length + y.length ≤ 100000) : RV (fun x y H Q => ∃ i j, x = V.str i ∧ y = V.str j ∧ i.length + j.length ≤ sizeLine ∧ Q (.str (i ++ j)) H) (.str x) (.str y) H (.str (x ++ y)) := fun H1 _ _ q => ⟨x, y, rfl, rfl, sz_of h, q H1 (Ex.refl H1)⟩
theorem el_txt {σ : L2.St} {H : Hp} {x : Str} (h : x.length ≤ 1000) : EvL (tCB (fun xs H Q => ∃ x : Str, xs = [V.str x] ∧ x.length ≤ 1000 ∧ ∀ p, H p = none → Q (.ref p) (upd H p (.lst (signsOf x)))) (tCons (tC (.str x)) tNil)) σ H (signsOf x) := fun H1 e Q q =>
  ⟨x, rfl, h, fun p np => q p _ np (Ex.new np) upd_same⟩
abbrev n__law_pool : List Str := ["_law_hand_here", "_law_count", "_law_letters", "_law_found", "_law_k", "_law_shape"]
theorem sc__law_pool : FnScope n__law_pool ["_law_hand_here", "_law_count"] (defScope s__law_pool) := ⟨rfl, rfl, rfl, by decide +kernel, rfl, by decide +kernel, by decide +kernel⟩
theorem fn__law_pool (M : Mods P K mg base) : Fn P w K mg base CX0 4 "_law_pool" ["_law_hand_here", "_law_count"] [] sp__law_pool := by
  have nd := sc__law_pool.nd
  have h__law_shuffled := (fn__law_shuffled (w := w) M).up (show 3 ≤ 3 by decide)
  have h__law_take := (fn__law_take (w := w) M).up (show 2 ≤ 3 by decide)
  refine Fn.mk0 M.F__law_pool M.g__law_pool sc__law_pool (fun vs H Q E h => ?_) (fun fd F => F.bindsN fun _ _ _ _ _ _ us hl => match us, hl with | [_, _], _ => rfl) fun cdv A outer s H vs Q E hr h => ⟨_,
    (pss_cons (ps_set (i := 2) nd rfl (.inl rfl) (pe_fn h__law_shuffled hr pass0 (pa_cons (pv 0) (pa_cons (pe_callTy (LW.call_list_txt rfl) rfl M.z_list LW.boot_list (pa_cons pe_str pa_nil)) pa_nil)))) (pss_cons (ps_set (i := 3) nd rfl (.inl rfl) (pe_lst pa_nil)) (pss_cons (ps_for PassesOwn.never rfl (pi_range1 rfl M.z_range (pa_cons (pv 1) pa_nil)) (pg_name (i := 4) nd rfl (.inl rfl)) (pss_cons (ps_set (i := 5) nd rfl (.inl rfl) (pe_fn h__law_take hr pass0 (pa_cons (pv 0) (pa_cons pe_int pa_nil)))) (pss_one (ps_if (pt_cmpR op_eq (pv 5) pe_int (nomark _)) (pss_one (ps_expr (pe_bm PySem.F.plainAttrs_list PySem.F.slot_list_append PySem.F.type_list_append mt_append (pv 3) (pa_cons (pe_tup (pa_cons (pe_ix ix_list (pv 2) (pv 4) (fun _ _ => rfl)) (pa_cons pe_str pa_nil))) pa_nil)))) (pss_one (ps_if (pt_cmpR op_eq (pv 5) pe_int (nomark _)) (pss_one (ps_expr (pe_bm PySem.F.plainAttrs_list PySem.F.slot_list_append PySem.F.type_list_append mt_append (pv 3) (pa_cons (pe_tup (pa_cons pe_str (pa_cons (pe_ix ix_list (pv 2) (pv 4) (fun _ _ => rfl)) pa_nil))) pa_nil)))) (pss_one (ps_if (pt_cmpR op_eq (pv 5) pe_int (nomark _)) (pss_one (ps_expr (pe_bm PySem.F.plainAttrs_list PySem.F.slot_list_append PySem.F.type_list_append mt_append (pv 3) (pa_cons (pe_tup (pa_cons (pe_op op_add_str pe_str (pe_ix ix_list (pv 2) (pv 4) (fun _ _ => rfl))) pa_nil)) pa_nil)))) (pss_one (ps_expr (pe_bm PySem.F.plainAttrs_list PySem.F.slot_list_append PySem.F.type_list_append mt_append (pv 3) (pa_cons (pe_tup (pa_cons (pe_ix ix_list (pv 2) (pv 4) (fun _ _ => rfl)) pa_nil)) pa_nil)))))))))))) (pss_one (ps_ret (pv 3)))))), ?_⟩
  · obtain ⟨h, n, B, rfl, _⟩ := h; rfl
  · obtain ⟨h, n, B, rfl, z, hn, hQ⟩ := h
    refine q_asgH z (eh_shuf (xs := signsOf txt20) ((eh_evL (el_txt (x := txt20) (by decide))).imp fun v H ⟨p, hv, hp⟩ => ⟨p, hv, .inl hp⟩) (fun _ => ev_var rfl) (by decide)) fun v B1 H1 e1 z1 hv => ?_
    obtain ⟨q, ys, rfl, hq, hys⟩ := hv
    have hyl : ys.length = 20 := by rw [hys.length_eq]; decide
    have hy : ∀ i : Nat, i < 20 → ∃ y : Str, ys[i]? = some (.str y) ∧ EndOk [y, sL] ∧ EndOk [nL, y] ∧ EndOk [e1L ++ y] ∧ EndOk [y] := fun i hi => by
      have hm : ys[i] ∈ signsOf txt20 := hys.mem_iff.mp (List.getElem_mem (by omega))
      obtain ⟨c, hc, he⟩ := List.mem_map.mp hm
      have := List.all_eq_true.mp all20 c hc
      rw [Bool.and_eq_true, Bool.and_eq_true, Bool.and_eq_true] at this
      exact ⟨⟨#[c]⟩, by rw [he]; exact List.getElem?_eq_getElem (by omega), endB_ok this.1, endB_ok this.2.1, endB_ok this.2.2.1, endB_ok this.2.2.2⟩
    refine q_asgL (el_lst ea_nil (Nat.zero_le _)) fun g H2 ng e2 hg => ?_
    have nBg : B1 g = none := fresh_back z1.ex ng
    have gh : g ≠ h := fun y => by
      obtain ⟨c, ns, a, b, t, h1, _⟩ := z1.hand
      rw [y, h1] at ng; cases ng
    refine q_forR1 (n := (n : Int)) (ea_cons (ev_var rfl) ea_nil) ⟨by omega, by omega⟩ (PoolPv B1 h q g n)
      (fun H3 e3 => ⟨B1, [], [], none, none, rfl, Ex.refl _, nBg, z1.step (e2.trans e3), e3 _ _ hg, .nil, (fun e he => by cases he), rfl⟩) (fun i σ' H' hi h => ?_) (fun σ' H' h => ?_)
    · obtain ⟨Bk, gs, es, v4, v5, rfl, k1, k2, zk, hg', hgs, hes, hlen⟩ := h
      obtain ⟨y, hyi, o1, o2, o3, o4⟩ := hy i (by omega)
      have hyx : atI ys (i : Int) = some (.str y) := atI_nat hyi
      have hgl : gs.length = es.length := hgs.length
      have hy3 : y.length ≤ 3 := (o4.2.2 y List.mem_cons_self).1
      refine wq_asg (w_call (w_cons (x := .ref h) (ev_var rfl) fun H3 e3 => w_cons (x := .int 5) ev_c fun H4 e4 => w_nil ⟨h, 5, Bk, rfl, zk.step (e3.trans e4), by decide, by decide, fun sh H5 e5 z5 _ _ => ?_⟩))
      have hg5 : H5 g = some (.lst (gs.map V.ref)) := e5.ex _ _ (by rw [del_ne gh]; exact e4 _ _ (e3 _ _ hg'))
      have hq5 := z5.ex _ _ (k1 _ _ hq)
      have ix : ∀ H7, Ex H5 H7 → Ev (tOp (rIxL K) (tVar 2) (tVar 4)) [some (.ref h), some (.int (n : Int)), some (.ref q), some (.ref g), some (.int (i : Int)), some (.int sh)] H7 (.str y) := fun H7 e7 => ev_op (ev_var rfl) (ev_var rfl) (rv_ixL (sq_of (e7 _ _ hq5)) hyx)
      have app : ∀ (D : Ends) (e : List Str) (te : TE) (H6 : Hp), Ex H5 H6 → EndOk e → EvU te [some (.ref h), some (.int (n : Int)), some (.ref q), some (.ref g), some (.int (i : Int)), some (.int sh)] H6 (e.map V.str) → (∀ σ' H', PoolPv B1 h q g n (i + 1) σ' H' → D.nx σ' H') →
          tDrop (tBM K "list" rAppend (tVar 3) (tCons te tNil)) D [some (.ref h), some (.int (n : Int)), some (.ref q), some (.ref g), some (.int (i : Int)), some (.int sh)] H6 := fun D e te H6 e6 he hte kD => by
        refine s_appU (e6 _ _ hg5) (ev_var rfl) hte (by rw [List.length_map]; omega) fun p2 H7 np2 e7 hp2 => kD _ _ ?_
        obtain ⟨Bk', b1, b2, b3, b4⟩ := hd_app (zs := gs.map V.ref ++ [.ref p2]) (z5.step e6) (e6 _ _ hg5) k2 gh e7 np2 hp2
        exact ⟨Bk', gs ++ [p2], es ++ [e], _, _, rfl, k1.trans b1, b2, b3, by rw [List.map_append]; exact upd_same, LG.paired_app (Paired.mapP hgs fun _ _ w => b1 _ _ w) b4, fun x hx => by
          rcases List.mem_append.mp hx with hx | hx
          · exact hes x hx
          · rw [List.mem_singleton.mp hx]; exact he, by rw [List.length_append, hlen]; rfl⟩
      refine s_if (b := decide (V.int sh = V.int 0)) (et_op (ev_var rfl) ev_c (rv_eq rfl)) (fun _ H6 e6 => ?_) (fun _ H6 e6 => ?_)
      · exact app _ [y, sL] _ H6 e6 o1 (eu_tup (ea_cons (ix H6 e6) (ea_cons ev_c ea_nil)) (show 2 ≤ 100000 by decide)) fun _ _ w => w
      refine s_if (b := decide (V.int sh = V.int 1)) (et_op (ev_var rfl) ev_c (rv_eq rfl)) (fun _ H7 e7 => ?_) (fun _ H7 e7 => ?_)
      · exact app _ [nL, y] _ H7 (e6.trans e7) o2 (eu_tup (ea_cons ev_c (ea_cons (ix H7 (e6.trans e7)) ea_nil)) (show 2 ≤ 100000 by decide)) fun _ _ w => w
      have e67 := e6.trans e7
      have hel : e1L.length + y.length ≤ 100000 := by
        have : e1L.length = 1 := by decide
        omega
      refine s_if (b := decide (V.int sh = V.int 2)) (et_op (ev_var rfl) ev_c (rv_eq rfl)) (fun _ H8 e8 => ?_) (fun _ H8 e8 => ?_)
      · exact app _ [e1L ++ y] _ H8 (e67.trans e8) o3 (eu_tup (ea_cons (ev_op (x := .str e1L) ev_c (ix H8 (e67.trans e8)) (rv_addS hel)) ea_nil) (show 1 ≤ 100000 by decide)) fun _ _ w => w
      · exact app _ [y] _ H8 (e67.trans e8) o4 (eu_tup (ea_cons (ix H8 (e67.trans e8)) ea_nil) (show 1 ≤ 100000 by decide)) fun _ _ w => w
    · obtain ⟨Bk, gs, es, v4, v5, rfl, k1, k2, zk, hg', hgs, hes, hlen⟩ := h
      have hnn : ((n : Nat) : Int).toNat = n := by omega
      rw [hnn] at hlen
      refine s_ret (ev_var rfl) fun H3 e3 => ?_
      obtain ⟨y1, y2⟩ := zk.grow e3
      exact hQ _ _ H3 ((e1.trans k1).trans y1) y2 ⟨g, gs, es, rfl, by rw [del_ne gh]; exact e3 _ _ hg', Paired.mapP hgs fun _ _ w => y1 _ _ w, hlen, hes⟩
end
end LO

set_option Elab.async false
set_option linter.all false
set_option maxRecDepth 100000
set_option maxHeartbeats 4000000
namespace LO
open PySem PySem.Spec PyProof.Rows L2 LG LW LC LM Evl
section
variable {P : Program} {w : World} {K : PySem.W.Frag} {mg : Str → Option Value} {base : Heap}

/-! ### _law_one -/
def sp__law_one : Sp := fun vs H Q _ => ∃ (h r : Addr) (B : Hp) (xs : List V), vs = [.ref h, .ref r] ∧ Hd B h H ∧ B r = some (.lst xs) ∧ 0 < xs.length ∧ xs.length ≤ 100000 ∧ ∀ (k : Nat) x H', Hd B h H' → xs[k]? = some x → Q x H'
abbrev n__law_one : List Str := ["_law_hand_here", "_law_row"]
theorem sc__law_one : FnScope n__law_one ["_law_hand_here", "_law_row"] (defScope s__law_one) := ⟨rfl, rfl, rfl, by decide +kernel, rfl, by decide +kernel, by decide +kernel⟩
theorem fn__law_one (M : Mods P K mg base) : Fn P w K mg base CX0 3 "_law_one" ["_law_hand_here", "_law_row"] [] sp__law_one := by
  have nd := sc__law_one.nd
  have h__law_take := (fn__law_take (w := w) M).up (show 2 ≤ 2 by decide)
  refine Fn.mk0 M.F__law_one M.g__law_one sc__law_one (fun vs H Q E h => ?_) (fun fd F => F.bindsN fun _ _ _ _ _ _ us hl => match us, hl with | [_, _], _ => rfl) fun cdv A outer s H vs Q E hr h => ⟨_,
    (pss_one (ps_ret (pe_ix ix_list (pv 1) (pe_fn h__law_take hr pass0 (pa_cons (pv 0) (pa_cons (pe_callB call_len_seq rfl M.z_len LW.boot_len (pa_cons (pv 1) pa_nil)) pa_nil))) (fun _ _ => rfl)))), ?_⟩
  · obtain ⟨h, r, B, xs, rfl, _⟩ := h; rfl
  · obtain ⟨h, r, B, xs, rfl, z, hr', h0, h1, hQ⟩ := h
    refine w_ret (w_op (w_ev (x := .ref r) (ev_var rfl) fun H1 e1 => w_call (w_cons (x := .ref h) (ev_var rfl) fun H2 e2 => w_cons (ev_len (ev_var rfl) (sq_of (e2 _ _ (e1 _ _ (z.ex _ _ hr'))))) fun H3 e3 => w_nil ⟨h, _, B, rfl, z.step ((e1.trans e2).trans e3), by omega, by omega, fun k H4 _ z4 k0 k1 => ?_⟩)))
    have hk : xs[k.toNat]? = some (xs[k.toNat]'(by omega)) := List.getElem?_eq_getElem (by omega)
    generalize (xs[k.toNat]'(by omega)) = x at hk
    exact ⟨r, xs, k, x, rfl, rfl, sq_of (z4.ex _ _ hr'), by
      have : k = ((k.toNat : Nat) : Int) := by omega
      rw [this]; exact atI_nat hk, hQ k.toNat x H4 z4 hk⟩
/-! ### _law_same_rows -/
def sp__law_same_rows : Sp := fun vs H Q _ => ∃ (a b : Addr) (ps : List Addr) (rows : List (List Int)), vs = [.ref a, .ref b] ∧ H a = some (.tup (ps.map V.ref)) ∧ Paired (RwAt H) ps rows ∧ RowsL H b rows ∧ rows.length ≤ 1000 ∧ (∀ r ∈ rows, r.length ≤ 1000) ∧ ∀ H', Ex H H' → Q (.bl true) H'
theorem given_none (n : Nat) (v : Nat → V) : given n (fun _ => false) v = [] := by
  unfold given
  rw [List.filter_eq_nil_iff.mpr (fun _ _ h => by cases h)]; rfl
abbrev n__law_same_rows : List Str := ["_law_told", "_law_due", "_law_k"]
theorem sc__law_same_rows : FnScope n__law_same_rows ["_law_told", "_law_due"] (defScope s__law_same_rows) := ⟨rfl, rfl, rfl, by decide +kernel, rfl, by decide +kernel, by decide +kernel⟩
theorem fn__law_same_rows (M : Mods P K mg base) : Fn P w K mg base CX0 3 "_law_same_rows" ["_law_told", "_law_due"] [] sp__law_same_rows := by
  have nd := sc__law_same_rows.nd
  have h__law_same_row := (fn__law_same_row (w := w) M).up (show 2 ≤ 2 by decide)
  refine Fn.mk0 M.F__law_same_rows M.g__law_same_rows sc__law_same_rows (fun vs H Q E h => ?_) (fun fd F => F.bindsN fun _ _ _ _ _ _ us hl => match us, hl with | [_, _], _ => rfl) fun cdv A outer s H vs Q E hr h => ⟨_,
    (pss_cons (ps_if (PW.pt (pw_or (pt_not (pt_val (pe_callB call_isi rfl M.z_isinstance LW.boot_isinstance (pa_cons (pv 0) (pa_cons (pe_bltn (v := .ty "tuple") rfl M.z_tuple LW.boot_tuple rfl) pa_nil))))) (pw_or1 (pt_cmpR op_ne (pe_callB call_len_seq rfl M.z_len LW.boot_len (pa_cons (pv 0) pa_nil)) (pe_callB call_len_seq rfl M.z_len LW.boot_len (pa_cons (pv 1) pa_nil)) (nomark _))))) (pss_one (ps_ret pe_bl)) pss_nil) (pss_one (ps_ret (pe_cmpR (op_eqD hr.units) (pe_lc (own := [("_law_k", 2)]) rfl nd (pi_range1 rfl M.z_range (pa_cons (pe_callB call_len_seq rfl M.z_len LW.boot_len (pa_cons (pv 1) pa_nil)) pa_nil)) (blkOk_by (N := n__law_same_rows) (sc := (defScope s__law_same_rows)) (by decide +kernel)) (fun _ _ _ _ _ => (pg_name (i := 2) nd rfl (.inl rfl))) (fun _ _ _ _ _ => (pts_one (pt_not (pt_val (pe_fn h__law_same_row hr pass0 (pa_cons (pe_ix (show IxR _ (rIxT K) from ix_tup) (pv 0) (pv 2) (fun _ _ => rfl)) (pa_cons (pe_ix (show IxR _ (rIxL K) from ix_list) (pv 1) (pv 2) (fun _ _ => rfl)) pa_nil))))))) (fun _ _ _ _ _ => (pv 2))) (pe_lst pa_nil) (nomark _))))), ?_⟩
  · obtain ⟨a, b, ps, rows, rfl, _⟩ := h; rfl
  · obtain ⟨a, b, ps, rows, rfl, ha, hps, ⟨qs, hb, hqs⟩, hz, hrl, hQ⟩ := h
    have hpl : ps.length = rows.length := hps.length
    have hql : qs.length = rows.length := hqs.length
    refine q_pass (et_or (a := false) (b := false) (et_not (et_B (isi_rt (ev_var rfl) (.inl ha)))) fun _ => et_is (et_op (ev_lenT (ev_var rfl) (st_of ha)) (ev_len (ev_var rfl) (sq_of hb)) (rv_ne rfl)) ?_) fun H1 e1 => ?_
    · rw [List.length_map, List.length_map, hpl, hql, decide_eq_true rfl]; rfl
    have hcomp : EvL (tLc (iRng1 (tCons (tCB (rLenS K) (tCons (tVar 1) tNil)) tNil)) (gName 2) (tNot (tB (tCall sp__law_same_row [] E0 (tCons (tOp (rIxT K) (tVar 0) (tVar 2)) (tCons (tOp (rIxL K) (tVar 1) (tVar 2)) tNil))))) (tVar 2) [2]) [some (.ref a), some (.ref b), none] H1 (([] : List Int).map V.int) := by
      refine el_is (el_lcR1 (n := (rows.length : Int)) (fun _ => false) (fun i => .int (i : Int)) (ea_len (ev_var rfl) (.inl (e1 _ _ hb)) (by rw [List.length_map, hql])) ⟨by omega, by omega⟩ (fun _ => rfl) (fun i H2 e2 hi => ?_) fun i H2 e2 hi hf => by cases hf) (given_none _ _)
      have hi1 : i < ps.length := by omega
      have hi2 : i < qs.length := by omega
      obtain ⟨row, hr1, hp1⟩ := paired_at hps (List.getElem?_eq_getElem hi1)
      obtain ⟨row', hr2, hq1⟩ := paired_at hqs (List.getElem?_eq_getElem hi2)
      rw [hr1] at hr2
      cases hr2
      have e12 := e1.trans e2
      refine et_not (et_B (ev_fn (z := .bl true) (ea_cons (ev_op (ev_var rfl) (ev_var rfl) (rv_ixT (st_of (e12 _ _ ha)) (atI_nat (by rw [List.getElem?_map, List.getElem?_eq_getElem hi1]; rfl)))) (ea_cons (ev_op (ev_var rfl) (ev_var rfl) (rv_ixL (sq_of (e12 _ _ hb)) (atI_nat (by rw [List.getElem?_map, List.getElem?_eq_getElem hi2]; rfl)))) ea_nil)) fun H3 e3 Q E q => ⟨ps[i], qs[i], row, rfl, .inl (e3 _ _ (e12 _ _ hp1)), e3 _ _ (e12 _ _ hq1), hrl row (List.mem_of_getElem? hr1), q⟩))
    refine s_ret (ev_is (ev_eqNil hcomp) (by rw [decide_eq_true rfl])) fun H2 e2 => hQ H2 (e1.trans e2)
end
end LO

set_option Elab.async false
set_option linter.all false
set_option maxRecDepth 100000
set_option maxHeartbeats 4000000
namespace LO
open PySem PySem.Spec PyProof.Rows L2 LG LW LC LM Evl
section
variable {P : Program} {w : World} {K : PySem.W.Frag} {mg : Str → Option Value} {base : Heap}

/-! ### _law_table -/
theorem w_tup {σ : L2.St} {H : Hp} {ta : TA} {Q : VK} (h : ta σ H fun vs H1 => vs.length ≤ sizeLine ∧ ∀ p, H1 p = none → Q (.ref p) (upd H1 p (.tup vs))) : tTup ta σ H Q := h
theorem w_cb {σ : L2.St} {H : Hp} {t : TA} {r : List V → Hp → VK → Prop} {Q : VK} (h : t σ H fun vs H1 => r vs H1 Q) : tCB r t σ H Q := h
/-- a comprehension over a tuple, told by what holds at each turn -/
theorem w_lcT {K : PySem.W.Frag} {σ : L2.St} {H : Hp} {tl te : TE} {tt : TT} {g : TG} {vs : List Nat} {Q : VK} {a : Addr} {xs : List V} (h : Ev tl σ H (.ref a)) (hx : SqT K H a xs) (k : ∀ H1 D, Ex H H1 → H1 D = none → ∃ Pv : Nat → Hp → Prop, Pv 0 (upd H1 D (.lst [])) ∧ (∀ i H, i ≤ xs.length → Pv i H → SqT K H a xs) ∧
    (∀ i x H, xs[i]? = some x → Pv i H → g x (wipe σ vs) H fun σ2 H2 => wipe σ2 vs = wipe σ vs ∧ tt σ2 H2 fun b H3 => if b = true then te σ2 H3 fun y H4 => ∃ acc, H4 D = some (.lst acc) ∧ acc.length < sizeLine ∧ Pv (i + 1) (upd H4 D (.lst (acc ++ [y]))) else Pv (i + 1) H3) ∧ ∀ H, Pv xs.length H → Q (.ref D) H) :
    tLc (iTup K tl) g tt te vs σ H Q := h H (Ex.refl H) _ fun H1 e => ⟨a, rfl, ⟨xs, ex_t e hx⟩, fun D hD => by
  obtain ⟨Pv, h0, hl, hs, hd⟩ := k H1 D e hD
  exact lc_tup Pv h0 hl hs hd⟩
/-- pool[take(hand, len(pool))] -/
theorem w_draw {K : PySem.W.Frag} {σ : L2.St} {B H : Hp} {h r : Addr} {E : XK} {gs : List Addr} {es : List (List Str)} {i j : Nat} {Q : VK} (hh : σ[i]? = some (some (.ref h))) (hr : σ[j]? = some (some (.ref r))) (z : Hd B h H) (hg : B r = some (.lst (gs.map V.ref))) (hp : Paired (StAt B) gs es) (h0 : 0 < es.length) (h1 : es.length ≤ 1000)
    (k : ∀ (x : Addr) (e : List Str) H1, Kp H h H1 → Hd B h H1 → e ∈ es → B x = some (.tup (e.map V.str)) → Q (.ref x) H1) :
    tOp (rIxL K) (tVar j) (tCall sp__law_take [] E (tCons (tVar i) (tCons (tCB (rLenS K) (tCons (tVar j) tNil)) tNil))) σ H Q := by
  have hl : gs.length = es.length := hp.length
  refine w_op (w_ev (x := .ref r) (ev_var hr) fun H1 e1 => w_call (w_cons (x := .ref h) (ev_var hh) fun H2 e2 => w_cons (x := .int (es.length : Int)) (ev_is (ev_len (ev_var hr) (sq_of (e2 _ _ (e1 _ _ (z.ex _ _ hg))))) (by rw [List.length_map, hl])) fun H3 e3 => w_nil ⟨h, _, B, rfl, z.step ((e1.trans e2).trans e3), by omega, by omega, fun m H4 e4 z4 m0 m1 => ?_⟩))
  have hm : m.toNat < gs.length := by omega
  obtain ⟨e, he1, he2⟩ := paired_at hp (List.getElem?_eq_getElem hm)
  have hx : (gs.map V.ref)[m.toNat]? = some (.ref gs[m.toNat]) := by rw [List.getElem?_map, List.getElem?_eq_getElem hm]; rfl
  generalize gs[m.toNat] = x at he2 hx
  refine ⟨r, _, m, .ref x, rfl, rfl, sq_of (z4.ex _ _ hg), by
    have : m = ((m.toNat : Nat) : Int) := by omega
    rw [this]; exact atI_nat hx, k x e H4 (dtr (z.kp ((e1.trans e2).trans e3)) e4) z4 (List.mem_of_getElem? he1) he2⟩
def EndsOk (rows : List Row3) : Prop := ∀ r ∈ rows, EndOk r.2.1 ∧ EndOk r.2.2
def TabP (rs : List Int) : V → Hp → Prop := fun v H => ∃ q rows, v = .ref q ∧ TabAt H q rows ∧ rows.map (·.1) = rs ∧ EndsOk rows
def sp__law_table : Sp := fun vs H Q _ => ∃ (h b p : Addr) (B : Hp) (rs : List Int) (gs : List Addr) (es : List (List Str)), vs = [.ref h, .ref b, .ref p] ∧ Hd B h H ∧ B b = some (.tup (rs.map V.int)) ∧ B p = some (.lst (gs.map V.ref)) ∧ Paired (StAt B) gs es ∧ 0 < es.length ∧ es.length ≤ 1000 ∧ (∀ e ∈ es, EndOk e) ∧ rs.length ≤ 1000 ∧ ∀ v B' H', Ex B B' → Hd B' h H' → Kp H h H' → TabP rs v B' → Q v H'
def TabPv (B H0 : Hp) (h D : Addr) (rs : List Int) (i : Nat) (H' : Hp) : Prop := ∃ (Bk : Hp) (ps : List Addr) (rows : List Row3), Ex B Bk ∧ Bk D = none ∧ Hd Bk h H' ∧ Kp H0 h H' ∧ H' D = some (.lst (ps.map V.ref)) ∧ Paired (RowD Bk) ps rows ∧ rows.map (·.1) = rs.take i ∧ EndsOk rows
abbrev n__law_table : List Str := ["_law_hand_here", "_law_borne", "_law_pool_here", "_law_role"]
theorem sc__law_table : FnScope n__law_table ["_law_hand_here", "_law_borne", "_law_pool_here"] (defScope s__law_table) := ⟨rfl, rfl, rfl, by decide +kernel, rfl, by decide +kernel, by decide +kernel⟩
theorem fn__law_table (M : Mods P K mg base) : Fn P w K mg base CX0 3 "_law_table" ["_law_hand_here", "_law_borne", "_law_pool_here"] [] sp__law_table := by
  have nd := sc__law_table.nd
  have h__law_take := (fn__law_take (w := w) M).up (show 2 ≤ 2 by decide)
  refine Fn.mk0 M.F__law_table M.g__law_table sc__law_table (fun vs H Q E h => ?_) (fun fd F => F.bindsN fun _ _ _ _ _ _ us hl => match us, hl with | [_, _, _], _ => rfl) fun cdv A outer s H vs Q E hr h => ⟨_,
    (pss_one (ps_ret (pe_callTy call_tuple_of rfl M.z_tuple LW.boot_tuple (pa_cons (pe_lc (own := [("_law_role", 3)]) rfl nd (pi_tup (pv 1)) (blkOk_by (N := n__law_table) (sc := (defScope s__law_table)) (by decide +kernel)) (fun _ _ _ _ _ => (pg_name (i := 3) nd rfl (.inl rfl))) (fun _ _ _ _ _ => pts_nil) (fun _ _ _ _ _ => (pe_tup (pa_cons (pv 3) (pa_cons (pe_ix (show IxR _ (rIxL K) from ix_list) (pv 2) (pe_fn h__law_take hr pass0 (pa_cons (pv 0) (pa_cons (pe_callB (show CallR _ _ (rLenS K) from call_len_seq) rfl M.z_len LW.boot_len (pa_cons (pv 2) pa_nil)) pa_nil))) (fun _ _ => rfl)) (pa_cons (pe_ix (show IxR _ (rIxL K) from ix_list) (pv 2) (pe_fn h__law_take hr pass0 (pa_cons (pv 0) (pa_cons (pe_callB (show CallR _ _ (rLenS K) from call_len_seq) rfl M.z_len LW.boot_len (pa_cons (pv 2) pa_nil)) pa_nil))) (fun _ _ => rfl)) pa_nil)))))) pa_nil)))), ?_⟩
  · obtain ⟨h, b, p, B, rs, gs, es, rfl, _⟩ := h; rfl
  · obtain ⟨h, b, p, B, rs, gs, es, rfl, z, hb, hp, hes, h0, h1, hok, hrz, hQ⟩ := h
    refine w_ret (w_cb (w_consW (w_lcT (a := b) (xs := rs.map V.int) (ev_var rfl) (st_of (z.ex _ _ hb)) fun H1 Dl e1 hD => ?_)))
    have z1 := z.step e1
    have nB : B Dl = none := fresh_back z1.ex hD
    have Dh : Dl ≠ h := fun y => by
      obtain ⟨c, ns, a, b, t, g1, _⟩ := z1.hand
      rw [y, g1] at hD; cases hD
    refine ⟨TabPv B H h Dl rs, ⟨B, [], [], Ex.refl _, nB, z1.step (Ex.new hD), z.kp (e1.trans (Ex.new hD)), upd_same, .nil, by rw [List.take_zero]; rfl, fun r hr => by cases hr⟩, (fun i H' _ ⟨Bk, _, _, k1, _, zk, _⟩ => st_of (zk.ex _ _ (k1 _ _ hb))), (fun i x H' hx ⟨Bk, ps, rows, k1, k2, zk, dk, hDl, hps, hrow, hend⟩ => ?_), fun H' ⟨Bk, ps, rows, k1, k2, zk, dk, hDl, hps, hrow, hend⟩ => ?_⟩
    · rw [List.getElem?_map] at hx
      cases hr' : rs[i]? with
      | none => rw [hr'] at hx; cases hx
      | some r =>
      rw [hr'] at hx; cases hx
      refine ⟨rfl, (et_yes : EvT tYes _ H' true) H' (Ex.refl _) _ fun H2 e2 => ?_⟩
      rw [if_pos rfl]
      have hp2 : Paired (StAt Bk) gs es := Paired.mapP hes fun _ _ w => k1 _ _ w
      refine w_tup (w_cons (x := .int r) (ev_var rfl) fun H3 e3 => w_consW (w_draw (i := 0) (j := 2) (h := h) (r := p) (es := es) (gs := gs) rfl rfl (zk.step (e2.trans e3)) (k1 _ _ hp) hp2 h0 h1 fun x1 y1 H4 d4 z4 m1 g1 => w_consW (w_draw (i := 0) (j := 2) (h := h) (r := p) (es := es) (gs := gs) rfl rfl z4 (k1 _ _ hp) hp2 h0 h1 fun x2 y2 H5 d5 z5 m2 g2 => w_nil ⟨show 3 ≤ sizeLine by decide, fun q nq => ?_⟩)))
      have hD3 : H3 Dl = some (.lst (ps.map V.ref)) := e3 _ _ (e2 _ _ hDl)
      have hD4 : H4 Dl = some (.lst (ps.map V.ref)) := d4.ex _ _ (by rw [del_ne Dh]; exact hD3)
      have hD5 : H5 Dl = some (.lst (ps.map V.ref)) := d5.ex _ _ (by rw [del_ne Dh]; exact hD4)
      have hpl : ps.length = rows.length := hps.length
      have hrl : rows.length = (rs.take i).length := by rw [← hrow, List.length_map]
      have hil := (List.getElem?_eq_some_iff.mp hr').1
      rw [List.length_take] at hrl
      obtain ⟨Bk', b1, b2, b3, b4⟩ := hd_app (zs := ps.map V.ref ++ [.ref q]) z5 hD5 k2 Dh (Ex.new (o := .tup [.int r, .ref x1, .ref x2]) nq) nq upd_same
      refine ⟨ps.map V.ref, Ex.new nq _ _ hD5, sz_lt (by rw [List.length_map]; omega), Bk', ps ++ [q], rows ++ [(r, y1, y2)], k1.trans b1, b2, b3, Kp.mut ((dtr (dtr (dk.trans (zk.kp (e2.trans e3))) d4) d5).trans (z5.kp (Ex.new nq))) (fresh_back e1 hD) Dh, by rw [List.map_append]; exact upd_same, LG.paired_app (Paired.mapP hps fun _ _ w => w.ex b1) ⟨x1, x2, b4, b1 _ _ g1, b1 _ _ g2⟩, ?_, fun w hw => ?_⟩
      · rw [List.map_append, hrow, List.take_succ, hr']; rfl
      · rcases List.mem_append.mp hw with hw | hw
        · exact hend w hw
        · rw [List.mem_singleton.mp hw]; exact ⟨hok _ m1, hok _ m2⟩
    · rw [List.length_map, List.take_length] at hrow
      refine ⟨Dl, _, rfl, .inl ⟨sq_of hDl, fun l nl => ?_⟩⟩
      obtain ⟨y1, y2⟩ := zk.grow (Ex.new (o := .tup (ps.map V.ref)) nl)
      have lh : l ≠ h := fun y => by
        obtain ⟨c, ns, a, b, t, g1, _⟩ := zk.hand
        rw [y, g1] at nl; cases nl
      exact hQ _ _ _ (k1.trans y1) y2 (dk.trans (zk.kp (Ex.new nl))) ⟨l, rows, rfl, ⟨ps, by rw [del_ne lh]; exact upd_same, Paired.mapP hps fun _ _ w => w.ex y1⟩, hrow, hend⟩
end
end LO

set_option Elab.async false
set_option linter.all false
set_option maxRecDepth 100000
set_option maxHeartbeats 4000000
namespace LO
open PySem PySem.Spec PyProof.Rows L2 LG LW LC LM Evl
section
variable {K : PySem.W.Frag} {σ : L2.St} {B H : Hp} {h : Addr} {t u : TT} {te : TE} {m i : Int} {P : V → Hp → Prop} {Pb : Bool → Prop}
theorem eht_and {a : Bool} (h1 : EvT t σ B a) (h2 : a = true → EvHT u σ B h Pb) (h3 : a = false → Pb false) : EvHT (tAnd t u) σ B h Pb := fun B1 H1 e z Q q =>
  h1 H1 (e.trans z.ex) _ fun H2 e2 => by
    cases a with
    | true => exact h2 rfl B1 H2 e (z.step e2) Q fun b B3 H3 e3 z3 d3 p3 => q b B3 H3 e3 z3 (dtr (z.kp e2) d3) p3
    | false => exact q false B1 H2 (Ex.refl _) (z.step e2) (z.kp e2) (h3 rfl)
theorem eht_takeGt (he : EvH te σ B h (IkP m)) : EvHT (tTest (tOp (rI0 fun i j => .bl (decide (j < i))) te (tC (.int i)))) σ B h (fun _ => True) := fun B1 H1 e z Q q =>
  he B1 H1 e z _ fun v B2 H2 e2 z2 d2 ⟨k, hv, _, _⟩ => ⟨k, i, hv, rfl, _, rfl, q _ B2 H2 e2 z2 d2 trivial⟩
theorem eht_takeEq (he : EvH te σ B h (IkP m)) : EvHT (tTest (tOp rEq te (tC (.int i)))) σ B h (fun _ => True) := fun B1 H1 e z Q q =>
  he B1 H1 e z _ fun v B2 H2 e2 z2 d2 ⟨k, hv, _, _⟩ => by
    rw [hv]
    exact ⟨rfl, _, rfl, q _ B2 H2 e2 z2 d2 trivial⟩
theorem EvHT.imp {Pb' : Bool → Prop} (he : EvHT t σ B h Pb) (k : ∀ b, Pb b → Pb' b) : EvHT t σ B h Pb' := fun B1 H1 e z Q q => he B1 H1 e z Q fun b B2 H2 e2 z2 d2 p => q b B2 H2 e2 z2 d2 (k b p)
theorem s_asgH' {D : Ends} {i : Nat} (hd : Hd B h H) (he : EvH te σ B h P) (k : ∀ v B' H', Ex B B' → Hd B' h H' → Kp H h H' → P v B' → D.nx (σ.set i (some v)) H') : tAsg te (gName i) D σ H := he B H (Ex.refl B) hd _ fun v B' H' e z d p => k v B' H' e z d p
abbrev tMin2 (ta tb : TE) : TE := tCB (fun xs H Q => ∃ i j, xs = [V.int i, V.int j] ∧ Q (.int (if j < i then j else i)) H) (tCons ta (tCons tb tNil))
theorem ev_min2 {ta tb : TE} {i j : Int} (ha : Ev ta σ H (.int i)) (hb : Ev tb σ H (.int j)) : Ev (tMin2 ta tb) σ H (.int (if j < i then j else i)) := fun H1 e Q q =>
  ha H1 e _ fun H2 e2 => hb H2 (e.trans e2) _ fun H3 e3 => ⟨i, j, rfl, q H3 (e2.trans e3)⟩
end
/-- a frame's data -/
structure Fd where
  ns : List Int
  cl : Option Int
  ag : Option Int
def FdAt (H : Hp) (p : Addr) (f : Fd) : Prop := ∃ q, H p = some (.tup [.ref q, optV f.cl, optV f.ag]) ∧ H q = some (.tup (f.ns.map V.int))
theorem FdAt.ex {H H' : Hp} {p : Addr} {f : Fd} (e : Ex H H') (h : FdAt H p f) : FdAt H' p f := by
  obtain ⟨q, h1, h2⟩ := h
  exact ⟨q, e _ _ h1, e _ _ h2⟩
structure FdOk (n : Nat) (f : Fd) : Prop where
  fr : FrOk f.ns f.cl f.ag
  nb : ∀ x ∈ f.ns, x < n
  cb : ∀ c, f.cl = some c → c < n
end LO

set_option Elab.async false
set_option linter.all false
set_option maxRecDepth 100000
set_option maxHeartbeats 4000000
namespace LO
open PySem PySem.Spec PyProof.Rows L2 LG LW LC LM Evl
section
variable {P : Program} {w : World} {K : PySem.W.Frag} {mg : Str → Option Value} {base : Heap}

/-! ### _law_frames -/
def FrsP (n c : Nat) : V → Hp → Prop := fun v H => ∃ q ps fs, v = .ref q ∧ H q = some (.tup (ps.map V.ref)) ∧ Paired (FdAt H) ps fs ∧ fs.length = c ∧ (∀ f ∈ fs, FdOk n f) ∧ ∃ f ∈ fs, f.cl = none
def sp__law_frames : Sp := fun vs H Q _ => ∃ (h : Addr) (n c : Nat) (B : Hp), vs = [.ref h, .int (n : Int), .int (c : Int), .bl true] ∧ Hd B h H ∧ 1 ≤ n ∧ n ≤ 6 ∧ 1 ≤ c ∧ c ≤ 4 ∧ ∀ v B' H', Ex B B' → Hd B' h H' → FrsP n c v B' → Q v H'
def FrPv (B : Hp) (h g : Addr) (n c i : Nat) (σ' : L2.St) (H' : Hp) : Prop := ∃ (Bk : Hp) (gs : List Addr) (fs : List Fd) (v5 v6 v7 v8 v9 v10 : Option V), σ' = [some (.ref h), some (.int (n : Int)), some (.int (c : Int)), some (.bl true), some (.ref g), v5, v6, v7, v8, v9, v10, none] ∧ Ex B Bk ∧ Bk g = none ∧ Hd Bk h H' ∧ H' g = some (.lst (gs.map V.ref)) ∧ Paired (FdAt Bk) gs fs ∧ fs.length = i ∧ (∀ f ∈ fs, FdOk n f) ∧ ∀ f, fs[0]? = some f → f.cl = none
/-- behind the first if: the clause drawn -/
def FrM1 (Bk : Hp) (h g : Addr) (n c i : Nat) (H0 : Hp) (σ' : L2.St) (H' : Hp) : Prop := ∃ (cl : Option Int) (v7 v8 v9 v10 : Option V), σ' = [some (.ref h), some (.int (n : Int)), some (.int (c : Int)), some (.bl true), some (.ref g), some (.int (i : Int)), some (optV cl), v7, v8, v9, v10, none] ∧ Hd Bk h H' ∧ Kp H0 h H' ∧ ∀ k, cl = some k → 0 < i ∧ 1 < n ∧ 0 ≤ k ∧ k < n
/-- behind the second: the agreed role drawn -/
def FrM2 (Bk : Hp) (h g r p : Addr) (n c i : Nat) (cl : Option Int) (m : Int) (ms : List Int) (H0 : Hp) (σ' : L2.St) (H' : Hp) : Prop := ∃ (ag : Option Int), σ' = [some (.ref h), some (.int (n : Int)), some (.int (c : Int)), some (.bl true), some (.ref g), some (.int (i : Int)), some (optV cl), some (.ref r), some (.int m), some (.ref p), some (optV ag), none] ∧ Hd Bk h H' ∧ Kp H0 h H' ∧ ∀ a, ag = some a → a ∈ ms
/-- the roles but the clause role -/
def rsOf (n : Nat) (cl : Option Int) : List Int := (rng n).filter fun r => !decide (V.int r = optV cl)
theorem rs_given (n : Nat) (cl : Option Int) : given n (fun i => !decide (V.int (i : Int) = optV cl)) (fun i => .int (i : Int)) = (rsOf n cl).map V.int := by
  unfold given rsOf rng
  rw [List.filter_map, List.map_map]; rfl
theorem rng_nodup (n : Nat) : (rng n).Nodup := by
  unfold rng
  unfold List.Nodup
  rw [List.pairwise_map]
  exact List.Pairwise.imp (fun h z => h (Int.ofNat.inj z)) List.nodup_range
theorem rs_nodup (n : Nat) (cl : Option Int) : (rsOf n cl).Nodup := (rng_nodup n).filter _
theorem rs_mem {n : Nat} {cl : Option Int} {x : Int} : x ∈ rsOf n cl ↔ (0 ≤ x ∧ x < n) ∧ cl ≠ some x := by
  unfold rsOf
  rw [List.mem_filter, rng_mem]
  cases cl with
  | none => simp [optV]
  | some c =>
    simp [optV]
    intro _ _
    exact ⟨fun h z => h z.symm, fun h z => h z.symm⟩
theorem rs_len {n : Nat} {cl : Option Int} : (rsOf n cl).length ≤ n := by
  have := List.length_filter_le (fun r => !decide (V.int r = optV cl)) (rng n)
  rw [rng_len] at this; exact this
theorem rs_pos {n : Nat} {cl : Option Int} (n1 : 1 ≤ n) (h : ∀ k, cl = some k → 1 < n) : 1 ≤ (rsOf n cl).length := by
  have g : ∃ x, x ∈ rsOf n cl := by
    cases cl with
    | none => exact ⟨0, rs_mem.mpr ⟨⟨by omega, by omega⟩, fun z => by cases z⟩⟩
    | some c =>
      have := h c rfl
      by_cases hc : c = 0
      · exact ⟨1, rs_mem.mpr ⟨⟨by omega, by omega⟩, fun z => by cases z; omega⟩⟩
      · exact ⟨0, rs_mem.mpr ⟨⟨by omega, by omega⟩, fun z => by cases z; omega⟩⟩
  obtain ⟨x, hx⟩ := g
  exact List.length_pos_of_mem hx
theorem rise_of {ms : List Int} (h : ms.Pairwise (· ≤ ·)) (n : ms.Nodup) : Rise ms := by
  refine List.Pairwise.imp (fun (a : _ ∧ _) => ?_) (h.and n)
  obtain ⟨a1, a2⟩ := a
  omega
abbrev n__law_frames : List Str := ["_law_hand_here", "_law_many_here", "_law_count", "_law_clauses", "_law_found", "_law_k", "_law_clause", "_law_roles", "_law_most", "_law_nouns", "_law_agreed", "_law_role"]
theorem sc__law_frames : FnScope n__law_frames ["_law_hand_here", "_law_many_here", "_law_count", "_law_clauses"] (defScope s__law_frames) := ⟨rfl, rfl, rfl, by decide +kernel, rfl, by decide +kernel, by decide +kernel⟩
theorem fn__law_frames (M : Mods P K mg base) : Fn P w K mg base CX0 5 "_law_frames" ["_law_hand_here", "_law_many_here", "_law_count", "_law_clauses"] [] sp__law_frames := by
  have nd := sc__law_frames.nd
  have h__law_some := (fn__law_some (w := w) M).up (show 4 ≤ 4 by decide)
  have h__law_take := (fn__law_take (w := w) M).up (show 2 ≤ 4 by decide)
  refine Fn.mk0 M.F__law_frames M.g__law_frames sc__law_frames (fun vs H Q E h => ?_) (fun fd F => F.bindsN fun _ _ _ _ _ _ us hl => match us, hl with | [_, _, _, _], _ => rfl) fun cdv A outer s H vs Q E hr h => ⟨_,
    (pss_cons (ps_set (i := 4) nd rfl (.inl rfl) (pe_lst pa_nil)) (pss_cons (ps_for PassesOwn.never rfl (pi_range1 rfl M.z_range (pa_cons (pv 2) pa_nil)) (pg_name (i := 5) nd rfl (.inl rfl)) (pss_cons (ps_set (i := 6) nd rfl (.inr rfl) pe_non) (pss_cut (ps_if (PW.pt (pw_and (pt_val (pv 3)) (pw_and (pt_cmpR op_gt (pv 5) pe_int (nomark _)) (pw_and (pt_cmpR op_gt (pv 1) pe_int (nomark _)) (pw_and1 (pt_cmpR op_gt (pe_fn h__law_take hr pass0 (pa_cons (pv 0) (pa_cons pe_int pa_nil))) pe_int (nomark _))))))) (pss_one (ps_set (i := 6) nd rfl (.inr rfl) (pe_fn h__law_take hr pass0 (pa_cons (pv 0) (pa_cons (pv 1) pa_nil))))) pss_nil) (pss_cons (ps_setLc (i := 7) (own := [("_law_role", 11)]) rfl nd rfl rfl (sw_true rfl rfl rfl (by decide +kernel)) (pi_range1 rfl M.z_range (pa_cons (pv 1) pa_nil)) (blkOk_by (N := n__law_frames) (sc := (defScope s__law_frames)) (by decide +kernel)) (fun _ _ _ _ _ => (pg_name (i := 11) nd rfl (.inl rfl))) (fun _ _ _ _ _ => (pts_one (pt_cmpR op_ne (pv 11) (pv 6) (nomark _)))) (fun _ _ _ _ _ => (pv 11))) (pss_cons (ps_set (i := 8) nd rfl (.inl rfl) (pe_callB (call_min2 rfl) rfl M.z_min LW.boot_min (pa_cons pe_int (pa_cons (pe_callB call_len_seq rfl M.z_len LW.boot_len (pa_cons (pv 7) pa_nil)) pa_nil)))) (pss_cons (ps_set (i := 9) nd rfl (.inl rfl) (pe_fn h__law_some hr pass0 (pa_cons (pv 0) (pa_cons (pv 7) (pa_cons (pe_op op_sub (pv 8) (pe_fn h__law_take hr pass0 (pa_cons (pv 0) (pa_cons (pe_callB (call_min2 rfl) rfl M.z_min LW.boot_min (pa_cons pe_int (pa_cons (pv 8) pa_nil))) pa_nil)))) pa_nil))))) (pss_cons (ps_set (i := 10) nd rfl (.inl rfl) pe_non) (pss_cut (ps_if (pt_cmpR op_eq (pe_fn h__law_take hr pass0 (pa_cons (pv 0) (pa_cons pe_int pa_nil))) pe_int (nomark _)) (pss_one (ps_set (i := 10) nd rfl (.inl rfl) (pe_ix ix_tup (pv 9) (pe_fn h__law_take hr pass0 (pa_cons (pv 0) (pa_cons (pe_callB call_len_seq rfl M.z_len LW.boot_len (pa_cons (pv 9) pa_nil)) pa_nil))) (fun _ _ => rfl)))) pss_nil) (pss_one (ps_expr (pe_bm PySem.F.plainAttrs_list PySem.F.slot_list_append PySem.F.type_list_append mt_append (pv 4) (pa_cons (pe_tup (pa_cons (pv 9) (pa_cons (pv 6) (pa_cons (pv 10) pa_nil)))) pa_nil)))))))))))) (pss_one (ps_ret (pe_callTy call_tuple_of rfl M.z_tuple LW.boot_tuple (pa_cons (pv 4) pa_nil)))))), ?_⟩
  · obtain ⟨h, n, c, B, rfl, _⟩ := h; rfl
  · obtain ⟨h, n, c, B, rfl, z, n1, n6, c1, c4, hQ⟩ := h
    refine q_asgL (el_lst ea_nil (Nat.zero_le _)) fun g H1 ng e1 hg => ?_
    have z1 := z.step e1
    have nBg : B g = none := fresh_back z.ex ng
    have gh : g ≠ h := z.ne ng
    refine q_forR1 (n := (c : Int)) (ea_cons (ev_var rfl) ea_nil) ⟨by omega, by omega⟩ (FrPv B h g n c) (fun H2 e2 => ⟨B, [], [], none, none, none, none, none, none, rfl, Ex.refl _, nBg, z1.step e2, e2 _ _ hg, .nil, rfl, (fun f hf => by cases hf), fun f hf => by cases hf⟩) (fun i σ' H' hi h => ?_) (fun σ' H' h => ?_)
    · obtain ⟨Bk, gs, fs, v5, v6, v7, v8, v9, v10, rfl, k1, k2, zk, hg', hgs, hlen, hok, h0⟩ := h
      refine q_asg (v := .non) ev_c fun H2 e2 => ?_
      have zk2 := zk.step e2
      have hg2 := e2 _ _ hg'
      refine q_cut (M := FrM1 Bk h g n c i H2) ?_ fun σ' H3 hM => ?_
      · refine s_ifH (Pb := fun b => b = true → 0 < i ∧ 1 < n) zk2 (eht_and (a := true) (et_test (ev_var rfl)) (fun _ => eht_and (a := decide ((0 : Int) < (i : Int))) (et_op (ev_var rfl) ev_c rv_I0) (fun hi0 => eht_and (a := decide ((1 : Int) < (n : Int))) (et_op (ev_var rfl) ev_c rv_I0) (fun hn0 => EvHT.imp (Pb := fun _ => True) (eht_takeGt (m := 3) (eh_take (ea_cons (ev_var rfl) (ea_cons ev_c ea_nil)) (by decide) (by decide))) fun b _ _ => ?_) (fun _ z => by cases z)) (fun _ z => by cases z)) (fun _ z => by cases z)) (fun B3 H3 e3 z3 kp hb => ?_) (fun B3 H3 e3 z3 kp hb => ?_)
        · have a1 := of_decide_eq_true hi0
          have a2 := of_decide_eq_true hn0
          omega
        · refine s_asgH' z3 (eh_take (m := (n : Int)) (ea_cons (ev_var rfl) (ea_cons (ev_var rfl) ea_nil)) (by omega) (by omega)) fun v B4 H4 e4 z4 kp4 hv => ?_
          obtain ⟨k, rfl, kk0, kk1⟩ := hv
          have kp' := dtr kp kp4
          exact ⟨some k, v7, v8, v9, v10, rfl, hand_back zk2 kp' z4, kp', fun k' hk' => by cases hk'; exact ⟨(hb rfl).1, (hb rfl).2, kk0, kk1⟩⟩
        · exact ⟨none, v7, v8, v9, v10, rfl, hand_back zk2 kp z3, kp, fun k' hk' => by cases hk'⟩
      obtain ⟨cl, v7, v8, v9, v10, rfl, z3, kp3, hcl⟩ := hM
      have hg3 := kp3.at gh hg2
      have hscal : ∀ j : Int, scal (.int j) (optV cl) = true := fun j => by cases cl <;> rfl
      refine q_asgL (el_is (ys := (rsOf n cl).map V.int) (el_lcR1 (n := (n : Int)) (fun j => !decide (V.int (j : Int) = optV cl)) (fun j => .int (j : Int)) (ea_cons (ev_var rfl) ea_nil) ⟨by omega, by omega⟩ (fun _ => rfl) (fun j H4 e4 hj => et_op (ev_var rfl) (ev_var rfl) (rv_ne (hscal _))) fun j H4 e4 hj hf => ev_var rfl) (by rw [show ((n : Int)).toNat = n by omega]; exact rs_given n cl)) fun r H4 nr e4 hr' => ?_
      have hrs1 : 1 ≤ (rsOf n cl).length := rs_pos n1 fun k hk => (hcl k hk).2.1
      have hrs2 : (rsOf n cl).length ≤ n := rs_len
      refine q_asg (v := .int (if ((rsOf n cl).length : Int) < 5 then ((rsOf n cl).length : Int) else 5)) (ev_min2 ev_c (ev_is (ev_len (ev_var rfl) (sq_of hr')) (by rw [List.length_map]))) fun H5 e5 => ?_
      generalize hm : (if ((rsOf n cl).length : Int) < 5 then ((rsOf n cl).length : Int) else 5) = m
      have hm1 : 1 ≤ m ∧ m ≤ 5 ∧ m ≤ (rsOf n cl).length := by
        split at hm <;> omega
      have z5 := z3.step (e4.trans e5)
      have hg5 := e5 _ _ (e4 _ _ hg3)
      have hr5 := e5 _ _ hr'
      have rg : r ≠ g := fun y => by rw [y, hg3] at nr; cases nr
      have rh : r ≠ h := z3.ne nr
      obtain ⟨B5, b1, b2, z5', b3⟩ := hd_but z5 k2 gh
      have hrB := b3 r _ rg rh hr5
      refine wq_asg (w_call (w_cons (x := .ref h) (ev_var rfl) fun H6 e6 => w_cons (x := .ref r) (ev_var rfl) fun H7 e7 => w_consW (w_op (w_ev (x := .int m) (ev_var rfl) fun H8 e8 => w_call (w_cons (x := .ref h) (ev_var rfl) fun H9 e9 => w_cons (ev_min2 ev_c (ev_var rfl)) fun H10 e10 => w_nil ⟨h, _, B5, rfl, z5'.step ((((e6.trans e7).trans e8).trans e9).trans e10), by split <;> omega, by split <;> omega, fun k H11 kp11 z11 kk0 kk1 => ⟨m, k, rfl, rfl, w_nil ?_⟩⟩)))))
      have e5x : Ex H5 H10 := (((e6.trans e7).trans e8).trans e9).trans e10
      have kk2 : k < 2 ∧ k < m := by split at kk1 <;> omega
      refine ⟨h, r, (m - k).toNat, B5, rsOf n cl, by rw [show ((m - k).toNat : Int) = m - k by omega]; rfl, z11, hrB, by omega, by omega, fun v B6 H12 e12 z12 kp12 hv => ?_⟩
      obtain ⟨p, ms, rfl, hp6, ml, mr, min, mnd⟩ := hv
      have kp5 : Kp H5 h H12 := dtr (dtr (z5.kp e5x) kp11) kp12
      have hg12 := kp5.at gh hg5
      have z12' : Hd B5 h H12 := hand_back z5' kp5 z12
      have hp12 := z12.ex _ _ hp6
      have pg : p ≠ g := fun y => by rw [y, hg12] at hp12; cases hp12
      obtain ⟨B7, c1', c2', z7, c3⟩ := hd_but z12' b2 gh
      have hp7 := c3 p _ pg (z12.neT hp12) hp12
      refine q_asg (v := .non) ev_c fun H13 e13 => ?_
      have z13 := z7.step e13
      have hg13 := e13 _ _ hg12
      refine q_cut (M := FrM2 B7 h g r p n c i cl m ms H13) ?_ fun σ' H14 hM => ?_
      · refine s_ifH (Pb := fun _ => True) z13 (eht_takeEq (m := 3) (eh_take (ea_cons (ev_var rfl) (ea_cons ev_c ea_nil)) (by decide) (by decide))) (fun B8 H14 e14 z14 kp14 _ => ?_) (fun B8 H14 e14 z14 kp14 _ => ?_)
        · refine w_asg (w_op (w_ev (x := .ref p) (ev_var rfl) fun H15 e15 => w_call (w_cons (x := .ref h) (ev_var rfl) fun H16 e16 => w_cons (x := .int (ms.length : Int)) (ev_is (ev_lenT (ev_var rfl) (st_of (e16 _ _ (e15 _ _ (z14.ex _ _ (e14 _ _ hp7)))))) (by rw [List.length_map])) fun H17 e17 => w_nil ⟨h, _, B8, rfl, z14.step ((e15.trans e16).trans e17), by omega, by omega, fun q H18 kp18 z18 q0 q1 => ?_⟩)))
          have hx : ms[q.toNat]? = some (ms[q.toNat]'(by omega)) := List.getElem?_eq_getElem (by omega)
          generalize (ms[q.toNat]'(by omega)) = y at hx
          refine ⟨p, _, q, .int y, rfl, rfl, st_of (z18.ex _ _ (e14 _ _ hp7)), by
            rw [show q = ((q.toNat : Nat) : Int) by omega]
            exact atI_nat (by rw [List.getElem?_map, hx]; rfl), ?_⟩
          have kp' : Kp H13 h H18 := dtr (dtr kp14 (z14.kp ((e15.trans e16).trans e17))) kp18
          exact ⟨some y, rfl, hand_back z13 kp' z18, kp', fun a ha => by cases ha; exact List.mem_of_getElem? hx⟩
        · exact ⟨none, rfl, hand_back z13 kp14 z14, kp14, fun a ha => by cases ha⟩
      obtain ⟨ag, rfl, z14, kp14, hag⟩ := hM
      have hg14 := kp14.at gh hg13
      have hgl : gs.length = fs.length := hgs.length
      refine s_appU (xs := gs.map V.ref) (ys := [.ref p, optV cl, optV ag]) hg14 (ev_var rfl) (eu_tup (ea_cons (ev_var rfl) (ea_cons (ev_var rfl) (ea_cons (ev_var rfl) ea_nil))) (show 3 ≤ 100000 by decide)) (by rw [List.length_map]; omega) fun t H15 nt e15 ht => ?_
      obtain ⟨Bz, y1, y2, y3, y4⟩ := hd_app (zs := gs.map V.ref ++ [.ref t]) z14 hg14 c2' gh e15 nt ht
      have eall : Ex Bk Bz := (b1.trans c1').trans y1
      have mnd' := mnd (rs_nodup n cl)
      have hfd : FdOk n ⟨ms, cl, ag⟩ := by
        refine ⟨⟨⟨?_, ?_, rise_of mr mnd', fun x hx => ?_⟩, fun x hx => ?_, fun x hx hm' => ?_, hag⟩, fun x hx => ?_, fun x hx => ?_⟩
        · show 1 ≤ ms.length; omega
        · show ms.length ≤ 5; omega
        · have := (rs_mem.mp (min x hx)).1; omega
        · have := (hcl x hx).2; omega
        · exact (rs_mem.mp (min x hm')).2 hx
        · exact (rs_mem.mp (min x hx)).1.2
        · exact (hcl x hx).2.2.2
      refine ⟨Bz, gs ++ [t], fs ++ [⟨ms, cl, ag⟩], _, _, _, _, _, _, rfl, k1.trans eall, y2, y3, by rw [List.map_append]; exact upd_same, LG.paired_app (Paired.mapP hgs fun _ _ w => FdAt.ex eall w) ⟨p, y4, y1 _ _ hp7⟩, by rw [List.length_append, hlen]; rfl, fun f hf => ?_, fun f hf => ?_⟩
      · rcases List.mem_append.mp hf with hf | hf
        · exact hok f hf
        · rw [List.mem_singleton.mp hf]; exact hfd
      · cases hfs : fs with
        | nil =>
          rw [hfs] at hf
          cases hf
          cases hc : cl with
          | none => rfl
          | some k =>
            have := (hcl k hc).1
            rw [hfs] at hlen
            rw [← hlen] at this
            cases this
        | cons f0 fs' =>
          rw [hfs] at hf h0
          exact h0 f hf
    · obtain ⟨Bk, gs, fs, v5, v6, v7, v8, v9, v10, rfl, k1, k2, zk, hg', hgs, hlen, hok, h0⟩ := h
      rw [show ((c : Int)).toNat = c by omega] at hlen
      refine s_retU (eu_tupL (ev_var rfl) (sq_of hg')) fun p H3 np e3 hp => ?_
      obtain ⟨y1, y2⟩ := zk.grow e3
      have ph : p ≠ h := zk.ne np
      refine hQ _ _ H3 (k1.trans y1) y2 ⟨p, gs, fs, rfl, by rw [del_ne ph]; exact hp, Paired.mapP hgs fun _ _ w => FdAt.ex y1 w, hlen, hok, ?_⟩
      cases hfs : fs with
      | nil => rw [hfs] at hlen; rw [← hlen] at c1; cases c1
      | cons f0 fs' => exact ⟨f0, List.mem_cons_self, h0 f0 (by rw [hfs]; rfl)⟩
end
end LO

set_option Elab.async false
set_option linter.all false
set_option maxRecDepth 100000
set_option maxHeartbeats 1000000
namespace LO
open L2 LG LW LC LM Evl
/-! the orders of some roles: the law's way and the program's -/
theorem without_mem {left : List Int} {r x : Int} : x ∈ without left r ↔ x ∈ left ∧ x ≠ r := by
  unfold without
  rw [List.mem_filter]
  simp
theorem cons_without : ∀ {left : List Int} {r : Int}, left.Nodup → r ∈ left → (r :: without left r).Perm left
  | [], r, _, h => by cases h
  | x :: l, r, hn, hr => by
    obtain ⟨h1, h2⟩ := List.nodup_cons.mp hn
    unfold without
    rw [List.filter_cons]
    by_cases hx : x = r
    · subst hx
      rw [if_neg (by simp)]
      have : l.filter (fun o => !decide (o = x)) = l := List.filter_eq_self.mpr fun o ho => by
        have : o ≠ x := fun z => h1 (z ▸ ho)
        simp [this]
      rw [this]
    · rw [if_pos (by simp [hx])]
      have hr' : r ∈ l := by
        rcases List.mem_cons.mp hr with h | h
        · exact absurd h.symm hx
        · exact h
      have := cons_without h2 hr'
      unfold without at this
      exact (List.Perm.swap x r _).trans (this.cons x)
theorem without_len {left : List Int} {r : Int} (h : left.Nodup) (hr : r ∈ left) : (without left r).length + 1 = left.length := by
  have := (cons_without h hr).length_eq
  rw [List.length_cons] at this; exact this
theorem without_nodup {left : List Int} {r : Int} (h : left.Nodup) : (without left r).Nodup := h.filter _
/-- from a row on, k steps -/
def bfs (sl : List Int) (L : List Pr) : Nat → List Int → List (List Int)
  | 0, row => [row]
  | k + 1, row => (stepB sl L row).flatMap (bfs sl L k)
theorem rowsB_bfs (sl : List Int) (L : List Pr) : ∀ k t, (rowsB sl L t).flatMap (bfs sl L k) = rowsB sl L (t + k)
  | 0, t => by
    show (rowsB sl L t).flatMap (fun row => [row]) = _
    induction rowsB sl L t with
    | nil => rfl
    | cons a l ih => rw [List.flatMap_cons, ih]; rfl
  | k + 1, t => by
    have h := rowsB_bfs sl L k (t + 1)
    rw [show t + (k + 1) = t + 1 + k by omega, ← h]
    show (rowsB sl L t).flatMap (fun row => (stepB sl L row).flatMap (bfs sl L k)) = ((rowsB sl L t).flatMap (stepB sl L)).flatMap (bfs sl L k)
    rw [List.flatMap_assoc]
def rest (sl row : List Int) : List Int := sl.filter fun o => !decide (o ∈ row)
theorem rest_app (sl row : List Int) (r : Int) : rest sl (row ++ [r]) = without (rest sl row) r := by
  unfold rest without
  rw [List.filter_filter]
  refine List.filter_congr fun o _ => ?_
  by_cases h1 : o ∈ row <;> by_cases h2 : o = r <;> simp [h1, h2]
theorem flat_if {α β : Type} {p : α → Bool} {g : α → List β} : ∀ l : List α, (l.flatMap fun r => if p r then g r else []) = (l.filter p).flatMap g
  | [] => rfl
  | x :: l => by
    rw [List.flatMap_cons, flat_if l, List.filter_cons]
    cases p x with
    | true => rw [if_pos rfl, if_pos rfl, List.flatMap_cons]
    | false => rw [if_neg (by decide), if_neg (by decide), List.nil_append]
theorem flat_congr {α β : Type} {f g : α → List β} : ∀ l : List α, (∀ x ∈ l, f x = g x) → l.flatMap f = l.flatMap g
  | [], _ => rfl
  | x :: l, h => by rw [List.flatMap_cons, List.flatMap_cons, h x List.mem_cons_self, flat_congr l fun y hy => h y (List.mem_cons_of_mem _ hy)]
theorem first_iff {left : List Int} {C : List Pr} {r : Int} : isFirst left C r = true ↔ ∀ o ∈ left, (o, r) ∉ C := by
  unfold isFirst
  rw [Bool.not_eq_true', List.any_eq_false]
  constructor
  · exact fun h o ho hc => h o ho (List.contains_iff_mem.mpr hc)
  · exact fun h o ho hc => h o ho (List.contains_iff_mem.mp hc)
theorem ok_first {sl row : List Int} {L C : List Pr} {r : Int} (hr : r ∈ sl) (hC : ∀ a b, a ∈ sl → b ∈ sl → ((a, b) ∈ C ↔ (a, b) ∈ L)) : okB sl L row r = (isFirst (rest sl row) C r && !decide (r ∈ row)) := by
  unfold okB
  rw [Bool.and_comm]
  congr 1
  rw [Bool.eq_iff_iff, decide_eq_true_iff, first_iff, List.filter_eq_nil_iff]
  constructor
  · intro h o ho hc
    obtain ⟨h1, h2⟩ := List.mem_filter.mp ho
    refine h o h1 ?_
    rw [decide_eq_true ((hC o r h1 hr).mp hc), h2]; rfl
  · intro h o ho hc
    rw [Bool.and_eq_true, decide_eq_true_iff] at hc
    exact h o (List.mem_filter.mpr ⟨ho, hc.2⟩) ((hC o r ho hr).mpr hc.1)
theorem step_first {sl row : List Int} {L C : List Pr} (hC : ∀ a b, a ∈ sl → b ∈ sl → ((a, b) ∈ C ↔ (a, b) ∈ L)) : sl.filter (okB sl L row) = (rest sl row).filter (isFirst (rest sl row) C) := by
  have h : sl.filter (okB sl L row) = sl.filter (fun r => isFirst (rest sl row) C r && !decide (r ∈ row)) := List.filter_congr fun r hr => ok_first hr hC
  rw [h, ← List.filter_filter]; rfl
theorem bfs_rows {sl : List Int} {L C : List Pr} (hn : sl.Nodup) (hC : ∀ a b, a ∈ sl → b ∈ sl → ((a, b) ∈ C ↔ (a, b) ∈ L)) : ∀ k row, (rest sl row).length = k → bfs sl L k row = (rows (rest sl row) C).map (row ++ ·)
  | 0, row, h => by
    rw [List.length_eq_zero_iff.mp h]
    show [row] = [row ++ []]
    rw [List.append_nil]
  | k + 1, row, h => by
    have hne : rest sl row ≠ [] := fun z => by rw [z] at h; cases h
    rw [rows_step hne, flat_if, List.map_flatMap]
    show (stepB sl L row).flatMap (bfs sl L k) = _
    unfold stepB
    rw [step_first hC, List.flatMap_map]
    refine flat_congr _ fun r hr => ?_
    have hr' := (List.mem_filter.mp hr).1
    have hl : (without (rest sl row) r).length + 1 = (rest sl row).length := without_len (hn.filter _ : (rest sl row).Nodup) hr'
    rw [bfs_rows hn hC k (row ++ [r]) (by rw [rest_app]; omega), rest_app, List.map_map]
    refine List.map_congr_left fun x _ => ?_
    show row ++ [r] ++ x = row ++ (r :: x)
    rw [List.append_assoc]; rfl
/-- the law's rows are the program's -/
theorem rowsB_eq {sl : List Int} {L C : List Pr} (hn : sl.Nodup) (hC : ∀ a b, a ∈ sl → b ∈ sl → ((a, b) ∈ C ↔ (a, b) ∈ L)) : rowsB sl L sl.length = rows sl C := by
  have h := rowsB_bfs sl L sl.length 0
  rw [Nat.zero_add] at h
  rw [← h]
  show [[]].flatMap (bfs sl L sl.length) = _
  rw [List.flatMap_cons, List.flatMap_nil, List.append_nil]
  have hr : rest sl [] = sl := List.filter_eq_self.mpr fun o _ => by simp
  rw [bfs_rows hn hC sl.length [] (by rw [hr]), hr]
  exact List.map_id' _
/-! places -/
theorem flat_at {α β : Type} {f : α → List β} : ∀ (l : List α) (k : Nat) (x : β), (l.flatMap f)[k]? = some x → ∃ a r b j, l = a ++ r :: b ∧ (f r)[j]? = some x ∧ k = (a.map fun o => (f o).length).sum + j
  | [], k, x, h => by simp at h
  | r :: l, k, x, h => by
    rw [List.flatMap_cons] at h
    by_cases hk : k < (f r).length
    · rw [List.getElem?_append_left hk] at h
      exact ⟨[], r, l, k, rfl, h, by simp⟩
    · rw [List.getElem?_append_right (by omega)] at h
      obtain ⟨a, r', b, j, rfl, hj, he⟩ := flat_at l _ x h
      exact ⟨r :: a, r', b, j, rfl, hj, by rw [List.map_cons, List.sum_cons]; omega⟩
theorem sum_cast {α : Type} {g : α → Int} {h : α → Nat} : ∀ l : List α, (∀ o ∈ l, g o = (h o : Int)) → (l.map g).sum = ((l.map h).sum : Nat)
  | [], _ => rfl
  | x :: l, hh => by
    rw [List.map_cons, List.map_cons, List.sum_cons, List.sum_cons, sum_cast l fun o ho => hh o (List.mem_cons_of_mem _ ho), hh x List.mem_cons_self]
    omega
theorem sum_zero {α : Type} {g : α → Int} : ∀ l : List α, (∀ o ∈ l, g o = 0) → (l.map g).sum = 0
  | [], _ => rfl
  | x :: l, hh => by rw [List.map_cons, List.sum_cons, sum_zero l fun o ho => hh o (List.mem_cons_of_mem _ ho), hh x List.mem_cons_self]; rfl
theorem rows_nil (C : List Pr) : rows [] C = [[]] := rfl
theorem rise_nodup {l : List Int} (h : l.Pairwise (· < ·)) : l.Nodup := List.Pairwise.imp (fun a => by omega) h
/-- what stands at a row of the list -/
theorem row_split {left : List Int} {C : List Pr} {r : Int} {row : List Int} {j : Nat} (h : (if isFirst left C r then (rows (without left r) C).map (r :: ·) else [])[j]? = some row) : isFirst left C r = true ∧ ∃ row', row = r :: row' ∧ (rows (without left r) C)[j]? = some row' := by
  cases hf : isFirst left C r with
  | false => rw [hf, if_neg (by decide)] at h; cases h
  | true =>
    rw [hf, if_pos rfl, List.getElem?_map] at h
    cases hg : (rows (without left r) C)[j]? with
    | none => rw [hg] at h; cases h
    | some row' => rw [hg] at h; cases h; exact ⟨rfl, row', rfl, rfl⟩
theorem place_at (C : List Pr) : ∀ (n : Nat) (left : List Int), left.length = n → left.Pairwise (· < ·) → ∀ (k : Nat) (row : List Int), (rows left C)[k]? = some row → placeI C row left = (k : Int)
  | 0, left, hl, _, k, row, h => by
    rw [List.length_eq_zero_iff.mp hl, rows_nil] at h
    cases k with
    | zero => cases h; rfl
    | succ k => cases h
  | n + 1, left, hl, hp, k, row, h => by
    have hne : left ≠ [] := fun z => by rw [z] at hl; cases hl
    have hn := rise_nodup hp
    rw [rows_step hne] at h
    obtain ⟨a, r, b, j, hab, hj, hk⟩ := flat_at _ _ _ h
    obtain ⟨hf, row', rfl, hj'⟩ := row_split hj
    have hr : r ∈ left := by rw [hab]; exact List.mem_append_right _ List.mem_cons_self
    have hw := without_len hn hr
    have ih := place_at C n (without left r) (by omega) (hp.filter _) j row' hj'
    show (left.map (ptO left C r)).sum + placeI C row' (without left r) = _
    rw [ih, hk]
    have hp' := hp
    rw [hab] at hp'
    obtain ⟨_, p2, p3⟩ := List.pairwise_append.mp hp'
    have p4 := (List.pairwise_cons.mp p2).1
    have s1 : (a.map (ptO left C r)).sum = (((a.map fun o => (if isFirst left C o then (rows (without left o) C).map (o :: ·) else []).length).sum : Nat) : Int) := sum_cast a fun o ho => by
      have : o < r := p3 o ho r List.mem_cons_self
      unfold ptO cnt
      cases hfo : isFirst left C o with
      | true => rw [decide_eq_true this, Bool.and_true, if_pos rfl, if_pos rfl, List.length_map]
      | false => rw [Bool.and_false, if_neg (by decide), if_neg (by decide)]; rfl
    have s2 : ptO left C r r = 0 := by
      unfold ptO
      rw [decide_eq_false (Int.lt_irrefl r), Bool.false_and, if_neg (by decide)]
    have s3 : (b.map (ptO left C r)).sum = 0 := sum_zero b fun o ho => by
      have : ¬ o < r := by have := p4 o ho; omega
      unfold ptO
      rw [decide_eq_false this, Bool.false_and, if_neg (by decide)]
    have s4 : (left.map (ptO left C r)).sum = (a.map (ptO left C r)).sum := by
      have : left.map (ptO left C r) = a.map (ptO left C r) ++ ptO left C r r :: b.map (ptO left C r) := by
        have h9 := congrArg (List.map (ptO left C r)) hab
        rw [List.map_append, List.map_cons] at h9; exact h9
      rw [this, List.sum_append, List.sum_cons, s2, s3]; omega
    rw [s4, s1]; omega
/-! which rows -/
theorem idx_self {c : Int} {l : List Int} : idx c (c :: l) = 0 := by unfold idx; rw [if_pos rfl]
theorem idx_ne {c x : Int} {l : List Int} (h : x ≠ c) : idx c (x :: l) = idx c l + 1 := by
  show (if x = c then 0 else idx c l + 1) = _
  rw [if_neg h]
theorem rows_in (C : List Pr) : ∀ (n : Nat) (left : List Int), left.length = n → left.Nodup → ∀ row ∈ rows left C, row.Perm left ∧ ∀ c ∈ C, c.1 ∈ left → c.2 ∈ left → idx c.1 row ≤ idx c.2 row
  | 0, left, hl, _, row, h => by
    have := List.length_eq_zero_iff.mp hl
    subst this
    rw [rows_nil] at h
    rw [List.mem_singleton.mp h]
    exact ⟨.refl _, fun c _ h => by cases h⟩
  | n + 1, left, hl, hn, row, h => by
    have hne : left ≠ [] := fun z => by rw [z] at hl; cases hl
    rw [rows_step hne] at h
    obtain ⟨r, hr, h⟩ := List.mem_flatMap.mp h
    obtain ⟨j, hj⟩ := List.getElem?_of_mem h
    obtain ⟨hf, row', rfl, hj'⟩ := row_split hj
    have hw := without_len hn hr
    obtain ⟨i1, i2⟩ := rows_in C n (without left r) (by omega) (without_nodup hn) row' (List.mem_of_getElem? hj')
    refine ⟨(i1.cons r).trans (cons_without hn hr), fun c hc h1 h2 => ?_⟩
    by_cases e1 : r = c.1
    · rw [← e1, idx_self]; exact Nat.zero_le _
    · by_cases e2 : r = c.2
      · exact absurd (show (c.1, r) ∈ C by rw [e2]; exact hc) (first_iff.mp hf c.1 h1)
      · rw [idx_ne e1, idx_ne e2]
        exact Nat.succ_le_succ (i2 c hc (without_mem.mpr ⟨h1, fun z => e1 z.symm⟩) (without_mem.mpr ⟨h2, fun z => e2 z.symm⟩))
theorem in_rows {C : List Pr} (hi : ∀ x, (x, x) ∉ C) : ∀ (n : Nat) (left : List Int), left.length = n → left.Nodup → ∀ row : List Int, row.Perm left → (∀ c ∈ C, c.1 ∈ left → c.2 ∈ left → idx c.1 row ≤ idx c.2 row) → row ∈ rows left C
  | 0, left, hl, _, row, hp, _ => by
    have := List.length_eq_zero_iff.mp hl
    subst this
    rw [List.perm_nil.mp hp, rows_nil]
    exact List.mem_singleton.mpr rfl
  | n + 1, left, hl, hn, [], hp, _ => by
    have := hp.length_eq
    rw [hl] at this; cases this
  | n + 1, left, hl, hn, r :: row, hp, hk => by
    have hne : left ≠ [] := fun z => by rw [z] at hl; cases hl
    have hr : r ∈ left := hp.mem_iff.mp List.mem_cons_self
    have hw := without_len hn hr
    have hp' : row.Perm (without left r) := (List.perm_cons r).mp (hp.trans (cons_without hn hr).symm)
    have hnr : (r :: row).Nodup := hp.nodup_iff.mpr hn
    have hf : isFirst left C r = true := first_iff.mpr fun o ho hc => by
      have h1 := hk (o, r) hc ho hr
      have h2 : idx r (r :: row) = 0 := idx_self
      have h1 : idx o (r :: row) ≤ idx r (r :: row) := h1
      rw [h2] at h1
      by_cases e : r = o
      · exact hi r (by rw [← e] at hc; exact hc)
      · rw [idx_ne e] at h1; omega
    rw [rows_step hne]
    refine List.mem_flatMap.mpr ⟨r, hr, ?_⟩
    rw [hf, if_pos rfl]
    refine List.mem_map.mpr ⟨row, in_rows hi n (without left r) (by omega) (without_nodup hn) row hp' fun c hc h1 h2 => ?_, rfl⟩
    obtain ⟨g1, g2⟩ := without_mem.mp h1
    obtain ⟨g3, g4⟩ := without_mem.mp h2
    have := hk c hc g1 g3
    rw [idx_ne (fun z => g2 z.symm), idx_ne (fun z => g4 z.symm)] at this
    omega
theorem perm_of_sub : ∀ {left row : List Int}, left.Nodup → (∀ r ∈ left, r ∈ row) → row.length = left.length → row.Perm left
  | [], row, _, _, h => by rw [List.length_eq_zero_iff.mp h]
  | x :: l, row, hn, hs, h => by
    obtain ⟨h1, h2⟩ := List.nodup_cons.mp hn
    have hx := hs x List.mem_cons_self
    refine (List.perm_cons_erase hx).trans ((perm_of_sub h2 (fun r hr => ?_) ?_).cons x)
    · exact (List.mem_erase_of_ne (fun z => h1 (by rw [← z]; exact hr))).mpr (hs r (List.mem_cons_of_mem _ hr))
    · rw [List.length_erase_of_mem hx, h, List.length_cons]; rfl
theorem min_of {C : List Pr} (hi : ∀ x, (x, x) ∉ C) (ht : ∀ a b c, (a, b) ∈ C → (b, c) ∈ C → (a, c) ∈ C) : ∀ l : List Int, l ≠ [] → ∃ r ∈ l, ∀ o ∈ l, (o, r) ∉ C
  | [], h => absurd rfl h
  | [x], _ => ⟨x, List.mem_cons_self, fun o ho => by rw [List.mem_singleton.mp ho]; exact hi x⟩
  | x :: y :: l, _ => by
    obtain ⟨r, hr, hm⟩ := min_of hi ht (y :: l) (by simp)
    by_cases hx : (x, r) ∈ C
    · refine ⟨x, List.mem_cons_self, fun o ho hc => ?_⟩
      rcases List.mem_cons.mp ho with rfl | ho
      · exact hi _ hc
      · exact hm o ho (ht _ _ _ hc hx)
    · refine ⟨r, List.mem_cons_of_mem _ hr, fun o ho => ?_⟩
      rcases List.mem_cons.mp ho with rfl | ho
      · exact hx
      · exact hm o ho
theorem rows_ne {C : List Pr} (hi : ∀ x, (x, x) ∉ C) (ht : ∀ a b c, (a, b) ∈ C → (b, c) ∈ C → (a, c) ∈ C) : ∀ (n : Nat) (left : List Int), left.length = n → left.Nodup → rows left C ≠ []
  | 0, left, hl, _ => by rw [List.length_eq_zero_iff.mp hl, rows_nil]; exact fun z => by cases z
  | n + 1, left, hl, hn => by
    have hne : left ≠ [] := fun z => by rw [z] at hl; cases hl
    obtain ⟨r, hr, hm⟩ := min_of hi ht left hne
    have hw := without_len hn hr
    have ih := rows_ne hi ht n (without left r) (by omega) (without_nodup hn)
    cases hrw : rows (without left r) C with
    | nil => exact absurd hrw ih
    | cons x l =>
      intro z
      have : (r :: x) ∈ rows left C := by
        rw [rows_step hne]
        refine List.mem_flatMap.mpr ⟨r, hr, ?_⟩
        rw [first_iff.mpr hm, if_pos rfl, hrw]
        exact List.mem_cons_self
      rw [z] at this; cases this
def fac : Nat → Nat
  | 0 => 1
  | n + 1 => (n + 1) * fac n
theorem flat_le {α β : Type} {f : α → List β} {k : Nat} : ∀ l : List α, (∀ x ∈ l, (f x).length ≤ k) → (l.flatMap f).length ≤ l.length * k
  | [], _ => by simp
  | x :: l, h => by
    rw [List.flatMap_cons, List.length_append, List.length_cons, Nat.succ_mul]
    have h1 := h x List.mem_cons_self
    have h2 := flat_le l fun y hy => h y (List.mem_cons_of_mem _ hy)
    omega
theorem rows_le (C : List Pr) : ∀ (n : Nat) (left : List Int), left.length = n → left.Nodup → (rows left C).length ≤ fac n
  | 0, left, hl, _ => by rw [List.length_eq_zero_iff.mp hl, rows_nil]; exact Nat.le_refl _
  | n + 1, left, hl, hn => by
    have hne : left ≠ [] := fun z => by rw [z] at hl; cases hl
    rw [rows_step hne]
    show _ ≤ (n + 1) * fac n
    rw [← hl]
    refine flat_le left fun r hr => ?_
    have hw := without_len hn hr
    have ih := rows_le C n (without left r) (by omega) (without_nodup hn)
    split
    · rw [List.length_map]; exact ih
    · exact Nat.zero_le _
theorem fac_le : ∀ n : Nat, n ≤ 6 → fac n ≤ 720
  | 0, _ | 1, _ | 2, _ | 3, _ | 4, _ | 5, _ | 6, _ => by decide
  | n + 7, h => by omega
end LO

set_option Elab.async false
set_option linter.all false
set_option maxRecDepth 100000
set_option maxHeartbeats 4000000
namespace LO
open PySem PySem.Spec PyProof.Rows L2 LG LW LC LM Evl
section
variable {K : PySem.W.Frag} {σ : L2.St} {B H : Hp} {h : Addr} {tm te ta tb : TE} {m c : Int} {E : XK} {Q : VK} {i j : Nat} {D : Ends} {tu tz : TS}
/-- take(hand, m) -/
theorem w_take (hh : σ[i]? = some (some (.ref h))) (z : Hd B h H) (hm : Ev tm σ H (.int m)) (h0 : 0 < m) (h1 : m < 2 ^ 31) (k : ∀ (k : Int) H1, Kp H h H1 → Hd B h H1 → 0 ≤ k → k < m → Q (.int k) H1) : tCall sp__law_take [] E (tCons (tVar i) (tCons tm tNil)) σ H Q :=
  w_call (w_cons (x := .ref h) (ev_var hh) fun H1 e1 => w_cons (x := .int m) (hm.mono e1) fun H2 e2 => w_nil ⟨h, m, B, rfl, z.step (e1.trans e2), h0, h1, fun k' H3 kp z3 a b => k k' H3 (dtr (z.kp (e1.trans e2)) kp) z3 a b⟩)
/-- c + take(hand, m) -/
theorem w_addTake (hh : σ[i]? = some (some (.ref h))) (z : Hd B h H) (hm : Ev tm σ H (.int m)) (h0 : 0 < m) (h1 : m < 2 ^ 31) (k : ∀ (k : Int) H1, Kp H h H1 → Hd B h H1 → 0 ≤ k → k < m → Q (.int (c + k)) H1) :
    tOp (rI0 fun i j => .int (i + j)) (tC (.int c)) (tCall sp__law_take [] E (tCons (tVar i) (tCons tm tNil))) σ H Q :=
  w_op (w_ev (x := .int c) ev_c fun H1 e1 => w_take hh (z.step e1) (hm.mono e1) h0 h1 fun k' H2 kp z2 a b => ⟨c, k', rfl, rfl, k k' H2 (dtr (z.kp e1) kp) z2 a b⟩)
/-- xs[take(hand, m)], xs a written tuple -/
theorem w_pick {xs : List V} {ta : TA} (hh : σ[i]? = some (some (.ref h))) (z : Hd B h H) (ha : EvA ta σ H xs) (hz : xs.length ≤ 1000) (h0 : 0 < xs.length) (hm : m = (xs.length : Int)) (k : ∀ x H1, x ∈ xs → Kp H h H1 → Hd B h H1 → Q x H1) :
    tOp (rIxT K) (tTup ta) (tCall sp__law_take [] E (tCons (tVar i) (tCons (tC (.int m)) tNil))) σ H Q :=
  w_op (w_evU (eu_tup ha (by omega)) fun p H1 np e1 hp => by
    obtain ⟨y1, y2⟩ := z.grow e1
    have ph : p ≠ h := z.ne np
    refine w_take (B := del H1 h) hh y2 ev_c (by omega) (by omega) fun n H2 kp z2 a b => ?_
    have hn : n.toNat < xs.length := by omega
    have hx : xs[n.toNat]? = some (xs[n.toNat]'hn) := List.getElem?_eq_getElem hn
    generalize xs[n.toNat]'hn = x at hx
    refine ⟨p, xs, n, x, rfl, rfl, st_of (z2.ex _ _ (by rw [del_ne ph]; exact hp)), by
      rw [show n = ((n.toNat : Nat) : Int) by omega]; exact atI_nat hx, k x H2 (List.mem_of_getElem? hx) (dtr (z.kp e1) kp) ?_⟩
    exact hand_back (z.step e1) kp z2)
theorem s_forIt {n : Nat} (Pv : Nat → L2.St → Hp → Prop) (h0 : Pv 0 σ H) (hs : ∀ i σ' H', i < n → Pv i σ' H' → tu { D with nx := Pv (i + 1), ct := Pv (i + 1), bk := D.nx } (σ'.set j (some (.int (i : Int)))) H') (hd : ∀ σ' H', Pv n σ' H' → D.nx σ' H') :
    tFor (fun _ H R => R (Itr 0 n) H) (gName j) tu D σ H :=
  for_range (lo := 0) (n := n) Pv h0 (fun i σ' H' hi p => by
    have e0 : (0 : Int) + (i : Int) = (i : Int) := Int.zero_add _
    show tu { D with nx := Pv (i + 1), ct := Pv (i + 1), bk := D.nx } (σ'.set j (some (.int ((0 : Int) + (i : Int))))) H'
    rw [e0]
    exact hs i σ' H' hi p) hd
/-- for x in range(c + take(hand, m)) -/
theorem s_forTk {c m : Nat} (hh : σ[i]? = some (some (.ref h))) (z : Hd B h H) (h0 : 0 < m) (h1 : m < 1000) (hc : c < 1000) (k : ∀ (n : Nat) H1, Kp H h H1 → Hd B h H1 → c ≤ n → n < c + m → tFor (fun _ H R => R (Itr 0 n) H) (gName j) tu D σ H1) :
    tFor (iRng1 (tCons (tOp (rI0 fun i j => .int (i + j)) (tC (.int (c : Int))) (tCall sp__law_take [] E (tCons (tVar i) (tCons (tC (.int (m : Int))) tNil)))) tNil)) (gName j) tu D σ H :=
  w_addTake (B := B) (h := h) (m := (m : Int)) (c := (c : Int)) hh z ev_c (by omega) (by omega) fun r H1 kp z1 a b => ⟨(c : Int) + r, rfl, by omega, by omega, k ((c : Int) + r).toNat H1 kp z1 (by omega) (by omega)⟩
theorem q_forTk {c m : Nat} (hh : σ[i]? = some (some (.ref h))) (z : Hd B h H) (h0 : 0 < m) (h1 : m < 1000) (hc : c < 1000) (k : ∀ (n : Nat) H1, Kp H h H1 → Hd B h H1 → c ≤ n → n < c + m → tFor (fun _ H R => R (Itr 0 n) H) (gName j) tu { D with nx := tz D } σ H1) :
    tSeq (tFor (iRng1 (tCons (tOp (rI0 fun i j => .int (i + j)) (tC (.int (c : Int))) (tCall sp__law_take [] E (tCons (tVar i) (tCons (tC (.int (m : Int))) tNil)))) tNil)) (gName j) tu) tz D σ H := s_forTk (D := { D with nx := tz D }) hh z h0 h1 hc k
/-- tuple(range(n)) -/
theorem eu_rng {n : Nat} (h : Ev te σ H (.int (n : Int))) (hn : n ≤ 1000) : EvU (tTupRg (tRg1 te)) σ H ((rng n).map V.int) := fun H1 e Q q =>
  h H1 e _ fun H2 e2 => ⟨n, rfl, RgOk.of_le (by omega) (by omega) (by omega) (by omega), fun p np => q p _ (fresh_back e2 np) (e2.trans (Ex.new np)) (by
    rw [upd_same]
    unfold rgV rng
    have : ((n : Int) - 0).toNat = n := by omega
    rw [this, List.map_map]
    congr 2
    refine List.map_congr_left fun i _ => ?_
    show V.int (0 + (i : Int)) = V.int (Int.ofNat i)
    rw [Int.zero_add]; rfl)⟩
end
/-- .. what is a tuple among it -/
theorem hd_butT {Bk H : Hp} {h g : Addr} {xs : List V} (z : Hd Bk h H) (nB : Bk g = none) (gh : g ≠ h) (hg : H g = some (.lst xs)) : ∃ Bk', Ex Bk Bk' ∧ Bk' g = none ∧ Hd Bk' h H ∧ ExT H Bk' ∧ ∀ p o, p ≠ g → p ≠ h → H p = some o → Bk' p = some o := by
  obtain ⟨B', b1, b2, b3, b4⟩ := hd_but z nB gh
  exact ⟨B', b1, b2, b3, fun b ys hb => b4 b _ (fun y => by rw [y, hg] at hb; cases hb) (z.neT hb) hb, b4⟩
/-! ### a world's data -/
structure Wd where
  n : Nat
  tabs : List (List Row3)
  fs : List Fd
  cs : List Pr
  vb : Str
def TabsAt (H : Hp) (p : Addr) (ts : List (List Row3)) : Prop := ∃ ps : List Addr, H p = some (.tup (ps.map V.ref)) ∧ Paired (TabAt H) ps ts
def FdsAt (H : Hp) (p : Addr) (fs : List Fd) : Prop := ∃ ps : List Addr, H p = some (.tup (ps.map V.ref)) ∧ Paired (FdAt H) ps fs
theorem TabsAt.ex {H H' : Hp} {p : Addr} {ts : List (List Row3)} (e : Ex H H') (h : TabsAt H p ts) : TabsAt H' p ts := by
  obtain ⟨ps, h1, h2⟩ := h
  exact ⟨ps, e _ _ h1, Paired.mapP h2 fun _ _ w => w.ex e⟩
theorem FdsAt.ex {H H' : Hp} {p : Addr} {fs : List Fd} (e : Ex H H') (h : FdsAt H p fs) : FdsAt H' p fs := by
  obtain ⟨ps, h1, h2⟩ := h
  exact ⟨ps, e _ _ h1, Paired.mapP h2 fun _ _ w => FdAt.ex e w⟩
def WdAt (H : Hp) (a : Addr) (W : Wd) : Prop := ∃ t f r : Addr, H a = some (.lst [.int (W.n : Int), .ref t, .ref f, .ref r, .str W.vb]) ∧ TabsAt H t W.tabs ∧ FdsAt H f W.fs ∧ PTp H r W.cs
theorem WdAt.ex {H H' : Hp} {a : Addr} {W : Wd} (e : Ex H H') (h : WdAt H a W) : WdAt H' a W := by
  obtain ⟨t, f, r, h1, h2, h3, h4⟩ := h
  exact ⟨t, f, r, e _ _ h1, h2.ex e, h3.ex e, h4.ex e⟩
structure WdOk (W : Wd) : Prop where
  n1 : 1 ≤ W.n
  n6 : W.n ≤ 6
  t1 : 1 ≤ W.tabs.length
  t3 : W.tabs.length ≤ 3
  tk : ∀ t ∈ W.tabs, TabOk t ∧ ∀ r ∈ t, r.1 < W.n
  ta : ∃ t ∈ W.tabs, t.map (·.1) = rng W.n
  f1 : 1 ≤ W.fs.length
  f3 : W.fs.length ≤ 3
  fk : ∀ f ∈ W.fs, FdOk W.n f
  fc : ∃ f ∈ W.fs, f.cl = none
  rk : RulesOk W.n W.cs
  vb : W.vb ∈ verbsL
theorem rng_rise (n : Nat) : Rise (rng n) := by
  unfold rng Rise
  rw [List.pairwise_map]
  exact List.Pairwise.imp (fun h => Int.ofNat_lt.mpr h) List.pairwise_lt_range
/-- a table of some roles of n -/
theorem tab_ok {n : Nat} {rows : List Row3} {rs : List Int} (h : rows.map (·.1) = rs) (he : EndsOk rows) (h1 : 1 ≤ rs.length) (h6 : rs.length ≤ 6) (n6 : n ≤ 6) (hr : Rise rs) (hm : ∀ x ∈ rs, 0 ≤ x ∧ x < n) : TabOk rows ∧ ∀ r ∈ rows, r.1 < n := by
  have hl : rows.length = rs.length := by rw [← h, List.length_map]
  have hb : ∀ r ∈ rows, 0 ≤ r.1 ∧ r.1 < n := fun r hr' => hm r.1 (by rw [← h]; exact List.mem_map.mpr ⟨r, hr', rfl⟩)
  refine ⟨⟨by omega, by omega, by rw [h]; exact hr, fun r hr' => ?_, fun r hr' => (he r hr').1, fun r hr' => (he r hr').2⟩, fun r hr' => (hb r hr').2⟩
  have := hb r hr'
  exact ⟨this.1, by omega⟩
end LO

set_option Elab.async false
set_option linter.all false
set_option maxRecDepth 100000
set_option maxHeartbeats 4000000
namespace LO
open PySem PySem.Spec PyProof.Rows L2 LG LW LC LM Evl
section
variable {P : Program} {w : World} {K : PySem.W.Frag} {mg : Str → Option Value} {base : Heap}

/-! ### _law_world -/
def WdP : V → Hp → Prop := fun v H => ∃ a W, v = .ref a ∧ WdAt H a W ∧ WdOk W
def sp__law_world : Sp := fun vs H Q _ => ∃ (h : Addr) (B : Hp), vs = [.ref h, .int 6, .bl true, .bl false] ∧ Hd B h H ∧ ∀ v B' H', Ex B B' → Hd B' h H' → WdP v B' → Q v H'
def WsP (h : Addr) (n : Nat) (rp : Addr) (vl : V) (fp pp g : Addr) (v10 v12 : Option V) : L2.St := [some (.ref h), some (.int 6), some (.bl true), some (.bl false), some (.int (n : Int)), some (.ref rp), some vl, some (.ref fp), some (.ref pp), some (.ref g), v10, none, v12]
def WdPv (B : Hp) (h : Addr) (n : Nat) (rp : Addr) (vl : V) (fp pp g : Addr) (i : Nat) (σ' : L2.St) (H' : Hp) : Prop := ∃ (Bk : Hp) (ps : List Addr) (ts : List (List Row3)) (v10 v12 : Option V), σ' = WsP h n rp vl fp pp g v10 v12 ∧ Ex B Bk ∧ Bk g = none ∧ Hd Bk h H' ∧ H' g = some (.lst (ps.map V.ref)) ∧ Paired (TabAt Bk) ps ts ∧ ts.length = i ∧ (∀ t ∈ ts, TabOk t ∧ ∀ r ∈ t, r.1 < n) ∧ ∀ t, ts[0]? = some t → t.map (·.1) = rng n
/-- behind the if: the roles borne -/
def WdM (B : Hp) (h : Addr) (n : Nat) (rp : Addr) (vl : V) (fp pp g : Addr) (xs : List V) (i : Nat) (σ' : L2.St) (H' : Hp) : Prop := ∃ (B6 : Hp) (b : Addr) (rs : List Int), σ' = WsP h n rp vl fp pp g (some (.int (i : Int))) (some (.ref b)) ∧ Ex B B6 ∧ B6 g = none ∧ Hd B6 h H' ∧ H' g = some (.lst xs) ∧ B6 b = some (.tup (rs.map V.int)) ∧ 1 ≤ rs.length ∧ rs.length ≤ 6 ∧ Rise rs ∧ (∀ x ∈ rs, 0 ≤ x ∧ x < n) ∧ (i = 0 → rs = rng n)
abbrev n__law_world : List Str := ["_law_hand_here", "_law_most", "_law_clauses", "_law_clear", "_law_many_here", "_law_rules_here", "_law_led", "_law_frames_here", "_law_pool_here", "_law_tables", "_law_k", "_law_verbs", "_law_borne"]
theorem sc__law_world : FnScope n__law_world ["_law_hand_here", "_law_most", "_law_clauses", "_law_clear"] (defScope s__law_world) := ⟨rfl, rfl, rfl, by decide +kernel, rfl, by decide +kernel, by decide +kernel⟩
theorem fn__law_world (M : Mods P K mg base) : Fn P w K mg base CX0 6 "_law_world" ["_law_hand_here", "_law_most", "_law_clauses", "_law_clear"] [] sp__law_world := by
  have nd := sc__law_world.nd
  have h__law_many := (fn__law_many (w := w) M).up (show 3 ≤ 5 by decide)
  have h__law_rules := (fn__law_rules (w := w) M).up (show 4 ≤ 5 by decide)
  have h__law_closure := (fn__law_closure (w := w) M).up (show 1 ≤ 5 by decide)
  have h__law_frames := (fn__law_frames (w := w) M).up (show 5 ≤ 5 by decide)
  have h__law_pool := (fn__law_pool (w := w) M).up (show 4 ≤ 5 by decide)
  have h__law_take := (fn__law_take (w := w) M).up (show 2 ≤ 5 by decide)
  have h__law_some := (fn__law_some (w := w) M).up (show 4 ≤ 5 by decide)
  have h__law_table := (fn__law_table (w := w) M).up (show 3 ≤ 5 by decide)
  refine Fn.mk0 M.F__law_world M.g__law_world sc__law_world (fun vs H Q E h => ?_) (fun fd F => F.bindsN fun _ _ _ _ _ _ us hl => match us, hl with | [_, _, _, _], _ => rfl) fun cdv A outer s H vs Q E hr h => ⟨_,
    (pss_cons (ps_set (i := 4) nd rfl (.inl rfl) (pe_fn h__law_many hr pass0 (pa_cons (pv 0) (pa_cons (pv 1) pa_nil)))) (pss_cons (ps_set (i := 5) nd rfl (.inl rfl) (pe_fn h__law_rules hr pass0 (pa_cons (pv 0) (pa_cons (pv 4) pa_nil)))) (pss_cons (ps_set (i := 6) nd rfl (.inl rfl) (pe_fn h__law_closure hr pass0 (pa_cons (pv 4) (pa_cons (pv 5) pa_nil)))) (pss_cons (ps_set (i := 7) nd rfl (.inl rfl) (pe_fn h__law_frames hr pass0 (pa_cons (pv 0) (pa_cons (pv 4) (pa_cons (pe_op op_add pe_int (pe_fn h__law_take hr pass0 (pa_cons (pv 0) (pa_cons pe_int pa_nil)))) (pa_cons (pv 2) pa_nil)))))) (pss_cons (ps_set (i := 8) nd rfl (.inl rfl) (pe_fn h__law_pool hr pass0 (pa_cons (pv 0) (pa_cons (pe_op op_add pe_int (pe_fn h__law_take hr pass0 (pa_cons (pv 0) (pa_cons pe_int pa_nil)))) pa_nil)))) (pss_cons (ps_set (i := 9) nd rfl (.inl rfl) (pe_lst pa_nil)) (pss_cons (ps_for PassesOwn.never rfl (pi_range1 rfl M.z_range (pa_cons (pe_op op_add pe_int (pe_fn h__law_take hr pass0 (pa_cons (pv 0) (pa_cons pe_int pa_nil)))) pa_nil)) (pg_name (i := 10) nd rfl (.inl rfl)) (pss_cons (ps_set (i := 12) nd rfl (.inl rfl) (pe_tupRg rfl rfl M.z_tuple (prg_1 rfl M.z_range (pv 4)))) (pss_cut (ps_if (pt_cmpR op_gt (pv 10) pe_int (nomark _)) (pss_one (ps_set (i := 12) nd rfl (.inl rfl) (pe_fn h__law_some hr pass0 (pa_cons (pv 0) (pa_cons (pe_listRg rfl rfl M.z_list (prg_1 rfl M.z_range (pv 4))) (pa_cons (pe_op op_add pe_int (pe_fn h__law_take hr pass0 (pa_cons (pv 0) (pa_cons (pv 4) pa_nil)))) pa_nil)))))) pss_nil) (pss_one (ps_if (pt_val (pv 3)) (pss_one ps_never) (pss_one (ps_expr (pe_bm PySem.F.plainAttrs_list PySem.F.slot_list_append PySem.F.type_list_append mt_append (pv 9) (pa_cons (pe_fn h__law_table hr pass0 (pa_cons (pv 0) (pa_cons (pv 12) (pa_cons (pv 8) pa_nil)))) pa_nil))))))))) (pss_cons (ps_set (i := 11) nd rfl (.inl rfl) (pe_ix ix_tup (pe_tup (pa_cons pe_str (pa_cons pe_str (pa_cons pe_str pa_nil)))) (pe_fn h__law_take hr pass0 (pa_cons (pv 0) (pa_cons pe_int pa_nil))) (fun _ _ => rfl))) (pss_one (ps_ret (pe_lst (pa_cons (pv 4) (pa_cons (pe_callTy call_tuple_of rfl M.z_tuple LW.boot_tuple (pa_cons (pv 9) pa_nil)) (pa_cons (pv 7) (pa_cons (pv 5) (pa_cons (pv 11) pa_nil)))))))))))))))), ?_⟩
  · obtain ⟨h, B, rfl, _⟩ := h; rfl
  · obtain ⟨h, B, rfl, z, hQ⟩ := h
    refine wq_asg (w_call (w_cons (x := .ref h) (ev_var rfl) fun H1 e1 => w_cons (x := .int 6) (ev_var rfl) fun H2 e2 => w_nil ⟨h, B, rfl, z.step (e1.trans e2), fun k B3 H3 b3 z3 kp3 k1 k6 => ?_⟩))
    obtain ⟨n, rfl⟩ : ∃ n : Nat, k = (n : Int) := ⟨k.toNat, by omega⟩
    refine wq_asg (w_call (w_cons (x := .ref h) (ev_var rfl) fun H4 e4 => w_cons (x := .int (n : Int)) (ev_var rfl) fun H5 e5 => w_nil ⟨h, n, B3, rfl, z3.step (e4.trans e5), by omega, fun v B6 H6 b6 z6 hv => ?_⟩))
    obtain ⟨rp, cs, rfl, hrp, rok⟩ := hv
    refine wq_asg (w_call (w_cons (x := .int (n : Int)) (ev_var rfl) fun H7 e7 => w_cons (x := .ref rp) (ev_var rfl) fun H8 e8 => w_nil ⟨n, rp, cs, rfl, hrp.ex (z6.ex.trans (e7.trans e8)), by omega, by have := rok.len; omega, fun c hc => ?_, fun l L H9 nl e9 hl hled => ?_⟩))
    · obtain ⟨a1, a2, a3, a4, _⟩ := rok.bd c hc
      exact ⟨⟨a1, a2⟩, a3, a4⟩
    have z9 := z6.step ((e7.trans e8).trans e9)
    refine wq_asg (w_call (w_cons (x := .ref h) (ev_var rfl) fun H10 e10 => w_cons (x := .int (n : Int)) (ev_var rfl) fun H11 e11 => w_consW (w_addTake (B := B6) (h := h) (m := 3) rfl (z9.step (e10.trans e11)) ev_c (by decide) (by decide) fun c H12 kp12 z12 c0 c1 => w_cons (x := .bl true) (ev_var rfl) fun H13 e13 => w_nil ⟨h, n, (1 + c).toNat, B6, by rw [show ((1 + c).toNat : Int) = 1 + c by omega]; rfl, z12.step e13, by omega, by omega, by omega, by omega, fun v B14 H14 b14 z14 hv => ?_⟩)))
    obtain ⟨fp, fps, fs, rfl, hfp, hfps, fl, fok, fcl⟩ := hv
    refine wq_asg (w_call (w_cons (x := .ref h) (ev_var rfl) fun H15 e15 => w_consW (w_addTake (B := B14) (h := h) (m := 4) rfl (z14.step e15) ev_c (by decide) (by decide) fun c2 H16 kp16 z16 d0 d1 => w_nil ⟨h, (2 + c2).toNat, B14, by rw [show ((2 + c2).toNat : Int) = 2 + c2 by omega]; rfl, z16, by omega, fun v B17 H17 b17 z17 hv => ?_⟩)))
    obtain ⟨pp, gs, es, rfl, hpp, hes, el, eok⟩ := hv
    refine q_asgL (el_lst ea_nil (Nat.zero_le _)) fun g H18 ng e18 hg => ?_
    have z18 := z17.step e18
    have nBg : B17 g = none := fresh_back z17.ex ng
    have gh : g ≠ h := z17.ne ng
    refine q_forTk (c := 1) (m := 3) (h := h) (B := B17) rfl z18 (by decide) (by decide) (by decide) fun t H19 kp19 z19 t1 t2 => s_forIt (WdPv B17 h n rp (.ref l) fp pp g) ?_ (fun i σ' H' hi hP => ?_) (fun σ' H' hP => ?_)
    · exact ⟨B17, [], [], none, none, rfl, Ex.refl _, nBg, z19, kp19.at gh hg, .nil, rfl, (fun t ht => by cases ht), fun t ht => by cases ht⟩
    · obtain ⟨Bk, ps, ts, v10, v12, rfl, k1', k2, zk, hg', hps, hlen, hok, h0⟩ := hP
      refine q_asgU (eu_rng (n := n) (ev_var rfl) (by omega)) fun b H20 nb e20 hb => ?_
      have zk2 := zk.step e20
      have hg2 := e20 _ _ hg'
      have bg : b ≠ g := fun y => by rw [y, hg'] at nb; cases nb
      obtain ⟨B5, b1, b2, z5, x5, b5⟩ := hd_butT zk2 k2 gh hg2
      have hbB := x5 _ _ hb
      refine q_cut (M := WdM B5 h n rp (.ref l) fp pp g (ps.map V.ref) i) ?_ fun σ' H21 hM => ?_
      · refine s_if (b := decide ((0 : Int) < (i : Int))) (et_op (ev_var rfl) ev_c rv_I0) (fun hb0 H21 e21 => ?_) (fun hb0 H21 e21 => ?_)
        · refine w_asg (w_call (w_cons (x := .ref h) (ev_var rfl) fun H22 e22 => w_consL (el_rng (n := n) (ev_var rfl) (by omega)) fun r H23 nr e23 hr' => ?_))
          have z23 := z5.step ((e21.trans e22).trans e23)
          have hg23 := ((e21.trans e22).trans e23) _ _ hg2
          have rg : r ≠ g := fun y => by rw [y, (e21.trans e22) _ _ hg2] at nr; cases nr
          have rh : r ≠ h := (z5.step (e21.trans e22)).ne nr
          obtain ⟨B7, c1', c2', z7, x7, c7⟩ := hd_butT z23 b2 gh hg23
          refine w_consW (w_addTake (B := B7) (h := h) (m := (n : Int)) rfl z7 (ev_var rfl) (by omega) (by omega) fun k H24 kp24 z24 kk0 kk1 => w_nil ⟨h, r, (1 + k).toNat, B7, rng n, by rw [show ((1 + k).toNat : Int) = 1 + k by omega]; rfl, z24, c7 _ _ rg rh hr', by rw [rng_len]; omega, by rw [rng_len]; omega, fun v B8 H25 b25 z25 kp25 hv => ?_⟩)
          obtain ⟨p, ms, rfl, hp, ml, mr, mi, mn⟩ := hv
          have kp : Kp H23 h H25 := dtr kp24 kp25
          have hg25 := kp.at gh hg23
          have z25' : Hd B7 h H25 := hand_back z7 kp z25
          have hp25 := z25.ex _ _ hp
          obtain ⟨B9, d1', d2', z9', x9, d9⟩ := hd_butT z25' c2' gh hg25
          refine ⟨B9, p, ms, rfl, c1'.trans d1', d2', z9', hg25, x9 _ _ hp25, by omega, by omega, rise_of mr (mn (rng_nodup n)), fun x hx => rng_mem.mp (mi x hx), fun hi0 => ?_⟩
          have := of_decide_eq_true hb0
          omega
        · have i0 : i = 0 := by
            have := of_decide_eq_false hb0
            omega
          exact ⟨B5, b, rng n, rfl, Ex.refl _, b2, z5.step e21, e21 _ _ hg2, hbB, by rw [rng_len]; omega, by rw [rng_len]; omega, rng_rise n, fun x hx => rng_mem.mp hx, fun _ => rfl⟩
      obtain ⟨B10, b', rs, rfl, y1, y2, z10, hg10, hb10, r1, r6, rr, rm, ri⟩ := hM
      have eall : Ex B17 B10 := (k1'.trans b1).trans y1
      have ebk : Ex Bk B10 := b1.trans y1
      refine s_if (b := false) (et_test (ev_var rfl)) (fun hb => by cases hb) fun _ H26 e26 => ?_
      have hg26 := e26 _ _ hg10
      have hpl : ps.length = ts.length := hps.length
      refine w_drop (w_bm (w_ev (x := .ref g) (ev_var rfl) fun H27 e27 => ⟨.inl ⟨rfl, _, sq_of (e27 _ _ hg26)⟩, w_consW (w_call (w_cons (x := .ref h) (ev_var rfl) fun H28 e28 => w_cons (x := .ref b') (ev_var rfl) fun H29 e29 => w_cons (x := .ref pp) (ev_var rfl) fun H30 e30 => w_nil ?_))⟩))
      have ex30 : Ex H26 H30 := ((e27.trans e28).trans e29).trans e30
      have z30 := z10.step (e26.trans ex30)
      refine ⟨h, b', pp, B10, rs, gs, es, rfl, z30, hb10, eall _ _ hpp, Paired.mapP hes fun _ _ w => eall _ _ w, by omega, by omega, eok, by omega, fun v B31 H31 b31 z31 kp31 hv => w_nil ?_⟩
      obtain ⟨q, rows, rfl, hq, hrs, hends⟩ := hv
      have hg31 := kp31.at gh (ex30 _ _ hg26)
      have z31' : Hd B10 h H31 := hand_back z30 kp31 z31
      obtain ⟨B32, f1', f2', z32, x32, f32⟩ := hd_butT z31' y2 gh hg31
      refine ⟨g, ps.map V.ref, .ref q, rfl, rfl, hg31, sz_lt (by rw [List.length_map]; omega), ?_⟩
      have htab := tab_ok (n := n) hrs hends r1 r6 (by omega) rr rm
      refine ⟨B32, ps ++ [q], ts ++ [rows], _, _, rfl, k1'.trans (ebk.trans f1'), f2', z32.mut f2' gh, by rw [List.map_append]; exact upd_same, LG.paired_app (Paired.mapP hps fun _ _ w => w.ex (ebk.trans f1')) ((hq.ex z31.ex).ext x32), by rw [List.length_append, hlen]; rfl, fun t ht => ?_, fun t ht => ?_⟩
      · rcases List.mem_append.mp ht with ht | ht
        · exact hok t ht
        · rw [List.mem_singleton.mp ht]; exact htab
      · cases hts : ts with
        | nil =>
          rw [hts] at ht hlen
          cases ht
          rw [hrs]
          exact ri hlen.symm
        | cons t0 ts' =>
          rw [hts] at ht h0
          exact h0 t ht
    · obtain ⟨Bk, ps, ts, v10, v12, rfl, k1', k2, zk, hg', hps, hlen, hok, h0⟩ := hP
      refine wq_asg (w_pick (B := Bk) (h := h) (xs := verbsL.map V.str) rfl zk (ea_cons ev_c (ea_cons ev_c (ea_cons ev_c ea_nil))) (by decide) (by decide) (by decide) fun x H20 hx kp20 z20 => ?_)
      obtain ⟨vb, hvb, rfl⟩ := List.mem_map.mp hx
      have hg20 := kp20.at gh hg'
      refine w_ret (w_lst (w_cons (x := .int (n : Int)) (ev_var rfl) fun H22 e22 => w_consU (eu_tupL (ev_var rfl) (sq_of (e22 _ _ hg20))) fun tp H23 np e23 htp => w_cons (x := .ref fp) (ev_var rfl) fun H24 e24 => w_cons (x := .ref rp) (ev_var rfl) fun H25 e25 => w_cons (x := .str vb) (ev_var rfl) fun H26 e26 => w_nil ⟨show 5 ≤ sizeLine by decide, fun a na => ?_⟩))
      have e46 := (e24.trans e25).trans e26
      have z26 := z20.step ((e22.trans e23).trans e46)
      have ah : a ≠ h := z26.ne na
      have tph : tp ≠ h := (z20.step e22).ne np
      obtain ⟨y1, y2⟩ := z26.grow (Ex.new (o := .lst [.int (n : Int), .ref tp, .ref fp, .ref rp, .str vb]) na)
      have e6 : Ex B6 _ := ((b14.trans b17).trans k1').trans y1
      have e14 : Ex B14 _ := (b17.trans k1').trans y1
      refine hQ _ _ _ ((b3.trans b6).trans e6) y2 ⟨a, ⟨n, ts, fs, cs, vb⟩, rfl, ⟨tp, fp, rp, by rw [del_ne ah]; exact upd_same, ⟨ps, by rw [del_ne tph]; exact Ex.new na _ _ (e46 _ _ htp), Paired.mapP hps fun _ _ w => w.ex y1⟩, ⟨fps, e14 _ _ hfp, Paired.mapP hfps fun _ _ w => FdAt.ex e14 w⟩, hrp.ex e6⟩, ?_⟩
      have n1 : 1 ≤ n := by omega
      have n6 : n ≤ 6 := by omega
      refine ⟨n1, n6, ?_, ?_, hok, ?_, ?_, ?_, fok, fcl, rok, hvb⟩
      · show 1 ≤ ts.length; omega
      · show ts.length ≤ 3; omega
      · cases hts : ts with
        | nil => rw [hts] at hlen; rw [← hlen] at t1; cases t1
        | cons t0 ts' => exact ⟨t0, List.mem_cons_self, h0 t0 (by rw [hts]; rfl)⟩
      · show 1 ≤ fs.length; omega
      · show fs.length ≤ 3; omega
end
end LO

set_option Elab.async false
set_option linter.all false
set_option maxRecDepth 100000
set_option maxHeartbeats 4000000
namespace LO
open PySem PySem.Spec PyProof.Rows L2 LG LW LC LM Evl
section
variable {P : Program} {w : World} {K : PySem.W.Frag} {mg : Str → Option Value} {base : Heap}

/-! ### _law_rolled -/
theorem el_catN {σ : L2.St} {H : Hp} {ta tb : TE} {xs ys : List V} (h1 : EvL ta σ H xs) (h2 : EvL tb σ H ys) (hz : xs.length + ys.length ≤ 100000) : EvL (tOp rCat ta tb) σ H (xs ++ ys) := fun H1 e Q q =>
  h1 H1 e _ fun l H2 n2 e2 hl => h2 H2 (e.trans e2) _ fun b H3 n3 e3 hb => ⟨l, b, xs, ys, rfl, rfl, e3 _ _ hl, hb, sz_of hz, fun p np => q p _ (fresh_back (e2.trans e3) np) ((e2.trans e3).trans (Ex.new np)) upd_same⟩
def rot {α : Type} (l : List α) : List α := l.drop 1 ++ l.take 1
theorem rot_mem {α : Type} {l : List α} {x : α} : x ∈ rot l ↔ x ∈ l := by
  cases l with
  | nil => exact Iff.rfl
  | cons a l =>
    show x ∈ l ++ [a] ↔ _
    rw [List.mem_append, List.mem_singleton, List.mem_cons]
    exact Or.comm
theorem rot_len {α : Type} (l : List α) : (rot l).length = l.length := by
  cases l with
  | nil => rfl
  | cons a l => show (l ++ [a]).length = _; rw [List.length_append]; rfl
theorem rot_map {α β : Type} (f : α → β) (l : List α) : (rot l).map f = rot (l.map f) := by
  unfold rot
  rw [List.map_append, List.map_drop, List.map_take]
theorem rot_paired {α β : Type} {F : α → β → Prop} {l : List α} {m : List β} (h : Paired F l m) : Paired F (rot l) (rot m) := by
  cases h with
  | nil => exact .nil
  | cons h t => exact LG.paired_app t h
/-- tuple(xs[1:] + xs[:1]) -/
theorem eu_rot {K : PySem.W.Frag} {σ : L2.St} {H : Hp} {i : Nat} {l : Addr} {xs : List V} (hi : σ[i]? = some (some (.ref l))) (hl : H l = some (.lst xs)) (h1 : 1 ≤ xs.length) (hz : xs.length ≤ 1000) :
    EvU (tCB (rTupOf K) (tCons (tOp rCat (tSl (rSlL K) (tVar i) (tPart (tC (.int 1))) tNoPart) (tSl (rSlL K) (tVar i) tNoPart (tPart (tC (.int 1))))) tNil)) σ H (rot xs) :=
  eu_tupN (el_catN (el_is (el_sl (ev_var hi) (eo_some ev_c) eo_none (sq_of hl)) (cut_from h1)) (el_is (el_sl (ev_var hi) eo_none (eo_some ev_c) (sq_of hl)) (cut_to h1)) (by rw [List.length_drop, List.length_take]; omega))
theorem WdOk.roll {W : Wd} (h : WdOk W) : WdOk ⟨W.n, rot W.tabs, rot W.fs, W.cs, W.vb⟩ := by
  obtain ⟨n1, n6, t1, t3, tk, ta, f1, f3, fk, fc, rk, vb⟩ := h
  refine ⟨n1, n6, ?_, ?_, fun t ht => tk t (rot_mem.mp ht), ?_, ?_, ?_, fun f hf => fk f (rot_mem.mp hf), ?_, rk, vb⟩
  · show 1 ≤ (rot W.tabs).length; rw [rot_len]; exact t1
  · show (rot W.tabs).length ≤ 3; rw [rot_len]; exact t3
  · obtain ⟨t, ht, he⟩ := ta
    exact ⟨t, rot_mem.mpr ht, he⟩
  · show 1 ≤ (rot W.fs).length; rw [rot_len]; exact f1
  · show (rot W.fs).length ≤ 3; rw [rot_len]; exact f3
  · obtain ⟨f, hf, he⟩ := fc
    exact ⟨f, rot_mem.mpr hf, he⟩
def sp__law_rolled : Sp := fun vs H Q _ => ∃ (h a : Addr) (B : Hp) (W : Wd), vs = [.ref h, .ref a] ∧ Hd B h H ∧ WdAt B a W ∧ WdOk W ∧ ∀ v B' H', Ex B B' → Hd B' h H' → WdP v B' → Q v H'
abbrev n__law_rolled : List Str := ["_law_hand_here", "_law_world_here", "_law_tables", "_law_frames_here"]
theorem sc__law_rolled : FnScope n__law_rolled ["_law_hand_here", "_law_world_here"] (defScope s__law_rolled) := ⟨rfl, rfl, rfl, by decide +kernel, rfl, by decide +kernel, by decide +kernel⟩
theorem fn__law_rolled (M : Mods P K mg base) : Fn P w K mg base CX0 3 "_law_rolled" ["_law_hand_here", "_law_world_here"] [] sp__law_rolled := by
  have nd := sc__law_rolled.nd
  have h__law_take := (fn__law_take (w := w) M).up (show 2 ≤ 2 by decide)
  refine Fn.mk0 M.F__law_rolled M.g__law_rolled sc__law_rolled (fun vs H Q E h => ?_) (fun fd F => F.bindsN fun _ _ _ _ _ _ us hl => match us, hl with | [_, _], _ => rfl) fun cdv A outer s H vs Q E hr h => ⟨_,
    (pss_cons (ps_if (pt_cmpR op_gt (pe_fn h__law_take hr pass0 (pa_cons (pv 0) (pa_cons pe_int pa_nil))) pe_int (nomark _)) (pss_one (ps_ret (pv 1))) pss_nil) (pss_cons (ps_par (i := 2) (j := 3) rfl nd rfl rfl (by decide) rfl rfl (pa_cons (pe_callTy call_list_of rfl M.z_list LW.boot_list (pa_cons (pe_ix ix_list (pv 1) pe_int (fun _ _ => rfl)) pa_nil)) (pa_cons (pe_callTy call_list_of rfl M.z_list LW.boot_list (pa_cons (pe_ix ix_list (pv 1) pe_int (fun _ _ => rfl)) pa_nil)) pa_nil)) rfl) (pss_one (ps_ret (pe_lst (pa_cons (pe_ix ix_list (pv 1) pe_int (fun _ _ => rfl)) (pa_cons (pe_callTy call_tuple_of rfl M.z_tuple LW.boot_tuple (pa_cons (pe_op op_cat (pe_slice sl_list (pv 2) (po_some pe_int) po_none) (pe_slice sl_list (pv 2) po_none (po_some pe_int))) pa_nil)) (pa_cons (pe_callTy call_tuple_of rfl M.z_tuple LW.boot_tuple (pa_cons (pe_op op_cat (pe_slice sl_list (pv 3) (po_some pe_int) po_none) (pe_slice sl_list (pv 3) po_none (po_some pe_int))) pa_nil)) (pa_cons (pe_ix ix_list (pv 1) pe_int (fun _ _ => rfl)) (pa_cons (pe_ix ix_list (pv 1) pe_int (fun _ _ => rfl)) pa_nil)))))))))), ?_⟩
  · obtain ⟨h, a, B, W, rfl, _⟩ := h; rfl
  · obtain ⟨h, a, B, W, rfl, z, hW, ok, hQ⟩ := h
    refine q_whenH z (eht_takeGt (m := 3) (eh_take (ea_cons (ev_var rfl) (ea_cons ev_c ea_nil)) (by decide) (by decide))) (fun B1 H1 e1 z1 kp1 _ => ?_) (fun B1 H1 e1 z1 kp1 _ => ?_)
    · exact s_ret (ev_var rfl) fun H2 e2 => hQ _ B1 H2 e1 (z1.step e2) ⟨a, W, rfl, hW.ex e1, ok⟩
    obtain ⟨t, f, r, hw, ⟨ps, hps, hts⟩, ⟨qs, hqs, hfs⟩, hr'⟩ := hW.ex e1
    have hpl : ps.length = W.tabs.length := hts.length
    have hql : qs.length = W.fs.length := hfs.length
    have t1 := ok.t1
    have t3 := ok.t3
    have f1 := ok.f1
    have f3 := ok.f3
    have ix : ∀ {σ : L2.St} {Hx : Hp} {j : Int} {v : V}, σ[1]? = some (some (.ref a)) → Ex H1 Hx → atI [.int (W.n : Int), .ref t, .ref f, .ref r, .str W.vb] j = some v → Ev (tOp (rIxL K) (tVar 1) (tC (.int j))) σ Hx v := fun hs e hv => ev_op (ev_var hs) ev_c (rv_ixL (sq_of (e _ _ (z1.ex _ _ hw))) hv)
    refine wq_par (w_consL (el_listB (ix rfl (Ex.refl _) rfl) (.inr (.inl (z1.ex _ _ hps)))) fun l1 H2 m1 e2 hl1 => w_consL (el_listB (ix rfl e2 rfl) (.inr (.inl (e2 _ _ (z1.ex _ _ hqs))))) fun l2 H3 m2 e3 hl2 => w_nil ⟨_, _, rfl, ?_⟩)
    refine w_ret (w_lst (w_cons (ix rfl (e2.trans e3) rfl) fun H4 e4 => w_consU (eu_rot rfl (e4 _ _ (e3 _ _ hl1)) (by rw [List.length_map]; omega) (by rw [List.length_map]; omega)) fun u1 H5 n5 e5 hu1 => w_consU (eu_rot rfl (e5 _ _ (e4 _ _ hl2)) (by rw [List.length_map]; omega) (by rw [List.length_map]; omega)) fun u2 H6 n6 e6 hu2 => w_cons (ix rfl ((((e2.trans e3).trans e4).trans e5).trans e6) rfl) fun H7 e7 => w_cons (ix rfl (((((e2.trans e3).trans e4).trans e5).trans e6).trans e7) rfl) fun H8 e8 => w_nil ⟨show 5 ≤ sizeLine by decide, fun b nb => ?_⟩))
    have z8 := z1.step ((((((e2.trans e3).trans e4).trans e5).trans e6).trans e7).trans e8)
    obtain ⟨y1, y2⟩ := z8.grow (Ex.new (o := .lst [.int (W.n : Int), .ref u1, .ref u2, .ref r, .str W.vb]) nb)
    have bh : b ≠ h := z8.ne nb
    have en := Ex.new (o := .lst [.int (W.n : Int), .ref u1, .ref u2, .ref r, .str W.vb]) nb
    have g1 := (((e6.trans e7).trans e8).trans en) _ _ hu1
    have g2 := ((e7.trans e8).trans en) _ _ hu2
    have h1 := (z8.step en).neT g1
    have h2 := (z8.step en).neT g2
    refine hQ _ _ _ (e1.trans y1) y2 ⟨b, ⟨W.n, rot W.tabs, rot W.fs, W.cs, W.vb⟩, rfl, ⟨u1, u2, r, by rw [del_ne bh]; exact upd_same, ⟨rot ps, by rw [del_ne h1, rot_map]; exact g1, rot_paired (Paired.mapP hts fun _ _ w => w.ex y1)⟩, ⟨rot qs, by rw [del_ne h2, rot_map]; exact g2, rot_paired (Paired.mapP hfs fun _ _ w => FdAt.ex y1 w)⟩, hr'.ex y1⟩, ok.roll⟩
end
end LO

set_option Elab.async false
set_option linter.all false
set_option maxRecDepth 100000
set_option maxHeartbeats 4000000
namespace LO
open PySem PySem.Spec PyProof.Rows L2 LG LW LC LM Evl
section
variable {P : Program} {w : World} {K : PySem.W.Frag} {mg : Str → Option Value} {base : Heap}

/-! ### _law_make -/
section
variable {σ : L2.St} {H : Hp} {ta tb tn tt : TE} {i : Int} {v : V} {Q : VK} {C : Addr} {sp : Sp} {dv : List V} {E : XK} {t : TA} {xs : List V}
theorem w_make (h : t σ H fun vs H1 => ∀ x dx, H1 x = none → H1 dx = none → dx ≠ x → sp (.ref x :: (vs ++ dv)) (upd (upd H1 dx (.own x)) x (.ins C dx [])) (fun v H2 => v = .non ∧ Q (.ref x) H2) E) : tMake C sp dv E t σ H Q := h
theorem ex_mk1 {x dx : Addr} {o1 o2 : HO} (nx : H x = none) (nd : H dx = none) (ne : dx ≠ x) : Ex H (upd (upd H dx o1) x o2) := (Ex.new nd).trans (Ex.new (by rw [upd_ne (Ne.symm ne)]; exact nx))
theorem ex_mk2 {x dx : Addr} {o1 o2 : HO} (nx : H x = none) (nd : H dx = none) (ne : dx ≠ x) : Ex H (del (upd (upd H dx o1) x o2) x) := ex_del (ex_mk1 nx nd ne) nx
theorem w_stock {a : Addr} {name : Str} {rows : List Row3} (hn : Ev tn σ H (.str name)) (ht : Ev tt σ H (.ref a)) (hT : TabAt H a rows) (ok : TabOk rows) (nok : NameOk name) (k : ∀ x H', Ex H H' → H x = none → StockAt K H' x name rows → Q (.ref x) H') :
    tMake (ga K "Stock") (sp_Stock_init K) [] E (tCons tn (tCons tt tNil)) σ H Q :=
  w_make (w_cons hn fun H1 e1 => w_cons (ht.mono e1) fun H2 e2 => w_nil fun x dx nx nd ne => ⟨x, dx, a, name, rows, rfl, upd_same, hT.ex ((e1.trans e2).trans (ex_mk1 nx nd ne)), ok, nok, fun H' e hs => ⟨rfl, k x H' ((e1.trans e2).trans ((ex_mk2 nx nd ne).trans e)) (fresh_back (e1.trans e2) nx) hs⟩⟩)
theorem w_frame {a : Addr} {name : Str} {ns : List Int} {cl ag : Option Int} {tc tg : TE} (hn : Ev tn σ H (.str name)) (ht : Ev tt σ H (.ref a)) (hc : Ev tc σ H (optV cl)) (hg : Ev tg σ H (optV ag)) (hT : H a = some (.tup (ns.map V.int))) (ok : FrOk ns cl ag) (nok : NameOk name) (k : ∀ x H', Ex H H' → H x = none → FrameAt K H' x name ns cl ag → Q (.ref x) H') :
    tMake (ga K "Frame") (sp_Frame_init K) [] E (tCons tn (tCons tt (tCons tc (tCons tg tNil)))) σ H Q :=
  w_make (w_cons hn fun H1 e1 => w_cons (ht.mono e1) fun H2 e2 => w_cons (hc.mono (e1.trans e2)) fun H3 e3 => w_cons (hg.mono ((e1.trans e2).trans e3)) fun H4 e4 => w_nil fun x dx nx nd ne => ⟨x, dx, a, name, ns, cl, ag, rfl, upd_same, ((((e1.trans e2).trans e3).trans e4).trans (ex_mk1 nx nd ne)) _ _ hT, ok, nok, fun H' e hs => ⟨rfl, k x H' ((((e1.trans e2).trans e3).trans e4).trans ((ex_mk2 nx nd ne).trans e)) (fresh_back (((e1.trans e2).trans e3).trans e4) nx) hs⟩⟩)
theorem ev_ixU {H : Hp} (ha : EvU ta σ H xs) (hb : ∀ H1, Ex H H1 → Ev tb σ H1 (.int i)) (hv : atI xs i = some v) : Ev (tOp (rIxT K) ta tb) σ H v := fun H1 e Q q =>
  ha H1 e _ fun p H2 np e2 hp => hb H2 (e.trans e2) H2 (Ex.refl _) _ fun H3 e3 => ⟨p, xs, i, v, rfl, rfl, st_of (e3 _ _ hp), hv, q H3 (e2.trans e3)⟩
/-- a comprehension over range(n), told by what holds at each turn -/
theorem w_lcR {te : TE} {tq : TT} {j : Nat} {vs : List Nat} {n : Nat} (h : EvA t σ H [.int (n : Int)]) (hn : n ≤ 40000) (k : ∀ H1 D, Ex H H1 → H1 D = none → ∃ Pv : Nat → Hp → Prop, Pv 0 (upd H1 D (.lst [])) ∧
    (∀ i H, i < n → Pv i H → wipe ((wipe σ vs).set j (some (.int (i : Int)))) vs = wipe σ vs ∧ tq ((wipe σ vs).set j (some (.int (i : Int)))) H fun b H3 => if b = true then te ((wipe σ vs).set j (some (.int (i : Int)))) H3 fun y H4 => ∃ acc, H4 D = some (.lst acc) ∧ acc.length < sizeLine ∧ Pv (i + 1) (upd H4 D (.lst (acc ++ [y]))) else Pv (i + 1) H3) ∧ ∀ H, Pv n H → Q (.ref D) H) :
    tLc (iRng1 t) (gName j) tq te vs σ H Q := h H (Ex.refl H) _ fun H1 e => ⟨(n : Int), rfl, by omega, by omega, fun D hD => by
  obtain ⟨Pv, h0, hs, hd⟩ := k H1 D e hD
  refine lc_range (lo := 0) (n := n) Pv h0 (fun i H hi p => ?_) hd
  have e0 : (0 : Int) + (i : Int) = (i : Int) := Int.zero_add _
  have q := hs i H hi p
  rw [← e0] at q
  exact q⟩
end
theorem StockAt.del {H : Hp} {x D : Addr} {name : Str} {rows : List Row3} {xs : List V} (hD : H D = some (.lst xs)) (h : StockAt K H x name rows) : StockAt K (L2.del H D) x name rows := by
  obtain ⟨dx, q, h1, h2⟩ := h
  exact ⟨dx, q, del_in h1 hD (fun z => by cases z), h2.ext fun b ys hb => del_in hb hD fun z => by cases z⟩
theorem FrameAt.del {H : Hp} {x D : Addr} {name : Str} {ns : List Int} {cl ag : Option Int} {xs : List V} (hD : H D = some (.lst xs)) (h : FrameAt K H x name ns cl ag) : FrameAt K (L2.del H D) x name ns cl ag := by
  obtain ⟨dx, q, h1, h2⟩ := h
  exact ⟨dx, q, del_in h1 hD (fun z => by cases z), del_in h2 hD fun z => by cases z⟩
theorem zip_sub {α β : Type} : ∀ (l : List α) (m : List β), ((l.zip m).map (·.1)).Sublist l
  | [], _ => List.Sublist.refl _
  | a :: l, [] => List.nil_sublist _
  | a :: l, b :: m => (zip_sub l m).cons₂ a
def rolN : List Str := ["who", "whom", "to", "by", "at", "for"]
def stkN : List Str := ["a", "b", "c", "d"]
def vrbN : List Str := ["see", "say", "hit", "run"]
def nameB (s : Str) : Bool := decide (1 ≤ s.length) && decide (s.length ≤ 8) && lettersB s
theorem nameB_ok {s : Str} (h : nameB s = true) : NameOk s := by
  unfold nameB at h
  rw [Bool.and_eq_true, Bool.and_eq_true, decide_eq_true_iff, decide_eq_true_iff] at h
  exact ⟨h.1.1, h.1.2, h.2⟩
theorem all_names : ((rolN ++ stkN ++ vrbN).all nameB) = true := by decide +kernel
theorem rolN_ok : ∀ s ∈ rolN, NameOk s := fun s hs => nameB_ok (List.all_eq_true.mp all_names s (List.mem_append_left _ (List.mem_append_left _ hs)))
theorem stkN_ok : ∀ s ∈ stkN, NameOk s := fun s hs => nameB_ok (List.all_eq_true.mp all_names s (List.mem_append_left _ (List.mem_append_right _ hs)))
theorem vrbN_ok : ∀ s ∈ vrbN, NameOk s := fun s hs => nameB_ok (List.all_eq_true.mp all_names s (List.mem_append_right _ hs))
theorem rolN_nd : rolN.Nodup := by decide +kernel
theorem stkN_nd : stkN.Nodup := by decide +kernel
theorem vrbN_nd : vrbN.Nodup := by decide +kernel
def stksOf (W : Wd) : List St2 := stkN.zip W.tabs
def frOf (p : Str × Fd) : Fr := ⟨p.1, p.2.ns, p.2.cl, p.2.ag⟩
def frsOf (W : Wd) : List Fr := (vrbN.zip W.fs).map frOf
theorem given_roles : ∀ n : Nat, n ≤ 6 → given n (fun _ => true) (fun i => .str (rolN.getD i "")) = (rolN.take n).map V.str
  | 0, _ | 1, _ | 2, _ | 3, _ | 4, _ | 5, _ | 6, _ => by decide +kernel
  | n + 7, h => by omega
theorem zip_at {α β : Type} {l : List α} {m : List β} {i : Nat} {p : α × β} (h : (l.zip m)[i]? = some p) : l[i]? = some p.1 ∧ m[i]? = some p.2 := List.getElem?_zip_eq_some.mp h
theorem WdOk.ton {W : Wd} (h : WdOk W) : TonOk ((rolN.take W.n).length : Nat) (stksOf W) (frsOf W) W.cs := by
  obtain ⟨n1, n6, t1, t3, tk, ta, f1, f3, fk, fc, rk, vb⟩ := h
  have hn : ((rolN.take W.n).length : Nat) = W.n := by rw [List.length_take]; show min W.n 6 = W.n; omega
  rw [hn]
  have zs : (stksOf W).length = W.tabs.length := by unfold stksOf; rw [List.length_zip]; show min 4 _ = _; omega
  have zf : (frsOf W).length = W.fs.length := by unfold frsOf; rw [List.length_map, List.length_zip]; show min 4 _ = _; omega
  have fm : ∀ f ∈ frsOf W, NameOk f.name ∧ (⟨f.ns, f.cl, f.ag⟩ : Fd) ∈ W.fs := fun f hf => by
    obtain ⟨p, hp, rfl⟩ := List.mem_map.mp hf
    exact ⟨vrbN_ok _ (List.of_mem_zip hp).1, (List.of_mem_zip hp).2⟩
  refine ⟨by omega, by omega, fun s hs => ?_, ?_, by omega, by omega, fun f hf => ?_, ?_, fun f hf r hr => ?_, ?_, rk.len, rk.bd, rk.no⟩
  · obtain ⟨k1, k2⟩ := tk s.2 (List.of_mem_zip hs).2
    refine ⟨fun z => ?_, k1.hi, fun r hr => ⟨(k1.bd r hr).1, k2 r hr⟩⟩
    have := k1.lo
    rw [z] at this; cases this
  · unfold stksOf
    exact stkN_nd.sublist (zip_sub stkN W.tabs)
  · obtain ⟨g1, g2⟩ := fm f hf
    have k := fk _ g2
    refine ⟨k.fr, g1, fun x hx => ?_⟩
    unfold Fr.slots slotsL at hx
    rcases List.mem_append.mp (LM.srt_mem.mp hx) with hx | hx
    · exact k.nb x hx
    · exact k.cb x (Option.mem_toList.mp hx)
  · unfold frsOf
    rw [List.map_map]
    exact vrbN_nd.sublist (zip_sub vrbN W.fs)
  · obtain ⟨g1, g2⟩ := fm f hf
    have k := fk _ g2
    obtain ⟨t, ht, he⟩ := ta
    obtain ⟨i, hi⟩ := List.getElem?_of_mem ht
    have hil := (List.getElem?_eq_some_iff.mp hi).1
    have h4 : i < stkN.length := by show i < 4; omega
    refine ⟨(stkN[i], t), List.mem_of_getElem? (i := i) (List.getElem?_zip_eq_some.mpr ⟨List.getElem?_eq_getElem h4, hi⟩), ?_⟩
    rw [he]
    have b := k.fr.nouns.bd r hr
    exact rng_mem.mpr ⟨b.1, k.nb r hr⟩
  · obtain ⟨f, hf, he⟩ := fc
    obtain ⟨i, hi⟩ := List.getElem?_of_mem hf
    have hil := (List.getElem?_eq_some_iff.mp hi).1
    have h4 : i < vrbN.length := by show i < 4; omega
    exact ⟨frOf (vrbN[i], f), List.mem_map.mpr ⟨(vrbN[i], f), List.mem_of_getElem? (i := i) (List.getElem?_zip_eq_some.mpr ⟨List.getElem?_eq_getElem h4, hi⟩), rfl⟩, he⟩
def MkS (K : PySem.W.Frag) (B1 : Hp) (D : Addr) (ss : List St2) (i : Nat) (H' : Hp) : Prop := ∃ (Bk : Hp) (xs : List Addr), Ex B1 Bk ∧ Bk D = none ∧ Ex Bk H' ∧ H' D = some (.lst (xs.map V.ref)) ∧ Paired (fun x (s : St2) => StockAt K Bk x s.1 s.2) xs (ss.take i)
def MkF (K : PySem.W.Frag) (B1 : Hp) (a ra np sa vp g : Addr) (fs : List Fr) (i : Nat) (σ' : L2.St) (H' : Hp) : Prop := ∃ (Bk : Hp) (ys : List Addr) (v6 v7 : Option V), σ' = [some (.ref a), some (.ref ra), some (.ref np), some (.ref sa), some (.ref vp), some (.ref g), v6, v7, none] ∧ Ex B1 Bk ∧ Bk g = none ∧ Ex Bk H' ∧ H' g = some (.lst (ys.map V.ref)) ∧ Paired (FrAt K Bk) ys (fs.take i)
theorem atI_str {ns : List Str} {i : Nat} {s : Str} (h : ns[i]? = some s) : atI (ns.map V.str) (i : Int) = some (.str s) := atI_nat (by rw [List.getElem?_map, h]; rfl)
def sp__law_make (K : PySem.W.Frag) : Sp := fun vs H Q _ => ∃ (a : Addr) (W : Wd), vs = [.ref a] ∧ WdAt H a W ∧ WdOk W ∧ ∀ x L H', Ex H H' → TgAt K H' x (frsOf W) L → (∀ c, c ∈ L ↔ Path W.cs c.1 c.2) → Q (.ref x) H'
abbrev n__law_make : List Str := ["_law_world_here", "_law_roles", "_law_names", "_law_stocks", "_law_verbs", "_law_frames_here", "_law_k", "_law_frame", "_law_role"]
theorem sc__law_make : FnScope n__law_make ["_law_world_here"] (defScope s__law_make) := ⟨rfl, rfl, rfl, by decide +kernel, rfl, by decide +kernel, by decide +kernel⟩
theorem fn__law_make (M : Mods P K mg base) : Fn P w K mg base CX0 7 "_law_make" ["_law_world_here"] [] (sp__law_make K) := by
  have nd := sc__law_make.nd
  have h_Tongue := fn_Tongue_init (w := w) M
  have h_Stock := fn_Stock_init (w := w) M
  have h_Frame := fn_Frame_init (w := w) M
  refine Fn.mk0 M.F__law_make M.g__law_make sc__law_make (fun vs H Q E h => ?_) (fun fd F => F.bindsN fun _ _ _ _ _ _ us hl => match us, hl with | [_], _ => rfl) fun cdv A outer s H vs Q E hr h => ⟨_,
    (pss_cons (ps_setLc (i := 1) (own := [("_law_role", 8)]) rfl nd rfl rfl (sw_true rfl rfl rfl (by decide +kernel)) (pi_range1 rfl M.z_range (pa_cons (pe_ix ix_list (pv 0) pe_int (fun _ _ => rfl)) pa_nil)) (blkOk_by (N := n__law_make) (sc := (defScope s__law_make)) (by decide +kernel)) (fun _ _ _ _ _ => (pg_name (i := 8) nd rfl (.inl rfl))) (fun _ _ _ _ _ => pts_nil) (fun _ _ _ _ _ => (pe_ix (show IxR _ (rIxT K) from ix_tup) (pe_tup (pa_cons pe_str (pa_cons pe_str (pa_cons pe_str (pa_cons pe_str (pa_cons pe_str (pa_cons pe_str pa_nil))))))) (pv 8) (fun _ _ => rfl)))) (pss_cons (ps_set (i := 2) nd rfl (.inr rfl) (pe_tup (pa_cons pe_str (pa_cons pe_str (pa_cons pe_str (pa_cons pe_str pa_nil)))))) (pss_cons (ps_setLc (i := 3) (own := [("_law_k", 6)]) rfl nd rfl rfl (sw_true rfl rfl rfl (by decide +kernel)) (pi_range1 rfl M.z_range (pa_cons (pe_callB call_len_seq rfl M.z_len LW.boot_len (pa_cons (pe_ix ix_list (pv 0) pe_int (fun _ _ => rfl)) pa_nil)) pa_nil)) (blkOk_by (N := n__law_make) (sc := (defScope s__law_make)) (by decide +kernel)) (fun _ _ _ _ _ => (pg_name (i := 6) nd rfl (.inl rfl))) (fun _ _ _ _ _ => pts_nil) (fun _ _ _ _ _ => (pe_mkE h_Stock hr (by decide) rfl M.g_Stock (pa_cons (pe_ix (show IxR _ (rIxT K) from ix_tup) (pv 2) (pv 6) (fun _ _ => rfl)) (pa_cons (pe_ix (show IxR _ (rIxT K) from ix_tup) (pe_ix (show IxR _ (rIxL K) from ix_list) (pv 0) pe_int (fun _ _ => rfl)) (pv 6) (fun _ _ => rfl)) pa_nil))))) (pss_cons (ps_set (i := 4) nd rfl (.inl rfl) (pe_tup (pa_cons pe_str (pa_cons pe_str (pa_cons pe_str (pa_cons pe_str pa_nil)))))) (pss_cons (ps_set (i := 5) nd rfl (.inl rfl) (pe_lst pa_nil)) (pss_cons (ps_for PassesOwn.never rfl (pi_range1 rfl M.z_range (pa_cons (pe_callB call_len_seq rfl M.z_len LW.boot_len (pa_cons (pe_ix ix_list (pv 0) pe_int (fun _ _ => rfl)) pa_nil)) pa_nil)) (pg_name (i := 6) nd rfl (.inl rfl)) (pss_cons (ps_set (i := 7) nd rfl (.inl rfl) (pe_ix ix_tup (pe_ix ix_list (pv 0) pe_int (fun _ _ => rfl)) (pv 6) (fun _ _ => rfl))) (pss_one (ps_expr (pe_bm PySem.F.plainAttrs_list PySem.F.slot_list_append PySem.F.type_list_append mt_append (pv 5) (pa_cons (pe_mkE h_Frame hr (by decide) rfl M.g_Frame (pa_cons (pe_ix ix_tup (pv 4) (pv 6) (fun _ _ => rfl)) (pa_cons (pe_ix ix_tup (pv 7) pe_int (fun _ _ => rfl)) (pa_cons (pe_ix ix_tup (pv 7) pe_int (fun _ _ => rfl)) (pa_cons (pe_ix ix_tup (pv 7) pe_int (fun _ _ => rfl)) pa_nil))))) pa_nil)))))) (pss_one (ps_ret (pe_mkE h_Tongue hr (by decide) rfl M.g_Tongue (pa_cons (pv 1) (pa_cons (pv 3) (pa_cons (pv 5) (pa_cons (pe_ix ix_list (pv 0) pe_int (fun _ _ => rfl)) (pa_cons (pe_ix ix_list (pv 0) pe_int (fun _ _ => rfl)) pa_nil)))))))))))))), ?_⟩
  · obtain ⟨a, W, rfl, _⟩ := h; rfl
  · obtain ⟨a, W, rfl, hW, ok, hQ⟩ := h
    obtain ⟨t, f, r, hw, ⟨ps, hps, hts⟩, ⟨qs, hqs, hfs⟩, hr'⟩ := id hW
    have hpl : ps.length = W.tabs.length := hts.length
    have hql : qs.length = W.fs.length := hfs.length
    have n1 := ok.n1
    have n6 := ok.n6
    have t1 := ok.t1
    have t3 := ok.t3
    have f1 := ok.f1
    have f3 := ok.f3
    have ix : ∀ {σ : L2.St} {Hx : Hp} {j : Int} {v : V}, σ[0]? = some (some (.ref a)) → Ex H Hx → atI [.int (W.n : Int), .ref t, .ref f, .ref r, .str W.vb] j = some v → Ev (tOp (rIxL K) (tVar 0) (tC (.int j))) σ Hx v := fun hs e hv => ev_op (ev_var hs) ev_c (rv_ixL (sq_of (e _ _ hw)) hv)
    refine q_asgL (el_is (ys := (rolN.take W.n).map V.str) (el_lcR1 (n := (W.n : Int)) (fun _ => true) (fun i => .str (rolN.getD i "")) (ea_cons (ix rfl (Ex.refl _) rfl) ea_nil) ⟨by omega, by omega⟩ (fun _ => rfl) (fun _ _ _ _ => et_yes) fun i H1 e1 hi _ => ev_ixU (xs := rolN.map V.str) (eu_tup (ea_cons ev_c (ea_cons ev_c (ea_cons ev_c (ea_cons ev_c (ea_cons ev_c (ea_cons ev_c ea_nil)))))) (show 6 ≤ 100000 by decide)) (fun H2 e2 => ev_var rfl) (atI_str ?_)) (by rw [show ((W.n : Int)).toNat = W.n by omega]; exact given_roles W.n n6)) fun ra H1 na e1 hra => ?_
    · have : i < rolN.length := by show i < 6; omega
      rw [List.getD_eq_getElem?_getD, List.getElem?_eq_getElem this]; rfl
    refine q_asgU (xs := stkN.map V.str) (eu_tup (ea_cons ev_c (ea_cons ev_c (ea_cons ev_c (ea_cons ev_c ea_nil)))) (show 4 ≤ 100000 by decide)) fun np H2 nn e2 hnp => ?_
    have e12 := e1.trans e2
    refine wq_asg (w_lcR (n := W.tabs.length) (ea_cons (ev_is (ev_lenT (ix rfl e12 rfl) (st_of (e12 _ _ hps))) (by rw [List.length_map, hpl])) ea_nil) (by omega) fun H3 D e3 hD => ⟨MkS K H3 D (stksOf W), ⟨H3, [], Ex.refl _, hD, Ex.new hD, upd_same, .nil⟩, (fun i H4 hi hP => ?_), fun H4 hP => ?_⟩)
    · obtain ⟨Bk, xs, k1, k2, k3, hDl, hxs⟩ := hP
      refine ⟨rfl, (et_yes : EvT tYes _ H4 true) H4 (Ex.refl _) _ fun H5 e5 => ?_⟩
      rw [if_pos rfl]
      have e05 := ((((e12.trans e3).trans k1).trans k3).trans e5)
      have e25 := (((e3.trans k1).trans k3).trans e5)
      have hti : W.tabs[i]? = some (W.tabs[i]'hi) := List.getElem?_eq_getElem hi
      have hpi : i < ps.length := by omega
      have h4 : i < stkN.length := by show i < 4; omega
      obtain ⟨rows, hr1, hr2⟩ := paired_at hts (List.getElem?_eq_getElem hpi)
      have hni : stkN[i]? = some (stkN[i]'h4) := List.getElem?_eq_getElem h4
      have hnk := stkN_ok _ (List.mem_of_getElem? hni)
      generalize (stkN[i]'h4) = nm at hni hnk
      have hpx : (ps.map V.ref)[i]? = some (.ref (ps[i]'hpi)) := by rw [List.getElem?_map, List.getElem?_eq_getElem hpi]; rfl
      generalize (ps[i]'hpi) = pa at hr2 hpx
      have hsi : (stksOf W)[i]? = some (nm, rows) := List.getElem?_zip_eq_some.mpr ⟨hni, hr1⟩
      have hxl : xs.length = ((stksOf W).take i).length := hxs.length
      rw [List.length_take] at hxl
      refine w_stock (name := nm) (rows := rows) (a := pa) (ev_op (ev_var rfl) (ev_var rfl) (rv_ixT (st_of (e25 _ _ hnp)) (atI_str hni))) (ev_op (ix rfl e05 rfl) (ev_var rfl) (rv_ixT (st_of (e05 _ _ hps)) (atI_nat hpx))) (hr2.ex e05) (ok.tk rows (List.mem_of_getElem? hr1)).1 hnk fun x H6 e6 nx hs => ?_
      have hD6 := e6 _ _ (e5 _ _ hDl)
      obtain ⟨y1, y2, y3⟩ := kn_next (X := .lst (xs.map V.ref ++ [.ref x])) ((k3.trans e5).trans e6) k2
      refine ⟨xs.map V.ref, hD6, sz_lt (by rw [List.length_map]; omega), L2.del H6 D, xs ++ [x], k1.trans y1, y2, y3, by rw [List.map_append]; exact upd_same, ?_⟩
      rw [List.take_succ, hsi]
      exact LG.paired_app (Paired.mapP hxs fun _ _ w => StockAt.ex y1 w) (hs.del hD6)
    obtain ⟨Bk, xs, k1, k2, k3, hDl, hxs⟩ := hP
    have e04 := ((e12.trans e3).trans k1).trans k3
    have hra4 := ((e2.trans e3).trans (k1.trans k3)) _ _ hra
    have hzl : (stksOf W).length = W.tabs.length := by unfold stksOf; rw [List.length_zip]; show min 4 _ = _; omega
    rw [← hzl, List.take_length] at hxs
    have hxs4 : Paired (fun x (s : St2) => StockAt K H4 x s.1 s.2) xs (stksOf W) := Paired.mapP hxs fun _ _ w => StockAt.ex k3 w
    refine q_asgU (xs := vrbN.map V.str) (eu_tup (ea_cons ev_c (ea_cons ev_c (ea_cons ev_c (ea_cons ev_c ea_nil)))) (show 4 ≤ 100000 by decide)) fun vp H5 nv e5 hvp => ?_
    refine q_asgL (el_lst ea_nil (Nat.zero_le _)) fun g H6 ng e6 hg => ?_
    have e06 := (e04.trans e5)
    refine q_forR1 (n := (W.fs.length : Int)) (ea_cons (ev_is (ev_lenT (ix rfl (e06.trans e6) rfl) (st_of ((e06.trans e6) _ _ hqs))) (by rw [List.length_map, hql])) ea_nil) ⟨by omega, by omega⟩ (MkF K H5 a ra np D vp g (frsOf W)) (fun H7 e7 => ⟨H5, [], none, none, rfl, Ex.refl _, ng, e6.trans e7, e7 _ _ hg, .nil⟩) (fun i σ' H7 hi hP => ?_) (fun σ' H7 hP => ?_)
    · obtain ⟨Bk, ys, v6, v7, rfl, c1, c2, c3, hgl, hys⟩ := hP
      have hi' : i < W.fs.length := by omega
      have e07 := (e06.trans c1).trans c3
      have hqi : i < qs.length := by omega
      obtain ⟨fd, hf1, hf2⟩ := paired_at hfs (List.getElem?_eq_getElem hqi)
      have hqx : (qs.map V.ref)[i]? = some (.ref (qs[i]'hqi)) := by rw [List.getElem?_map, List.getElem?_eq_getElem hqi]; rfl
      generalize (qs[i]'hqi) = q at hf2 hqx
      obtain ⟨m, hq1, hq2⟩ := hf2
      have h4 : i < vrbN.length := by show i < 4; omega
      have hni : vrbN[i]? = some (vrbN[i]'h4) := List.getElem?_eq_getElem h4
      have hnk := vrbN_ok _ (List.mem_of_getElem? hni)
      generalize (vrbN[i]'h4) = nm at hni hnk
      have hsi : (frsOf W)[i]? = some (frOf (nm, fd)) := by
        unfold frsOf
        rw [List.getElem?_map, show (vrbN.zip W.fs)[i]? = some (nm, fd) from List.getElem?_zip_eq_some.mpr ⟨hni, hf1⟩]; rfl
      have hyl : ys.length = ((frsOf W).take i).length := hys.length
      rw [List.length_take] at hyl
      refine q_asg (v := .ref q) (ev_op (ix rfl e07 rfl) (ev_var rfl) (rv_ixT (st_of (e07 _ _ hqs)) (atI_nat hqx))) fun H8 e8 => ?_
      have e08 := e07.trans e8
      have hg8 := e8 _ _ hgl
      have hv8 := ((c1.trans c3).trans e8) _ _ hvp
      refine w_drop (w_bm (w_ev (x := .ref g) (ev_var rfl) fun H9 e9 => ⟨.inl ⟨rfl, _, sq_of (e9 _ _ hg8)⟩, w_consW (w_frame (name := nm) (ns := fd.ns) (cl := fd.cl) (ag := fd.ag) (a := m) (ev_op (ev_var rfl) (ev_var rfl) (rv_ixT (st_of (e9 _ _ hv8)) (atI_str hni))) (ev_op (ev_var rfl) ev_c (rv_ixT (st_of (e9 _ _ (e08 _ _ hq1))) rfl)) (ev_op (ev_var rfl) ev_c (rv_ixT (st_of (e9 _ _ (e08 _ _ hq1))) rfl)) (ev_op (ev_var rfl) ev_c (rv_ixT (st_of (e9 _ _ (e08 _ _ hq1))) rfl)) (e9 _ _ (e08 _ _ hq2)) (ok.fk fd (List.mem_of_getElem? hf1)).fr hnk fun x H10 e10 nx hs => w_nil ?_)⟩))
      have hg10 := e10 _ _ (e9 _ _ hg8)
      obtain ⟨y1, y2, y3⟩ := kn_next (X := .lst (ys.map V.ref ++ [.ref x])) (((c3.trans e8).trans e9).trans e10) c2
      refine ⟨g, ys.map V.ref, .ref x, rfl, rfl, hg10, sz_lt (by rw [List.length_map]; omega), L2.del H10 g, ys ++ [x], _, _, rfl, c1.trans y1, y2, y3, by rw [List.map_append]; exact upd_same, ?_⟩
      rw [List.take_succ, hsi]
      exact LG.paired_app (Paired.mapP hys fun _ _ w => FrameAt.ex y1 w) (FrameAt.del hg10 hs)
    obtain ⟨Bk, ys, v6, v7, rfl, c1, c2, c3, hgl, hys⟩ := hP
    have hfl : (frsOf W).length = W.fs.length := by unfold frsOf; rw [List.length_map, List.length_zip]; show min 4 _ = _; omega
    rw [show ((W.fs.length : Int)).toNat = (frsOf W).length by omega, List.take_length] at hys
    have e07 := (e06.trans c1).trans c3
    have e47 := (e5.trans c1).trans c3
    have ton := ok.ton
    refine w_ret (w_make (w_cons (x := .ref ra) (ev_var rfl) fun H8 e8 => w_cons (x := .ref D) (ev_var rfl) fun H9 e9 => w_cons (x := .ref g) (ev_var rfl) fun H10 e10 => w_cons (x := .ref r) (ix rfl (((e07.trans e8).trans e9).trans e10) rfl) fun H11 e11 => w_cons (x := .str W.vb) (ix rfl ((((e07.trans e8).trans e9).trans e10).trans e11) rfl) fun H12 e12' => w_nil fun x dx nx nd ne => ?_))
    have e712 := (((e8.trans e9).trans e10).trans e11).trans e12'
    have e412 := e47.trans e712
    have e012 := e07.trans e712
    have hrl : (rolN.take W.n).length = W.n := by rw [List.length_take]; show min W.n 6 = W.n; omega
    refine ⟨x, dx, ra, D, g, r, W.vb, rolN.take W.n, xs, ys, stksOf W, frsOf W, W.cs, H12, rfl, upd_same, ex_mk1 nx nd ne, nx, e412 _ _ hra4, by omega, by omega, fun s hs => rolN_ok s (List.mem_of_mem_take hs), rolN_nd.sublist (List.take_sublist _ _), e412 _ _ hDl, Paired.mapP hxs4 fun _ _ w => StockAt.ex e412 w, e712 _ _ hgl, Paired.mapP hys fun _ _ w => FrameAt.ex (c3.trans e712) w, hr'.ex e012, ok.vb, ton, fun L H' e ht hL hl => ⟨rfl, hQ x L H' (e012.trans e) ⟨ht, fun f hf => (ton.fk f hf).1.nouns, hl⟩ hL⟩⟩
end
end LO

set_option Elab.async false
set_option linter.all false
set_option maxRecDepth 100000
set_option maxHeartbeats 4000000
namespace LO
open PySem PySem.Spec PyProof.Rows L2 LG LW LC LM Evl
/-! ### isinstance(e, C), e the exception that a suite holds -/
def rIsX (K : PySem.W.Frag) (a : Addr) (cls : Value) (d : Option Addr) : List V → Hp → VK → Prop := fun xs H Q => ∃ (D : Addr) (c : V) (cv : Value) (b : Bool), cls = .ref D ∧ ExcC K D ∧ xs = [.ref a, c] ∧ (∀ u, RelV c u → u = cv) ∧ PySem.W.kitOne K (.ref D) cv = some b ∧ (d = none ∨ ∃ dd fs, d = some dd ∧ H dd = some (.xd fs)) ∧ Q (.bl b) H
theorem call_isX {X : Cx} {a : Addr} {oe : Obj} {cls : Value} {d : Option Addr} {pn : List (Addr × Obj)} (hz : Zc cls d oe) (hf : ∃ vs, oe.data = .fields vs) : CallR (X.suite a ((a, oe) :: pn)) (.builtin "isinstance") (rIsX X.K a cls d) := by
  intro pins s σ H xs us Q I r h
  obtain ⟨D, c, cv, b, rfl, C, rfl, hcv, e, hd, q⟩ := h
  obtain ⟨u1, u2, rfl, r1, r2⟩ := vals2 r
  obtain rfl : u1 = Value.ref a := r1
  have := hcv _ r2
  subst this
  have at_ := (I.pin (a, oe) (List.mem_append.mpr (.inl List.mem_cons_self))).1
  obtain ⟨vs, hv⟩ := hf
  have no : PySem.W.notCls oe = true := by unfold PySem.W.notCls; rw [hv] <;> rfl
  have J : ∃ od, PySem.W.InstAt s.heap a oe D od := by
    rcases hd with rfl | ⟨dd, fs, rfl, hx⟩
    · exact ⟨none, at_, hz.1, no, by rw [hz.2]; trivial⟩
    · obtain ⟨m, hns, _⟩ := (I.hok dd _ hx : ObjOk X.prog X.w H s.heap dd (.xd fs))
      obtain ⟨od, ho, _⟩ := lookIn_ns hns
      exact ⟨some od, at_, hz.1, no, by rw [hz.2]; exact ho⟩
  obtain ⟨od, J⟩ := J
  have hcl : (PySem.W.clsIn X.K D).isSome = true := by
    obtain ⟨cd, hc, _⟩ := PySem.W.any_some C.hd
    rw [hc]; rfl
  exact PySem.W.kia_one (PySem.W.kitx_exc hcl C.hg C.hk C.hs C.ha C.hn C.ht C.hm) I.kIn J e (fun z => nomatch z) fun tk => ⟨.bl b, H, I.kept (t' := tk) fun _ _ z => z, rfl, q⟩
/-! ### list(g), g may let an exception out, in a try -/
theorem pe_listGS {X : Cx} {k : Nat} {e : Expr} {nm : Str} {p pos : Pos} {tg : XK → TGen} {E : L2.St → XK} (h : ∀ E', PGen X k e (tg E') E') (hx : ∀ σ, PassesAt (L2.CX X.prog X.w) X σ (E σ)) (hns : ∀ σ, NoStop X.K (E σ)) (hr : Room (k + 3) X.A) (hg : Gl X nm) (hmg : X.mg nm = none) (hv : bootBuiltins nm = some (.type "list"))
    (hnm : nm ≠ "__name__" := by decide) (hdb : (nm == ("__debug__" : Str)) = false := by decide) (he : starEach [e] X.env = (false, eval e X.env) :: starEach [] X.env := by rfl) :
    PE X (.Call (.Name nm p) [e] [] pos) (fun σ H Q => tListG (tg (E σ)) σ H Q) := by
  refine ⟨fun pins s σ H Q I hq => ?_⟩
  refine wpAny_Call_Name_kw (ld_blt I hg hmg hv (PyProof.Rows.callWith_type1 ?_ he rfl) hnm hdb)
  rw [he]
  refine Calls.spliced_cons (thn ((h (E σ)).run pins s σ H _ I hq) fun u s1 hh => Calls.spliced_nil ?_)
  obtain ⟨H1, sc, ex, I1, hex, hG⟩ := hh
  have hsz : sc.heap.objs.size ≤ s1.heap.objs.size := by
    obtain ⟨_, _, _, _, h1, h2, _⟩ := id hG
    exact Nat.le_trans h1 (Nat.le_of_lt h2)
  refine call_list_new hr I1.ok.frames hG (fun S s' acc c H' ys q0 q1 q2 hl q3 q4 q5 q6 q7 q8 => ⟨.ref S, upd H' S (.lst ys), I1.drained (Nat.le_trans hsz q0) hl q1 q2 hex q3 q4 q5 q6 q7, rfl, q8 S q7⟩) fun x s' g hc => ?_
  obtain ⟨a, B, H', cls, d, z1, fl, z2, ub, z3, z4, z5, z6⟩ := id hc
  have kin : X.K.In s'.heap := I1.ok.mod.kin.keeps fun b o eb => by
    obtain ⟨k1, k2⟩ := I1.bs b o eb
    refine fl.1 b o (ub.keep b o k1 k2 fun hm => ?_)
    rcases List.mem_cons.mp (I1.stkSub b hm) with z | z
    · have h1 := Heap.lt_size eb
      have h2 := Nat.le_trans I1.ok.bsz I1.ok.above
      rw [z] at h1
      exact absurd (Nat.lt_of_lt_of_le h1 h2) (Nat.lt_irrefl _)
    · exact absurd z (I1.ok.nofr eb)
  exact ⟨notStop_of (hns σ) kin hc, hx σ pins H1 sc x _ I1 ⟨a, B, H', cls, d, z1, fl, z2, ub, z3, z4, allBare_setGen z5 rfl, z6⟩⟩
theorem gss_any {X : Cx} {st : List Stmt} : GSs X st (fun _ _ _ _ => False) := ⟨fun _ _ _ _ _ _ _ _ _ _ _ _ _ _ _ _ _ _ _ _ _ h => h.elim⟩
/-! ### what besides is asked of the module -/
structure Mods2 (P : Program) (K : PySem.W.Frag) (mg : Str → Option Value) (base : Heap) : Prop where
  m : Mods P K mg base
  ns : PySem.W.subIn K (.ref (ga K "NoFrame")) (.type "StopIteration") = some false
section
variable {P : Program} {w : World} {K : PySem.W.Frag} {mg : Str → Option Value} {base : Heap}
/-- orders_of of a frame that is not there -/
def sp_ordersX (K : PySem.W.Frag) : SpG := fun vs H _ E => ∃ (x : Addr) (f : Int) (fs : List Fr) (L : List Pr), vs = [.ref x, .int f] ∧ TgAt K H x fs L ∧ ¬ InF f fs ∧ XNF K (.int f) H E
abbrev n_orders_of : List Str := ["tongue", "frame", "left", "couples", "row"]
theorem gs_orders_of : GScope n_orders_of ["tongue", "frame"] (defScope s_orders_of) := ⟨rfl, rfl, rfl, by decide +kernel, rfl, by decide +kernel, by decide +kernel⟩
theorem gfn_orders_of (M : Mods P K mg base) : ∃ f fd, GFn P w K mg base 5 f fd ["tongue", "frame"] (sp_ordersX K) ∧ mg "orders_of" = some (.ref f) ∧ PySem.W.keepIn K (.ref f) = true ∧ Binds K fd ["tongue", "frame"] [] := by
  have nd := gs_orders_of.nd
  have h_slots_of := (fn_slots_of (w := w) M).up (show 4 ≤ 4 by decide)
  obtain ⟨fd, F⟩ := M.F_orders_of
  refine ⟨_, fd, ?_, M.g_orders_of, F.kp, F.bindsN fun _ _ _ _ _ _ us hl => match us, hl with | [_, _], _ => rfl⟩
  obtain ⟨oc, od, dV, kV, doc, pm, an, cdv, ct, osl, rfl, lk, hcd, _, _⟩ := F.ex
  refine gfn_of lk hcd gs_orders_of (fun vs H Q E h => ?_) fun A outer s H vs Q E pn hr h => ⟨_, gss_cons (gs_ps (ps_set (i := 2) nd rfl (.inl rfl) (pe_fn h_slots_of hr (passes_call takes_gcx (fun _ _ _ _ h => h)) (pa_cons (pv 0) (pa_cons (pv 1) pa_nil))))) gss_any, ?_⟩
  · obtain ⟨x, f, fs, L, rfl, _⟩ := h; rfl
  · obtain ⟨x, f, fs, L, rfl, ht, hn, hE⟩ := h
    exact en_slots (ea_cons (ev_var rfl) (ea_cons (ev_var rfl) ea_nil)) ht hn hE H (Ex.refl H) _
end
end LO

set_option Elab.async false
set_option linter.all false
set_option maxRecDepth 100000
set_option maxHeartbeats 4000000
namespace LO
open PySem PySem.Spec PyProof.Rows L2 LG LW LC LM Evl
theorem pe_fnS {X : Cx} {CX : CXT} {k : Nat} {x : Str} {ps : List Str} {sp : Sp} {E : L2.St → XK} {e : Expr} {es : List Expr} {t : TA} {p pos : Pos} (F : Fn X.prog X.w X.K X.mg X.base CX k x ps [] sp) (hr : Room k X.A) (hx : ∀ σ, PassesAt CX X σ (E σ)) (ha : PA X (e :: es) t) (hg : Gl X x := by rfl)
    (hdb : (x == ("__debug__" : Str)) = false := by decide) (he : starEach (e :: es) X.env = (false, eval e X.env) :: starEach es X.env := by rfl) (hpl : (backTo pos (starEach es X.env)).any (·.1) = false := by rfl) : PE X (.Call (.Name x p) (e :: es) [] pos) (tCallS sp E t) := by
  obtain ⟨f, fd, ds, F1, hm, hk, hb, hd⟩ := F
  cases hd
  exact pe_callS F1 hr hg hm hk hb hx ha hdb he hpl
/-- the wish W, of NoFrame alone -/
def WF (K : PySem.W.Frag) (W : WX) : L2.St → XK := fun σ cls d H => W cls d σ H ∧ cls = .ref (ga K "NoFrame")
theorem passF {X : Cx} {W : WX} (K : PySem.W.Frag) (tk : Takes X W) (σ : L2.St) : PassesAt (L2.CX X.prog X.w) X σ (WF K W σ) := fun pins H s e s' I c => passAt tk σ pins H s e s' I (by
  obtain ⟨a, B, H', cls, d, z1, z2, z3, z4, z5, z6, z7, z8⟩ := c
  exact ⟨a, B, H', cls, d, z1, z2, z3, z4, z5, z6, z7, z8.1⟩)
section
variable {P : Program} {w : World} {K : PySem.W.Frag} {mg : Str → Option Value} {base : Heap}
theorem rc_isX {a D C : Addr} {d : Option Addr} {b : Bool} {H : Hp} (hx : ExcC K D) (hk : PySem.W.kitOne K (.ref D) (.ref C) = some b) (hd : d = none ∨ ∃ dd fs, d = some dd ∧ H dd = some (.xd fs)) : RC (rIsX K a (.ref D) d) [.ref a, .ref C] H (.bl b) := fun H1 e Q q =>
  ⟨D, .ref C, .ref C, b, rfl, hx, rfl, fun u h => h, hk, hd.imp id fun ⟨dd, fs, h1, h2⟩ => ⟨dd, fs, h1, e _ _ h2⟩, q H1 (Ex.refl _)⟩
theorem s_asgXS {sp : Sp} {E : L2.St → XK} {t : TA} {vs : List V} {g : TG} {D : Ends} {σ : L2.St} {H : Hp} (ha : EvA t σ H vs) (hs : ∀ H1, Ex H H1 → ∀ Q, sp vs H1 Q (E σ)) : tAsg (tCallS sp E t) g D σ H := ha H (Ex.refl H) _ fun H1 e => hs H1 e _
theorem s_asgXL {sp : SpG} {E : L2.St → XK} {t : TA} {vs : List V} {g : TG} {D : Ends} {σ : L2.St} {H : Hp} (ha : EvA t σ H vs) (hs : ∀ H1, Ex H H1 → ∀ Q, sp vs H1 Q (E σ)) : tAsg (fun σ H Q => tListG (tCallG sp [] (E σ) t) σ H Q) g D σ H := ha H (Ex.refl H) _ fun H1 e => by
  have h := fun Q => hs H1 e Q
  rw [← List.append_nil vs] at h
  exact h _
/-! ### the suite of _law_asked -/
abbrev tIsX (K : PySem.W.Frag) (a : Addr) (cls : Value) (d : Option Addr) (C : Addr) : TT := tB (tCB (rIsX K a cls d) (tCons (tVar 5) (tCons (tC (.ref C)) tNil)))
abbrev tSay (s : Str) : TS := tAsg (tC (.str s)) (gSub (tVar 4) (tC (.int 0)) rSetL)
def tSuA (K : PySem.W.Frag) (a : Addr) (cls : Value) (d : Option Addr) : TS := tSeq (tSay "other") (tSeq (tIfS (tIsX K a cls d (ga K "NoOrder")) (tSay "order") tNext)
  (tIfS (tIsX K a cls d (ga K "NoFrame")) (tSeq (tSay "frame") (tAsg (tXf a cls d (ga K "NoFrame") "frame" (tVar 5)) (gSub (tVar 4) (tC (.int 1)) rSetL))) tNext))
section
variable {σ : L2.St} {H : Hp} {D : Ends} {a l : Addr}
theorem su_NO (M : Mods P K mg base) (h4 : σ[4]? = some (some (.ref l))) (h5 : σ[5]? = some (some (.ref a))) (hl : H l = some (.lst [.str "answer", .non])) (k : ∀ H', Ex (del H l) H' → H' l = some (.lst [.str "order", .non]) → D.nx σ H') : tSuA K a (.ref (ga K "NoOrder")) none D σ H := by
  refine q_setL (j := 0) hl ev_c (ev_var h4) (ev_is ev_c rfl) (show 0 < 2 by decide) fun H1 e1 => ?_
  have l1 : upd H1 l (.lst [.str "other", .non]) l = some (.lst [.str "other", .non]) := upd_same
  refine q_when (b := true) (et_B (ev_cb (ea_cons (ev_var h5) (ea_cons ev_c ea_nil)) (rc_isX M.exc_NoOrder M.kit_NoOrder_NoOrder (.inl rfl)))) (fun _ H2 e2 => ?_) (fun z => by cases z)
  refine s_setL (j := 0) (e2 _ _ l1) ev_c (ev_var h4) (ev_is ev_c rfl) (show 0 < 2 by decide) fun H3 e3 => ?_
  have l2 : upd H3 l (.lst [.str "order", .non]) l = some (.lst [.str "order", .non]) := upd_same
  refine s_when (b := false) (et_B (ev_cb (ea_cons (ev_var h5) (ea_cons ev_c ea_nil)) (rc_isX M.exc_NoOrder M.kit_NoOrder_NoFrame (.inl rfl)))) (fun z => by cases z) fun _ H4 e4 => ?_
  exact k H4 ((del_upd ((del_upd (del_ex e1)).trans (e2.trans e3))).trans e4) (e4 _ _ l2)
theorem su_NF {dd : Addr} {f : V} (M : Mods P K mg base) (h4 : σ[4]? = some (some (.ref l))) (h5 : σ[5]? = some (some (.ref a))) (hl : H l = some (.lst [.str "answer", .non])) (hd : H dd = some (.xd [("frame", f)])) (k : ∀ H', Ex (del H l) H' → H' l = some (.lst [.str "frame", f]) → D.nx σ H') : tSuA K a (.ref (ga K "NoFrame")) (some dd) D σ H := by
  have dl : dd ≠ l := fun z => by rw [z, hl] at hd; cases hd
  refine q_setL (j := 0) hl ev_c (ev_var h4) (ev_is ev_c rfl) (show 0 < 2 by decide) fun H1 e1 => ?_
  have l1 : upd H1 l (.lst [.str "other", .non]) l = some (.lst [.str "other", .non]) := upd_same
  have d1 : upd H1 l (.lst [.str "other", .non]) dd = some (.xd [("frame", f)]) := by rw [upd_ne dl]; exact e1 _ _ hd
  refine q_when (b := false) (et_B (ev_cb (ea_cons (ev_var h5) (ea_cons ev_c ea_nil)) (rc_isX M.exc_NoFrame M.kit_NoFrame_NoOrder (.inr ⟨_, _, rfl, d1⟩)))) (fun z => by cases z) fun _ H2 e2 => ?_
  refine s_when (b := true) (et_B (ev_cb (ea_cons (ev_var h5) (ea_cons ev_c ea_nil)) (rc_isX M.exc_NoFrame M.kit_NoFrame_NoFrame (.inr ⟨_, _, rfl, e2 _ _ d1⟩)))) (fun _ H3 e3 => ?_) (fun z => by cases z)
  refine q_setL (j := 0) (e3 _ _ (e2 _ _ l1)) ev_c (ev_var h4) (ev_is ev_c rfl) (show 0 < 2 by decide) fun H4 e4 => ?_
  have l4 : upd H4 l (.lst [.str "frame", .non]) l = some (.lst [.str "frame", .non]) := upd_same
  have d4 : upd H4 l (.lst [.str "frame", .non]) dd = some (.xd [("frame", f)]) := by rw [upd_ne dl]; exact e4 _ _ (e3 _ _ (e2 _ _ d1))
  refine s_setL (j := 1) l4 (v := f) (fun H5 e5 Q q => (ev_var h5 : Ev (tVar 5) σ _ (.ref a)) H5 e5 _ fun H6 e6 => ⟨rfl, rfl, dd, _, f, rfl, e6 _ _ (e5 _ _ d4), rfl, q H6 e6⟩) (ev_var h4) (ev_is ev_c rfl) (show 1 < 2 by decide) fun H7 e7 => ?_
  exact k _ (del_upd ((del_upd ((del_upd (del_ex e1)).trans ((e2.trans e3).trans e4))).trans e7)) upd_same
end
abbrev tWay (i : Int) : TT := tTest (tOp rEq (tVar 3) (tC (.int i)))
abbrev tPut (te : TE) : TS := tAsg te (gSub (tVar 4) (tC (.int 1)) rSetL)
abbrev ta3 : TA := tCons (tVar 0) (tCons (tVar 1) (tCons (tVar 2) tNil))
abbrev ta2 : TA := tCons (tVar 0) (tCons (tVar 1) tNil)
def tBoA (K : PySem.W.Frag) (W : WX) : TS := tIfS (tWay 0) (tPut (tCallS (sp_check_order K) (WE W) ta3)) (tIfS (tWay 1) (tPut (tCallS (sp_order_place K) (WE W) ta3)) (tIfS (tWay 2) (tPut (tCallS (sp_order_at K) (WE W) ta3)) (tIfS (tWay 3) (tPut (tCallS (sp_how_many K) (WE W) ta2))
  (tPut (fun σ H Q => tListG (tCallG (sp_ordersX K) [] (WF K W σ) ta2) σ H Q)))))
/-! ### _law_asked -/
/-- refused as a row -/
def NoRow (H : Hp) (v : V) (left : List Int) (cs : List Pr) : Prop := ∃ t, ThAt H v t ∧ (rowB left t = false ∨ ∃ (r : Addr) (row : List Int), v = .ref r ∧ t = .seq (row.map V.int) ∧ RowA H r (row.map V.int) ∧ rowB left t = true ∧ keepsB row cs = false)
theorem NoRow.ex {H H' : Hp} {v : V} {left : List Int} {cs : List Pr} (e : Ex H H') (h : NoRow H v left cs) : NoRow H' v left cs := by
  obtain ⟨t, h1, h2⟩ := h
  exact ⟨t, h1.ex e, h2.imp id fun ⟨r, row, a1, a2, a3, a4⟩ => ⟨r, row, a1, a2, a3.ex e, a4⟩⟩
/-- refused: way 0, 1 a row, way 2 a place -/
def NoAns (H : Hp) (v : V) (way : Int) (fr : Fr) (L : List Pr) : Prop := ((way = 0 ∨ way = 1) ∧ NoRow H v fr.slots (fcs L fr)) ∨ (way = 2 ∧ flat4 v = true ∧ wholeB v (some 0) (some (cnt fr.slots (fcs L fr) - 1)) = false)
def WayOk (H : Hp) (v : V) (way : Int) : Prop := ((way = 0 ∨ way = 1) ∧ ∃ t, ThAt H v t) ∨ (way = 2 ∧ flat4 v = true) ∨ way = 3 ∨ way = 4
def sp__law_asked (K : PySem.W.Frag) : Sp := fun vs H Q _ => ∃ (x : Addr) (f : Int) (v : V) (way : Int) (fs : List Fr) (L : List Pr), vs = [.ref x, .int f, v, .int way] ∧ TgAt K H x fs L ∧
  ((¬ InF f fs ∧ WayOk H v way ∧ ∀ p H', H p = none → Ex H H' → H' p = some (.lst [.str "frame", .int f]) → Q (.ref p) H') ∨
   (∃ (j : Nat) (fr : Fr), f = (j : Int) ∧ fs[j]? = some fr ∧ NoAns H v way fr L ∧ ∀ p H', H p = none → Ex H H' → H' p = some (.lst [.str "order", .non]) → Q (.ref p) H'))
abbrev As0 (x : Addr) (f : Int) (v : V) (way : Int) (l : Addr) : L2.St := [some (.ref x), some (.int f), some v, some (.int way), some (.ref l), none]
section
variable {W : WX} {D : Ends} {H : Hp} {x l : Addr} {f way : Int} {v : V} {fs : List Fr} {L : List Pr}
theorem way_t {σ : L2.St} {i : Int} (h : σ[3]? = some (some (.int i))) : EvT (tWay i) σ H true := et_is (et_op (ev_var h) ev_c (rv_eq rfl)) (decide_eq_true rfl)
theorem way_f {σ : L2.St} {i j : Int} (h : σ[3]? = some (some (.int j))) (ne : j ≠ i) : EvT (tWay i) σ H false := et_is (et_op (ev_var h) ev_c (rv_eq rfl)) (decide_eq_false fun z => ne (V.int.inj z))
theorem asked_NF (ht : TgAt K H x fs L) (hn : ¬ InF f fs) (hw : WayOk H v way) (hE : ∀ d H', H d = none → Ex H H' → H' d = some (.xd [("frame", .int f)]) → W (.ref (ga K "NoFrame")) (some d) (As0 x f v way l) H') : tBoA K W D (As0 x f v way l) H := by
  have go : ∀ H2, Ex H H2 → XNF K (.int f) H2 (WE W (As0 x f v way l)) := fun H2 e2 d H' nd e hd => hE d H' (fresh_back e2 nd) (e2.trans e) hd
  rcases hw with ⟨rfl | rfl, t, hth⟩ | ⟨rfl, hf⟩ | rfl | rfl
  · exact s_if (way_t rfl) (fun _ H1 e1 => s_asgXS (ea_cons (ev_var rfl) (ea_cons (ev_var rfl) (ea_cons (ev_var rfl) ea_nil))) fun H2 e2 Q => ⟨x, f, fs, L, v, t, rfl, ht.ex (e1.trans e2), hth.ex (e1.trans e2), .inr ⟨hn, go _ (e1.trans e2)⟩⟩) (fun z => by cases z)
  · refine s_if (way_f rfl (by decide)) (fun z => by cases z) fun _ H1 e1 => ?_
    exact s_if (way_t rfl) (fun _ H2 e2 => s_asgXS (ea_cons (ev_var rfl) (ea_cons (ev_var rfl) (ea_cons (ev_var rfl) ea_nil))) fun H3 e3 Q => ⟨x, f, fs, L, v, t, rfl, ht.ex ((e1.trans e2).trans e3), hth.ex ((e1.trans e2).trans e3), .inr ⟨hn, go _ ((e1.trans e2).trans e3)⟩⟩) (fun z => by cases z)
  · refine s_if (way_f rfl (by decide)) (fun z => by cases z) fun _ H1 e1 => ?_
    refine s_if (way_f rfl (by decide)) (fun z => by cases z) fun _ H2 e2 => ?_
    exact s_if (way_t rfl) (fun _ H3 e3 => s_asgXS (ea_cons (ev_var rfl) (ea_cons (ev_var rfl) (ea_cons (ev_var rfl) ea_nil))) fun H4 e4 Q => ⟨x, f, fs, L, v, rfl, ht.ex (((e1.trans e2).trans e3).trans e4), hf, .inr ⟨hn, go _ (((e1.trans e2).trans e3).trans e4)⟩⟩) (fun z => by cases z)
  · refine s_if (way_f rfl (by decide)) (fun z => by cases z) fun _ H1 e1 => ?_
    refine s_if (way_f rfl (by decide)) (fun z => by cases z) fun _ H2 e2 => ?_
    refine s_if (way_f rfl (by decide)) (fun z => by cases z) fun _ H3 e3 => ?_
    exact s_if (way_t rfl) (fun _ H4 e4 => s_asgXS (ea_cons (ev_var rfl) (ea_cons (ev_var rfl) ea_nil)) fun H5 e5 Q => ⟨x, f, fs, L, rfl, ht.ex ((((e1.trans e2).trans e3).trans e4).trans e5), .inr ⟨hn, go _ ((((e1.trans e2).trans e3).trans e4).trans e5)⟩⟩) (fun z => by cases z)
  · refine s_if (way_f rfl (by decide)) (fun z => by cases z) fun _ H1 e1 => ?_
    refine s_if (way_f rfl (by decide)) (fun z => by cases z) fun _ H2 e2 => ?_
    refine s_if (way_f rfl (by decide)) (fun z => by cases z) fun _ H3 e3 => ?_
    refine s_if (way_f rfl (by decide)) (fun z => by cases z) fun _ H4 e4 => ?_
    exact s_asgXL (E := WF K W) (ea_cons (ev_var rfl) (ea_cons (ev_var rfl) ea_nil)) fun H5 e5 Q => ⟨x, f, fs, L, rfl, ht.ex ((((e1.trans e2).trans e3).trans e4).trans e5), hn, fun d H' nd e hd => ⟨go _ ((((e1.trans e2).trans e3).trans e4).trans e5) d H' nd e hd, rfl⟩⟩
theorem row3_no {H : Hp} {v : V} {t : Thing} {left : List Int} {cs : List Pr} {E : XK} {A : List Int → Prop} (h : rowB left t = false ∨ ∃ (r : Addr) (row : List Int), v = .ref r ∧ t = .seq (row.map V.int) ∧ RowA H r (row.map V.int) ∧ rowB left t = true ∧ keepsB row cs = false) (hE : XNO K H E) : Row3c K H v t left cs E A := by
  rcases h with h | ⟨r, row, h1, h2, h3, h4, h5⟩
  · exact .inl ⟨h, hE⟩
  · exact .inr ⟨r, row, h1, h2, h3, h4, .inl ⟨h5, hE⟩⟩
theorem asked_NO {j : Nat} {fr : Fr} (ht : TgAt K H x fs L) (hj : fs[j]? = some fr) (hw : NoAns H v way fr L) (hE : ∀ H', Ex H H' → W (.ref (ga K "NoOrder")) none (As0 x (j : Int) v way l) H') : tBoA K W D (As0 x (j : Int) v way l) H := by
  have go : ∀ H2, Ex H H2 → XNO K H2 (WE W (As0 x (j : Int) v way l)) := fun H2 e2 H' e => hE H' (e2.trans e)
  have rex : ∀ {t : Thing} H2, Ex H H2 → (rowB fr.slots t = false ∨ ∃ (r : Addr) (row : List Int), v = .ref r ∧ t = .seq (row.map V.int) ∧ RowA H r (row.map V.int) ∧ rowB fr.slots t = true ∧ keepsB row (fcs L fr) = false) → (rowB fr.slots t = false ∨ ∃ (r : Addr) (row : List Int), v = .ref r ∧ t = .seq (row.map V.int) ∧ RowA H2 r (row.map V.int) ∧ rowB fr.slots t = true ∧ keepsB row (fcs L fr) = false) := fun H2 e2 h => h.imp id fun ⟨r, row, a1, a2, a3, a4⟩ => ⟨r, row, a1, a2, a3.ex e2, a4⟩
  rcases hw with ⟨rfl | rfl, t, hth, hrow⟩ | ⟨rfl, hf, hwh⟩
  · exact s_if (way_t rfl) (fun _ H1 e1 => s_asgXS (ea_cons (ev_var rfl) (ea_cons (ev_var rfl) (ea_cons (ev_var rfl) ea_nil))) fun H2 e2 Q => ⟨x, j, fs, L, v, t, rfl, ht.ex (e1.trans e2), hth.ex (e1.trans e2), .inl ⟨j, fr, rfl, hj, row3_no (rex _ (e1.trans e2) hrow) (go _ (e1.trans e2))⟩⟩) (fun z => by cases z)
  · refine s_if (way_f rfl (by decide)) (fun z => by cases z) fun _ H1 e1 => ?_
    exact s_if (way_t rfl) (fun _ H2 e2 => s_asgXS (ea_cons (ev_var rfl) (ea_cons (ev_var rfl) (ea_cons (ev_var rfl) ea_nil))) fun H3 e3 Q => ⟨x, j, fs, L, v, t, rfl, ht.ex ((e1.trans e2).trans e3), hth.ex ((e1.trans e2).trans e3), .inl ⟨j, fr, rfl, hj, row3_no (rex _ ((e1.trans e2).trans e3) hrow) (go _ ((e1.trans e2).trans e3))⟩⟩) (fun z => by cases z)
  · refine s_if (way_f rfl (by decide)) (fun z => by cases z) fun _ H1 e1 => ?_
    refine s_if (way_f rfl (by decide)) (fun z => by cases z) fun _ H2 e2 => ?_
    exact s_if (way_t rfl) (fun _ H3 e3 => s_asgXS (ea_cons (ev_var rfl) (ea_cons (ev_var rfl) (ea_cons (ev_var rfl) ea_nil))) fun H4 e4 Q => ⟨x, j, fs, L, v, rfl, ht.ex (((e1.trans e2).trans e3).trans e4), hf, .inl ⟨j, fr, rfl, hj, .inl ⟨hwh, go _ (((e1.trans e2).trans e3).trans e4)⟩⟩⟩) (fun z => by cases z)
end
theorem NoAns.ex {H H' : Hp} {v : V} {way : Int} {fr : Fr} {L : List Pr} (e : Ex H H') (h : NoAns H v way fr L) : NoAns H' v way fr L := h.imp (fun h => ⟨h.1, h.2.ex e⟩) id
theorem WayOk.ex {H H' : Hp} {v : V} {way : Int} (e : Ex H H') (h : WayOk H v way) : WayOk H' v way := h.imp (fun ⟨h, t, ht⟩ => ⟨h, t, ht.ex e⟩) id
abbrev n__law_asked : List Str := ["_law_tongue", "_law_frame", "_law_thing", "_law_way", "_law_told", "wrong"]
theorem sc__law_asked : FnScope n__law_asked ["_law_tongue", "_law_frame", "_law_thing", "_law_way"] (defScope s__law_asked) := ⟨rfl, rfl, rfl, by decide +kernel, rfl, by decide +kernel, by decide +kernel⟩
theorem fn__law_asked (M2 : Mods2 P K mg base) : Fn P w K mg base CX0 10 "_law_asked" ["_law_tongue", "_law_frame", "_law_thing", "_law_way"] [] (sp__law_asked K) := by
  have M := M2.m
  have nd := sc__law_asked.nd
  have h_check_order := fn_check_order (w := w) M
  have h_order_place := fn_order_place (w := w) M
  have h_order_at := fn_order_at (w := w) M
  have h_how_many := fn_how_many_orders (w := w) M
  obtain ⟨fO, fdO, GO, gO, kO, bO⟩ := gfn_orders_of (w := w) M
  refine Fn.mk0 M.F__law_asked M.g__law_asked sc__law_asked (fun vs H Q E h => ?_) (fun fd F => F.bindsN fun _ _ _ _ _ _ us hl => match us, hl with | [_, _, _, _], _ => rfl) fun cdv A outer s H vs Q E hr h => ⟨_,
    (pss_cons (ps_set (i := 4) nd rfl (.inl rfl) (pe_lst (pa_cons pe_str (pa_cons pe_non pa_nil))))
      (pss_cons (ps_try_as (i := 5) (tb := tBoA K) (ts := tSuA K) (Wout := fun _ _ _ _ => False) rfl rfl nd rfl rfl ⟨rfl, by decide, .inl M.g_TongueError⟩ takes0
        (fun W pn xe tk _ => (pss_one (ps_if (pt_cmpR op_eq (pv 3) pe_int (nomark _)) (pss_one (ps_asg (pe_fnS (E := WE W) h_check_order (hr.mono (by decide)) (fun σ => passAt tk σ) (pa_cons (pv 0) (pa_cons (pv 1) (pa_cons (pv 2) pa_nil)))) (pg_sub (pv 4) pe_int set_list))) (pss_one (ps_if (pt_cmpR op_eq (pv 3) pe_int (nomark _)) (pss_one (ps_asg (pe_fnS (E := WE W) h_order_place hr (fun σ => passAt tk σ) (pa_cons (pv 0) (pa_cons (pv 1) (pa_cons (pv 2) pa_nil)))) (pg_sub (pv 4) pe_int set_list))) (pss_one (ps_if (pt_cmpR op_eq (pv 3) pe_int (nomark _)) (pss_one (ps_asg (pe_fnS (E := WE W) h_order_at hr (fun σ => passAt tk σ) (pa_cons (pv 0) (pa_cons (pv 1) (pa_cons (pv 2) pa_nil)))) (pg_sub (pv 4) pe_int set_list))) (pss_one (ps_if (pt_cmpR op_eq (pv 3) pe_int (nomark _)) (pss_one (ps_asg (pe_fnS (E := WE W) h_how_many hr (fun σ => passAt tk σ) (pa_cons (pv 0) (pa_cons (pv 1) pa_nil))) (pg_sub (pv 4) pe_int set_list))) (pss_one (ps_asg (pe_listGS (k := 5) (tg := fun E' => tCallG (sp_ordersX K) [] E' ta2) (E := WF K W) (fun E' => pgen_call GO (hr.mono (by decide)) rfl gO kO bO .nil (pa_cons (pv 0) (pa_cons (pv 1) pa_nil))) (fun σ => passF K tk σ) (fun σ cls d H h => by rw [h.2]; exact M2.ns) (hr.mono (by decide)) rfl M.z_list LW.boot_list) (pg_sub (pv 4) pe_int set_list))))))))))))
        (fun a oe cls d pn hz hf => (pss_cons (ps_asg pe_str (pg_sub (pv 4) pe_int set_list)) (pss_cons (ps_if (pt_val (pe_callB (call_isX hz hf) rfl M.z_isinstance LW.boot_isinstance (pa_cons (pv 5) (pa_cons (pe_gref M.g_NoOrder) pa_nil)))) (pss_one (ps_asg pe_str (pg_sub (pv 4) pe_int set_list))) pss_nil) (pss_one (ps_if (pt_val (pe_callB (call_isX hz hf) rfl M.z_isinstance LW.boot_isinstance (pa_cons (pv 5) (pa_cons (pe_gref M.g_NoFrame) pa_nil)))) (pss_cons (ps_asg pe_str (pg_sub (pv 4) pe_int set_list)) (pss_one (ps_asg (pe_xf M.xf_NoFrame M.fld_NoFrame hz hf (pv 5)) (pg_sub (pv 4) pe_int set_list)))) pss_nil))))))
      (pss_one (ps_ret (pv 4))))), ?_⟩
  · obtain ⟨x, f, v, way, fs, L, rfl, _⟩ := h; rfl
  · obtain ⟨x, f, v, way, fs, L, rfl, ht, h⟩ := h
    refine q_asgL (el_lst (ea_cons ev_c (ea_cons ev_c ea_nil)) (show 2 ≤ 100000 by decide)) fun l H1 nl e1 hl => ?_
    have back : ∀ {H' H2 H3 : Hp}, Ex H1 H' → Ex (del H' l) H2 → Ex H2 H3 → Ex H H3 := fun e e2 e3 => ((ex_del (e1.trans e) nl).trans e2).trans e3
    rcases h with ⟨hn, hw, hQ⟩ | ⟨j, fr, rfl, hj, hw, hQ⟩
    · refine asked_NF (ht.ex e1) hn (hw.ex e1) fun d H' nd e hd => ⟨true, M.exm_NoFrame, fun _ a na => su_NF M rfl rfl (e _ _ hl) hd fun H2 e2 h2 => ?_, fun q => nomatch q⟩
      exact s_ret (ev_var rfl) fun H3 e3 => hQ l H3 nl (back e e2 e3) (e3 _ _ h2)
    · refine asked_NO (ht.ex e1) hj (hw.ex e1) fun H' e => ⟨true, M.exm_NoOrder, fun _ a na => su_NO M rfl rfl (e _ _ hl) fun H2 e2 h2 => ?_, fun q => nomatch q⟩
      exact s_ret (ev_var rfl) fun H3 e3 => hQ l H3 nl (back e e2 e3) (e3 _ _ h2)
end
end LO

set_option Elab.async false
set_option linter.all false
set_option maxRecDepth 100000
set_option maxHeartbeats 4000000
namespace LO
open PySem PySem.Spec PyProof.Rows L2 LG LW LC LM Evl
/-! ### rows let and rows refused -/
theorem ints_any {row : List Int} {r : Int} : (row.map V.int).any (isIntB r) = true ↔ r ∈ row := by
  rw [List.any_eq_true]
  constructor
  · rintro ⟨v, hv, h⟩
    obtain ⟨i, hi, rfl⟩ := List.mem_map.mp hv
    have h : (wholeB (.int i) none none && decide (V.int i = V.int r)) = true := h
    rw [Bool.and_eq_true, decide_eq_true_iff] at h
    rw [← V.int.inj h.2]; exact hi
  · intro h
    refine ⟨.int r, List.mem_map.mpr ⟨r, h, rfl⟩, ?_⟩
    show (wholeB (.int r) none none && decide (V.int r = V.int r)) = true
    rw [decide_eq_true rfl]; rfl
theorem rowB_perm {left row : List Int} (h : row.Perm left) : rowB left (.seq (row.map V.int)) = true := by
  show (decide ((row.map V.int).length = left.length) && left.all fun r => (row.map V.int).any (isIntB r)) = true
  rw [Bool.and_eq_true, decide_eq_true_iff, List.length_map]
  exact ⟨h.length_eq, List.all_eq_true.mpr fun r hr => ints_any.mpr (h.mem_iff.mpr hr)⟩
theorem keepsB_iff {row : List Int} {cs : List Pr} : keepsB row cs = true ↔ ∀ c ∈ cs, idx c.1 row ≤ idx c.2 row := by
  unfold keepsB
  rw [List.all_eq_true]
  exact ⟨fun h c hc => of_decide_eq_true (h c hc), fun h c hc => decide_eq_true (h c hc)⟩
theorem fcs_in {L : List Pr} {fr : Fr} {c : Pr} (h : c ∈ fcs L fr) : c ∈ L ∧ c.1 ∈ fr.slots ∧ c.2 ∈ fr.slots := within_in h
theorem fcs_mem {L : List Pr} {fr : Fr} {a b : Int} (ha : a ∈ fr.slots) (hb : b ∈ fr.slots) : (a, b) ∈ fcs L fr ↔ (a, b) ∈ L := by
  unfold fcs within
  rw [List.mem_filter, decide_eq_true ha, decide_eq_true hb]
  exact ⟨fun h => h.1, fun h => ⟨h, rfl⟩⟩
/-- a frame of a tongue, its due rows at q -/
structure FrD (K : PySem.W.Frag) (H : Hp) (x : Addr) (fs : List Fr) (L : List Pr) (j : Nat) (fr : Fr) (q : Addr) (rs : List (List Int)) : Prop where
  tg : TgAt K H x fs L
  hj : fs[j]? = some fr
  due : RowsL H q rs
  rows : rs = rows fr.slots (fcs L fr)
  rise : fr.slots.Pairwise (· < ·)
  no : ∀ x, (x, x) ∉ L
section
variable {K : PySem.W.Frag} {H H' : Hp} {x q : Addr} {fs : List Fr} {L : List Pr} {j : Nat} {fr : Fr} {rs : List (List Int)} {row : List Int}
theorem FrD.ex (e : Ex H H') (h : FrD K H x fs L j fr q rs) : FrD K H' x fs L j fr q rs := ⟨h.tg.ex e, h.hj, h.due.ex e, h.rows, h.rise, h.no⟩
theorem FrD.nodup (h : FrD K H x fs L j fr q rs) : fr.slots.Nodup := rise_nodup h.rise
theorem FrD.six (h : FrD K H x fs L j fr q rs) : fr.slots.length ≤ 6 := h.tg.six h.hj
theorem FrD.perm (h : FrD K H x fs L j fr q rs) (hr : row ∈ rs) : row.Perm fr.slots := (rows_in (fcs L fr) _ _ rfl h.nodup row (by rw [← h.rows]; exact hr)).1
theorem FrD.keeps (h : FrD K H x fs L j fr q rs) (hr : row ∈ rs) : keepsB row (fcs L fr) = true := keepsB_iff.mpr fun c hc => (rows_in (fcs L fr) _ _ rfl h.nodup row (by rw [← h.rows]; exact hr)).2 c hc (fcs_in hc).2.1 (fcs_in hc).2.2
theorem FrD.of (h : FrD K H x fs L j fr q rs) (hp : row.Perm fr.slots) (hk : keepsB row (fcs L fr) = true) : row ∈ rs := by
  rw [h.rows]
  exact in_rows (fun x hx => h.no x (fcs_in hx).1) _ _ rfl h.nodup row hp fun c hc _ _ => keepsB_iff.mp hk c hc
theorem FrD.place (h : FrD K H x fs L j fr q rs) {k : Nat} (hk : rs[k]? = some row) : placeI (fcs L fr) row fr.slots = (k : Int) := place_at (fcs L fr) _ _ rfl h.rise k row (by rw [← h.rows]; exact hk)
theorem FrD.len (h : FrD K H x fs L j fr q rs) : rs.length ≤ 720 := by
  rw [h.rows]
  exact Nat.le_trans (rows_le (fcs L fr) _ _ rfl h.nodup) (fac_le _ h.six)
theorem FrD.cnt (h : FrD K H x fs L j fr q rs) : cnt fr.slots (fcs L fr) = (rs.length : Int) := by rw [h.rows]; rfl
theorem FrD.rlen (h : FrD K H x fs L j fr q rs) (hr : row ∈ rs) : row.length ≤ 6 := by rw [(h.perm hr).length_eq]; exact h.six
/-- what stands at a place of the due rows -/
theorem FrD.at_ (h : FrD K H x fs L j fr q rs) {k : Nat} (hk : rs[k]? = some row) : ∃ ps p, H q = some (.lst ps) ∧ ps[k]? = some (.ref p) ∧ H p = some (.tup (row.map V.int)) := by
  obtain ⟨ps, h1, h2⟩ := h.due
  have hl : ps.length = rs.length := h2.length
  have hk' := (List.getElem?_eq_some_iff.mp hk).1
  have hp : ps[k]? = some (ps[k]'(by omega)) := List.getElem?_eq_getElem (by omega)
  obtain ⟨r, hr1, hr2⟩ := paired_at h2 hp
  rw [hk] at hr1
  cases hr1
  exact ⟨ps.map V.ref, _, h1, by rw [List.getElem?_map, hp]; rfl, hr2⟩
theorem ints_flat4 : ∀ x ∈ row.map V.int, flat4 x = true := fun x hx => by
  obtain ⟨i, _, rfl⟩ := List.mem_map.mp hx
  rfl
theorem th_ints {r : Addr} (h : SqB H r (row.map V.int)) (hl : row.length ≤ 1000) : ThAt H (.ref r) (.seq (row.map V.int)) := ⟨r, rfl, h, by rw [List.length_map]; exact hl, ints_flat4⟩
/-- a row let -/
theorem FrD.row3 (h : FrD K H x fs L j fr q rs) (hr : row ∈ rs) {r : Addr} {E : XK} {A : List Int → Prop} (ha : RowA H r (row.map V.int)) (hA : A row) : Row3c K H (.ref r) (.seq (row.map V.int)) fr.slots (fcs L fr) E A :=
  .inr ⟨r, row, rfl, rfl, ha, rowB_perm (h.perm hr), .inr ⟨h.keeps hr, hA⟩⟩
/-- a row of the slots that isn't due -/
theorem FrD.noRow (h : FrD K H x fs L j fr q rs) (hp : row.Perm fr.slots) (hn : row ∉ rs) {r : Addr} (ha : RowA H r (row.map V.int)) : NoRow H (.ref r) fr.slots (fcs L fr) := by
  have hl : row.length ≤ 1000 := by rw [hp.length_eq]; have := h.six; omega
  refine ⟨.seq (row.map V.int), th_ints ha.b hl, .inr ⟨r, row, rfl, rfl, ha, rowB_perm hp, ?_⟩⟩
  cases hk : keepsB row (fcs L fr) with
  | false => rfl
  | true => exact absurd (h.of hp hk) hn
variable {σ : L2.St} {ta tb tc : TE} {E : XK} {k : Nat}
theorem ep_orderAt (h : FrD K H x fs L j fr q rs) (hk : rs[k]? = some row) (ha : Ev ta σ H (.ref x)) (hb : Ev tb σ H (.int (j : Int))) (hc : Ev tc σ H (.int (k : Int))) : EvP (tCall (sp_order_at K) [] E (tCons ta (tCons tb (tCons tc tNil)))) σ H (fun v H1 => ∃ p, v = .ref p ∧ FzT H1 p (row.map V.int)) :=
  ep_fn (ea_cons ha (ea_cons hb (ea_cons hc ea_nil))) fun H1 e Q E qq => ⟨x, j, fs, L, .int (k : Int), rfl, h.tg.ex e, rfl, .inl ⟨j, fr, rfl, h.hj, .inr ⟨k, row, rfl, by rw [← h.rows]; exact hk, fun p H2 e2 hf => qq _ H2 e2 ⟨p, rfl, hf⟩⟩⟩⟩
theorem ev_orderPlace (h : FrD K H x fs L j fr q rs) (hk : rs[k]? = some row) {r : Addr} (hr : RowA H r (row.map V.int)) (ha : Ev ta σ H (.ref x)) (hb : Ev tb σ H (.int (j : Int))) (hc : Ev tc σ H (.ref r)) : Ev (tCall (sp_order_place K) [] E (tCons ta (tCons tb (tCons tc tNil)))) σ H (.int (k : Int)) :=
  ev_fn (ea_cons ha (ea_cons hb (ea_cons hc ea_nil))) fun H1 e Q E qq => ⟨x, j, fs, L, .ref r, .seq (row.map V.int), rfl, h.tg.ex e, th_ints (hr.ex e).b (by have := h.rlen (List.mem_of_getElem? hk); omega), .inl ⟨j, fr, rfl, h.hj, (h.ex e).row3 (List.mem_of_getElem? hk) (hr.ex e) fun H2 e2 => by rw [h.place hk]; exact qq H2 e2⟩⟩
theorem ep_checkOrder (h : FrD K H x fs L j fr q rs) (hk : row ∈ rs) {r : Addr} (hr : RowA H r (row.map V.int)) (ha : Ev ta σ H (.ref x)) (hb : Ev tb σ H (.int (j : Int))) (hc : Ev tc σ H (.ref r)) : EvP (tCall (sp_check_order K) [] E (tCons ta (tCons tb (tCons tc tNil)))) σ H (fun v H1 => ∃ p, v = .ref p ∧ RT H1 p (row.map V.int)) :=
  ep_fn (ea_cons ha (ea_cons hb (ea_cons hc ea_nil))) fun H1 e Q E qq => ⟨x, j, fs, L, .ref r, .seq (row.map V.int), rfl, h.tg.ex e, th_ints (hr.ex e).b (by have := h.rlen hk; omega), .inl ⟨j, fr, rfl, h.hj, (h.ex e).row3 hk (hr.ex e) fun p H2 e2 hp => qq _ H2 e2 ⟨p, rfl, hp⟩⟩⟩
/-- due[k] -/
theorem ev_due (h : FrD K H x fs L j fr q rs) (hk : rs[k]? = some row) (ha : Ev ta σ H (.ref q)) (hb : Ev tb σ H (.int (k : Int))) : ∃ p, H p = some (.tup (row.map V.int)) ∧ Ev (tOp (rIxL K) ta tb) σ H (.ref p) := by
  obtain ⟨ps, p, h1, h2, h3⟩ := h.at_ hk
  exact ⟨p, h3, ev_op ha hb (rv_ixL (sq_of h1) (atI_nat h2))⟩
end
end LO

set_option Elab.async false
set_option linter.all false
set_option maxRecDepth 100000
set_option maxHeartbeats 4000000
namespace LO
open PySem PySem.Spec PyProof.Rows L2 LG LW LC LM Evl
section
variable {P : Program} {w : World} {K : PySem.W.Frag} {mg : Str → Option Value} {base : Heap}

/-! ### _law_refused -/
def sp__law_refused (K : PySem.W.Frag) : Sp := fun vs H Q _ => ∃ (x : Addr) (j : Nat) (v : V) (way : Int) (fs : List Fr) (L : List Pr) (fr : Fr), vs = [.ref x, .int (j : Int), v, .int way] ∧ TgAt K H x fs L ∧ fs[j]? = some fr ∧ NoAns H v way fr L ∧ ∀ H', Ex H H' → Q (.bl true) H'
abbrev n__law_refused : List Str := ["_law_tongue", "_law_frame", "_law_thing", "_law_way"]
theorem sc__law_refused : FnScope n__law_refused ["_law_tongue", "_law_frame", "_law_thing", "_law_way"] (defScope s__law_refused) := ⟨rfl, rfl, rfl, by decide +kernel, rfl, by decide +kernel, by decide +kernel⟩
theorem fn__law_refused (M2 : Mods2 P K mg base) : Fn P w K mg base CX0 11 "_law_refused" ["_law_tongue", "_law_frame", "_law_thing", "_law_way"] [] (sp__law_refused K) := by
  have M := M2.m
  have nd := sc__law_refused.nd
  have h__law_asked := (fn__law_asked (w := w) M2).up (show 10 ≤ 10 by decide)
  refine Fn.mk0 M.F__law_refused M.g__law_refused sc__law_refused (fun vs H Q E h => ?_) (fun fd F => F.bindsN fun _ _ _ _ _ _ us hl => match us, hl with | [_, _, _, _], _ => rfl) fun cdv A outer s H vs Q E hr h => ⟨_,
    (pss_one (ps_ret (pe_cmpR op_eq (pe_ix ix_list (pe_fn h__law_asked hr pass0 (pa_cons (pv 0) (pa_cons (pv 1) (pa_cons (pv 2) (pa_cons (pv 3) pa_nil))))) pe_int (fun _ _ => rfl)) pe_str (nomark _)))), ?_⟩
  · obtain ⟨x, j, v, way, fs, L, fr, rfl, _⟩ := h; rfl
  · obtain ⟨x, j, v, way, fs, L, fr, rfl, ht, hj, hw, hQ⟩ := h
    have hp : EvL (tCall (sp__law_asked K) [] E0 (tCons (tVar 0) (tCons (tVar 1) (tCons (tVar 2) (tCons (tVar 3) tNil))))) [some (.ref x), some (.int (j : Int)), some v, some (.int way)] H [.str "order", .non] := fun H1 e Q q =>
      (ea_cons (ev_var rfl) (ea_cons (ev_var rfl) (ea_cons (ev_var rfl) (ea_cons (ev_var rfl) ea_nil))) : EvA (tCons (tVar 0) (tCons (tVar 1) (tCons (tVar 2) (tCons (tVar 3) tNil)))) [some (.ref x), some (.int (j : Int)), some v, some (.int way)] H [.ref x, .int (j : Int), v, .int way]) H1 e _ fun H2 e2 =>
        ⟨x, j, v, way, fs, L, rfl, ht.ex (e.trans e2), .inr ⟨j, fr, rfl, hj, hw.ex (e.trans e2), fun p H3 n e3 hp => q p H3 (fresh_back e2 n) (e2.trans e3) hp⟩⟩
    refine s_ret (ev_is (ev_op (ev_opL1 (y := .int 0) hp (fun _ _ => ev_c) fun p H1 hp e => rv_ixL (v := .str "order") (sq_of hp) rfl) ev_c (rv_eq rfl)) (by rw [decide_eq_true rfl])) fun H1 e => hQ H1 e
/-! ### _law_place_right -/
def sp__law_place_right (K : PySem.W.Frag) : Sp := fun vs H Q _ => ∃ (x q : Addr) (j k : Nat) (fs : List Fr) (L : List Pr) (fr : Fr) (rs : List (List Int)) (row : List Int), vs = [.ref x, .int (j : Int), .ref q, .int (k : Int)] ∧ FrD K H x fs L j fr q rs ∧ rs[k]? = some row ∧ ∀ H', Ex H H' → Q (.bl true) H'
abbrev n__law_place_right : List Str := ["_law_tongue", "_law_frame", "_law_due", "_law_place", "_law_row", "_law_told", "_law_given"]
theorem sc__law_place_right : FnScope n__law_place_right ["_law_tongue", "_law_frame", "_law_due", "_law_place"] (defScope s__law_place_right) := ⟨rfl, rfl, rfl, by decide +kernel, rfl, by decide +kernel, by decide +kernel⟩
theorem fn__law_place_right (M : Mods P K mg base) : Fn P w K mg base CX0 10 "_law_place_right" ["_law_tongue", "_law_frame", "_law_due", "_law_place"] [] (sp__law_place_right K) := by
  have nd := sc__law_place_right.nd
  have h_order_at := (fn_order_at (w := w) M).up (show 9 ≤ 9 by decide)
  have h_order_place := (fn_order_place (w := w) M).up (show 9 ≤ 9 by decide)
  have h__law_same_row := (fn__law_same_row (w := w) M).up (show 2 ≤ 9 by decide)
  have h__law_is_whole := (fn__law_is_whole (w := w) M).up (show 1 ≤ 9 by decide)
  have h_check_order := (fn_check_order (w := w) M).up (show 5 ≤ 9 by decide)
  refine Fn.mk0 M.F__law_place_right M.g__law_place_right sc__law_place_right (fun vs H Q E h => ?_) (fun fd F => F.bindsN fun _ _ _ _ _ _ us hl => match us, hl with | [_, _, _, _], _ => rfl) fun cdv A outer s H vs Q E hr h => ⟨_,
    (pss_cons (ps_set (i := 4) nd rfl (.inl rfl) (pe_fn h_order_at hr passL (pa_cons (pv 0) (pa_cons (pv 1) (pa_cons (pv 3) pa_nil))))) (pss_cons (ps_if (pt_not (pt_val (pe_fn h__law_same_row hr pass0 (pa_cons (pv 4) (pa_cons (pe_ix ix_list (pv 2) (pv 3) (fun _ _ => rfl)) pa_nil))))) (pss_one (ps_ret pe_bl)) pss_nil) (pss_cons (ps_set (i := 5) nd rfl (.inl rfl) (pe_fn h_order_place hr passL (pa_cons (pv 0) (pa_cons (pv 1) (pa_cons (pe_callTy call_list_of rfl M.z_list LW.boot_list (pa_cons (pe_ix ix_list (pv 2) (pv 3) (fun _ _ => rfl)) pa_nil)) pa_nil))))) (pss_cons (ps_if (PW.pt (pw_or (pt_not (pt_val (pe_fn h__law_is_whole hr pass0 (pa_cons (pv 5) pa_nil)))) (pw_or (pt_cmpR op_ne (pv 5) (pv 3) (nomark _)) (pw_or1 (pt_cmpR op_ne (pe_fn h_order_place hr passL (pa_cons (pv 0) (pa_cons (pv 1) (pa_cons (pv 4) pa_nil)))) (pv 3) (nomark _)))))) (pss_one (ps_ret pe_bl)) pss_nil) (pss_cons (ps_set (i := 6) nd rfl (.inl rfl) (pe_callTy call_list_of rfl M.z_list LW.boot_list (pa_cons (pe_ix ix_list (pv 2) (pv 3) (fun _ _ => rfl)) pa_nil))) (pss_cons (ps_if (PW.pt (pw_or (pt_not (pt_val (pe_fn h__law_same_row hr pass0 (pa_cons (pe_fn h_check_order hr passL (pa_cons (pv 0) (pa_cons (pv 1) (pa_cons (pv 6) pa_nil)))) (pa_cons (pe_ix ix_list (pv 2) (pv 3) (fun _ _ => rfl)) pa_nil))))) (pw_or1 (pt_cmpR (op_neD hr.units) (pv 6) (pe_callTy call_list_of rfl M.z_list LW.boot_list (pa_cons (pe_ix ix_list (pv 2) (pv 3) (fun _ _ => rfl)) pa_nil)) (nomark _))))) (pss_one (ps_ret pe_bl)) pss_nil) (pss_one (ps_ret pe_bl)))))))), ?_⟩
  · obtain ⟨x, q, j, k, fs, L, fr, rs, row, rfl, _⟩ := h; rfl
  · obtain ⟨x, q, j, k, fs, L, fr, rs, row, rfl, hd, hk, hQ⟩ := h
    have hm := List.mem_of_getElem? hk
    have h6 := hd.rlen hm
    refine q_asgP (ep_orderAt hd hk (ev_var rfl) (ev_var rfl) (ev_var rfl)) fun v H1 e1 hv => ?_
    obtain ⟨r, rfl, hr1⟩ := hv
    have hd1 := hd.ex e1
    obtain ⟨p1, hp1, ev1⟩ := ev_due (K := K) (σ := [some (.ref x), some (.int (j : Int)), some (.ref q), some (.int (k : Int)), some (.ref r), none, none]) (ta := tVar 2) (tb := tVar 3) hd1 hk (ev_var rfl) (ev_var rfl)
    refine q_pass (et_not (a := true) (et_B (ev_fn (z := .bl true) (ea_cons (ev_var rfl) (ea_cons ev1 ea_nil)) fun H2 e2 Q E qq => ⟨r, p1, row, rfl, (.inr (hr1.ex e2)), e2 _ _ hp1, by omega, qq⟩))) fun H2 e2 => ?_
    have hd2 := hd1.ex e2
    obtain ⟨p2, hp2, ev2⟩ := ev_due (K := K) (σ := [some (.ref x), some (.int (j : Int)), some (.ref q), some (.int (k : Int)), some (.ref r), none, none]) (ta := tVar 2) (tb := tVar 3) hd2 hk (ev_var rfl) (ev_var rfl)
    refine wq_asg (w_call (w_cons (x := .ref x) (ev_var rfl) fun H3 e3 => w_cons (x := .int (j : Int)) (ev_var rfl) fun H4 e4 => w_consL (el_listB (ev2.mono (e3.trans e4)) (.inr (.inl ((e3.trans e4) _ _ hp2)))) fun l H5 nl e5 hl => w_nil ?_))
    have e25 := (e3.trans e4).trans e5
    refine ⟨x, j, fs, L, .ref l, .seq (row.map V.int), rfl, (hd2.ex e25).tg, th_ints (.inl hl) (by omega), .inl ⟨j, fr, rfl, hd.hj, (hd2.ex e25).row3 hm (.inl hl) fun H6 e6 => ?_⟩⟩
    rw [hd.place hk]
    have e26 := e25.trans e6
    have hd6 := hd2.ex e26
    have hr6 := (hr1.ex e2).ex e26
    refine q_pass (et_or (a := false) (b := false) (et_not (et_B (ev_fn (z := .bl true) (ea_cons (ev_var rfl) ea_nil) fun H7 e7 Q E qq => ⟨.int (k : Int), rfl, rfl, qq⟩))) fun _ => et_or (a := false) (b := false) (et_is (et_op (ev_var rfl) (ev_var rfl) (rv_ne rfl)) (by rw [decide_eq_true rfl]; rfl)) fun _ => et_is (et_op (ev_orderPlace hd6 hk (.inr hr6) (ev_var rfl) (ev_var rfl) (ev_var rfl)) (ev_var rfl) (rv_ne rfl)) (by rw [decide_eq_true rfl]; rfl)) fun H7 e7 => ?_
    have hd7 := hd6.ex e7
    obtain ⟨p7, hp7, ev7⟩ := ev_due (K := K) (σ := [some (.ref x), some (.int (j : Int)), some (.ref q), some (.int (k : Int)), some (.ref r), some (.int (k : Int)), none]) (ta := tVar 2) (tb := tVar 3) hd7 hk (ev_var rfl) (ev_var rfl)
    refine q_asgL (el_listB ev7 (.inr (.inl hp7))) fun g H8 ng e8 hg => ?_
    have hd8 := hd7.ex e8
    obtain ⟨p8, hp8, ev8⟩ := ev_due (K := K) (σ := [some (.ref x), some (.int (j : Int)), some (.ref q), some (.int (k : Int)), some (.ref r), some (.int (k : Int)), some (.ref g)]) (ta := tVar 2) (tb := tVar 3) hd8 hk (ev_var rfl) (ev_var rfl)
    have hsame : Ev (tCall sp__law_same_row [] E0 (tCons (tCall (sp_check_order K) [] E0 (tCons (tVar 0) (tCons (tVar 1) (tCons (tVar 6) tNil)))) (tCons (tOp (rIxL K) (tVar 2) (tVar 3)) tNil))) [some (.ref x), some (.int (j : Int)), some (.ref q), some (.int (k : Int)), some (.ref r), some (.int (k : Int)), some (.ref g)] H8 (.bl true) := fun H9 e9 Q qq =>
      w_call (w_consP (ep_checkOrder (hd8.ex e9) hm (.inl (e9 _ _ hg)) (ev_var rfl) (ev_var rfl) (ev_var rfl)) fun v H10 e10 ⟨a, hv, ha⟩ => w_cons (ev8.mono (e9.trans e10)) fun H11 e11 => w_nil ⟨a, p8, row, by rw [hv]; rfl, ha.ex e11, e11 _ _ (e10 _ _ (e9 _ _ hp8)), by omega, fun H12 e12 => qq H12 ((e10.trans e11).trans e12)⟩)
    refine q_pass (et_or (a := false) (b := false) (et_not (a := true) (et_B hsame)) fun _ => et_is (et_test (ev_opL (ev_var rfl) (el_listB ev8 (.inr (.inl hp8))) fun l9 H9 hl9 e9 => rv_neLL (sq_of (e9 _ _ hg)) (sq_of hl9))) (by rw [decide_eq_true rfl]; rfl)) fun H9 e9 => ?_
    exact s_ret ev_c fun H10 e10 => hQ H10 ((((((e1.trans e2).trans e26).trans e7).trans e8).trans e9).trans e10)
/-! ### _law_row_right -/
def sp__law_row_right (K : PySem.W.Frag) : Sp := fun vs H Q _ => ∃ (x q r : Addr) (j : Nat) (fs : List Fr) (L : List Pr) (fr : Fr) (rs : List (List Int)) (row : List Int), vs = [.ref x, .int (j : Int), .ref q, .ref r] ∧ FrD K H x fs L j fr q rs ∧ H r = some (.lst (row.map V.int)) ∧ row.Perm fr.slots ∧ ∀ H', Ex H H' → Q (.bl true) H'
theorem rv_inRows {K : PySem.W.Frag} {H : Hp} {a q : Addr} {row : List Int} {rs : List (List Int)} (h1 : SqT K H a (row.map V.int)) (h2 : RowsL H q rs) : RV (rInRows K) (.ref a) (.ref q) H (.bl (rs.contains row)) := fun H1 e Q qq => by
  obtain ⟨ps, h3, h4⟩ := h2
  exact ⟨a, q, row, ps, rs, rfl, rfl, ex_t e h1, sq_of (e _ _ h3), Paired.mapP h4 fun _ _ w => st_of (e _ _ w), qq H1 (Ex.refl _)⟩
abbrev n__law_row_right : List Str := ["_law_tongue", "_law_frame", "_law_due", "_law_row", "_law_told"]
theorem sc__law_row_right : FnScope n__law_row_right ["_law_tongue", "_law_frame", "_law_due", "_law_row"] (defScope s__law_row_right) := ⟨rfl, rfl, rfl, by decide +kernel, rfl, by decide +kernel, by decide +kernel⟩
theorem fn__law_row_right (M2 : Mods2 P K mg base) : Fn P w K mg base CX0 12 "_law_row_right" ["_law_tongue", "_law_frame", "_law_due", "_law_row"] [] (sp__law_row_right K) := by
  have M := M2.m
  have nd := sc__law_row_right.nd
  have h_order_place := (fn_order_place (w := w) M).up (show 9 ≤ 11 by decide)
  have h__law_refused := (fn__law_refused (w := w) M2).up (show 11 ≤ 11 by decide)
  have h__law_is_whole := (fn__law_is_whole (w := w) M).up (show 1 ≤ 11 by decide)
  refine Fn.mk0 M.F__law_row_right M.g__law_row_right sc__law_row_right (fun vs H Q E h => ?_) (fun fd F => F.bindsN fun _ _ _ _ _ _ us hl => match us, hl with | [_, _, _, _], _ => rfl) fun cdv A outer s H vs Q E hr h => ⟨_,
    (pss_cons (ps_if (pt_cmpR (op_inRows (u65 hr)) (pe_callTy call_tuple_of rfl M.z_tuple LW.boot_tuple (pa_cons (pv 3) pa_nil)) (pv 2) rfl) (pss_cons (ps_set (i := 4) nd rfl (.inl rfl) (pe_fn h_order_place hr passL (pa_cons (pv 0) (pa_cons (pv 1) (pa_cons (pv 3) pa_nil))))) (pss_one (ps_ret (pe_and (pe_fn h__law_is_whole hr pass0 (pa_cons (pv 4) pa_nil)) (pe_and (pe_cmpR (op_eqD hr.units) (pe_ix ix_list (pv 2) (pv 4) (fun _ _ => rfl)) (pe_callTy call_tuple_of rfl M.z_tuple LW.boot_tuple (pa_cons (pv 3) pa_nil)) (nomark _)) (pe_one (pe_cmpR op_ge (pv 4) pe_int (nomark _)))))))) pss_nil) (pss_one (ps_ret (pe_and (pe_fn h__law_refused hr pass0 (pa_cons (pv 0) (pa_cons (pv 1) (pa_cons (pv 3) (pa_cons pe_int pa_nil))))) (pe_one (pe_fn h__law_refused hr pass0 (pa_cons (pv 0) (pa_cons (pv 1) (pa_cons (pv 3) (pa_cons pe_int pa_nil)))))))))), ?_⟩
  · obtain ⟨x, q, r, j, fs, L, fr, rs, row, rfl, _⟩ := h; rfl
  · obtain ⟨x, q, r, j, fs, L, fr, rs, row, rfl, hd, hr', hp, hQ⟩ := h
    have h6 : row.length ≤ 6 := by rw [hp.length_eq]; exact hd.six
    refine q_when (b := rs.contains row) (et_test (ev_opU1 (eu_tupL (ev_var rfl) (sq_of hr')) (fun _ _ => ev_var rfl) fun p H1 hp1 e1 => rv_inRows (st_of hp1) (hd.ex e1).due)) (fun hb H1 e1 => ?_) (fun hb H1 e1 => ?_)
    · obtain ⟨k, hk⟩ := List.getElem?_of_mem (List.contains_iff_mem.mp hb)
      have hd1 := hd.ex e1
      refine q_asg (v := .int (k : Int)) (ev_orderPlace hd1 hk (.inl (e1 _ _ hr')) (ev_var rfl) (ev_var rfl) (ev_var rfl)) fun H2 e2 => ?_
      have hd2 := hd1.ex e2
      obtain ⟨p2, hp2, ev2⟩ := ev_due (K := K) (σ := [some (.ref x), some (.int (j : Int)), some (.ref q), some (.ref r), some (.int (k : Int))]) (ta := tVar 2) (tb := tVar 4) hd2 hk (ev_var rfl) (ev_var rfl)
      refine s_ret (ev_is (ev_andV (a := true) (b := true) (ev_fn (z := .bl true) (ea_cons (ev_var rfl) ea_nil) fun H3 e3 Q E qq => ⟨.int (k : Int), rfl, rfl, qq⟩) fun _ => ev_andV (a := true) (b := true) (ev_is (ev_opV ev2 (eu_tupL (ev_var rfl) (sq_of (e2 _ _ (e1 _ _ hr')))) fun p H3 hp3 e3 => rv_eqTT (st_of (e3 _ _ hp2)) (st_of hp3)) (by rw [decide_eq_true rfl])) fun _ => ev_is (ev_op (ev_var rfl) ev_c rv_I0) (congrArg V.bl (decide_eq_true (by omega)))) rfl) fun H3 e3 => hQ H3 ((e1.trans e2).trans e3)
    · have hn : row ∉ rs := fun hm => by rw [List.contains_iff_mem.mpr hm] at hb; cases hb
      have no := hd.noRow hp hn (.inl hr')
      refine s_ret (ev_is (ev_andV (a := true) (b := true) (ev_fn (z := .bl true) (ea_cons (ev_var rfl) (ea_cons (ev_var rfl) (ea_cons (ev_var rfl) (ea_cons ev_c ea_nil)))) fun H3 e3 Q E qq => ⟨x, j, .ref r, 0, fs, L, fr, rfl, hd.tg.ex (e1.trans e3), hd.hj, .inl ⟨.inl rfl, no.ex (e1.trans e3)⟩, qq⟩) fun _ => ev_fn (z := .bl true) (ea_cons (ev_var rfl) (ea_cons (ev_var rfl) (ea_cons (ev_var rfl) (ea_cons ev_c ea_nil)))) fun H3 e3 Q E qq => ⟨x, j, .ref r, 1, fs, L, fr, rfl, hd.tg.ex (e1.trans e3), hd.hj, .inl ⟨.inr rfl, no.ex (e1.trans e3)⟩, qq⟩) rfl) fun H2 e2 => hQ H2 (e1.trans e2)
end
end LO

set_option Elab.async false
set_option linter.all false
set_option maxRecDepth 100000
set_option maxHeartbeats 4000000
namespace LO
open PySem PySem.Spec PyProof.Rows L2 LG LW LC LM Evl
section
variable {P : Program} {w : World} {K : PySem.W.Frag} {mg : Str → Option Value} {base : Heap}

/-! ### _law_wrong_rows -/
/-- refused for its form -/
def Wrong (H : Hp) (sl : List Int) (x : V) : Prop := ∃ t, ThAt H x t ∧ rowB sl t = false
theorem Wrong.ex {H H' : Hp} {sl : List Int} {x : V} (e : Ex H H') (h : Wrong H sl x) : Wrong H' sl x := by
  obtain ⟨t, h1, h2⟩ := h
  exact ⟨t, h1.ex e, h2⟩
theorem wr_len {sl : List Int} {xs : List V} (h : xs.length ≠ sl.length) : rowB sl (.seq xs) = false := by
  show (decide (xs.length = sl.length) && _) = false
  rw [decide_eq_false h]; rfl
theorem wr_miss {sl : List Int} {xs : List V} {r : Int} (hr : r ∈ sl) (h : ∀ x ∈ xs, isIntB r x = false) : rowB sl (.seq xs) = false := by
  show (decide (xs.length = sl.length) && sl.all fun r => xs.any (isIntB r)) = false
  have : (sl.all fun r => xs.any (isIntB r)) = false := List.all_eq_false.mpr ⟨r, hr, by
    rw [Bool.not_eq_true, List.any_eq_false]
    exact fun x hx => by rw [h x hx]; exact Bool.false_ne_true⟩
  rw [this, Bool.and_false]
theorem int_ne {r y : Int} (h : y ≠ r) : isIntB r (.int y) = false := by
  show (wholeB (.int y) none none && decide (V.int y = V.int r)) = false
  rw [decide_eq_false (fun z => h (V.int.inj z)), Bool.and_false]
theorem wrong_seq {H : Hp} {sl : List Int} {p : Addr} {xs : List V} (h : SqB H p xs) (hl : xs.length ≤ 1000) (hf : ∀ x ∈ xs, flat4 x = true) (hw : rowB sl (.seq xs) = false) : Wrong H sl (.ref p) := ⟨.seq xs, ⟨p, rfl, h, hl, hf⟩, hw⟩
theorem nodup_drop {α : Type} {l : List α} {i : Nat} {x : α} (h : l.Nodup) (hx : l[i]? = some x) : x ∉ l.drop (i + 1) := fun hm => by
  obtain ⟨j, hj⟩ := List.getElem?_of_mem hm
  rw [List.getElem?_drop] at hj
  obtain ⟨p1, q1⟩ := List.getElem?_eq_some_iff.mp hx
  obtain ⟨p2, q2⟩ := List.getElem?_eq_some_iff.mp hj
  have := (List.getElem_inj h).mp (q1.trans q2.symm)
  omega
theorem cut_init {xs : List V} : cutV xs none (some (-1)) = xs.take (xs.length - 1) := by
  unfold cutV
  rw [sIx_none, List.drop_zero, Nat.sub_zero]
  have : HT.sIx xs.length xs.length (some (-1)) = xs.length - 1 := by
    show (if (-1 : Int) < 0 then ((-1 : Int) + (xs.length : Int)).toNat else min (-1 : Int).toNat xs.length) = _
    rw [if_pos (by decide)]
    omega
  rw [this]
/-- a thing that stands for no role r -/
def NotR (r : Int) (x : V) : Prop := isIntB r x = false ∧ flat4 x = true
/-- one entry replaced -/
theorem wr_repl {sl row : List Int} {a : Nat} {r : Int} {x : V} (hp : row.Perm sl) (hn : sl.Nodup) (hr : row[a]? = some r) (hx : NotR r x) : rowB sl (.seq ((row.map V.int).take a ++ [x] ++ (row.map V.int).drop (a + 1))) = false := by
  have nd : row.Nodup := hp.nodup_iff.mpr hn
  refine wr_miss (r := r) (hp.mem_iff.mp (List.mem_of_getElem? hr)) fun y hy => ?_
  rcases List.mem_append.mp hy with hy | hy
  · rcases List.mem_append.mp hy with hy | hy
    · rw [← List.map_take] at hy
      obtain ⟨i, hi, rfl⟩ := List.mem_map.mp hy
      exact int_ne fun z => nodup_take nd hr (by rw [← z]; exact hi)
    · rw [List.mem_singleton.mp hy]; exact hx.1
  · rw [← List.map_drop] at hy
    obtain ⟨i, hi, rfl⟩ := List.mem_map.mp hy
    exact int_ne fun z => nodup_drop nd hr (by rw [← z]; exact hi)
theorem repl_flat {row : List Int} {a b : Nat} {x : V} (hx : flat4 x = true) : ∀ y ∈ (row.map V.int).take a ++ [x] ++ (row.map V.int).drop b, flat4 y = true := fun y hy => by
  rcases List.mem_append.mp hy with hy | hy
  · rcases List.mem_append.mp hy with hy | hy
    · exact ints_flat4 y (List.mem_of_mem_take hy)
    · rw [List.mem_singleton.mp hy]; exact hx
  · exact ints_flat4 y (List.mem_of_mem_drop hy)
section
variable {σ : L2.St} {H : Hp} {ta tb tl : TE} {xs ys : List V} {a : Addr} {D : Ends} {tu tz : TS} {g : TG} {j : Nat}
/-- xs + ys, xs a list that stands -/
theorem el_catV (ha : Ev ta σ H (.ref a)) (hx : H a = some (.lst xs)) (h2 : EvL tb σ H ys) (hz : xs.length + ys.length ≤ 100000) : EvL (tOp rCat ta tb) σ H (xs ++ ys) := fun H1 e Q q =>
  ha H1 e _ fun H2 e2 => h2 H2 (e.trans e2) _ fun b H3 n3 e3 hb => ⟨a, b, xs, ys, rfl, rfl, (e.trans (e2.trans e3)) _ _ hx, hb, sz_of hz, fun p np => q p _ (fresh_back (e2.trans e3) np) ((e2.trans e3).trans (Ex.new np)) upd_same⟩
/-- over a new tuple -/
theorem q_forNTn (h : EvU tl σ H xs) (Pv : Addr → Nat → L2.St → Hp → Prop) (h0 : ∀ p H1, H p = none → Ex H H1 → H1 p = some (.tup xs) → Pv p 0 σ H1) (hl : ∀ p i σ' H', i ≤ xs.length → Pv p i σ' H' → SqT K H' p xs)
    (hs : ∀ p i x σ' H', xs[i]? = some x → Pv p i σ' H' → tu { D with nx := Pv p (i + 1), ct := Pv p (i + 1), bk := tz D } (σ'.set j (some x)) H') (hd : ∀ p σ' H', Pv p xs.length σ' H' → tz D σ' H') : tSeq (tFor (iTup K tl) (gName j) tu) tz D σ H :=
  h H (Ex.refl H) _ fun p H1 hp e h1 => ⟨p, rfl, ⟨xs, st_of h1⟩, for_tup (D := { D with nx := tz D }) (Pv p) (h0 p H1 hp e h1) (hl p) (hs p) (hd p)⟩
theorem Hd.neI {B : Hp} {h p : Addr} {i : Int} {l : List V} (z : Hd B h H) (hp : H p = some (.lst (.int i :: l))) : p ≠ h := fun y => by
  obtain ⟨c, ns, a, b, t, h1, _⟩ := z.hand
  rw [y, h1] at hp; cases hp
theorem ep_max {i k : Nat} {s : Addr} {sl : List Int} (hi : σ[i]? = some (some (.ref a))) (hk : σ[k]? = some (some (.ref s))) (hx : H a = some (.lst xs)) (hsl : H s = some (.lst (sl.map V.int))) (h0 : 0 < sl.length) (hz : xs.length ≤ 1000) :
    EvP (tOp rCat (tVar i) (tLst (tCons (tOp (rI0 fun i j => .int (i + j)) (tCB (rMax K) (tCons (tVar k) tNil)) (tC (.int 1))) tNil))) σ H (fun v H1 => ∃ p m, v = .ref p ∧ H1 p = some (.lst (xs ++ [.int m]))) := fun H1 e Q q =>
  w_op (w_ev (x := .ref a) (ev_var hi) fun H2 e2 => w_lst (w_consW (w_op (w_cb (w_cons (x := .ref s) (ev_var hk) fun H3 e3 => w_nil ⟨s, sl, rfl, sq_of ((e.trans (e2.trans e3)) _ _ hsl), h0, fun m _ _ => w_ev (x := .int 1) ev_c fun H4 e4 => ⟨m, 1, rfl, rfl, w_nil ⟨show 1 ≤ sizeLine by decide, fun p np => ⟨a, p, xs, [.int (m + 1)], rfl, rfl, Ex.new np _ _ ((e.trans ((e2.trans e3).trans e4)) _ _ hx), upd_same, sz_of (by show xs.length + 1 ≤ 100000; omega), fun p2 np2 => q _ _ (((((e2.trans e3).trans e4).trans (Ex.new np)).trans (Ex.new np2))) ⟨p2, m + 1, rfl, upd_same⟩⟩⟩⟩⟩)))))
end
def WrPv (B : Hp) (h s q f g : Addr) (sl : List Int) (a : Nat) (t : Addr) (xs0 : List V) (i : Nat) (σ' : L2.St) (H' : Hp) : Prop := ∃ (Bk : Hp) (xs : List V) (v6 : Option V), σ' = [some (.ref h), some (.ref s), some (.ref q), some (.ref f), some (.ref g), some (.int (a : Int)), v6] ∧ Ex B Bk ∧ Bk g = none ∧ Hd Bk h H' ∧ Bk t = some (.tup xs0) ∧ H' g = some (.lst xs) ∧ (∀ x ∈ xs, Wrong Bk sl x) ∧ xs.length = 6 + i
def WrsP (sl : List Int) : V → Hp → Prop := fun v H => ∃ p xs, v = .ref p ∧ H p = some (.lst xs) ∧ xs.length ≤ 1000 ∧ ∀ x ∈ xs, Wrong H sl x
/-- one more: a list of the wrong form -/
theorem wr_app {Bk H H1 : Hp} {h g p : Addr} {sl : List Int} {xs ys : List V} (z : Hd Bk h H) (nB : Bk g = none) (gh : g ≠ h) (hg : H g = some (.lst xs)) (hxs : ∀ x ∈ xs, Wrong Bk sl x) (e : Ex H H1) (np : H p = none) (hp : H1 p = some (.lst ys)) (hl : ys.length ≤ 1000) (hf : ∀ y ∈ ys, flat4 y = true) (hw : rowB sl (.seq ys) = false) :
    ∃ Bk', Ex Bk Bk' ∧ Bk' g = none ∧ Hd Bk' h (upd H1 g (.lst (xs ++ [.ref p]))) ∧ ∀ x ∈ xs ++ [.ref p], Wrong Bk' sl x := by
  have pg : p ≠ g := fun y => by rw [y, hg] at np; cases np
  have ph : p ≠ h := z.ne np
  obtain ⟨B', b1, b2, b3, b4⟩ := hd_but (z.step e) nB gh
  refine ⟨B', b1, b2, b3.mut b2 gh, fun x hx => ?_⟩
  rcases List.mem_append.mp hx with hx | hx
  · exact (hxs x hx).ex b1
  · rw [List.mem_singleton.mp hx]
    exact wrong_seq (.inl (b4 p _ pg ph hp)) hl hf hw
def sp__law_wrong_rows : Sp := fun vs H Q _ => ∃ (h s q : Addr) (B : Hp) (sl : List Int) (rs : List (List Int)), vs = [.ref h, .ref s, .ref q] ∧ Hd B h H ∧ B s = some (.lst (sl.map V.int)) ∧ RowsL B q rs ∧ 0 < rs.length ∧ rs.length ≤ 1000 ∧ (∀ row ∈ rs, row.Perm sl) ∧ sl.Nodup ∧ 0 < sl.length ∧ sl.length ≤ 6 ∧ (∀ x ∈ sl, 0 ≤ x ∧ x ≤ 5) ∧
  ∀ v B' H', Ex B B' → Hd B' h H' → WrsP sl v B' → Q v H'
abbrev n__law_wrong_rows : List Str := ["_law_hand_here", "_law_slots_here", "_law_due", "_law_first", "_law_rows", "_law_at", "_law_thing"]
theorem sc__law_wrong_rows : FnScope n__law_wrong_rows ["_law_hand_here", "_law_slots_here", "_law_due"] (defScope s__law_wrong_rows) := ⟨rfl, rfl, rfl, by decide +kernel, rfl, by decide +kernel, by decide +kernel⟩
theorem fn__law_wrong_rows (M : Mods P K mg base) : Fn P w K mg base CX0 4 "_law_wrong_rows" ["_law_hand_here", "_law_slots_here", "_law_due"] [] sp__law_wrong_rows := by
  have nd := sc__law_wrong_rows.nd
  have h__law_take := (fn__law_take (w := w) M).up (show 2 ≤ 3 by decide)
  have h__law_one := (fn__law_one (w := w) M).up (show 3 ≤ 3 by decide)
  refine Fn.mk0 M.F__law_wrong_rows M.g__law_wrong_rows sc__law_wrong_rows (fun vs H Q E h => ?_) (fun fd F => F.bindsN fun _ _ _ _ _ _ us hl => match us, hl with | [_, _, _], _ => rfl) fun cdv A outer s H vs Q E hr h => ⟨_,
    (pss_cons (ps_set (i := 3) nd rfl (.inl rfl) (pe_callTy call_list_of rfl M.z_list LW.boot_list (pa_cons (pe_fn h__law_one hr pass0 (pa_cons (pv 0) (pa_cons (pv 2) pa_nil))) pa_nil))) (pss_cons (ps_set (i := 4) nd rfl (.inl rfl) (pe_lst (pa_cons (pe_slice sl_list (pv 3) po_none (po_some (pe_un un_neg pe_int))) (pa_cons (pe_op op_cat (pv 3) (pe_lst (pa_cons (pe_ix ix_list (pv 3) pe_int (fun _ _ => rfl)) pa_nil))) (pa_cons (pe_op op_cat (pv 3) (pe_lst (pa_cons (pe_op op_add (pe_callB (cr_max rfl) rfl M.z_max LW.boot_max (pa_cons (pv 1) pa_nil)) pe_int) pa_nil))) (pa_cons pe_non (pa_cons pe_str (pa_cons (pe_callTy call_tuple_of rfl M.z_tuple LW.boot_tuple (pa_cons (pe_slice sl_list (pv 3) (po_some pe_int) po_none) pa_nil)) pa_nil)))))))) (pss_cons (ps_set (i := 5) nd rfl (.inl rfl) (pe_fn h__law_take hr pass0 (pa_cons (pv 0) (pa_cons (pe_callB call_len_seq rfl M.z_len LW.boot_len (pa_cons (pv 3) pa_nil)) pa_nil)))) (pss_cons (ps_for PassesOwn.never rfl (pi_tup (pe_tup (pa_cons (pe_un un_neg pe_int) (pa_cons pe_int (pa_cons pe_non (pa_cons pe_bl (pa_cons (pe_callTy call_str_int rfl M.z_str LW.boot_str (pa_cons (pe_ix ix_list (pv 3) (pv 5) (fun _ _ => rfl)) pa_nil)) pa_nil))))))) (pg_name (i := 6) nd rfl (.inl rfl)) (pss_one (ps_expr (pe_bm PySem.F.plainAttrs_list PySem.F.slot_list_append PySem.F.type_list_append mt_append (pv 4) (pa_cons (pe_op op_cat (pe_op op_cat (pe_slice sl_list (pv 3) po_none (po_some (pv 5))) (pe_lst (pa_cons (pv 6) pa_nil))) (pe_slice sl_list (pv 3) (po_some (pe_op op_add (pv 5) pe_int)) po_none)) pa_nil))))) (pss_cons (ps_if (pt_cmpR op_gt (pe_callB call_len_seq rfl M.z_len LW.boot_len (pa_cons (pv 3) pa_nil)) pe_int (nomark _)) (pss_one (ps_expr (pe_bm PySem.F.plainAttrs_list PySem.F.slot_list_append PySem.F.type_list_append mt_append (pv 4) (pa_cons (pe_op op_cat (pe_slice sl_list (pv 3) po_none (po_some (pe_un un_neg pe_int))) (pe_lst (pa_cons (pe_ix ix_list (pv 3) pe_int (fun _ _ => rfl)) pa_nil))) pa_nil)))) pss_nil) (pss_one (ps_ret (pv 4)))))))), ?_⟩
  · obtain ⟨h, s, q, B, sl, rs, rfl, _⟩ := h; rfl
  · obtain ⟨h, s, q, B, sl, rs, rfl, z, hs, hq, r0, r1, hperm, hn, s0, s6, hb5, hQ⟩ := h
    obtain ⟨ps, hq1, hq2⟩ := hq
    have hpl : ps.length = rs.length := hq2.length
    refine wq_asg (w_cb (w_consW (w_call (w_cons (x := .ref h) (ev_var rfl) fun H1 e1 => w_cons (x := .ref q) (ev_var rfl) fun H2 e2 => w_nil ⟨h, q, B, ps.map V.ref, rfl, z.step (e1.trans e2), hq1, by rw [List.length_map]; omega, by rw [List.length_map]; omega, fun k x H3 z3 hx => w_nil ?_⟩))))
    rw [List.getElem?_map] at hx
    cases hpk : ps[k]? with
    | none => rw [hpk] at hx; cases hx
    | some p =>
    rw [hpk] at hx; cases hx
    obtain ⟨row, hrk, hrow⟩ := paired_at hq2 hpk
    have hp := hperm row (List.mem_of_getElem? hrk)
    have hlen : row.length = sl.length := hp.length_eq
    have nd : row.Nodup := hp.nodup_iff.mpr hn
    have hbd : ∀ x ∈ row, 0 ≤ x ∧ x ≤ 5 := fun x hx => hb5 x (hp.mem_iff.mp hx)
    refine ⟨p, row.map V.int, rfl, .inr (st_of (z3.ex _ _ hrow)), fun f nf => ?_⟩
    have z4 := z3.step (Ex.new (o := .lst (row.map V.int)) nf)
    have hf4 : upd H3 f (.lst (row.map V.int)) f = some (.lst (row.map V.int)) := upd_same
    generalize upd H3 f (.lst (row.map V.int)) = H4 at z4 hf4
    obtain ⟨r, row', hrr⟩ : ∃ r row', row = r :: row' := by
      cases row with
      | nil => rw [← hlen] at s0; cases s0
      | cons r row' => exact ⟨r, row', rfl⟩
    have at0 : atI (row.map V.int) (0 : Int) = some (.int r) := by
      rw [hrr]
      show atI _ ((0 : Nat) : Int) = _
      exact atI_nat rfl
    have hff : ∀ x ∈ row.map V.int, flat4 x = true := ints_flat4
    have hml : (row.map V.int).length = sl.length := by rw [List.length_map, hlen]
    refine wq_asg (w_lst (w_consL (el_is (el_sl (ev_var rfl) eo_none (eo_some (ev_un ev_c ru_neg)) (sq_of hf4)) cut_init) fun p1 H5 n1 e5 h1 => w_consL (el_catV (ev_var rfl) (e5 _ _ hf4) (el_lst (ea_cons (ev_op (ev_var rfl) ev_c (rv_ixL (sq_of (e5 _ _ hf4)) at0)) ea_nil) (show 1 ≤ 100000 by decide)) (by show (row.map V.int).length + 1 ≤ 100000; omega)) fun p2 H6 n2 e6 h2 => w_consP (ep_max (K := K) rfl rfl ((e5.trans e6) _ _ hf4) ((e5.trans e6) _ _ (z4.ex _ _ hs)) s0 (by omega)) fun v H7 e7 hv => w_cons (x := .non) ev_c fun H8 e8 => w_cons (x := .str "ab") ev_c fun H9 e9 => w_consU (eu_tupN (el_is (el_sl (ev_var rfl) (eo_some ev_c) eo_none (sq_of ((((e5.trans e6).trans e7).trans (e8.trans e9)) _ _ hf4))) (cut_from (i := 1) (by omega)))) fun p6 H10 n6 e10 h6 => w_nil ?_))
    obtain ⟨p3, m, rfl, h3⟩ := hv
    refine ⟨show 6 ≤ sizeLine by decide, fun g ng => ?_⟩
    have e710 := (e8.trans e9).trans e10
    have e410 := ((e5.trans e6).trans e7).trans e710
    have z10 := z4.step e410
    have k1 := ((e6.trans e7).trans e710) _ _ h1
    have k2 := (e7.trans e710) _ _ h2
    have k3 := e710 _ _ h3
    have ne : ∀ {p : Addr} {o : HO}, H10 p = some o → p ≠ g := fun hp y => by rw [y, ng] at hp; cases hp
    have gh : g ≠ h := z10.ne ng
    have nBg : B g = none := fresh_back z10.ex ng
    have en := Ex.new (o := .lst [.ref p1, .ref p2, .ref p3, .non, .str "ab", .ref p6]) ng
    have z11 := z10.step en
    obtain ⟨B1, b1, b2, b3, b4⟩ := hd_but z11 nBg gh
    have hf1 := b4 f _ (ne (e410 _ _ hf4)) (z4.neI (l := row'.map V.int) (i := r) (by rw [hf4, hrr]; rfl)) (en _ _ (e410 _ _ hf4))
    have j1 := b4 p1 _ (ne k1) (z4.ne n1) (en _ _ k1)
    have j2 := b4 p2 _ (ne k2) ((z4.step e5).ne n2) (en _ _ k2)
    have j3 := b4 p3 _ (ne k3) (z10.neI (l := row'.map V.int ++ [.int m]) (i := r) (by rw [k3, hrr]; rfl)) (en _ _ k3)
    have j6 := b4 p6 _ (ne h6) (z10.neT h6) (en _ _ h6)
    have hw0 : ∀ x ∈ ([.ref p1, .ref p2, .ref p3, .non, .str "ab", .ref p6] : List V), Wrong B1 sl x := fun x hx => by
      simp only [List.mem_cons, List.not_mem_nil, or_false] at hx
      have fl1 : ∀ (y : Int), ∀ x ∈ row.map V.int ++ [.int y], flat4 x = true := fun y x hx => by
        rcases List.mem_append.mp hx with hx | hx
        · exact hff x hx
        · rw [List.mem_singleton.mp hx]; rfl
      have ln1 : ∀ y : V, (row.map V.int ++ [y]).length = sl.length + 1 := fun y => by rw [List.length_append, hml]; rfl
      rcases hx with rfl | rfl | rfl | rfl | rfl | rfl
      · exact wrong_seq (.inl j1) (by rw [List.length_take]; omega) (fun x hx => hff x (List.mem_of_mem_take hx)) (wr_len (by rw [List.length_take]; omega))
      · exact wrong_seq (.inl j2) (by rw [ln1]; omega) (fl1 r) (wr_len (by rw [ln1]; omega))
      · exact wrong_seq (.inl j3) (by rw [ln1]; omega) (fl1 m) (wr_len (by rw [ln1]; omega))
      · exact ⟨.flat .non, ⟨rfl, rfl⟩, rfl⟩
      · exact ⟨.flat (.str "ab"), ⟨rfl, rfl⟩, rfl⟩
      · exact wrong_seq (.inr (.inl j6)) (by rw [List.length_drop]; omega) (fun x hx => hff x (List.mem_of_mem_drop hx)) (wr_len (by rw [List.length_drop]; omega))
    have hg11 : upd H10 g (.lst [.ref p1, .ref p2, .ref p3, .non, .str "ab", .ref p6]) g = some (.lst [.ref p1, .ref p2, .ref p3, .non, .str "ab", .ref p6]) := upd_same
    generalize upd H10 g (.lst [.ref p1, .ref p2, .ref p3, .non, .str "ab", .ref p6]) = H11 at z11 b3 hg11
    have hfe : ∀ {σ : L2.St} {Hx : Hp}, Ex B1 Hx → σ[3]? = some (some (.ref f)) → Ev (tCB (rLenS K) (tCons (tVar 3) tNil)) σ Hx (.int (row.length : Int)) := fun e hσ => ev_is (ev_len (ev_var hσ) (sq_of (e _ _ hf1))) (by rw [List.length_map])
    refine wq_asg (w_take (B := B1) (h := h) (m := (row.length : Int)) rfl b3 (hfe b3.ex rfl) (by omega) (by omega) fun ka H12 kp12 z12 ka0 ka1 => ?_)
    obtain ⟨a, rfl⟩ : ∃ a : Nat, ka = (a : Int) := ⟨ka.toNat, by omega⟩
    have ha : a < row.length := by omega
    have hra : row[a]? = some (row[a]'ha) := List.getElem?_eq_getElem ha
    generalize (row[a]'ha) = ra at hra
    have hrab := hbd ra (List.mem_of_getElem? hra)
    have hg12 := kp12.at gh hg11
    have hf12 := z12.ex _ _ hf1
    have hat : atI (row.map V.int) (a : Int) = some (.int ra) := atI_nat (by rw [List.getElem?_map, hra]; rfl)
    have hlog : ra.natAbs.log2 < 1920 := Nat.lt_of_le_of_lt (Nat.log2_le_self _) (by omega)
    refine q_forNTn (K := K) (xs := [.int (-1), .int 6, .non, .bl true, .str (toString ra)]) (eu_tup (ea_cons (ev_un ev_c ru_neg) (ea_cons ev_c (ea_cons ev_c (ea_cons ev_c (ea_cons (fun Hx ex Q qq => w_cb (w_cons (ev_op (ev_var rfl) (ev_var rfl) (rv_ixL (sq_of (ex _ _ hf12)) hat)) fun Hy ey => w_nil ⟨ra, rfl, hlog, qq Hy ey⟩)) ea_nil))))) (show 5 ≤ 100000 by decide)) (fun t i σ' H' => WrPv B1 h s q f g sl a t [.int (-1), .int 6, .non, .bl true, .str (toString ra)] i σ' H') (fun t H13 nt e13 ht => ?_) (fun t i σ' H' _ hP => ?_) (fun t i x σ' H' hx hP => ?_) (fun t σ' H' hP => ?_)
    · obtain ⟨B2, c1, c2, c3, c4⟩ := hd_but (z12.step e13) b2 gh
      exact ⟨B2, _, none, rfl, c1, c2, c3, c4 t _ (fun y => by rw [y, hg12] at nt; cases nt) (z12.ne nt) ht, e13 _ _ hg12, fun x hx => (hw0 x hx).ex c1, rfl⟩
    · obtain ⟨Bk, xs, v6, rfl, c1, c2, c3, ct, c5⟩ := hP
      exact st_of (c3.ex _ _ ct)
    · obtain ⟨Bk, xs, v6, rfl, c1, c2, c3, ct, hg', hxs, hl⟩ := hP
      have hf' := c3.ex _ _ (c1 _ _ hf1)
      have hi5 := (List.getElem?_eq_some_iff.mp hx).1
      have hi5 : i < 5 := hi5
      have hN : NotR ra x := by
        have hm := List.mem_of_getElem? hx
        simp only [List.mem_cons, List.not_mem_nil, or_false] at hm
        rcases hm with rfl | rfl | rfl | rfl | rfl
        · exact ⟨int_ne (by omega), rfl⟩
        · exact ⟨int_ne (by omega), rfl⟩
        · exact ⟨rfl, rfl⟩
        · exact ⟨rfl, rfl⟩
        · exact ⟨rfl, rfl⟩
      have ltk : ((row.map V.int).take a).length ≤ 6 := by rw [List.length_take]; omega
      have ldr : ((row.map V.int).drop (a + 1)).length ≤ 6 := by rw [List.length_drop]; omega
      refine s_appL (xs := xs) hg' (ev_var rfl) (el_cat (xs := (row.map V.int).take a ++ [x]) (el_cat (el_is (el_sl (ev_var rfl) eo_none (eo_some (ev_var rfl)) (sq_of hf')) (cut_to (by omega))) (el_lst (ea_cons (ev_var rfl) ea_nil) (show 1 ≤ 100000 by decide)) (by show _ + 1 ≤ 100000; omega)) (el_is (el_sl (ev_var rfl) (eo_some (ev_is (ev_op (ev_var rfl) ev_c rv_I0) rfl)) eo_none (sq_of hf')) (cut_from (i := a + 1) (by omega))) (by rw [List.length_append]; show _ + 1 + _ ≤ 100000; omega)) (by omega) fun p7 H13 n7 e13 h7 => ?_
      obtain ⟨B3, d1, d2, d3, d4⟩ := wr_app (sl := sl) c3 c2 gh hg' hxs e13 n7 h7 (by rw [List.length_append, List.length_append]; show _ + 1 + _ ≤ 1000; omega) (repl_flat hN.2) (wr_repl hp hn hra hN)
      exact ⟨B3, _, _, rfl, c1.trans d1, d2, d3, d1 _ _ ct, upd_same, d4, by rw [List.length_append, hl]; rfl⟩
    · obtain ⟨Bk, xs, v6, rfl, c1, c2, c3, ct, hg', hxs, hl⟩ := hP
      have hl : xs.length = 11 := hl
      have hf' := c3.ex _ _ (c1 _ _ hf1)
      have fin : ∀ {Bz Hz : Hp} {zs : List V}, Ex B1 Bz → Bz g = none → Hd Bz h Hz → Hz g = some (.lst zs) → zs.length ≤ 1000 → (∀ x ∈ zs, Wrong Bz sl x) → ∀ σ' : L2.St, σ'[4]? = some (some (.ref g)) → tRet (tVar 4) { nx := fun _ H' => Q .non H', rt := Q } σ' Hz := fun {Bz Hz zs} g1 g2 g3 g4 g5 g6 σ' hσ => by
        refine s_ret (ev_var hσ) fun Hy ey => ?_
        obtain ⟨y1, y2⟩ := g3.grow ey
        exact hQ _ _ _ ((b1.trans g1).trans y1) y2 ⟨g, zs, rfl, by rw [del_ne gh]; exact ey _ _ g4, g5, fun x hx => (g6 x hx).ex y1⟩
      refine q_when (b := decide ((1 : Int) < (row.length : Int))) (et_op (hfe (c1.trans c3.ex) rfl) ev_c rv_I0) (fun hb H13 e13 => ?_) (fun hb H13 e13 => fin c1 c2 (c3.step e13) (e13 _ _ hg') (by omega) hxs _ rfl)
      have h1l : 1 < row.length := by
        have := of_decide_eq_true hb
        omega
      have hg13 := e13 _ _ hg'
      have hf13 := e13 _ _ hf'
      refine s_appL (xs := xs) hg13 (ev_var rfl) (el_cat (xs := (row.map V.int).take ((row.map V.int).length - 1)) (el_is (el_sl (ev_var rfl) eo_none (eo_some (ev_un ev_c ru_neg)) (sq_of hf13)) cut_init) (el_lst (ea_cons (ev_op (ev_var rfl) ev_c (rv_ixL (sq_of hf13) at0)) ea_nil) (show 1 ≤ 100000 by decide)) (by rw [List.length_take]; show _ + 1 ≤ 100000; omega)) (by omega) fun p8 H14 n8 e14 h8 => ?_
      have hlast : row[row.length - 1]? = some (row[row.length - 1]'(by omega)) := List.getElem?_eq_getElem (by omega)
      generalize (row[row.length - 1]'(by omega)) = rl at hlast
      have hrl : r ≠ rl := fun y => by
        have h0' : row[0]? = some r := by rw [hrr]; rfl
        rw [← y] at hlast
        obtain ⟨p1', q1⟩ := List.getElem?_eq_some_iff.mp h0'
        obtain ⟨p2', q2⟩ := List.getElem?_eq_some_iff.mp hlast
        have := (List.getElem_inj nd).mp (q1.trans q2.symm)
        omega
      have hform : (row.map V.int).take ((row.map V.int).length - 1) ++ [.int r] = (row.map V.int).take (row.length - 1) ++ [.int r] ++ (row.map V.int).drop (row.length - 1 + 1) := by
        rw [List.length_map, List.drop_eq_nil_of_le (by rw [List.length_map]; omega), List.append_nil]
      rw [hform] at h8
      obtain ⟨B3, d1, d2, d3, d4⟩ := wr_app (sl := sl) (c3.step e13) c2 gh hg13 hxs e14 n8 h8 (by rw [List.length_append, List.length_append, List.length_take, List.length_drop]; show _ + 1 + _ ≤ 1000; omega) (repl_flat rfl) (wr_repl hp hn hlast ⟨int_ne hrl, rfl⟩)
      exact fin (c1.trans d1) d2 d3 upd_same (by rw [List.length_append, hl]; show 11 + 1 ≤ 1000; decide) d4 _ rfl
end
end LO

set_option Elab.async false
set_option linter.all false
set_option maxRecDepth 100000
set_option maxHeartbeats 4000000
namespace LO
open PySem PySem.Spec PyProof.Rows L2 LG LW LC LM Evl
def p00 : Pos := ⟨0, 0, 0, 0⟩
/-- the places in the text of rows_from, of orders_of -/
def posR : Nat → Pos := match defBody s_rows_from with
  | [.If (.UnaryOp _ (.Name _ p0) p1) [.Expr (.Yield (some (.Tuple _ _ p2)) p3) p4] _ p5, .For (.Name _ p6) (.Name _ p7) [.If (.Call (.Name _ p8) [.Name _ p9, .Name _ p10, .Name _ p11] _ p12) [.For (.Name _ p13) (.Call (.Name _ p14) [.Call (.Name _ p15) [.Name _ p16, .Name _ p17] _ p18, .Name _ p19] _ p20)
      [.Expr (.Yield (some (.BinOp (.Tuple [.Name _ p21] _ p22) _ (.Name _ p23) p24)) p25) p26] _ p27] _ p28] _ p29] => fun i => [p0, p1, p2, p3, p4, p5, p6, p7, p8, p9, p10, p11, p12, p13, p14, p15, p16, p17, p18, p19, p20, p21, p22, p23, p24, p25, p26, p27, p28, p29].getD i p00
  | _ => fun _ => p00
def posO : Nat → Pos := match defBody s_orders_of with
  | [.Assign [.Name _ p0] (.Call (.Name _ p1) [.Name _ p2, .Name _ p3] _ p4) p5, .Assign [.Name _ p6] (.Call (.Name _ p7) [.Name _ p8, .Name _ p9] _ p10) p11, .For (.Name _ p12) (.Call (.Name _ p13) [.Name _ p14, .Name _ p15] _ p16) [.Expr (.Yield (some (.Name _ p17)) p18) p19] _ p20] =>
    fun i => [p0, p1, p2, p3, p4, p5, p6, p7, p8, p9, p10, p11, p12, p13, p14, p15, p16, p17, p18, p19, p20].getD i p00
  | _ => fun _ => p00
theorem rows_body : bodyRows posR = defBody s_rows_from := by rfl
theorem rows_scope : scRows = defScope s_rows_from := by rfl
theorem ord_body : bodyOrd posO = defBody s_orders_of := by rfl
theorem ord_scope : scOrd = defScope s_orders_of := by rfl
section
variable {P : Program} {w : World} {K : PySem.W.Frag} {mg : Str → Option Value} {base : Heap}
theorem Fn.out {CX : CXT} {k : Nat} {x : Str} {ps : List Str} {sp : Sp} (F : Fn P w K mg base CX k x ps [] sp) : ∃ f fd, FnOk P w K mg base CX k f fd ps sp ∧ mg x = some (.ref f) ∧ PySem.W.keepIn K (.ref f) = true ∧ Binds K fd ps [] := by
  obtain ⟨f, fd, ds, F1, hm, hk, hb, hd⟩ := F
  cases hd
  exact ⟨f, fd, F1, hm, hk, hb⟩
theorem rx_of (M : Mods P K mg base) : ∃ fR fI fW fdR fdI fdW, RX P w K mg base posR (defArgs s_rows_from) fR fI fW fdR fdI fdW := by
  obtain ⟨fd, F⟩ := M.F_rows_from
  rw [← rows_body, ← rows_scope] at F
  obtain ⟨fI, fdI, I1, I2, I3, I4⟩ := Fn.out ((fn_is_first (w := w) M).up (show 1 ≤ 2 by decide))
  obtain ⟨fW, fdW, W1, W2, W3, W4⟩ := Fn.out ((fn_without_role (w := w) M).up (show 1 ≤ 2 by decide))
  exact ⟨_, fI, fW, fd, fdI, fdW, F, F.bindsN fun _ _ _ _ _ _ us hl => match us, hl with | [_, _], _ => rfl, M.g_rows_from, I1, I3, I4, I2, W1, W3, W4, W2⟩
theorem ox_of (M : Mods P K mg base) : ∃ fO fS fC fdO fdS fdC, OX P w K mg base posO (defArgs s_orders_of) (sp_slots_of K) (sp_couples_within K) 4 fO fS fC fdO fdS fdC := by
  obtain ⟨fd, F⟩ := M.F_orders_of
  rw [← ord_body, ← ord_scope] at F
  obtain ⟨fS, fdS, S1, S2, S3, S4⟩ := Fn.out ((fn_slots_of (w := w) M).up (show 4 ≤ 4 by decide))
  obtain ⟨fC, fdC, C1, C2, C3, C4⟩ := Fn.out ((fn_couples_within (w := w) M).up (show 1 ≤ 4 by decide))
  exact ⟨_, fS, fC, fd, fdS, fdC, F, F.bindsN fun _ _ _ _ _ _ us hl => match us, hl with | [_, _], _ => rfl, M.g_orders_of, S1, S3, S4, S2, C1, C3, C4, C2⟩
end
/-! ### [row for row in orders_of(tongue, frame)] -/
theorem nice_tongue {K : PySem.W.Frag} {H : Hp} {x : Addr} {fs : List Fr} {L : List Pr} (h : TongueAt K H x fs L) : TongueAt K (nicePart H) x fs L := by
  obtain ⟨dx, ra, sa, fa, rl, cl, vb, ys, h1, h2, h3, ⟨ps, h4, h5⟩⟩ := h
  exact ⟨dx, ra, sa, fa, rl, cl, vb, ys, nice_at h1 rfl, nice_at h2 rfl, Paired.mapP h3 fun _ _ ⟨dy, q, g1, g2⟩ => ⟨dy, q, nice_at g1 rfl, nice_at g2 rfl⟩, ps, nice_at h4 rfl, Paired.mapP h5 fun _ _ w => nice_at w rfl⟩
theorem w_lcG {K : PySem.W.Frag} {σ : L2.St} {H : Hp} {ta : TA} {Q : VK} {kr : Nat} {x : Addr} {fs : List Fr} {L : List Pr} {j : Nat} {fr : Fr} (ha : EvA ta σ H [.ref x, .int (j : Int)]) (ht : TgAt K H x fs L) (hj : fs[j]? = some fr) (hn : fr.slots.Nodup) (hkr : 11 ≤ kr)
    (k : ∀ D ps H', Ex H H' → H D = none → H' D = some (.lst (ps.map V.ref)) → Paired (RwAt H') ps (rows fr.slots (fcs L fr)) → Q (.ref D) H') : tLcG (sp_slots_of K) (sp_couples_within K) kr ta σ H Q :=
  ha H (Ex.refl H) _ fun H1 e1 => by
    have ht1 := ht.ex e1
    have h6 := ht1.six hj
    have hr : (rowsN fr.slots.length fr.slots (fcs L fr)).length ≤ sizeLine := by
      have := rows_le (fcs L fr) _ fr.slots rfl hn
      have h7 := fac_le _ h6
      have h8 : (rowsN fr.slots.length fr.slots (fcs L fr)).length ≤ 720 := Nat.le_trans this h7
      exact sz_of (by omega)
    refine ⟨x, (j : Int), fr.slots.length, fr.slots, fcs L fr, rfl, by omega, by omega, Nat.le_refl _, hr, fun Q q => ⟨x, (j : Int), fs, L, rfl, nice_tongue ht1.at_, ht1.ok, .inl ⟨j, fr, rfl, hj, fun p H' e hp => q H' p e hp⟩⟩, fun H2 aL e2 hL Q q => ⟨x, aL, fs, L, fr.slots, rfl, (nice_tongue ht1.at_).ex e2, ht1.l36, hL, fun p H' e hp => q H' p e ?_⟩, fun D ps H' e nD hD hp => k D ps H' (e1.trans e) (fresh_back e1 nD) hD hp⟩
    obtain ⟨qs, h1, h2⟩ := hp
    exact ⟨qs, h1, Paired.mapP h2 fun _ _ w => w⟩
end LO

set_option Elab.async false
set_option linter.all false
set_option maxRecDepth 100000
set_option maxHeartbeats 4000000
namespace LO
open PySem PySem.Spec PyProof.Rows L2 LG LW LC LM Evl
section
variable {P : Program} {w : World} {K : PySem.W.Frag} {mg : Str → Option Value} {base : Heap}

/-! ### _law_frame_right -/
theorem Hd.neR {B H : Hp} {h p : Addr} {ps : List Addr} (z : Hd B h H) (hp : H p = some (.lst (ps.map V.ref))) : p ≠ h := fun y => by
  obtain ⟨c, ns, a, b, t, h1, _⟩ := z.hand
  rw [y, h1] at hp
  cases ps with
  | nil => cases hp
  | cons p1 ps =>
    cases ps with
    | nil => cases hp
    | cons p2 ps => cases hp
theorem RowsL.del {B H : Hp} {h q : Addr} {rs : List (List Int)} (z : Hd B h H) (hr : RowsL H q rs) : RowsL (L2.del H h) q rs := by
  obtain ⟨ps, h1, h2⟩ := hr
  exact ⟨ps, by rw [del_ne (z.neR h1)]; exact h1, Paired.mapP h2 fun _ _ w => by unfold RwAt; rw [del_ne (z.neT w)]; exact w⟩
theorem frs_at {W : Wd} {j : Nat} {fd : Fd} (h : W.fs[j]? = some fd) (h3 : W.fs.length ≤ 3) : ∃ fr, (frsOf W)[j]? = some fr ∧ fr.slots = slotsL fd.ns fd.cl := by
  have hj := (List.getElem?_eq_some_iff.mp h).1
  have h4 : j < vrbN.length := by show j < 4; omega
  refine ⟨frOf (vrbN[j], fd), ?_, rfl⟩
  unfold frsOf
  rw [List.getElem?_map, show (vrbN.zip W.fs)[j]? = some (vrbN[j], fd) from List.getElem?_zip_eq_some.mpr ⟨List.getElem?_eq_getElem h4, h⟩]; rfl
theorem slots_rise {n : Nat} {fd : Fd} (k : FdOk n fd) : (slotsL fd.ns fd.cl).Pairwise (· < ·) := by
  refine rise_of (LM.srt_sorted _) ((LM.srt_perm _).nodup_iff.mpr (List.nodup_append.mpr ⟨rise_nodup k.fr.nouns.rise, ?_, fun x hx y hy z => ?_⟩))
  · cases fd.cl <;> simp
  · subst z
    exact k.fr.c2 x (Option.mem_toList.mp hy) hx
theorem slots_bd {n : Nat} {fd : Fd} (k : FdOk n fd) : ∀ x ∈ slotsL fd.ns fd.cl, 0 ≤ x ∧ x ≤ 5 := fun x hx => by
  rcases List.mem_append.mp (LM.srt_mem.mp hx) with hx | hx
  · exact k.fr.nouns.bd x hx
  · exact k.fr.c1 x (Option.mem_toList.mp hx)
theorem eht_notB {te : TE} {σ : L2.St} {B : Hp} {h : Addr} (he : EvH te σ B h (fun v _ => v = .bl true)) : EvHT (tNot (tB te)) σ B h (fun b => b = false) := fun B1 H1 e z Q q => he B1 H1 e z _ fun v B2 H2 e2 z2 d2 hv => ⟨true, hv, q _ B2 H2 e2 z2 d2 rfl⟩
theorem q_forH {K : PySem.W.Frag} {σ : L2.St} {B H : Hp} {h : Addr} {tl : TE} {tu tz : TS} {D : Ends} {j : Nat} {P : V → Hp → Prop} (he : ∀ Q : VK, (∀ v B' H', Ex B B' → Hd B' h H' → P v B' → Q v H') → tl σ H Q) (k : ∀ v B' H', Ex B B' → Hd B' h H' → P v B' → ∃ a xs, v = .ref a ∧ SqL K H' a xs ∧ ∃ Pv : Nat → L2.St → Hp → Prop, Pv 0 σ H' ∧ (∀ i σ' H', i ≤ xs.length → Pv i σ' H' → SqL K H' a xs) ∧
    (∀ i x σ' H', xs[i]? = some x → Pv i σ' H' → tu { D with nx := Pv (i + 1), ct := Pv (i + 1), bk := tz D } (σ'.set j (some x)) H') ∧ ∀ σ' H', Pv xs.length σ' H' → tz D σ' H') : tSeq (tFor (iList K tl) (gName j) tu) tz D σ H :=
  he _ fun v B' H' e z p => by
    obtain ⟨a, xs, hv, hx, Pv, h0, hl, hs, hdn⟩ := k v B' H' e z p
    exact ⟨a, hv, ⟨xs, hx⟩, for_list (D := { D with nx := tz D }) Pv h0 hl hs hdn⟩
/-- the slots of _law_frame_right behind its beginning -/
def FrS (h a x : Addr) (j : Nat) (l s q D : Addr) (n : Nat) (g : Addr) (v10 v11 v12 : Option V) : L2.St := [some (.ref h), some (.ref a), some (.ref x), some (.int (j : Int)), some (.ref l), some (.ref s), some (.ref q), some (.ref D), some (.int (n : Int)), some (.ref g), v10, v11, v12]
def sp__law_frame_right (K : PySem.W.Frag) : Sp := fun vs H Q _ => ∃ (h a x l : Addr) (j : Nat) (B : Hp) (W : Wd) (L Ld : List Pr), vs = [.ref h, .ref a, .ref x, .int (j : Int), .ref l] ∧ Hd B h H ∧ WdAt B a W ∧ WdOk W ∧ TgAt K B x (frsOf W) L ∧ (∀ c, c ∈ L ↔ Path W.cs c.1 c.2) ∧ B l = some (.dT (dP Ld)) ∧ Led W.cs Ld ∧ j < W.fs.length ∧ ∀ B' H', Ex B B' → Hd B' h H' → Q (.bl true) H'
abbrev n__law_frame_right : List Str := ["_law_hand_here", "_law_world_here", "_law_tongue", "_law_frame", "_law_led", "_law_slots_here", "_law_due", "_law_told", "_law_count", "_law_places", "_law_place", "_law_turn", "_law_row"]
theorem sc__law_frame_right : FnScope n__law_frame_right ["_law_hand_here", "_law_world_here", "_law_tongue", "_law_frame", "_law_led"] (defScope s__law_frame_right) := ⟨rfl, rfl, rfl, by decide +kernel, rfl, by decide +kernel, by decide +kernel⟩
theorem fn__law_frame_right (M2 : Mods2 P K mg base) : Fn P w K mg base CX0 13 "_law_frame_right" ["_law_hand_here", "_law_world_here", "_law_tongue", "_law_frame", "_law_led"] [] (sp__law_frame_right K) := by
  have M := M2.m
  obtain ⟨fR, fI, fW, fdR, fdI, fdW, hRX⟩ := rx_of (w := w) M
  obtain ⟨fO, fS, fC, fdO, fdS, fdC, hOX⟩ := ox_of (w := w) M
  have nd := sc__law_frame_right.nd
  have h__law_slots := (fn__law_slots (w := w) M).up (show 1 ≤ 12 by decide)
  have h__law_orders := (fn__law_orders (w := w) M).up (show 1 ≤ 12 by decide)
  have h_how_many_orders := (fn_how_many_orders (w := w) M).up (show 9 ≤ 12 by decide)
  have h__law_wrong_rows := (fn__law_wrong_rows (w := w) M).up (show 4 ≤ 12 by decide)
  have h__law_same_rows := (fn__law_same_rows (w := w) M).up (show 3 ≤ 12 by decide)
  have h__law_is_whole := (fn__law_is_whole (w := w) M).up (show 1 ≤ 12 by decide)
  have h__law_take := (fn__law_take (w := w) M).up (show 2 ≤ 12 by decide)
  have h__law_place_right := (fn__law_place_right (w := w) M).up (show 10 ≤ 12 by decide)
  have h__law_row_right := (fn__law_row_right (w := w) M2).up (show 12 ≤ 12 by decide)
  have h__law_refused := (fn__law_refused (w := w) M2).up (show 11 ≤ 12 by decide)
  have h__law_shuffled := (fn__law_shuffled (w := w) M).up (show 3 ≤ 12 by decide)
  refine Fn.mk0 M.F__law_frame_right M.g__law_frame_right sc__law_frame_right (fun vs H Q E h => ?_) (fun fd F => F.bindsN fun _ _ _ _ _ _ us hl => match us, hl with | [_, _, _, _, _], _ => rfl) fun cdv A outer s H vs Q E hr h => ⟨_,
    (pss_cons (ps_set (i := 5) nd rfl (.inl rfl) (pe_fn h__law_slots hr pass0 (pa_cons (pe_ix ix_tup (pe_ix ix_list (pv 1) pe_int (fun _ _ => rfl)) (pv 3) (fun _ _ => rfl)) pa_nil))) (pss_cons (ps_set (i := 6) nd rfl (.inr rfl) (pe_fn h__law_orders hr pass0 (pa_cons (pv 5) (pa_cons (pv 4) pa_nil)))) (pss_cons (ps_setLcG (i := 7) nd rfl rfl (sw_true rfl rfl rfl (by decide +kernel)) hRX hOX hr (by decide) rfl (pa_cons (pv 2) (pa_cons (pv 3) pa_nil))) (pss_cons (ps_if (pt_not (pt_val (pe_fn h__law_same_rows hr pass0 (pa_cons (pe_callTy call_tuple_of rfl M.z_tuple LW.boot_tuple (pa_cons (pv 7) pa_nil)) (pa_cons (pv 6) pa_nil))))) (pss_one (ps_ret pe_bl)) pss_nil) (pss_cons (ps_set (i := 8) nd rfl (.inl rfl) (pe_fn h_how_many_orders hr passL (pa_cons (pv 2) (pa_cons (pv 3) pa_nil)))) (pss_cons (ps_if (PW.pt (pw_or (pt_not (pt_val (pe_fn h__law_is_whole hr pass0 (pa_cons (pv 8) pa_nil)))) (pw_or1 (pt_cmpR op_ne (pv 8) (pe_callB call_len_seq rfl M.z_len LW.boot_len (pa_cons (pv 6) pa_nil)) (nomark _))))) (pss_one (ps_ret pe_bl)) pss_nil) (pss_cons (ps_set (i := 9) nd rfl (.inl rfl) (pe_op op_cat (pe_lst (pa_cons pe_int (pa_cons (pe_op op_sub (pe_callB call_len_seq rfl M.z_len LW.boot_len (pa_cons (pv 6) pa_nil)) pe_int) pa_nil))) (pe_lc (own := [("_law_turn", 11)]) rfl nd (pi_range1 rfl M.z_range (pa_cons pe_int pa_nil)) (blkOk_by (N := n__law_frame_right) (sc := (defScope s__law_frame_right)) (by decide +kernel)) (fun _ _ _ _ _ => (pg_name (i := 11) nd rfl (.inl rfl))) (fun _ _ _ _ _ => pts_nil) (fun _ _ _ _ _ => (pe_fn h__law_take hr pass0 (pa_cons (pv 0) (pa_cons (pe_callB (show CallR _ _ (rLenS K) from call_len_seq) rfl M.z_len LW.boot_len (pa_cons (pv 6) pa_nil)) pa_nil))))))) (pss_cons (ps_for PassesOwn.never rfl (pi_list (pv 9)) (pg_name (i := 10) nd rfl (.inl rfl)) (pss_one (ps_if (pt_not (pt_val (pe_fn h__law_place_right hr pass0 (pa_cons (pv 2) (pa_cons (pv 3) (pa_cons (pv 6) (pa_cons (pv 10) pa_nil))))))) (pss_one (ps_ret pe_bl)) pss_nil))) (pss_cons (ps_for PassesOwn.never rfl (pi_range1 rfl M.z_range (pa_cons pe_int pa_nil)) (pg_name (i := 11) nd rfl (.inl rfl)) (pss_one (ps_if (pt_not (pt_val (pe_fn h__law_row_right hr pass0 (pa_cons (pv 2) (pa_cons (pv 3) (pa_cons (pv 6) (pa_cons (pe_fn h__law_shuffled hr pass0 (pa_cons (pv 0) (pa_cons (pv 5) pa_nil))) pa_nil))))))) (pss_one (ps_ret pe_bl)) pss_nil))) (pss_cons (ps_for PassesOwn.never rfl (pi_list (pe_fn h__law_wrong_rows hr pass0 (pa_cons (pv 0) (pa_cons (pv 5) (pa_cons (pv 6) pa_nil))))) (pg_name (i := 12) nd rfl (.inl rfl)) (pss_one (ps_if (PW.pt (pw_or (pt_not (pt_val (pe_fn h__law_refused hr pass0 (pa_cons (pv 2) (pa_cons (pv 3) (pa_cons (pv 12) (pa_cons pe_int pa_nil))))))) (pw_or1 (pt_not (pt_val (pe_fn h__law_refused hr pass0 (pa_cons (pv 2) (pa_cons (pv 3) (pa_cons (pv 12) (pa_cons pe_int pa_nil)))))))))) (pss_one (ps_ret pe_bl)) pss_nil))) (pss_cons (ps_for PassesOwn.never rfl (pi_tup (pe_tup (pa_cons (pe_un un_neg pe_int) (pa_cons (pe_callB call_len_seq rfl M.z_len LW.boot_len (pa_cons (pv 6) pa_nil)) (pa_cons (pe_op op_add (pe_callB call_len_seq rfl M.z_len LW.boot_len (pa_cons (pv 6) pa_nil)) (pe_op op_pow pe_int pe_int)) (pa_cons pe_non (pa_cons pe_bl (pa_cons pe_str pa_nil)))))))) (pg_name (i := 10) nd rfl (.inl rfl)) (pss_one (ps_if (pt_not (pt_val (pe_fn h__law_refused hr pass0 (pa_cons (pv 2) (pa_cons (pv 3) (pa_cons (pv 10) (pa_cons pe_int pa_nil))))))) (pss_one (ps_ret pe_bl)) pss_nil))) (pss_one (ps_ret pe_bl))))))))))))), ?_⟩
  · obtain ⟨h, a, x, l, j, B, W, L, Ld, rfl, _⟩ := h; rfl
  · obtain ⟨h, a, x, l, j, B, W, L, Ld, rfl, z, hW, ok, ht, hL, hl, hled, hj, hQ⟩ := h
    obtain ⟨t, f, r, hw, hT, ⟨qs, hqs, hfs⟩, hr'⟩ := id hW
    have hql : qs.length = W.fs.length := hfs.length
    have hqi : j < qs.length := by omega
    obtain ⟨fd, hf1, hf2⟩ := paired_at hfs (List.getElem?_eq_getElem hqi)
    have hqx : (qs.map V.ref)[j]? = some (.ref (qs[j]'hqi)) := by rw [List.getElem?_map, List.getElem?_eq_getElem hqi]; rfl
    generalize (qs[j]'hqi) = p at hf2 hqx
    obtain ⟨m, hp1, hp2⟩ := hf2
    obtain ⟨fr, hfr, hsl⟩ := frs_at hf1 ok.f3
    have fok := ok.fk fd (List.mem_of_getElem? hf1)
    have hrise := slots_rise fok
    have hbd := slots_bd fok
    have hnl := fok.fr.nouns.hi
    refine wq_asg (w_call (w_cons (x := .ref p) (ev_op (ev_op (ev_var rfl) ev_c (rv_ixL (sq_of (z.ex _ _ hw)) rfl)) (ev_var rfl) (rv_ixT (st_of (z.ex _ _ hqs)) (atI_nat hqx))) fun H1 e1 => w_nil ⟨p, m, fd.ns, fd.cl, fd.ag, rfl, e1 _ _ (z.ex _ _ hp1), e1 _ _ (z.ex _ _ hp2), by omega, fun s H2 ns e2 hs => ?_⟩))
    rw [← hsl] at hs hrise hbd
    have z2 := z.step (e1.trans e2)
    refine wq_asg (w_call (w_cons (x := .ref s) (ev_var rfl) fun H3 e3 => w_cons (x := .ref l) (ev_var rfl) fun H4 e4 => w_nil ⟨s, l, fr.slots, Ld, rfl, (e3.trans e4) _ _ hs, (e3.trans e4) _ _ (z2.ex _ _ hl), (ht.six hfr), fun q H5 e5 hq => ?_⟩))
    have e25 := (e3.trans e4).trans e5
    have z5 := z2.step e25
    have hs5 := e25 _ _ hs
    rw [rowsB_eq (C := fcs L fr) (rise_nodup hrise) fun a b ha hb => (fcs_mem ha hb).trans ((hL (a, b)).trans (hled.1 (a, b)).symm)] at hq
    have hnoL : ∀ y, (y, y) ∉ L := fun y hy => ok.rk.no y ((hL (y, y)).mp hy)
    generalize hrs : rows fr.slots (fcs L fr) = rs at hq
    have hd5 : FrD K H5 x (frsOf W) L j fr q rs := ⟨ht.ex z5.ex, hfr, hq, hrs.symm, hrise, hnoL⟩
    have htr : ∀ a b c, (a, b) ∈ fcs L fr → (b, c) ∈ fcs L fr → (a, c) ∈ fcs L fr := fun a b c h1 h2 => (fcs_mem (fcs_in h1).2.1 (fcs_in h2).2.2).mpr ((hL (a, c)).mpr (((hL (a, b)).mp (fcs_in h1).1).trans ((hL (b, c)).mp (fcs_in h2).1)))
    have rpos : 0 < rs.length := by
      have := rows_ne (fun y hy => hnoL y (fcs_in hy).1) htr _ fr.slots rfl (rise_nodup hrise)
      rw [hrs] at this
      exact List.length_pos_iff.mpr this
    have r720 := hd5.len
    refine wq_asg (w_lcG (kr := 12) (ea_cons (ev_var rfl) (ea_cons (ev_var rfl) ea_nil)) hd5.tg hd5.hj hd5.nodup (by decide) fun D ps H6 e6 nD hD hps => ?_)
    rw [hrs] at hps
    have hd6 := hd5.ex e6
    refine q_pass (et_not (a := true) (et_B (fun H7 e7 Q qq => w_call (w_consU (eu_tupL (ev_var rfl) (sq_of (e7 _ _ hD))) fun tp H8 np e8 htp => w_cons (x := .ref q) (ev_var rfl) fun H9 e9 => w_nil ⟨tp, q, ps, rs, rfl, e9 _ _ htp, Paired.mapP hps fun _ _ w => (e7.trans (e8.trans e9)) _ _ w, (hd6.ex (e7.trans (e8.trans e9))).due, by omega, fun r hr => by have := hd6.rlen hr; omega, fun H10 e10 => qq H10 (e8.trans (e9.trans e10))⟩)))) fun H7 e7 => ?_
    have hd7 := hd6.ex e7
    refine q_asg (v := .int (rs.length : Int)) (ev_fn (ea_cons (ev_var rfl) (ea_cons (ev_var rfl) ea_nil)) fun H8 e8 Q E qq => ⟨x, j, frsOf W, L, rfl, (hd7.ex e8).tg, .inl ⟨j, fr, rfl, hfr, fun H9 e9 => by rw [hd7.cnt]; exact qq H9 e9⟩⟩) fun H8 e8 => ?_
    have hd8 := hd7.ex e8
    have len : ∀ {σ : L2.St} {Hx : Hp}, FrD K Hx x (frsOf W) L j fr q rs → σ[6]? = some (some (.ref q)) → Ev (tCB (rLenS K) (tCons (tVar 6) tNil)) σ Hx (.int (rs.length : Int)) := fun hx hσ => by
      obtain ⟨ds, g1, g2⟩ := hx.due
      have hl2 : ds.length = rs.length := g2.length
      exact ev_is (ev_len (ev_var hσ) (sq_of g1)) (by rw [List.length_map, hl2])
    refine q_pass (et_or (a := false) (b := false) (et_not (et_B (ev_fn (z := .bl true) (ea_cons (ev_var rfl) ea_nil) fun H9 e9 Q E qq => ⟨.int (rs.length : Int), rfl, rfl, qq⟩))) fun _ => et_is (et_op (ev_var rfl) (len hd8 rfl) (rv_ne rfl)) (by rw [decide_eq_true rfl]; rfl)) fun H9 e9 => ?_
    have hd9 := hd8.ex e9
    have e59 := ((e6.trans e7).trans e8).trans e9
    have z9 := z5.step e59
    have hs9 := e59 _ _ hs5
    refine wq_asg (w_op (w_evL (el_lst (ea_cons ev_c (ea_cons (ev_op (len hd9 rfl) ev_c rv_I0) ea_nil)) (show 2 ≤ 100000 by decide)) fun p1 H10 n1 e10 hp1 => w_lcR (n := 3) (ea_cons ev_c ea_nil) (by decide) fun H11 D2 e11 hD2 => ?_))
    have z11 := z9.step (e10.trans e11)
    have hd11 := hd9.ex (e10.trans e11)
    have D2h : D2 ≠ h := z11.ne hD2
    have p1h : p1 ≠ h := (z9.ne n1)
    have sh : s ≠ h := z.ne (fresh_back e1 ns)
    obtain ⟨g1, g2⟩ := z11.grow (Ex.refl H11)
    have hdB : FrD K (L2.del H11 h) x (frsOf W) L j fr q rs := ⟨ht.ex g1, hfr, RowsL.del z11 hd11.due, hrs.symm, hrise, hnoL⟩
    have hsB : L2.del H11 h s = some (.lst (fr.slots.map V.int)) := by rw [del_ne sh]; exact (e10.trans e11) _ _ hs9
    have hpB : L2.del H11 h p1 = some (.lst [.int 0, .int ((rs.length : Int) - 1)]) := by rw [del_ne p1h]; exact e11 _ _ hp1
    have nDB : L2.del H11 h D2 = none := by rw [del_ne D2h]; exact hD2
    generalize L2.del H11 h = Bn at g1 g2 hdB hsB hpB nDB
    refine ⟨fun i H' => ∃ ks : List Nat, Hd Bn h H' ∧ H' D2 = some (.lst (ks.map fun (k : Nat) => .int (k : Int))) ∧ ks.length = i ∧ ∀ k ∈ ks, k < rs.length, ⟨[], g2.step (Ex.new hD2), upd_same, rfl, fun k hk => by cases hk⟩, fun i H' hi hP => ?_, fun H' hP => ?_⟩
    · obtain ⟨ks, zk, hD', hkl, hks⟩ := hP
      refine ⟨rfl, (et_yes : EvT tYes _ H' true) H' (Ex.refl _) _ fun H12 e12 => ?_⟩
      rw [if_pos rfl]
      refine w_take (B := Bn) (h := h) (m := (rs.length : Int)) rfl (zk.step e12) (len (hdB.ex (zk.ex.trans e12)) rfl) (by omega) (by omega) fun k H13 kp13 z13 k0 k1 => ⟨_, kp13.at D2h (e12 _ _ hD'), sz_lt (by rw [List.length_map]; omega), ks ++ [k.toNat], z13.mut nDB D2h, ?_, by rw [List.length_append, hkl]; rfl, fun k' hk' => ?_⟩
      · rw [List.map_append, show (k.toNat :: []).map (fun (k : Nat) => V.int (k : Int)) = [V.int k] by rw [List.map_cons, List.map_nil, show (k.toNat : Int) = k by omega]]
        exact upd_same
      · rcases List.mem_append.mp hk' with hk' | hk'
        · exact hks k' hk'
        · rw [List.mem_singleton.mp hk']; omega
    obtain ⟨ks, zk, hD', hkl, hks⟩ := hP
    refine ⟨p1, D2, _, _, rfl, rfl, zk.ex _ _ hpB, hD', sz_of (by rw [List.length_map]; show 2 + ks.length ≤ 100000; omega), fun g ng => ?_⟩
    have hplaces : [V.int 0, .int ((rs.length : Int) - 1)] ++ (ks.map fun (k : Nat) => V.int (k : Int)) = ((0 :: (rs.length - 1) :: ks).map fun (k : Nat) => V.int (k : Int)) := by
      rw [List.map_cons, List.map_cons, show ((rs.length - 1 : Nat) : Int) = (rs.length : Int) - 1 by omega]; rfl
    have hpl : ∀ k ∈ (0 :: (rs.length - 1) :: ks), k < rs.length := fun k hk => by
      rcases List.mem_cons.mp hk with rfl | hk
      · exact rpos
      · rcases List.mem_cons.mp hk with rfl | hk
        · omega
        · exact hks k hk
    rw [hplaces]
    generalize (0 :: (rs.length - 1) :: ks) = pls at hpl
    have z14 := zk.step (Ex.new (o := .lst (pls.map fun (k : Nat) => V.int (k : Int))) ng)
    have hg14 : upd H' g (.lst (pls.map fun (k : Nat) => V.int (k : Int))) g = some (.lst (pls.map fun (k : Nat) => V.int (k : Int))) := upd_same
    generalize upd H' g (.lst (pls.map fun (k : Nat) => V.int (k : Int))) = H14 at z14 hg14
    have hd14 := hdB.ex z14.ex
    -- the places
    refine q_forLn (ev_var rfl) (sq_of hg14) (fun i σ' H' => ∃ v10 v11, σ' = FrS h a x j l s q D rs.length g v10 v11 none ∧ Ex H14 H') (fun H15 e15 => ⟨none, none, rfl, e15⟩) (fun i σ' H' _ ⟨_, _, _, e⟩ => sq_of (e _ _ hg14)) (fun i y σ' H' hy hP => ?_) fun σ' H15 hP => ?_
    · obtain ⟨v10, v11, rfl, e15⟩ := hP
      rw [List.getElem?_map] at hy
      cases hk : pls[i]? with
      | none => rw [hk] at hy; cases hy
      | some k =>
      rw [hk] at hy; cases hy
      have hkl' := hpl k (List.mem_of_getElem? hk)
      exact s_pass (et_not (a := true) (et_B (ev_fn (z := .bl true) (ea_cons (ev_var rfl) (ea_cons (ev_var rfl) (ea_cons (ev_var rfl) (ea_cons (ev_var rfl) ea_nil)))) fun H16 e16 Q E qq => ⟨x, q, j, k, frsOf W, L, fr, rs, rs[k], rfl, hd14.ex (e15.trans e16), List.getElem?_eq_getElem hkl', qq⟩))) fun H16 e16 => ⟨_, v11, rfl, e15.trans e16⟩
    obtain ⟨v10, v11, rfl, e15⟩ := hP
    have z15 := z14.step e15
    -- drawn rows
    refine q_forR1 (n := 3) (ea_cons ev_c ea_nil) ⟨by decide, by decide⟩ (fun i σ' H' => ∃ Bk v11, σ' = FrS h a x j l s q D rs.length g v10 v11 none ∧ Ex Bn Bk ∧ Hd Bk h H') (fun H16 e16 => ⟨Bn, v11, rfl, Ex.refl _, z15.step e16⟩) (fun i σ' H' hi hP => ?_) fun σ' H16 hP => ?_
    · obtain ⟨Bk, v11, rfl, k1, zk'⟩ := hP
      refine s_ifH zk' (eht_notB fun B1 H1 e z Q qq => w_call (w_cons (x := .ref x) (ev_var rfl) fun H2 e2 => w_cons (x := .int (j : Int)) (ev_var rfl) fun H3 e3 => w_cons (x := .ref q) (ev_var rfl) fun H4 e4 => w_consW (w_call (w_cons (x := .ref h) (ev_var rfl) fun H5 e5 => w_cons (x := .ref s) (ev_var rfl) fun H6 e6 => w_nil ⟨h, s, B1, fr.slots.map V.int, rfl, z.step ((((e2.trans e3).trans e4).trans e5).trans e6), .inl (e _ _ (k1 _ _ hsB)), by rw [List.length_map]; have := hdB.six; omega, fun p' ys B7 H7 e7 z7 kp7 hp' hperm => w_nil ?_⟩)))) (fun _ _ _ _ _ hb => by cases hb) fun B' H' e z _ _ => ⟨B', _, rfl, k1.trans e, z⟩
      obtain ⟨row, rfl, hrow⟩ := perm_ints hperm
      exact ⟨x, q, p', j, frsOf W, L, fr, rs, row, rfl, hdB.ex (k1.trans ((e.trans e7).trans z7.ex)), z7.ex _ _ hp', hrow, fun H8 e8 => qq _ B7 H8 e7 (z7.step e8) (dtr (dtr (z.kp ((((e2.trans e3).trans e4).trans e5).trans e6)) kp7) (z7.kp e8)) rfl⟩
    obtain ⟨Bk, v11, rfl, k1, zk'⟩ := hP
    have hdk := hdB.ex k1
    -- rows of the wrong form
    have sl0 : 0 < fr.slots.length := by
      rw [hsl]
      unfold slotsL
      rw [LM.srt_len, List.length_append]
      have := fok.fr.nouns.lo
      omega
    refine q_forH (K := K) (B := Bk) (h := h) (P := WrsP fr.slots) (fun Q qq => w_call (w_cons (x := .ref h) (ev_var rfl) fun H2 e2 => w_cons (x := .ref s) (ev_var rfl) fun H3 e3 => w_cons (x := .ref q) (ev_var rfl) fun H4 e4 => w_nil ⟨h, s, q, Bk, fr.slots, rs, rfl, zk'.step ((e2.trans e3).trans e4), k1 _ _ hsB, hdk.due, rpos, by omega, fun row hr => hdk.perm hr, hdk.nodup, sl0, hdk.six, hbd, fun v B5 H5 e5 z5 hv => qq v B5 H5 e5 z5 hv⟩)) fun v B17 H17 e17 z17 hv => ?_
    obtain ⟨pw, xs, rfl, hpw, hxl, hxw⟩ := hv
    have hd17 := (hdk.ex e17).ex z17.ex
    refine ⟨pw, xs, rfl, sq_of (z17.ex _ _ hpw), fun i σ' H' => ∃ v12, σ' = FrS h a x j l s q D rs.length g v10 v11 v12 ∧ Ex H17 H', ⟨none, rfl, Ex.refl _⟩, fun i σ' H' _ ⟨_, _, e⟩ => sq_of (e _ _ (z17.ex _ _ hpw)), fun i y σ' H' hy hP => ?_, fun σ' H' hP => ?_⟩
    · obtain ⟨v12, rfl, e18⟩ := hP
      have no : NoRow H' y fr.slots (fcs L fr) := by
        obtain ⟨t, h1, h2⟩ := hxw y (List.mem_of_getElem? hy)
        exact ⟨t, h1.ex (z17.ex.trans e18), .inl h2⟩
      exact s_pass (et_or (a := false) (b := false) (et_not (a := true) (et_B (ev_fn (z := .bl true) (ea_cons (ev_var rfl) (ea_cons (ev_var rfl) (ea_cons (ev_var rfl) (ea_cons ev_c ea_nil)))) fun H19 e19 Q E qq => ⟨x, j, y, 0, frsOf W, L, fr, rfl, (hd17.ex (e18.trans e19)).tg, hfr, .inl ⟨.inl rfl, no.ex e19⟩, qq⟩))) fun _ => et_not (a := true) (et_B (ev_fn (z := .bl true) (ea_cons (ev_var rfl) (ea_cons (ev_var rfl) (ea_cons (ev_var rfl) (ea_cons ev_c ea_nil)))) fun H19 e19 Q E qq => ⟨x, j, y, 1, frsOf W, L, fr, rfl, (hd17.ex (e18.trans e19)).tg, hfr, .inl ⟨.inr rfl, no.ex e19⟩, qq⟩))) fun H19 e19 => ⟨_, rfl, e18.trans e19⟩
    obtain ⟨v12, rfl, e18⟩ := hP
    have hd18 := hd17.ex e18
    -- places that are none
    refine q_forNTn (K := K) (xs := [.int (-1), .int (rs.length : Int), .int ((rs.length : Int) + 100000000000000000000), .non, .bl true, .str "0"]) (eu_tup (ea_cons (ev_un ev_c ru_neg) (ea_cons (len hd18 rfl) (ea_cons (ev_op (len hd18 rfl) (ev_is (ev_op ev_c ev_c (rv_I ⟨by decide, by decide, by decide⟩)) (by decide)) rv_I0) (ea_cons ev_c (ea_cons ev_c (ea_cons ev_c ea_nil)))))) (show 6 ≤ 100000 by decide)) (fun t i σ' H'' => ∃ v10, σ' = FrS h a x j l s q D rs.length g v10 v11 v12 ∧ Ex H' H'' ∧ H'' t = some (.tup [.int (-1), .int (rs.length : Int), .int ((rs.length : Int) + 100000000000000000000), .non, .bl true, .str "0"])) (fun t H19 nt e19 ht' => ⟨v10, rfl, e19, ht'⟩) (fun t i σ' H'' _ ⟨_, _, _, e⟩ => st_of e) (fun t i y σ' H'' hy hP => ?_) (fun t σ' H'' hP => ?_)
    · obtain ⟨v10', rfl, e19, ht'⟩ := hP
      have hyw : flat4 y = true ∧ wholeB y (some 0) (some (cnt fr.slots (fcs L fr) - 1)) = false := by
        rw [hdB.cnt]
        have hm := List.mem_of_getElem? hy
        simp only [List.mem_cons, List.not_mem_nil, or_false] at hm
        have wi : ∀ i : Int, ¬ (0 ≤ i ∧ i ≤ (rs.length : Int) - 1) → wholeB (.int i) (some 0) (some ((rs.length : Int) - 1)) = false := fun i hi => by
          show (decide ((0 : Int) ≤ i) && decide (i ≤ (rs.length : Int) - 1)) = false
          rw [Bool.and_eq_false_iff]
          by_cases h0 : (0 : Int) ≤ i
          · exact .inr (decide_eq_false fun h1 => hi ⟨h0, h1⟩)
          · exact .inl (decide_eq_false h0)
        rcases hm with rfl | rfl | rfl | rfl | rfl | rfl
        · exact ⟨rfl, wi _ (by omega)⟩
        · exact ⟨rfl, wi _ (by omega)⟩
        · exact ⟨rfl, wi _ (by omega)⟩
        · exact ⟨rfl, rfl⟩
        · exact ⟨rfl, rfl⟩
        · exact ⟨rfl, rfl⟩
      exact s_pass (et_not (a := true) (et_B (ev_fn (z := .bl true) (ea_cons (ev_var rfl) (ea_cons (ev_var rfl) (ea_cons (ev_var rfl) (ea_cons ev_c ea_nil)))) fun H20 e20 Q E qq => ⟨x, j, y, 2, frsOf W, L, fr, rfl, (hd18.ex (e19.trans e20)).tg, hfr, .inr ⟨rfl, hyw.1, hyw.2⟩, qq⟩))) fun H20 e20 => ⟨_, rfl, e19.trans e20, e20 _ _ ht'⟩
    obtain ⟨v10', rfl, e19, _⟩ := hP
    exact s_ret ev_c fun H20 e20 => hQ B17 H20 ((g1.trans k1).trans e17) (z17.step ((e18.trans e19).trans e20))
end
end LO

set_option Elab.async false
set_option linter.all false
set_option maxRecDepth 100000
set_option maxHeartbeats 4000000
namespace LO
open PySem PySem.Spec PyProof.Rows L2 LG LW LC LM Evl
section
variable {P : Program} {w : World} {K : PySem.W.Frag} {mg : Str → Option Value} {base : Heap}

/-! ### law -/
section
variable {σ : L2.St} {B H : Hp} {h : Addr} {tl te : TE} {tu tz : TS} {D : Ends} {g : TG} {P : V → Hp → Prop}
/-- if not f(..): .., f turning the hand -/
theorem s_notW (he : ∀ Q : VK, (∀ B' H', Ex B B' → Hd B' h H' → Q (.bl true) H') → te σ H Q) (k : ∀ B' H', Ex B B' → Hd B' h H' → D.nx σ H') : tIfS (tNot (tB te)) tu tNext D σ H := he _ fun B' H' e z => ⟨true, rfl, Eq.mpr (if_neg (by decide)) (k B' H' e z)⟩
/-- over a tuple that is made on the way -/
theorem q_forX (he : ∀ Q : VK, (∀ v H', P v H' → Q v H') → tl σ H Q) (k : ∀ v H', P v H' → ∃ a xs, v = .ref a ∧ SqT K H' a xs ∧ ∃ Pv : Nat → L2.St → Hp → Prop, Pv 0 σ H' ∧ (∀ i σ' H', i ≤ xs.length → Pv i σ' H' → SqT K H' a xs) ∧
    (∀ i x σ' H', xs[i]? = some x → Pv i σ' H' → g x σ' H' fun σ2 H2 => tu { D with nx := Pv (i + 1), ct := Pv (i + 1), bk := tz D } σ2 H2) ∧ ∀ σ' H', Pv xs.length σ' H' → tz D σ' H') : tSeq (tFor (iTup K tl) g tu) tz D σ H :=
  he _ fun v H' p => by
    obtain ⟨a, xs, hv, hx, Pv, h0, hl, hs, hdn⟩ := k v H' p
    exact ⟨a, hv, ⟨xs, hx⟩, for_tup (D := { D with nx := tz D }) Pv h0 hl hs hdn⟩
theorem g_two {i j : Nat} {p : Addr} {u v : V} {Q : L2.St → Hp → Prop} (h : H p = some (.tup [u, v])) (k : Q ((σ.set i (some u)).set j (some v)) H) : gTup K 2 (gCons (gName i) (gCons (gName j) gNil)) (.ref p) σ H Q :=
  ⟨p, _, rfl, st_of h, rfl, _, _, rfl, _, _, rfl, rfl, k⟩
/-- ["frame", f] told twice -/
theorem rv_neFr {a b : Addr} {f : Int} (h1 : H a = some (.lst [.str "frame", .int f])) (h2 : H b = some (.lst [.str "frame", .int f])) : RV (rNeD K) (.ref a) (.ref b) H (.bl false) := fun H1 e Q q =>
  have sh : SeqAt.shaped (.list [.str "frame", .int f]) = true := by
    show (PyData.canLay0 (.list [.str "frame", .int f]) && decide (PyData.depth (.list [.str "frame", .int f]) ≤ 64)) = true
    simp [PyData.canLay0, PyData.canLayAll0, PyData.depth, PyData.depthAll]
    decide +kernel
  ⟨_, _, .lst (sq_of (e _ _ h1)) (.cons (.str "frame") (.cons (.int f) .nil)), .lst (sq_of (e _ _ h2)) (.cons (.str "frame") (.cons (.int f) .nil)), sh, sh, by
    have : PyData.eqv (.list [.str "frame", .int f]) (.list [.str "frame", .int f]) = true := by simp [PyData.eqv, PyData.eqvAll]
    rw [this]; exact q H1 (Ex.refl H1)⟩
theorem TgAt.del {x : Addr} {fs : List Fr} {L : List Pr} (z : Hd B h H) (ht : TgAt K H x fs L) : TgAt K (L2.del H h) x fs L := by
  obtain ⟨c, ns, a, b, t, h1, _⟩ := z.hand
  obtain ⟨⟨dx, ra, sa, fa, rl, cl, vb, ys, g1, g2, g3, ⟨ps, g4, g5⟩⟩, ok, l36⟩ := ht
  exact ⟨⟨dx, ra, sa, fa, rl, cl, vb, ys, del_in g1 h1 (fun z => by cases z), del_in g2 h1 (fun z => by cases z), Paired.mapP g3 fun _ _ w => FrameAt.del h1 w, ps, del_in g4 h1 (fun z => by cases z), Paired.mapP g5 fun _ _ w => del_in w h1 (fun z => by cases z)⟩, ok, l36⟩
end
theorem frd_mk {H : Hp} {x q : Addr} {W : Wd} {L Ld cs : List Pr} {j : Nat} {fr : Fr} {fd : Fd} (fok : FdOk W.n fd) (hfr : (frsOf W)[j]? = some fr) (hsl : fr.slots = slotsL fd.ns fd.cl) (ht : TgAt K H x (frsOf W) L) (hL : ∀ c, c ∈ L ↔ Path cs c.1 c.2) (hno : ∀ x, ¬ Path cs x x) (hled : Led cs Ld) (hq : RowsL H q (rowsB fr.slots Ld fr.slots.length)) :
    FrD K H x (frsOf W) L j fr q (rowsB fr.slots Ld fr.slots.length) ∧ 0 < (rowsB fr.slots Ld fr.slots.length).length := by
  have hrise := slots_rise fok
  rw [← hsl] at hrise
  have e := rowsB_eq (sl := fr.slots) (L := Ld) (C := fcs L fr) (rise_nodup hrise) fun a b ha hb => (fcs_mem ha hb).trans ((hL (a, b)).trans (hled.1 (a, b)).symm)
  have hnoL : ∀ y, (y, y) ∉ L := fun y hy => hno y ((hL (y, y)).mp hy)
  have htr : ∀ a b c, (a, b) ∈ fcs L fr → (b, c) ∈ fcs L fr → (a, c) ∈ fcs L fr := fun a b c h1 h2 => (fcs_mem (fcs_in h1).2.1 (fcs_in h2).2.2).mpr ((hL (a, c)).mpr (((hL (a, b)).mp (fcs_in h1).1).trans ((hL (b, c)).mp (fcs_in h2).1)))
  refine ⟨⟨ht, hfr, hq, e, hrise, hnoL⟩, ?_⟩
  rw [e]
  exact List.length_pos_iff.mpr (rows_ne (fun y hy => hnoL y (fcs_in hy).1) htr _ fr.slots rfl (rise_nodup hrise))
theorem frsOf_len {W : Wd} (h : W.fs.length ≤ 3) : (frsOf W).length = W.fs.length := by unfold frsOf; rw [List.length_map, List.length_zip]; show min 4 _ = _; omega
/-- a frame's data in the world's tuple -/
theorem fd_at {H : Hp} {f : Addr} {W : Wd} {j : Nat} (h : FdsAt H f W.fs) (hj : j < W.fs.length) : ∃ qs p m fd, H f = some (.tup qs) ∧ qs.length = W.fs.length ∧ qs[j]? = some (.ref p) ∧ W.fs[j]? = some fd ∧ H p = some (.tup [.ref m, optV fd.cl, optV fd.ag]) ∧ H m = some (.tup (fd.ns.map V.int)) := by
  obtain ⟨qs, hqs, hfs⟩ := h
  have hql : qs.length = W.fs.length := hfs.length
  have hqi : j < qs.length := by omega
  obtain ⟨fd, hf1, m, h1, h2⟩ := paired_at hfs (List.getElem?_eq_getElem hqi)
  exact ⟨qs.map V.ref, _, m, fd, hqs, by rw [List.length_map, hql], by rw [List.getElem?_map, List.getElem?_eq_getElem hqi]; rfl, hf1, h1, h2⟩
def LwS (a h wa x l : Addr) (v5 v6 v7 v8 v9 v10 v11 v12 v13 : Option V) : L2.St := [some (.ref a), some (.ref h), some (.ref wa), some (.ref x), some (.ref l), v5, v6, v7, v8, v9, v10, v11, v12, v13, none]
def sp_law (K : PySem.W.Frag) : Sp := fun vs H Q _ => ∃ (a : Addr) (ns : List Int), vs = [.ref a] ∧ SqL K H a (ns.map V.int) ∧ ns.length ≤ 63 ∧ ∀ H', Q (.bl true) H'
abbrev n_law : List Str := ["_law_script", "_law_hand_here", "_law_world_here", "_law_tongue", "_law_led", "_law_frame", "_law_good", "_law_other", "_law_mate", "_law_slots_here", "_law_wide", "_law_way", "_law_thing", "_law_due", "_law_row"]
theorem sc_law : FnScope n_law ["_law_script"] (defScope s_law) := ⟨rfl, rfl, rfl, by decide +kernel, rfl, by decide +kernel, by decide +kernel⟩
theorem ok_law (M2 : Mods2 P K mg base) {fd : FuncData} (F : FunD K "law" "law" (defArgs s_law) (defBody s_law) (defScope s_law) [] [] (ga K "law") fd) : FnOk P w K mg base CX0 14 (ga K "law") fd ["_law_script"] (sp_law K) := by
  have M := M2.m
  obtain ⟨fR, fI, fW, fdR, fdI, fdW, hRX⟩ := rx_of (w := w) M
  obtain ⟨fO, fS, fC, fdO, fdS, fdC, hOX⟩ := ox_of (w := w) M
  have nd := sc_law.nd
  have h__law_hand := (fn__law_hand (w := w) M).up (show 1 ≤ 13 by decide)
  have h__law_rolled := (fn__law_rolled (w := w) M).up (show 3 ≤ 13 by decide)
  have h__law_make := (fn__law_make (w := w) M).up (show 7 ≤ 13 by decide)
  have h__law_closure := (fn__law_closure (w := w) M).up (show 1 ≤ 13 by decide)
  have h__law_take := (fn__law_take (w := w) M).up (show 2 ≤ 13 by decide)
  have h__law_slots := (fn__law_slots (w := w) M).up (show 1 ≤ 13 by decide)
  have h__law_world := (fn__law_world (w := w) M).up (show 6 ≤ 13 by decide)
  have h__law_rules := (fn__law_rules (w := w) M).up (show 4 ≤ 13 by decide)
  have h__law_frame_right := (fn__law_frame_right (w := w) M2).up (show 13 ≤ 13 by decide)
  have h__law_orders := (fn__law_orders (w := w) M).up (show 1 ≤ 13 by decide)
  have h__law_same_rows := (fn__law_same_rows (w := w) M).up (show 3 ≤ 13 by decide)
  have h_how_many_orders := (fn_how_many_orders (w := w) M).up (show 9 ≤ 13 by decide)
  have h__law_asked := (fn__law_asked (w := w) M2).up (show 10 ≤ 13 by decide)
  refine F.ok sc_law (fun vs H Q E h => ?_) fun cdv A outer s H vs Q E hr h => ⟨_, PSs.nox
    (pss_cons (ps_set (i := 1) nd rfl (.inl rfl) (pe_fn h__law_hand hr pass0 (pa_cons (pv 0) pa_nil))) (pss_cons (ps_set (i := 2) nd rfl (.inl rfl) (pe_fn h__law_rolled hr pass0 (pa_cons (pv 1) (pa_cons (pe_fn h__law_world hr pass0 (pa_cons (pv 1) (pa_cons pe_int (pa_cons pe_bl (pa_cons pe_bl pa_nil))))) pa_nil)))) (pss_cons (ps_set (i := 3) nd rfl (.inl rfl) (pe_fn h__law_make hr pass0 (pa_cons (pv 2) pa_nil))) (pss_cons (ps_set (i := 4) nd rfl (.inl rfl) (pe_fn h__law_closure hr pass0 (pa_cons (pe_ix ix_list (pv 2) pe_int (fun _ _ => rfl)) (pa_cons (pe_ix ix_list (pv 2) pe_int (fun _ _ => rfl)) pa_nil)))) (pss_cons (ps_for PassesOwn.never rfl (pi_range1 rfl M.z_range (pa_cons (pe_callB call_len_seq rfl M.z_len LW.boot_len (pa_cons (pe_ix ix_list (pv 2) pe_int (fun _ _ => rfl)) pa_nil)) pa_nil)) (pg_name (i := 5) nd rfl (.inl rfl)) (pss_one (ps_if (pt_not (pt_val (pe_fn h__law_frame_right hr pass0 (pa_cons (pv 1) (pa_cons (pv 2) (pa_cons (pv 3) (pa_cons (pv 5) (pa_cons (pv 4) pa_nil)))))))) (pss_one (ps_ret pe_bl)) pss_nil))) (pss_cons (ps_set (i := 6) nd rfl (.inl rfl) (pe_callTy call_list_of rfl M.z_list LW.boot_list (pa_cons (pe_ix ix_list (pe_fn h__law_orders hr pass0 (pa_cons (pe_fn h__law_slots hr pass0 (pa_cons (pe_ix ix_tup (pe_ix ix_list (pv 2) pe_int (fun _ _ => rfl)) pe_int (fun _ _ => rfl)) pa_nil)) (pa_cons (pv 4) pa_nil))) pe_int (fun _ _ => rfl)) pa_nil))) (pss_cons (ps_for PassesOwn.never rfl (pi_tup (pe_tup (pa_cons (pe_callB call_len_seq rfl M.z_len LW.boot_len (pa_cons (pe_ix ix_list (pv 2) pe_int (fun _ _ => rfl)) pa_nil)) (pa_cons (pe_op op_sub (pe_un un_neg pe_int) (pe_fn h__law_take hr pass0 (pa_cons (pv 1) (pa_cons pe_int pa_nil)))) (pa_cons (pe_op op_pow pe_int pe_int) pa_nil))))) (pg_name (i := 5) nd rfl (.inl rfl)) (pss_one (ps_for PassesOwn.never rfl (pi_range1 rfl M.z_range (pa_cons pe_int pa_nil)) (pg_name (i := 11) nd rfl (.inl rfl)) (pss_cons (ps_set (i := 12) nd rfl (.inl rfl) (pe_ix ix_list (pe_lst (pa_cons (pv 6) (pa_cons (pv 6) (pa_cons pe_int (pa_cons pe_non (pa_cons pe_non pa_nil)))))) (pv 11) (fun _ _ => rfl))) (pss_one (ps_if (pt_cmpR (op_neD hr.units) (pe_fn h__law_asked hr pass0 (pa_cons (pv 3) (pa_cons (pv 5) (pa_cons (pv 12) (pa_cons (pv 11) pa_nil))))) (pe_lst (pa_cons pe_str (pa_cons (pv 5) pa_nil))) (nomark _)) (pss_one (ps_ret pe_bl)) pss_nil)))))) (pss_cons (ps_set (i := 7) nd rfl (.inl rfl) (pe_lst (pa_cons (pe_ix ix_list (pv 2) pe_int (fun _ _ => rfl)) (pa_cons (pe_ix ix_list (pv 2) pe_int (fun _ _ => rfl)) (pa_cons (pe_ix ix_list (pv 2) pe_int (fun _ _ => rfl)) (pa_cons (pe_fn h__law_rules hr pass0 (pa_cons (pv 1) (pa_cons (pe_ix ix_list (pv 2) pe_int (fun _ _ => rfl)) pa_nil))) (pa_cons (pe_ix ix_list (pv 2) pe_int (fun _ _ => rfl)) pa_nil))))))) (pss_cons (ps_set (i := 8) nd rfl (.inl rfl) (pe_fn h__law_make hr pass0 (pa_cons (pv 7) pa_nil))) (pss_cons (ps_set (i := 5) nd rfl (.inl rfl) (pe_fn h__law_take hr pass0 (pa_cons (pv 1) (pa_cons (pe_callB call_len_seq rfl M.z_len LW.boot_len (pa_cons (pe_ix ix_list (pv 2) pe_int (fun _ _ => rfl)) pa_nil)) pa_nil)))) (pss_cons (ps_set (i := 9) nd rfl (.inl rfl) (pe_fn h__law_slots hr pass0 (pa_cons (pe_ix ix_tup (pe_ix ix_list (pv 2) pe_int (fun _ _ => rfl)) (pv 5) (fun _ _ => rfl)) pa_nil))) (pss_cons (ps_set (i := 10) nd rfl (.inl rfl) (pe_fn h__law_closure hr pass0 (pa_cons (pe_ix ix_list (pv 2) pe_int (fun _ _ => rfl)) (pa_cons (pe_ix ix_list (pv 7) pe_int (fun _ _ => rfl)) pa_nil)))) (pss_cons (ps_for PassesOwn.never rfl (pi_tup (pe_tup (pa_cons (pe_tup (pa_cons (pv 8) (pa_cons (pe_fn h__law_orders hr pass0 (pa_cons (pv 9) (pa_cons (pv 10) pa_nil))) pa_nil))) (pa_cons (pe_tup (pa_cons (pv 3) (pa_cons (pe_fn h__law_orders hr pass0 (pa_cons (pv 9) (pa_cons (pv 4) pa_nil))) pa_nil))) pa_nil)))) (pg_tup rfl (pgs_cons (pg_name (i := 12) nd rfl (.inl rfl)) (pgs_cons (pg_name (i := 13) nd rfl (.inl rfl)) pgs_nil))) (pss_cons (ps_if (pt_not (pt_val (pe_fn h__law_same_rows hr pass0 (pa_cons (pe_callTy call_tuple_of rfl M.z_tuple LW.boot_tuple (pa_cons (pe_lcG hRX hOX hr (by decide) rfl (pa_cons (pv 12) (pa_cons (pv 5) pa_nil))) pa_nil)) (pa_cons (pv 13) pa_nil))))) (pss_one (ps_ret pe_bl)) pss_nil) (pss_one (ps_if (pt_cmpR op_ne (pe_fn h_how_many_orders hr passL (pa_cons (pv 12) (pa_cons (pv 5) pa_nil))) (pe_callB call_len_seq rfl M.z_len LW.boot_len (pa_cons (pv 13) pa_nil)) (nomark _)) (pss_one (ps_ret pe_bl)) pss_nil)))) (pss_one (ps_ret pe_bl))))))))))))))), ?_⟩
  · obtain ⟨a, ns, rfl, _⟩ := h; rfl
  · obtain ⟨a, ns, rfl, hs, hz, hQ⟩ := h
    refine wq_asg (w_call (w_cons (x := .ref a) (ev_var rfl) fun H1 e1 => w_nil ⟨a, ns, rfl, ex_l e1 hs, hz, fun h H2 nh e2 z => ?_⟩))
    refine wq_asg (w_call (w_cons (x := .ref h) (ev_var rfl) fun H3 e3 => w_consW (w_call (w_cons (x := .ref h) (ev_var rfl) fun H4 e4 => w_cons (x := .int 6) ev_c fun H5 e5 => w_cons (x := .bl true) ev_c fun H6 e6 => w_cons (x := .bl false) ev_c fun H7 e7 => w_nil ⟨h, _, rfl, z.step ((((e3.trans e4).trans e5).trans e6).trans e7), fun v B8 H8 b8 z8 hv => ?_⟩))))
    obtain ⟨w0, W0, rfl, hW0, ok0⟩ := hv
    refine w_nil ⟨h, w0, B8, W0, rfl, z8, hW0, ok0, fun v B9 H9 b9 z9 hv => ?_⟩
    obtain ⟨wa, W, rfl, hW, ok⟩ := hv
    refine wq_asg (w_call (w_cons (x := .ref wa) (ev_var rfl) fun H10 e10 => w_nil ⟨wa, W, rfl, hW.ex (z9.ex.trans e10), ok, fun x L H11 e11 ht hL => ?_⟩))
    have z11 := z9.step (e10.trans e11)
    obtain ⟨t, f, r, hw, hT, hF, hr'⟩ := id hW
    have n1 := ok.n1
    have n6 := ok.n6
    have f1 := ok.f1
    have f3 := ok.f3
    have ix : ∀ {σ : L2.St} {Hx : Hp} {j : Int} {v : V}, Ex B9 Hx → σ[2]? = some (some (.ref wa)) → atI [.int (W.n : Int), .ref t, .ref f, .ref r, .str W.vb] j = some v → Ev (tOp (rIxL K) (tVar 2) (tC (.int j))) σ Hx v := fun e hs hv => ev_op (ev_var hs) ev_c (rv_ixL (sq_of (e _ _ hw)) hv)
    refine wq_asg (w_call (w_cons (x := .int (W.n : Int)) (ix z11.ex rfl rfl) fun H12 e12 => w_cons (x := .ref r) (ix (z11.ex.trans e12) rfl rfl) fun H13 e13 => w_nil ⟨W.n, r, W.cs, rfl, hr'.ex (z11.ex.trans (e12.trans e13)), by omega, by have := ok.rk.len; omega, fun c hc => ?_, fun l Ld H14 nl e14 hl hled => ?_⟩))
    · obtain ⟨a1, a2, a3, a4, _⟩ := ok.rk.bd c hc
      exact ⟨⟨a1, a2⟩, a3, a4⟩
    have e1114 := (e12.trans e13).trans e14
    have z14 := z11.step e1114
    obtain ⟨g1, g2⟩ := z14.grow (Ex.refl H14)
    have lh : l ≠ h := (z11.step (e12.trans e13)).ne nl
    have htB := TgAt.del z14 (ht.ex e1114)
    have hlB : L2.del H14 h l = some (.dT (dP Ld)) := by rw [del_ne lh]; exact hl
    generalize L2.del H14 h = B14 at g1 g2 htB hlB
    -- each frame
    obtain ⟨qs0, p0, m0, fd0, hq0, hql0, hqx0, hf0, hp0, hm0⟩ := fd_at (j := 0) hF (by omega)
    refine q_forR1 (n := (W.fs.length : Int)) (ea_cons (ev_is (ev_lenT (ix (g1.trans g2.ex) rfl rfl) (st_of (g2.ex _ _ (g1 _ _ hq0)))) (by rw [hql0])) ea_nil) ⟨by omega, by omega⟩ (fun i σ' H' => ∃ Bk v5, σ' = LwS a h wa x l v5 none none none none none none none none ∧ Ex B14 Bk ∧ Hd Bk h H') (fun H15 e15 => ⟨B14, none, rfl, Ex.refl _, g2.step e15⟩) (fun i σ' H' hi hP => ?_) fun σ' H15 hP => ?_
    · obtain ⟨Bk, v5, rfl, k1, zk⟩ := hP
      refine s_notW (B := Bk) (h := h) (fun Q qq => w_call (w_cons (x := .ref h) (ev_var rfl) fun H16 e16 => w_cons (x := .ref wa) (ev_var rfl) fun H17 e17 => w_cons (x := .ref x) (ev_var rfl) fun H18 e18 => w_cons (x := .int (i : Int)) (ev_var rfl) fun H19 e19 => w_cons (x := .ref l) (ev_var rfl) fun H20 e20 => w_nil ⟨h, wa, x, l, i, Bk, W, L, Ld, rfl, zk.step ((((e16.trans e17).trans e18).trans e19).trans e20), hW.ex (g1.trans k1), ok, htB.ex k1, hL, k1 _ _ hlB, hled, by omega, fun B' H' eb z' => qq B' H' eb z'⟩)) fun B' H' eb z' => ⟨B', _, rfl, k1.trans eb, z'⟩
    obtain ⟨Bk, v5, rfl, k1, zk⟩ := hP
    have gk := g1.trans k1
    -- a good row
    obtain ⟨fr0, hfr0, hsl0⟩ := frs_at hf0 f3
    have fok0 := ok.fk fd0 (List.mem_of_getElem? hf0)
    refine wq_asg (w_cb (w_consW (w_op (w_call (w_consW (w_call (w_cons (x := .ref p0) (ev_op (ix (gk.trans zk.ex) rfl rfl) ev_c (rv_ixT (st_of (zk.ex _ _ (gk _ _ hq0))) (atI_nat hqx0))) fun H16 e16 => w_nil ⟨p0, m0, fd0.ns, fd0.cl, fd0.ag, rfl, e16 _ _ (zk.ex _ _ (gk _ _ hp0)), e16 _ _ (zk.ex _ _ (gk _ _ hm0)), by have := fok0.fr.nouns.hi; omega, fun s H17 ns' e17 hs' => w_cons (x := .ref l) (ev_var rfl) fun H18 e18 => w_nil ?_⟩)))))))
    rw [← hsl0] at hs'
    have e1618 := (e16.trans e17).trans e18
    have z18 := zk.step e1618
    refine ⟨s, l, fr0.slots, Ld, rfl, e18 _ _ hs', z18.ex _ _ (k1 _ _ hlB), (htB.six hfr0), fun q H19 e19 hq => w_ev (x := .int 0) ev_c fun H20 e20 => ?_⟩
    obtain ⟨hd0, pos0⟩ := frd_mk (L := L) fok0 hfr0 hsl0 (htB.ex (k1.trans (z18.ex.trans e19))) hL ok.rk.no hled hq
    have hrow : (rowsB fr0.slots Ld fr0.slots.length)[0]? = some ((rowsB fr0.slots Ld fr0.slots.length)[0]'pos0) := List.getElem?_eq_getElem pos0
    generalize (rowsB fr0.slots Ld fr0.slots.length)[0]'pos0 = row at hrow
    have row6 := hd0.rlen (List.mem_of_getElem? hrow)
    obtain ⟨ds, pr, hds, hpr, hpr2⟩ := hd0.at_ hrow
    refine ⟨q, ds, 0, .ref pr, rfl, rfl, sq_of (e20 _ _ hds), atI_nat (i := 0) hpr, w_nil ⟨pr, _, rfl, .inr (st_of (e20 _ _ hpr2)), fun g ng => ?_⟩⟩
    have z20 := z18.step (e19.trans e20)
    have gh : g ≠ h := z20.ne ng
    have z21 := z20.step (Ex.new (o := .lst (row.map V.int)) ng)
    obtain ⟨c1, c2⟩ := z21.grow (Ex.refl _)
    have hgB : L2.del (upd H20 g (.lst (row.map V.int))) h g = some (.lst (row.map V.int)) := by rw [del_ne gh]; exact upd_same
    generalize L2.del (upd H20 g (.lst (row.map V.int))) h = B21 at c1 c2 hgB
    generalize upd H20 g (.lst (row.map V.int)) = H21 at z21 c2
    have gk2 := gk.trans c1
    have htB2 := htB.ex (k1.trans c1)
    have frl := frsOf_len (W := W) f3
    -- frames that are none
    refine q_forX (K := K) (P := fun v H' => ∃ p k, v = .ref p ∧ 0 ≤ k ∧ H' p = some (.tup [.int (W.fs.length : Int), .int (-1 - k), .int 100000000000000000000]) ∧ Hd B21 h H') (fun Q qq => w_tup (w_cons (x := .int (W.fs.length : Int)) (ev_is (ev_lenT (ix (gk2.trans c2.ex) rfl rfl) (st_of (c2.ex _ _ (gk2 _ _ hq0)))) (by rw [hql0])) fun H22 e22 => w_consW (w_op (w_ev (x := .int (-1)) (ev_un ev_c ru_neg) fun H23 e23 => w_take (B := B21) (h := h) (m := 4) rfl (c2.step (e22.trans e23)) ev_c (by decide) (by decide) fun k H24 kp24 z24 kk0 kk1 => ⟨-1, k, rfl, rfl, w_cons (x := .int 100000000000000000000) (ev_is (ev_op ev_c ev_c (rv_I ⟨by decide, by decide, by decide⟩)) (by decide)) fun H25 e25 => w_nil ⟨show 3 ≤ sizeLine by decide, fun p np => qq _ _ ⟨p, k, rfl, kk0, upd_same, z24.step (e25.trans (Ex.new np))⟩⟩⟩)))) fun v H26 hv => ?_
    obtain ⟨p, k, rfl, kk0, hp, z26⟩ := hv
    have ht26 := htB2.ex z26.ex
    have hg26 := z26.ex _ _ hgB
    refine ⟨p, _, rfl, st_of hp, fun i σ' H' => ∃ v5 v11 v12, σ' = LwS a h wa x l v5 (some (.ref g)) none none none none v11 v12 none ∧ Ex H26 H', ⟨v5, none, none, rfl, Ex.refl _⟩, fun i σ' H' _ ⟨_, _, _, _, e⟩ => st_of (e _ _ hp), fun i y σ' H' hy hP => ?_, fun σ' H27 hP => ?_⟩
    · obtain ⟨v5, v11, v12, rfl, e27⟩ := hP
      have hyf : ∃ fb : Int, y = .int fb ∧ ¬ InF fb (frsOf W) := by
        have hm := List.mem_of_getElem? hy
        simp only [List.mem_cons, List.not_mem_nil, or_false] at hm
        rcases hm with rfl | rfl | rfl
        · exact ⟨_, rfl, fun ⟨a1, a2⟩ => by omega⟩
        · exact ⟨_, rfl, fun ⟨a1, a2⟩ => by omega⟩
        · exact ⟨_, rfl, fun ⟨a1, a2⟩ => by omega⟩
      obtain ⟨fb, rfl, hnf⟩ := hyf
      refine s_forR1 (n := 5) (ea_cons ev_c ea_nil) ⟨by decide, by decide⟩ (fun i σ' H' => ∃ v11 v12, σ' = LwS a h wa x l (some (.int fb)) (some (.ref g)) none none none none v11 v12 none ∧ Ex H26 H') (fun H28 e28 => ⟨v11, v12, rfl, e27.trans e28⟩) (fun wy σ' H' hwy hP => ?_) fun σ' H' ⟨v11, v12, hσ, e⟩ => ⟨_, v11, v12, hσ, e⟩
      obtain ⟨v11, v12, rfl, e28⟩ := hP
      have hth : ∃ th : V, ([.ref g, .ref g, .int 0, .non, .non] : List V)[wy]? = some th ∧ WayOk H26 th (wy : Int) := by
        have hw5 : wy = 0 ∨ wy = 1 ∨ wy = 2 ∨ wy = 3 ∨ wy = 4 := by omega
        have hg' : ThAt H26 (.ref g) (.seq (row.map V.int)) := th_ints (.inl hg26) (by omega)
        rcases hw5 with rfl | rfl | rfl | rfl | rfl
        · exact ⟨_, rfl, .inl ⟨.inl rfl, _, hg'⟩⟩
        · exact ⟨_, rfl, .inl ⟨.inr rfl, _, hg'⟩⟩
        · exact ⟨_, rfl, .inr (.inl ⟨rfl, rfl⟩)⟩
        · exact ⟨_, rfl, .inr (.inr (.inl rfl))⟩
        · exact ⟨_, rfl, .inr (.inr (.inr rfl))⟩
      obtain ⟨th, hth, hway⟩ := hth
      refine q_asg (v := th) (ev_opL1 (y := .int (wy : Int)) (el_lst (ea_cons (ev_var rfl) (ea_cons (ev_var rfl) (ea_cons ev_c (ea_cons ev_c (ea_cons ev_c ea_nil))))) (show 5 ≤ 100000 by decide)) (fun _ _ => ev_var rfl) fun p H hp e => rv_ixL (sq_of hp) (atI_nat hth)) fun H29 e29 => ?_
      have hasked : EvL (tCall (sp__law_asked K) [] E0 (tCons (tVar 3) (tCons (tVar 5) (tCons (tVar 12) (tCons (tVar 11) tNil))))) (LwS a h wa x l (some (.int fb)) (some (.ref g)) none none none none (some (.int (wy : Int))) (some th) none) H29 [.str "frame", .int fb] := fun H1 e Q q =>
        (ea_cons (ev_var rfl) (ea_cons (ev_var rfl) (ea_cons (ev_var rfl) (ea_cons (ev_var rfl) ea_nil))) : EvA (tCons (tVar 3) (tCons (tVar 5) (tCons (tVar 12) (tCons (tVar 11) tNil)))) (LwS a h wa x l (some (.int fb)) (some (.ref g)) none none none none (some (.int (wy : Int))) (some th) none) H29 [.ref x, .int fb, th, .int (wy : Int)]) H1 e _ fun H2 e2 =>
          ⟨x, fb, th, (wy : Int), frsOf W, L, rfl, ht26.ex ((e28.trans e29).trans (e.trans e2)), .inl ⟨hnf, hway.ex ((e28.trans e29).trans (e.trans e2)), fun p H3 n e3 hp => q p H3 (fresh_back e2 n) (e2.trans e3) hp⟩⟩
      exact s_pass (et_test (ev_opLL hasked (el_lst (ea_cons ev_c (ea_cons (ev_var rfl) ea_nil)) (show 2 ≤ 100000 by decide)) fun p q H hp hq e => rv_neFr hp hq)) fun H30 e30 => ⟨_, _, rfl, (e28.trans e29).trans e30⟩
    obtain ⟨v5', v11, v12, rfl, e27⟩ := hP
    have z27 := z26.step e27
    -- another tongue
    refine wq_asg (w_lst (w_cons (x := .int (W.n : Int)) (ix (gk2.trans z27.ex) rfl rfl) fun H28 e28 => w_cons (x := .ref t) (ix (gk2.trans (z27.ex.trans e28)) rfl rfl) fun H29 e29 => w_cons (x := .ref f) (ix (gk2.trans (z27.ex.trans (e28.trans e29))) rfl rfl) fun H30 e30 => w_consW (w_call (w_cons (x := .ref h) (ev_var rfl) fun H31 e31 => w_cons (x := .int (W.n : Int)) (ix (gk2.trans (z27.ex.trans ((e28.trans e29).trans (e30.trans e31)))) rfl rfl) fun H32 e32 => w_nil ⟨h, W.n, B21, rfl, z27.step (((e28.trans e29).trans (e30.trans e31)).trans e32), n6, fun v B33 H33 b33 z33 hv => ?_⟩))))
    obtain ⟨rp, cs2, rfl, hrp, rok⟩ := hv
    have gk3 := gk2.trans b33
    refine w_cons (x := .str W.vb) (ix (gk3.trans z33.ex) rfl rfl) fun H34 e34 => w_nil ⟨show 5 ≤ sizeLine by decide, fun o no => ?_⟩
    have z34 := z33.step e34
    have oh : o ≠ h := z34.ne no
    have z35 := z34.step (Ex.new (o := .lst [.int (W.n : Int), .ref t, .ref f, .ref rp, .str W.vb]) no)
    obtain ⟨d1, d2⟩ := z35.grow (Ex.refl _)
    have hoB : L2.del (upd H34 o (.lst [.int (W.n : Int), .ref t, .ref f, .ref rp, .str W.vb])) h o = some (.lst [.int (W.n : Int), .ref t, .ref f, .ref rp, .str W.vb]) := by rw [del_ne oh]; exact upd_same
    generalize L2.del (upd H34 o (.lst [.int (W.n : Int), .ref t, .ref f, .ref rp, .str W.vb])) h = B35 at d1 d2 hoB
    generalize upd H34 o (.lst [.int (W.n : Int), .ref t, .ref f, .ref rp, .str W.vb]) = H35 at z35 d2
    have gk4 := gk3.trans d1
    have ok2 : WdOk ⟨W.n, W.tabs, W.fs, cs2, W.vb⟩ := ⟨ok.n1, ok.n6, ok.t1, ok.t3, ok.tk, ok.ta, ok.f1, ok.f3, ok.fk, ok.fc, rok, ok.vb⟩
    have hW2 : WdAt B35 o ⟨W.n, W.tabs, W.fs, cs2, W.vb⟩ := ⟨t, f, rp, hoB, hT.ex gk4, hF.ex gk4, hrp.ex d1⟩
    refine wq_asg (w_call (w_cons (x := .ref o) (ev_var rfl) fun H36 e36 => w_nil ⟨o, _, rfl, hW2.ex (d2.ex.trans e36), ok2, fun y Ly H37 e37 hty hLy => ?_⟩))
    have z37 := d2.step (e36.trans e37)
    obtain ⟨c3, c4⟩ := z37.grow (Ex.refl _)
    have htyB := TgAt.del z37 hty
    generalize L2.del H37 h = B37 at c3 c4 htyB
    have gk5 := gk4.trans c3
    refine wq_asg (w_take (B := B37) (h := h) (m := (W.fs.length : Int)) rfl c4 (ev_is (ev_lenT (ix (gk5.trans c4.ex) rfl rfl) (st_of (c4.ex _ _ (gk5 _ _ hq0)))) (by rw [hql0])) (by omega) (by omega) fun kz H38 kp38 z38 kz0 kz1 => ?_)
    obtain ⟨k, rfl⟩ : ∃ k : Nat, kz = (k : Int) := ⟨kz.toNat, by omega⟩
    obtain ⟨qsk, pk, mk, fdk, hqk, hqlk, hqxk, hfk, hpk, hmk⟩ := fd_at (j := k) hF (by omega)
    obtain ⟨fr, hfr, hsl⟩ := frs_at hfk f3
    have fok := ok.fk fdk (List.mem_of_getElem? hfk)
    refine wq_asg (w_call (w_cons (x := .ref pk) (ev_op (ix (gk5.trans z38.ex) rfl rfl) (ev_var rfl) (rv_ixT (st_of (z38.ex _ _ (gk5 _ _ hqk))) (atI_nat hqxk))) fun H39 e39 => w_nil ⟨pk, mk, fdk.ns, fdk.cl, fdk.ag, rfl, e39 _ _ (z38.ex _ _ (gk5 _ _ hpk)), e39 _ _ (z38.ex _ _ (gk5 _ _ hmk)), by have := fok.fr.nouns.hi; omega, fun s2 H40 ns2 e40 hs2 => ?_⟩))
    rw [← hsl] at hs2
    have e3840 := z38.ex.trans (e39.trans e40)
    refine wq_asg (w_call (w_cons (x := .int (W.n : Int)) (ix (gk5.trans e3840) rfl rfl) fun H41 e41 => w_cons (x := .ref rp) (ev_op (ev_var rfl) ev_c (rv_ixL (sq_of (e41 _ _ (e3840 _ _ (c3 _ _ hoB)))) rfl)) fun H42 e42 => w_nil ⟨W.n, rp, cs2, rfl, hrp.ex ((d1.trans c3).trans (e3840.trans (e41.trans e42))), n6, by have := rok.len; omega, fun c hc => ?_, fun lw Lw H43 nlw e43 hlw hledw => ?_⟩))
    · obtain ⟨a1, a2, a3, a4, _⟩ := rok.bd c hc
      exact ⟨⟨a1, a2⟩, a3, a4⟩
    have e4043 := (e41.trans e42).trans e43
    have e43B := e3840.trans e4043
    have hs43 := e4043 _ _ hs2
    have hl43 : H43 l = some (.dT (dP Ld)) := e43B _ _ (c3 _ _ (d1 _ _ (b33 _ _ (c1 _ _ (k1 _ _ hlB)))))
    have htx43 : TgAt K H43 x (frsOf W) L := htB2.ex (((b33.trans d1).trans c3).trans e43B)
    have hty43 : TgAt K H43 y (frsOf W) Ly := htyB.ex e43B
    have h6 := htx43.six hfr
    refine q_forX (K := K) (P := fun v H' => ∃ p p1 p2 da db, v = .ref p ∧ H' p = some (.tup [.ref p1, .ref p2]) ∧ H' p1 = some (.tup [.ref y, .ref da]) ∧ H' p2 = some (.tup [.ref x, .ref db]) ∧ RowsL H' da (rowsB fr.slots Lw fr.slots.length) ∧ RowsL H' db (rowsB fr.slots Ld fr.slots.length) ∧ Ex H43 H') (fun Q qq => w_tup (w_consW (w_tup (w_cons (x := .ref y) (ev_var rfl) fun H44 e44 => w_consW (w_call (w_cons (x := .ref s2) (ev_var rfl) fun H45 e45 => w_cons (x := .ref lw) (ev_var rfl) fun H46 e46 => w_nil ⟨s2, lw, fr.slots, Lw, rfl, ((e44.trans e45).trans e46) _ _ hs43, ((e44.trans e45).trans e46) _ _ hlw, h6, fun da H47 e47 hda => w_nil ⟨show 2 ≤ sizeLine by decide, fun p1 np1 => ?_⟩⟩)))))) fun v H48 hv => ?_
    · have e48 := (((e44.trans e45).trans e46).trans e47).trans (Ex.new (o := .tup [.ref y, .ref da]) np1)
      have en1 := Ex.new (o := .tup [.ref y, .ref da]) np1
      refine w_consW (w_tup (w_cons (x := .ref x) (ev_var rfl) fun H49 e49 => w_consW (w_call (w_cons (x := .ref s2) (ev_var rfl) fun H50 e50 => w_cons (x := .ref l) (ev_var rfl) fun H51 e51 => w_nil ⟨s2, l, fr.slots, Ld, rfl, (e48.trans ((e49.trans e50).trans e51)) _ _ hs43, (e48.trans ((e49.trans e50).trans e51)) _ _ hl43, h6, fun db H52 e52 hdb => w_nil ⟨show 2 ≤ sizeLine by decide, fun p2 np2 => w_nil ⟨show 2 ≤ sizeLine by decide, fun p np => ?_⟩⟩⟩))))
      have e4952 := ((e49.trans e50).trans e51).trans e52
      have en2 := Ex.new (o := .tup [.ref x, .ref db]) np2
      have en := Ex.new (o := .tup [.ref p1, .ref p2]) np
      exact qq _ _ ⟨p, p1, p2, da, db, rfl, upd_same, (e4952.trans (en2.trans en)) _ _ upd_same, en _ _ upd_same, hda.ex (en1.trans (e4952.trans (en2.trans en))), hdb.ex (en2.trans en), e48.trans (e4952.trans (en2.trans en))⟩
    obtain ⟨p', p1, p2, da, db, rfl, hp', hp1, hp2, hda, hdb, e4348⟩ := hv
    obtain ⟨hfa, _⟩ := frd_mk (x := y) (W := W) (j := k) (L := Ly) (cs := cs2) fok hfr hsl (hty43.ex e4348) hLy rok.no hledw hda
    obtain ⟨hfb, _⟩ := frd_mk (x := x) (W := W) (j := k) (L := L) fok hfr hsl (htx43.ex e4348) hL ok.rk.no hled hdb
    refine ⟨p', _, rfl, st_of hp', fun i σ' H' => ∃ v12 v13, σ' = LwS a h wa x l (some (.int (k : Int))) (some (.ref g)) (some (.ref o)) (some (.ref y)) (some (.ref s2)) (some (.ref lw)) v11 v12 v13 ∧ Ex H48 H', ⟨v12, none, rfl, Ex.refl _⟩, fun i σ' H' _ ⟨_, _, _, e⟩ => st_of (e _ _ hp'), fun i it σ' H' hit hP => ?_, fun σ' H' hP => ?_⟩
    · obtain ⟨v12, v13, rfl, e49⟩ := hP
      have hcase : ∃ (pp T d : Addr) (Lx : List Pr) (rs : List (List Int)), it = .ref pp ∧ H48 pp = some (.tup [.ref T, .ref d]) ∧ FrD K H48 T (frsOf W) Lx k fr d rs := by
        have hm := List.mem_of_getElem? hit
        simp only [List.mem_cons, List.not_mem_nil, or_false] at hm
        rcases hm with rfl | rfl
        · exact ⟨_, _, _, _, _, rfl, hp1, hfa⟩
        · exact ⟨_, _, _, _, _, rfl, hp2, hfb⟩
      obtain ⟨pp, T, d, Lx, rs, rfl, hpp, hd⟩ := hcase
      have hd49 := hd.ex e49
      have r720 := hd.len
      refine g_two (e49 _ _ hpp) ?_
      refine q_pass (et_not (a := true) (et_B (fun Ha ea Q qq => w_call (w_consW (w_cb (w_consW (w_lcG (kr := 13) (x := T) (j := k) (ea_cons (ev_var rfl) (ea_cons (ev_var rfl) ea_nil)) (hd49.ex ea).tg hd.hj hd.nodup (by decide) fun D ps Hb eb nD hD hps => w_nil ⟨D, _, rfl, .inl ⟨sq_of hD, fun tp np => w_cons (x := .ref d) (ev_var rfl) fun Hc ec => w_nil ⟨tp, d, ps, rs, rfl, ec _ _ upd_same, by rw [hd.rows]; exact Paired.mapP hps fun _ _ w => ((Ex.new np).trans ec) _ _ w, (hd49.ex (ea.trans (eb.trans ((Ex.new np).trans ec)))).due, by omega, fun r hr => by have := hd.rlen hr; omega, fun Hd ed => qq Hd (eb.trans ((Ex.new np).trans (ec.trans ed)))⟩⟩⟩))))))) fun H50 e50 => ?_
      have hd50 := hd49.ex e50
      obtain ⟨ds, g5, g6⟩ := id hd50.due
      have hl2 : ds.length = rs.length := g6.length
      exact s_pass (et_is (et_op (ev_fn (z := .int (rs.length : Int)) (ea_cons (ev_var rfl) (ea_cons (ev_var rfl) ea_nil)) fun Ha ea Q E qq => ⟨T, k, frsOf W, Lx, rfl, (hd50.ex ea).tg, .inl ⟨k, fr, rfl, hfr, fun Hb eb => by rw [hd.cnt]; exact qq Hb eb⟩⟩) (ev_is (ev_len (ev_var rfl) (sq_of g5)) (by rw [List.length_map, hl2])) (rv_ne rfl)) (by rw [decide_eq_true rfl]; rfl)) fun H51 e51 => ⟨_, _, rfl, (e49.trans e50).trans e51⟩
    obtain ⟨v12', v13, rfl, e49⟩ := hP
    exact s_ret ev_c fun H50 _ => hQ H50
end
end LO

set_option Elab.async false
set_option linter.all false
set_option maxRecDepth 100000
set_option maxHeartbeats 4000000
namespace LO
open PySem PySem.Spec PyProof.Rows L2
/-! ### what the end reads of the heap -/
def refsZ (o : Obj) : List Addr := match o.data with
  | .dict es _ => es.toList.flatMap fun e => He.refV e.val
  | .func fd => He.refV fd.code ++ (He.refV fd.defaults ++ fd.closure.map (·.2))
  | .cls cd => [cd.ns]
  | .fields vs => (match o.cls with
    | .type n => (match n == "property" with
      | true => vs.toList.flatMap He.refV
      | false => [])
    | _ => [])
  | _ => []
def stepZ (g : Addr → Option Obj) (as : List Addr) : List Addr := as.flatMap fun a => match g a with
  | some o => refsZ o
  | none => []
def frontZ (g : Addr → Option Obj) : Nat → List Addr → List Addr
  | 0, as => as
  | n + 1, as => as ++ frontZ g n (stepZ g as)
def asZ (g : Addr → Option Obj) : List Addr := cStatics :: frontZ g 5 [mainGlobals]
/-- a def: where it stands, its names, its row, its defaults, its closure's names -/
structure Dz where
  at_ : PySem.W.Frag → Addr
  name : Str
  qual : Str
  st : Stmt
  dfl : List He.Dv
  clo : List Str
abbrev FnZv : Type := Option (Str × Str × Arguments × FuncBody × Scope × Addr × List Str × Addr)
def fnZ (K : PySem.W.Frag) (a : Addr) : FnZv := match K.lookup a with
  | some ⟨_, _, .func fd, _⟩ => some (fd.name, fd.qualname, fd.params, fd.body, fd.scope, fd.globals, fd.closure.map (·.1), fd.builtins)
  | _ => none
def Dz.val (d : Dz) : FnZv := some (d.name, d.qual, defArgs d.st, .stmts (defBody d.st), defScope d.st, mainGlobals, d.clo, builtinsNs)
def Dz.ok (K : PySem.W.Frag) (d : Dz) : Bool := PySem.W.keepIn K (.ref (d.at_ K)) && (match K.lookup (d.at_ K) with
  | some ⟨_, _, .func fd, _⟩ => PySem.W.codeIn K fd.code d.qual && He.dflB K fd.defaults (d.dfl.map (He.Dv.v K))
  | _ => false)
/-- its parts -/
structure DzP (K : PySem.W.Frag) (d : Dz) : Prop where
  ex : ∃ (oc : Value) (od : Option Addr) (dV kV doc pm : Value) (an : Option Addr) (cdv ct : Value) (osl : Array (Option Value)) (cl : List (Str × Addr)),
    K.lookup (d.at_ K) = some ⟨oc, od, .func (PySem.W.fnX d.name d.qual (defArgs d.st) (defBody d.st) (defScope d.st) cl dV kV doc pm an cdv ct), osl⟩ ∧ cl.map (·.1) = d.clo ∧ PySem.W.codeIn K cdv d.qual = true ∧ DflV K dV (d.dfl.map (He.Dv.v K))
  kp : PySem.W.keepIn K (.ref (d.at_ K)) = true
theorem Dz.parts {K : PySem.W.Frag} {d : Dz} (e : fnZ K (d.at_ K) = d.val) (c : d.ok K = true) : DzP K d := by
  obtain ⟨kp, c2⟩ := He.ba c
  unfold fnZ at e
  cases q : K.lookup (d.at_ K) with
  | none =>
    rw [q] at c2
    cases c2
  | some o =>
    obtain ⟨oc, od, dt, osl⟩ := o
    rw [q] at c2 e
    cases dt with
    | func fd =>
      obtain ⟨n1, n2, n3, n4, n5, n6, n7, n8, n9, n10, n11, n12, n13, n14, n15⟩ := fd
      have e2 : (some (n1, n2, n3, n4, n5, n6, n7.map (·.1), n15) : FnZv) = some (d.name, d.qual, defArgs d.st, .stmts (defBody d.st), defScope d.st, mainGlobals, d.clo, builtinsNs) := e
      simp only [Option.some.injEq, Prod.mk.injEq] at e2
      obtain ⟨h1, h2, h3, h4, h5, h6, h7, h8⟩ := e2
      subst h1 h2 h3 h4 h5 h6 h8
      have c3 : (PySem.W.codeIn K n13 d.qual && He.dflB K n8 (d.dfl.map (He.Dv.v K))) = true := c2
      obtain ⟨k1, k2⟩ := He.ba c3
      exact ⟨⟨oc, od, n8, n9, n10, n11, n12, n13, n14, osl, n7, q, h7, k1, He.dflB_ok k2⟩, kp⟩
    | _ => cases c2
theorem DzP.fn {K : PySem.W.Frag} {d : Dz} (c : DzP K d) (hc : d.clo = []) : FnAt K d.name d.qual d.st (d.dfl.map (He.Dv.v K)) (d.at_ K) := by
  obtain ⟨⟨oc, od, dV, kV, doc, pm, an, cdv, ct, osl, cl, lk, hcl, k1, k2⟩, kp⟩ := c
  rw [hc] at hcl
  have e : cl = [] := List.map_eq_nil_iff.mp hcl
  subst e
  exact ⟨_, ⟨oc, od, dV, kV, doc, pm, an, cdv, ct, osl, rfl, lk, k1, k2, .inl rfl⟩, kp⟩
/-! ### facts -/
section
variable {K : PySem.W.Frag} {C f : Addr}
def tyB (K : PySem.W.Frag) (C : Addr) : Bool := He.eqO (PySem.W.findIn K (.ref C) "__class__") (some (some (.builtin "object.__class__"))) && (He.eqO (PySem.W.specialIn K (.builtin "object.__class__") "__get__") (some (some (.builtin "getset_descriptor.__get__"))) &&
  (decide (PySem.W.takesIn K (.builtin "object.__class__") = some true) && decide (PySem.W.mroIn K C (.type "object") = some true)))
theorem tyB_ok (h : tyB K C = true) : LW.TyC K C := by
  obtain ⟨h1, h⟩ := He.ba h
  obtain ⟨h2, h⟩ := He.ba h
  obtain ⟨h3, h4⟩ := He.ba h
  exact ⟨He.eqO_ok h1, He.eqO_ok h2, of_decide_eq_true h3, of_decide_eq_true h4⟩
def prA (K : PySem.W.Frag) (C : Addr) (f : Str) : Addr := match PySem.W.findIn K (.ref C) f with
  | some (some (.ref a)) => a
  | _ => 0
def prG (K : PySem.W.Frag) (C : Addr) (f : Str) : Addr := match PySem.W.recIn K (prA K C f) "property" with
  | some (.ref g :: _) => g
  | _ => 0
def propB (K : PySem.W.Frag) (C : Addr) (f : Str) : Bool := He.eqO (PySem.W.findIn K (.ref C) f) (some (some (.ref (prA K C f)))) && (He.eqO (PySem.W.specialIn K (.ref (prA K C f)) "__get__") (some (some (.builtin "property.__get__"))) &&
  (decide (PySem.W.takesIn K (.ref (prA K C f)) = some true) && (match PySem.W.recIn K (prA K C f) "property" with
    | some (.ref _ :: _) => true
    | _ => false)))
theorem propB_ok {x : Str} (h : propB K C x = true) : PropOf K C x (prA K C x) (prG K C x) := by
  obtain ⟨h1, h⟩ := He.ba h
  obtain ⟨h2, h⟩ := He.ba h
  obtain ⟨h3, h4⟩ := He.ba h
  refine ⟨He.eqO_ok h1, He.eqO_ok h2, of_decide_eq_true h3, ?_⟩
  unfold prG
  revert h4
  split
  · rename_i g r e
    exact fun _ => ⟨r, e⟩
  · exact fun z => nomatch z
def mroB (C : Addr) : List Value → Bool
  | .ref c :: bm => decide (c = C) && PySem.HandSPX.refsVE bm
  | _ => false
theorem mroB_ok {l : List Value} (h : mroB C l = true) : ∃ bm, l = .ref C :: bm ∧ PySem.HandSPX.refsVE bm = true := by
  unfold mroB at h
  split at h
  · rename_i c bm
    obtain ⟨b1, b2⟩ := He.ba h
    exact ⟨bm, by rw [of_decide_eq_true b1], b2⟩
  · cases h
def slB : List (Option Value) → Bool
  | [_, _, _, _, some (.builtin n), _] => decide (n = "ValueError.__new__")
  | _ => false
theorem slB_ok {l : List (Option Value)} (h : slB l = true) : ∃ k0 k1 k2 k3 k5, l = [k0, k1, k2, k3, some (.builtin "ValueError.__new__"), k5] := by
  unfold slB at h
  split at h
  · rename_i k0 k1 k2 k3 n k5
    exact ⟨k0, k1, k2, k3, k5, by rw [of_decide_eq_true h]⟩
  · cases h
def oexB (K : PySem.W.Frag) (C : Addr) : Bool := (match K.lookup C with
  | some ⟨.type t, _, .cls cd, sl⟩ => decide (t = "type") && (mroB C cd.mro && (cd.hasDict && (!cd.hasDel && slB sl.toList)))
  | _ => false) && (He.eqO (PySem.W.findIn K (.ref C) "__setattr__") (some (some (.builtin "object.__setattr__"))) && (decide (PySem.W.subIn K (.ref C) (.type "BaseException") = some true) &&
    (decide (PySem.W.typeIn K (.ref C) = some (.type "type")) && PySem.W.keepIn K (.ref C))))
theorem oexB_ok (h : oexB K C = true) : OexC K C := by
  obtain ⟨h1, h⟩ := He.ba h
  obtain ⟨h2, h⟩ := He.ba h
  obtain ⟨h3, h⟩ := He.ba h
  obtain ⟨h4, h5⟩ := He.ba h
  refine ⟨?_, He.eqO_ok h2, of_decide_eq_true h3, of_decide_eq_true h4, h5⟩
  cases q : K.lookup C with
  | none =>
    rw [q] at h1
    cases h1
  | some o =>
    obtain ⟨oc, od, dt, sl⟩ := o
    rw [q] at h1
    cases oc with
    | type t =>
      cases dt with
      | cls cd =>
        obtain ⟨nm, bs, mro, N, qn, hd, sn, sub, ab, col, hdl⟩ := cd
        obtain ⟨a1, a⟩ := He.ba h1
        obtain ⟨a2, a⟩ := He.ba a
        obtain ⟨a3, a⟩ := He.ba a
        obtain ⟨a4, a5⟩ := He.ba a
        have e1 : t = "type" := of_decide_eq_true a1
        have e3 : hd = true := a3
        have e4 : hdl = false := by
          cases hdl with
          | false => rfl
          | true => cases a4
        subst e1 e3 e4
        obtain ⟨bm, e5, b2⟩ := mroB_ok (l := mro) a2
        subst e5
        obtain ⟨sl⟩ := sl
        obtain ⟨k0, k1, k2, k3, k5, e6⟩ := slB_ok (l := sl) a5
        subst e6
        exact ⟨nm, qn, N, bs, bm, sn, sub, ab, col, od, k0, k1, k2, k3, k5, rfl, b2⟩
      | _ => cases h1
    | _ => cases dt <;> cases h1
def excB (K : PySem.W.Frag) (C : Addr) : Bool := xfB K C && tyB K C
theorem excB_ok (h : excB K C = true) : ExcC K C := by
  obtain ⟨h1, h2⟩ := He.ba h
  have a := xfB_ok h1
  have b := tyB_ok h2
  exact ⟨a.ga, a.gg, a.exC, a.hdC, b.ha, b.hn, b.ht, b.hm⟩
def iniB (K : PySem.W.Frag) (C : Addr) : Bool := He.eqO (PySem.W.findIn K (.ref C) "__init__") (some (some (.ref (He.ma K C "__init__")))) && decide (PySem.W.typeIn K (.ref (He.ma K C "__init__")) = some (.type "function"))
theorem iniB_ok (h : iniB K C = true) : PySem.W.findIn K (.ref C) "__init__" = some (some (.ref (He.ma K C "__init__"))) ∧ PySem.W.typeIn K (.ref (He.ma K C "__init__")) = some (.type "function") := by
  obtain ⟨h1, h2⟩ := He.ba h
  exact ⟨He.eqO_ok h1, of_decide_eq_true h2⟩
def bseB (K : PySem.W.Frag) (C : Addr) : Bool := PySem.W.readsIn K C (.type "type") && (He.eqO (PySem.W.specialIn K (.ref C) "__getattribute__") (some (some (.builtin "type.__getattribute__"))) && (match PySem.W.findCls K (.ref C) (.type "type") "__init__" with
  | some (.val (.builtin n)) => decide (n = "ValueError.__init__")
  | _ => false))
theorem bseB_ok (h : bseB K C = true) : ∃ mc, ClX.CRead K C mc ∧ PySem.W.findCls K (.ref C) mc "__init__" = some (.val (.builtin "ValueError.__init__")) := by
  obtain ⟨h1, h⟩ := He.ba h
  obtain ⟨h2, h3⟩ := He.ba h
  refine ⟨_, ⟨h1, He.eqO_ok h2⟩, ?_⟩
  split at h3
  · rename_i n e
    rw [e, of_decide_eq_true h3]
  · cases h3
def cellB (K : PySem.W.Frag) (C cc : Addr) : Bool := match K.lookup cc with
  | some ⟨_, _, .cell (some (.ref c)), _⟩ => decide (c = C)
  | _ => false
def fileB (K : PySem.W.Frag) (cda : Addr) : Bool := match K.lookup cda with
  | some ⟨_, _, .fields vs, _⟩ => (match (vs[2]? : Option Value) with
    | some (.str fl _) => (pw.main.file : Str) == fl
    | _ => false)
  | _ => false
def nfB (K : PySem.W.Frag) (C f : Addr) : Bool := (match K.lookup f with
  | some ⟨_, _, .func fd, _⟩ => (match fd.closure with
    | [(_, cc)] => cellB K C cc
    | _ => false) && (match fd.code with
    | .ref cda => fileB K cda
    | _ => false)
  | _ => false) && (He.eqO (PySem.W.nsIn K cStatics "thirdparty.any") (some none) && (decide (PySem.W.mroIn K C (.ref C) = some true) && (decide (PySem.W.subIn K (.ref C) (.type "ValueError") = some true) && He.eqO (PySem.W.ks_superIn K C C "__init__") (some (some (.builtin "ValueError.__init__"))))))
theorem cellB_ok {cc : Addr} (h : cellB K C cc = true) : ∃ cl cld csl, K.lookup cc = some ⟨cl, cld, .cell (some (.ref C)), csl⟩ := by
  unfold cellB at h
  split at h
  · rename_i a b c d e
    rw [← of_decide_eq_true h]
    exact ⟨_, _, _, e⟩
  · cases h
theorem fileB_ok {cda : Addr} (h : fileB K cda = true) : ∃ co vs file tf, K.lookup cda = some co ∧ co.data = .fields vs ∧ vs[2]? = some (.str file tf) ∧ ((pw.main.file : Str) == file) = true := by
  unfold fileB at h
  split at h
  · rename_i a b vs d e
    split at h
    · rename_i fl tf e2
      exact ⟨_, vs, fl, tf, e, rfl, e2, h⟩
    · cases h
  · cases h
theorem nf_scope : defScope s_NoFrame_init = LE.scNF := by kernel_rfl
theorem nf_body : defBody s_NoFrame_init = LE.bodyNF LE.pNF := by kernel_rfl
theorem nf_par : ∃ ar, ((defArgs s_NoFrame_init).posonlyargs ++ (defArgs s_NoFrame_init).args).head? = some ar ∧ ar.arg = "self" := ⟨_, rfl, rfl⟩
theorem nf_top : (pw.main.scope.names.lookup ("super" : Str)).isSome = false := by kernel_rfl
abbrev dNF : Dz := ⟨fun K => He.ma K (ga K "NoFrame") "__init__", "__init__", "NoFrame.__init__", s_NoFrame_init, [], ["__class__"]⟩
theorem nf_init (c : DzP K dNF) (hi : PySem.W.findIn K (.ref (ga K "NoFrame")) "__init__" = some (some (.ref (He.ma K (ga K "NoFrame") "__init__"))) ∧ PySem.W.typeIn K (.ref (He.ma K (ga K "NoFrame") "__init__")) = some (.type "function")) (h : nfB K (ga K "NoFrame") (He.ma K (ga K "NoFrame") "__init__") = true)
    (T : OexC K (ga K "NoFrame")) (nof : PySem.W.findIn K (.ref (ga K "NoFrame")) "frame" = some none) :
    ∃ f fd, PySem.W.findIn K (.ref (ga K "NoFrame")) "__init__" = some (some (.ref f)) ∧ PySem.W.typeIn K (.ref f) = some (.type "function") ∧ LE.NFI pw K LE.pNF (defArgs s_NoFrame_init) (ga K "NoFrame") f fd ∧ Binds K fd LE.NNF [] := by
  obtain ⟨⟨oc, od, dV, kV, doc, pm, an, cdv, ct, osl, cl, lk, hcl, k1, k2⟩, kp⟩ := c
  have lk2 : K.lookup (He.ma K (ga K "NoFrame") "__init__") = some ⟨oc, od, .func (PySem.W.fnX "__init__" "NoFrame.__init__" (defArgs s_NoFrame_init) (defBody s_NoFrame_init) (defScope s_NoFrame_init) cl dV kV doc pm an cdv ct), osl⟩ := lk
  have hcl2 : cl.map (·.1) = (["__class__"] : List Str) := hcl
  obtain ⟨h1, h⟩ := He.ba h
  obtain ⟨h2, h⟩ := He.ba h
  obtain ⟨h3, h⟩ := He.ba h
  obtain ⟨h4, h5⟩ := He.ba h
  rw [lk2] at h1
  obtain ⟨h6, h7⟩ := He.ba h1
  match cl, hcl2, lk2, h6 with
  | [(x, cc)], hx, lk3, h6 =>
    have ex : x = "__class__" := (List.cons.inj hx).1
    subst ex
    obtain ⟨cl', cld, csl, hc⟩ := cellB_ok (show cellB K (ga K "NoFrame") cc = true from h6)
    cases cdv with
    | ref cda =>
      obtain ⟨co, vs, file, tf, e1, e2, e3, e4⟩ := fileB_ok (show fileB K cda = true from h7)
      rw [nf_scope, nf_body] at lk3
      have edV : dV = .none := by
        rcases k2 with ⟨_, e⟩ | ⟨e, _⟩
        · exact e
        · exact absurd rfl e
      subst edV
      exact ⟨_, _, hi.1, hi.2, ⟨⟨oc, od, .none, kV, doc, pm, ct, an, osl, cda, cc, cl', cld, csl, co, vs, file, tf, rfl, lk3, k1, hc, e1, e2, e3, e4⟩, nf_par, nf_top, He.eqO_ok h2, of_decide_eq_true h3, of_decide_eq_true h4, He.eqO_ok h5, T, nof⟩, .all fun us hl => match us, hl with | [_, _], _ => rfl⟩
    | _ => cases h7
end
def zb0 (K : PySem.W.Frag) : List Bool := [(He.Fa.glo "is_whole").ok K,
  (He.Fa.glo "has_letters").ok K,
  (He.Fa.glo "is_name").ok K,
  (He.Fa.glo "is_ending").ok K,
  (He.Fa.glo "ending_from").ok K,
  (He.Fa.glo "closure_of").ok K,
  (He.Fa.glo "has_ring").ok K,
  (He.Fa.glo "is_rule").ok K,
  (He.Fa.glo "check_rules").ok K,
  (He.Fa.glo "without_role").ok K,
  (He.Fa.glo "is_first").ok K,
  (He.Fa.glo "rows_from").ok K,
  (He.Fa.glo "count_from").ok K,
  (He.Fa.glo "keeps_rules").ok K,
  (He.Fa.glo "is_row_of").ok K,
  (He.Fa.glo "check_table").ok K,
  (He.Fa.glo "check_nouns").ok K,
  (He.Fa.glo "check_frame").ok K,
  (He.Fa.glo "names_of_roles").ok K,
  (He.Fa.glo "good_stocks").ok K,
  (He.Fa.glo "good_frames").ok K,
  (He.Fa.glo "good_rules").ok K,
  (He.Fa.glo "couples_within").ok K,
  (He.Fa.glo "slots_of").ok K,
  (He.Fa.glo "orders_of").ok K,
  (He.Fa.glo "how_many_orders").ok K,
  (He.Fa.glo "check_order").ok K,
  (He.Fa.glo "order_place").ok K,
  (He.Fa.glo "order_at").ok K,
  (He.Fa.glo "_law_hand").ok K]
def zb1 (K : PySem.W.Frag) : List Bool := [(He.Fa.glo "_law_mixed").ok K,
  (He.Fa.glo "_law_take").ok K,
  (He.Fa.glo "_law_shuffled").ok K,
  (He.Fa.glo "_law_some").ok K,
  (He.Fa.glo "_law_closure").ok K,
  (He.Fa.glo "_law_many").ok K,
  (He.Fa.glo "_law_rules").ok K,
  (He.Fa.glo "_law_pool").ok K,
  (He.Fa.glo "_law_table").ok K,
  (He.Fa.glo "_law_frames").ok K,
  (He.Fa.glo "_law_world").ok K,
  (He.Fa.glo "_law_make").ok K,
  (He.Fa.glo "_law_slots").ok K,
  (He.Fa.glo "_law_orders").ok K,
  (He.Fa.glo "_law_is_whole").ok K,
  (He.Fa.glo "_law_same_row").ok K,
  (He.Fa.glo "_law_same_rows").ok K,
  (He.Fa.glo "_law_one").ok K,
  (He.Fa.glo "_law_rolled").ok K,
  (He.Fa.glo "_law_asked").ok K,
  (He.Fa.glo "_law_refused").ok K,
  (He.Fa.glo "_law_place_right").ok K,
  (He.Fa.glo "_law_row_right").ok K,
  (He.Fa.glo "_law_wrong_rows").ok K,
  (He.Fa.glo "_law_frame_right").ok K,
  (He.Fa.glo "law").ok K,
  (He.Fa.free "len").ok K,
  (He.Fa.free "list").ok K,
  (He.Fa.free "tuple").ok K,
  (He.Fa.free "sorted").ok K]
def zb2 (K : PySem.W.Frag) : List Bool := [(He.Fa.free "range").ok K,
  (He.Fa.free "int").ok K,
  (He.Fa.free "isinstance").ok K,
  (He.Fa.free "bool").ok K,
  (He.Fa.free "str").ok K,
  (He.Fa.free "min").ok K,
  (He.Fa.free "max").ok K,
  (He.Fa.free "super").ok K,
  (He.Fa.int "MOST_PARTS" 4).ok K,
  (He.Fa.int "LONGEST_PART" 3).ok K,
  (He.Fa.int "MOST_RULES" 30).ok K,
  (He.Fa.int "MOST_ROLES" 6).ok K,
  (He.Fa.int "LONGEST_NAME" 8).ok K,
  (He.Fa.int "MOST_NOUNS" 5).ok K,
  (He.Fa.int "MOST_STOCKS" 4).ok K,
  (He.Fa.int "MOST_FRAMES" 4).ok K,
  (He.Fa.str "LETTERS" "abcdefghijklmnopqrstuvwxyz").ok K,
  (He.Fa.glo "VERBS").ok K,
  He.tupB K "VERBS" [.str "first", .str "last", .str "free"],
  (He.Fa.glo "Stock").ok K,
  (He.Fa.cls "Stock").ok K,
  (He.Fa.noat "Stock" "name").ok K,
  (He.Fa.noat "Stock" "table").ok K,
  tyB K (ga K "Stock"),
  decide (PySem.W.kitOne K (.ref (ga K "Stock")) (.ref (ga K "Stock")) = some true),
  (He.Fa.mkr "Stock").ok K,
  (He.Fa.glo "Frame").ok K,
  (He.Fa.cls "Frame").ok K,
  (He.Fa.noat "Frame" "name").ok K,
  (He.Fa.noat "Frame" "nouns").ok K]
def zb3 (K : PySem.W.Frag) : List Bool := [(He.Fa.noat "Frame" "clause").ok K,
  (He.Fa.noat "Frame" "agreed").ok K,
  tyB K (ga K "Frame"),
  decide (PySem.W.kitOne K (.ref (ga K "Frame")) (.ref (ga K "Frame")) = some true),
  (He.Fa.mkr "Frame").ok K,
  (He.Fa.glo "Tongue").ok K,
  (He.Fa.cls "Tongue").ok K,
  (He.Fa.noat "Tongue" "roles").ok K,
  (He.Fa.noat "Tongue" "stocks").ok K,
  (He.Fa.noat "Tongue" "frames").ok K,
  (He.Fa.noat "Tongue" "rules").ok K,
  (He.Fa.noat "Tongue" "verbs").ok K,
  (He.Fa.noat "Tongue" "closure").ok K,
  tyB K (ga K "Tongue"),
  decide (PySem.W.kitOne K (.ref (ga K "Tongue")) (.ref (ga K "Tongue")) = some true),
  (He.Fa.mkr "Tongue").ok K,
  propB K (ga K "Stock") "borne",
  propB K (ga K "Frame") "slots",
  (He.Fa.glo "TongueError").ok K,
  (He.Fa.glo "NoFrame").ok K,
  (He.Fa.glo "NoOrder").ok K,
  oexB K (ga K "NoFrame"),
  excB K (ga K "NoFrame"),
  decide (PySem.W.exmOne K (.ref (ga K "NoFrame")) (.ref (ga K "TongueError")) = some true),
  oexB K (ga K "NoOrder"),
  excB K (ga K "NoOrder"),
  decide (PySem.W.exmOne K (.ref (ga K "NoOrder")) (.ref (ga K "TongueError")) = some true),
  xfB K (ga K "NoFrame"),
  (He.Fa.noat "NoFrame" "frame").ok K,
  iniB K (ga K "NoOrder")]
def zb4 (K : PySem.W.Frag) : List Bool := [bseB K (ga K "TongueError"),
  iniB K (ga K "NoFrame"),
  nfB K (ga K "NoFrame") (He.ma K (ga K "NoFrame") "__init__"),
  decide (PySem.W.kitOne K (.ref (ga K "NoOrder")) (.ref (ga K "NoOrder")) = some true),
  decide (PySem.W.kitOne K (.ref (ga K "NoOrder")) (.ref (ga K "NoFrame")) = some false),
  decide (PySem.W.kitOne K (.ref (ga K "NoFrame")) (.ref (ga K "NoOrder")) = some false),
  decide (PySem.W.kitOne K (.ref (ga K "NoFrame")) (.ref (ga K "NoFrame")) = some true),
  decide (PySem.W.subIn K (.ref (ga K "NoFrame")) (.type "StopIteration") = some false)]
def zbs (K : PySem.W.Frag) : List (List Bool) := [zb0 K, zb1 K, zb2 K, zb3 K, zb4 K]
def dz0 : List Dz := [⟨fun K => ga K "is_whole", "is_whole", "is_whole", s_is_whole, [.non, .non], []⟩,
  ⟨fun K => ga K "has_letters", "has_letters", "has_letters", s_has_letters, [], []⟩,
  ⟨fun K => ga K "is_name", "is_name", "is_name", s_is_name, [], []⟩,
  ⟨fun K => ga K "is_ending", "is_ending", "is_ending", s_is_ending, [], []⟩,
  ⟨fun K => ga K "ending_from", "ending_from", "ending_from", s_ending_from, [], []⟩,
  ⟨fun K => ga K "closure_of", "closure_of", "closure_of", s_closure_of, [], []⟩,
  ⟨fun K => ga K "has_ring", "has_ring", "has_ring", s_has_ring, [], []⟩,
  ⟨fun K => ga K "is_rule", "is_rule", "is_rule", s_is_rule, [], []⟩,
  ⟨fun K => ga K "check_rules", "check_rules", "check_rules", s_check_rules, [], []⟩,
  ⟨fun K => ga K "without_role", "without_role", "without_role", s_without_role, [], []⟩,
  ⟨fun K => ga K "is_first", "is_first", "is_first", s_is_first, [], []⟩,
  ⟨fun K => ga K "rows_from", "rows_from", "rows_from", s_rows_from, [], []⟩,
  ⟨fun K => ga K "count_from", "count_from", "count_from", s_count_from, [], []⟩,
  ⟨fun K => ga K "keeps_rules", "keeps_rules", "keeps_rules", s_keeps_rules, [], []⟩,
  ⟨fun K => ga K "is_row_of", "is_row_of", "is_row_of", s_is_row_of, [], []⟩,
  ⟨fun K => ga K "check_table", "check_table", "check_table", s_check_table, [], []⟩,
  ⟨fun K => ga K "check_nouns", "check_nouns", "check_nouns", s_check_nouns, [], []⟩,
  ⟨fun K => ga K "check_frame", "check_frame", "check_frame", s_check_frame, [], []⟩,
  ⟨fun K => ga K "names_of_roles", "names_of_roles", "names_of_roles", s_names_of_roles, [], []⟩,
  ⟨fun K => ga K "good_stocks", "good_stocks", "good_stocks", s_good_stocks, [], []⟩,
  ⟨fun K => ga K "good_frames", "good_frames", "good_frames", s_good_frames, [], []⟩,
  ⟨fun K => ga K "good_rules", "good_rules", "good_rules", s_good_rules, [], []⟩,
  ⟨fun K => ga K "couples_within", "couples_within", "couples_within", s_couples_within, [], []⟩,
  ⟨fun K => ga K "slots_of", "slots_of", "slots_of", s_slots_of, [], []⟩,
  ⟨fun K => ga K "orders_of", "orders_of", "orders_of", s_orders_of, [], []⟩,
  ⟨fun K => ga K "how_many_orders", "how_many_orders", "how_many_orders", s_how_many_orders, [], []⟩,
  ⟨fun K => ga K "check_order", "check_order", "check_order", s_check_order, [], []⟩,
  ⟨fun K => ga K "order_place", "order_place", "order_place", s_order_place, [], []⟩,
  ⟨fun K => ga K "order_at", "order_at", "order_at", s_order_at, [], []⟩,
  ⟨fun K => ga K "_law_hand", "_law_hand", "_law_hand", s__law_hand, [], []⟩]
def dz1 : List Dz := [⟨fun K => ga K "_law_mixed", "_law_mixed", "_law_mixed", s__law_mixed, [], []⟩,
  ⟨fun K => ga K "_law_take", "_law_take", "_law_take", s__law_take, [], []⟩,
  ⟨fun K => ga K "_law_shuffled", "_law_shuffled", "_law_shuffled", s__law_shuffled, [], []⟩,
  ⟨fun K => ga K "_law_some", "_law_some", "_law_some", s__law_some, [], []⟩,
  ⟨fun K => ga K "_law_closure", "_law_closure", "_law_closure", s__law_closure, [], []⟩,
  ⟨fun K => ga K "_law_many", "_law_many", "_law_many", s__law_many, [], []⟩,
  ⟨fun K => ga K "_law_rules", "_law_rules", "_law_rules", s__law_rules, [], []⟩,
  ⟨fun K => ga K "_law_pool", "_law_pool", "_law_pool", s__law_pool, [], []⟩,
  ⟨fun K => ga K "_law_table", "_law_table", "_law_table", s__law_table, [], []⟩,
  ⟨fun K => ga K "_law_frames", "_law_frames", "_law_frames", s__law_frames, [], []⟩,
  ⟨fun K => ga K "_law_world", "_law_world", "_law_world", s__law_world, [], []⟩,
  ⟨fun K => ga K "_law_make", "_law_make", "_law_make", s__law_make, [], []⟩,
  ⟨fun K => ga K "_law_slots", "_law_slots", "_law_slots", s__law_slots, [], []⟩,
  ⟨fun K => ga K "_law_orders", "_law_orders", "_law_orders", s__law_orders, [], []⟩,
  ⟨fun K => ga K "_law_is_whole", "_law_is_whole", "_law_is_whole", s__law_is_whole, [], []⟩,
  ⟨fun K => ga K "_law_same_row", "_law_same_row", "_law_same_row", s__law_same_row, [], []⟩,
  ⟨fun K => ga K "_law_same_rows", "_law_same_rows", "_law_same_rows", s__law_same_rows, [], []⟩,
  ⟨fun K => ga K "_law_one", "_law_one", "_law_one", s__law_one, [], []⟩,
  ⟨fun K => ga K "_law_rolled", "_law_rolled", "_law_rolled", s__law_rolled, [], []⟩,
  ⟨fun K => ga K "_law_asked", "_law_asked", "_law_asked", s__law_asked, [], []⟩,
  ⟨fun K => ga K "_law_refused", "_law_refused", "_law_refused", s__law_refused, [], []⟩,
  ⟨fun K => ga K "_law_place_right", "_law_place_right", "_law_place_right", s__law_place_right, [], []⟩,
  ⟨fun K => ga K "_law_row_right", "_law_row_right", "_law_row_right", s__law_row_right, [], []⟩,
  ⟨fun K => ga K "_law_wrong_rows", "_law_wrong_rows", "_law_wrong_rows", s__law_wrong_rows, [], []⟩,
  ⟨fun K => ga K "_law_frame_right", "_law_frame_right", "_law_frame_right", s__law_frame_right, [], []⟩,
  ⟨fun K => ga K "law", "law", "law", s_law, [], []⟩,
  ⟨fun K => He.ma K (ga K "Stock") "__init__", "__init__", "Stock.__init__", s_Stock_init, [], []⟩,
  ⟨fun K => He.ma K (ga K "Frame") "__init__", "__init__", "Frame.__init__", s_Frame_init, [.non, .non], []⟩,
  ⟨fun K => He.ma K (ga K "Tongue") "__init__", "__init__", "Tongue.__init__", s_Tongue_init, [.adr (He.dflAt ("Tongue", some "__init__") 0), .str "last"], []⟩,
  ⟨fun K => prG K (ga K "Stock") "borne", "borne", "Stock.borne", s_Stock_borne, [], []⟩]
def dz2 : List Dz := [⟨fun K => prG K (ga K "Frame") "slots", "slots", "Frame.slots", s_Frame_slots, [], []⟩,
  ⟨fun K => He.ma K (ga K "NoOrder") "__init__", "__init__", "NoOrder.__init__", s_NoOrder_init, [], []⟩,
  dNF]
def dzs : List Dz := dz0 ++ dz1 ++ dz2
abbrev AlZ : Type := Bool × List FnZv
def obsZ (K : PySem.W.Frag) : AlZ := (((zbs K).all fun l => l.all id) && dzs.all fun d => d.ok K, dzs.map fun d => fnZ K (d.at_ K))
def valZ : AlZ := (true, dzs.map Dz.val)
def Zs (K : PySem.W.Frag) : Prop := obsZ K = valZ
def obsZG (g : Addr → Option Obj) : AlZ := obsZ (He.frG g (asZ g))
def hkZ : PySem.W.Hook where
  α := AlZ
  obs := fun s => obsZG s.heap.get?
  val := fun _ => valZ
  says := fun _ h => ∃ K : PySem.W.Frag, K.In h ∧ Zs K
  of := fun _ _ e => ⟨_, He.frG_in, e⟩
  keeps := fun _ _ _ ⟨K, hK, c⟩ k => ⟨K, PySem.W.Frag.In.keeps hK k, c⟩
theorem Zs.b {K : PySem.W.Frag} (c : Zs K) (i j : Nat) {l : List Bool} {x : Bool} (h1 : (zbs K)[i]? = some l := by rfl) (h2 : l[j]? = some x := by rfl) : x = true := by
  have c1 := (He.ba (show (((zbs K).all fun l => l.all id) && dzs.all fun d => d.ok K) = true from congrArg (fun z : AlZ => z.1) c)).1
  have c2 := List.all_eq_true.mp c1 l (List.mem_of_getElem? h1)
  exact List.all_eq_true.mp c2 x (List.mem_of_getElem? h2)
theorem Zs.parts {K : PySem.W.Frag} (c : Zs K) (i : Nat) {d : Dz} (h : dzs[i]? = some d) : DzP K d := by
  have c2 := (He.ba (show (((zbs K).all fun l => l.all id) && dzs.all fun d => d.ok K) = true from congrArg (fun z : AlZ => z.1) c)).2
  have e : dzs.map (fun d => fnZ K (d.at_ K)) = dzs.map Dz.val := congrArg (fun z : AlZ => z.2) c
  have e2 : (dzs.map fun d => fnZ K (d.at_ K))[i]? = (dzs.map Dz.val)[i]? := by rw [e]
  rw [List.getElem?_map, List.getElem?_map, h] at e2
  exact Dz.parts (Option.some.inj e2) (List.all_eq_true.mp c2 d (List.mem_of_getElem? h))
theorem Zs.fn {K : PySem.W.Frag} (c : Zs K) (i : Nat) {d : Dz} (h : dzs[i]? = some d) (hc : d.clo = []) : FnAt K d.name d.qual d.st (d.dfl.map (He.Dv.v K)) (d.at_ K) := (c.parts i h).fn hc
end LO

set_option Elab.async false
set_option linter.all false
set_option maxRecDepth 100000
set_option maxHeartbeats 4000000
namespace LO
open PySem PySem.Spec PyProof.Rows L2
theorem mods_of {K : PySem.W.Frag} {h base : Heap} {mg : Str → Option Value} (X0 : K.In h) (G0 : h.Ns mainGlobals mg) (c : Zs K) (X : K.In base) (G : base.Ns mainGlobals mg) : Mods pw K mg base where
  kin := X
  glob := G
  F_is_whole := c.fn 0 rfl rfl
  g_is_whole := He.glo_ok X G (c.b 0 0)
  F_has_letters := c.fn 1 rfl rfl
  g_has_letters := He.glo_ok X G (c.b 0 1)
  F_is_name := c.fn 2 rfl rfl
  g_is_name := He.glo_ok X G (c.b 0 2)
  F_is_ending := c.fn 3 rfl rfl
  g_is_ending := He.glo_ok X G (c.b 0 3)
  F_ending_from := c.fn 4 rfl rfl
  g_ending_from := He.glo_ok X G (c.b 0 4)
  F_closure_of := c.fn 5 rfl rfl
  g_closure_of := He.glo_ok X G (c.b 0 5)
  F_has_ring := c.fn 6 rfl rfl
  g_has_ring := He.glo_ok X G (c.b 0 6)
  F_is_rule := c.fn 7 rfl rfl
  g_is_rule := He.glo_ok X G (c.b 0 7)
  F_check_rules := c.fn 8 rfl rfl
  g_check_rules := He.glo_ok X G (c.b 0 8)
  F_without_role := c.fn 9 rfl rfl
  g_without_role := He.glo_ok X G (c.b 0 9)
  F_is_first := c.fn 10 rfl rfl
  g_is_first := He.glo_ok X G (c.b 0 10)
  F_rows_from := c.fn 11 rfl rfl
  g_rows_from := He.glo_ok X G (c.b 0 11)
  F_count_from := c.fn 12 rfl rfl
  g_count_from := He.glo_ok X G (c.b 0 12)
  F_keeps_rules := c.fn 13 rfl rfl
  g_keeps_rules := He.glo_ok X G (c.b 0 13)
  F_is_row_of := c.fn 14 rfl rfl
  g_is_row_of := He.glo_ok X G (c.b 0 14)
  F_check_table := c.fn 15 rfl rfl
  g_check_table := He.glo_ok X G (c.b 0 15)
  F_check_nouns := c.fn 16 rfl rfl
  g_check_nouns := He.glo_ok X G (c.b 0 16)
  F_check_frame := c.fn 17 rfl rfl
  g_check_frame := He.glo_ok X G (c.b 0 17)
  F_names_of_roles := c.fn 18 rfl rfl
  g_names_of_roles := He.glo_ok X G (c.b 0 18)
  F_good_stocks := c.fn 19 rfl rfl
  g_good_stocks := He.glo_ok X G (c.b 0 19)
  F_good_frames := c.fn 20 rfl rfl
  g_good_frames := He.glo_ok X G (c.b 0 20)
  F_good_rules := c.fn 21 rfl rfl
  g_good_rules := He.glo_ok X G (c.b 0 21)
  F_couples_within := c.fn 22 rfl rfl
  g_couples_within := He.glo_ok X G (c.b 0 22)
  F_slots_of := c.fn 23 rfl rfl
  g_slots_of := He.glo_ok X G (c.b 0 23)
  F_orders_of := c.fn 24 rfl rfl
  g_orders_of := He.glo_ok X G (c.b 0 24)
  F_how_many_orders := c.fn 25 rfl rfl
  g_how_many_orders := He.glo_ok X G (c.b 0 25)
  F_check_order := c.fn 26 rfl rfl
  g_check_order := He.glo_ok X G (c.b 0 26)
  F_order_place := c.fn 27 rfl rfl
  g_order_place := He.glo_ok X G (c.b 0 27)
  F_order_at := c.fn 28 rfl rfl
  g_order_at := He.glo_ok X G (c.b 0 28)
  F__law_hand := c.fn 29 rfl rfl
  g__law_hand := He.glo_ok X G (c.b 0 29)
  F__law_mixed := c.fn 30 rfl rfl
  g__law_mixed := He.glo_ok X G (c.b 1 0)
  F__law_take := c.fn 31 rfl rfl
  g__law_take := He.glo_ok X G (c.b 1 1)
  F__law_shuffled := c.fn 32 rfl rfl
  g__law_shuffled := He.glo_ok X G (c.b 1 2)
  F__law_some := c.fn 33 rfl rfl
  g__law_some := He.glo_ok X G (c.b 1 3)
  F__law_closure := c.fn 34 rfl rfl
  g__law_closure := He.glo_ok X G (c.b 1 4)
  F__law_many := c.fn 35 rfl rfl
  g__law_many := He.glo_ok X G (c.b 1 5)
  F__law_rules := c.fn 36 rfl rfl
  g__law_rules := He.glo_ok X G (c.b 1 6)
  F__law_pool := c.fn 37 rfl rfl
  g__law_pool := He.glo_ok X G (c.b 1 7)
  F__law_table := c.fn 38 rfl rfl
  g__law_table := He.glo_ok X G (c.b 1 8)
  F__law_frames := c.fn 39 rfl rfl
  g__law_frames := He.glo_ok X G (c.b 1 9)
  F__law_world := c.fn 40 rfl rfl
  g__law_world := He.glo_ok X G (c.b 1 10)
  F__law_make := c.fn 41 rfl rfl
  g__law_make := He.glo_ok X G (c.b 1 11)
  F__law_slots := c.fn 42 rfl rfl
  g__law_slots := He.glo_ok X G (c.b 1 12)
  F__law_orders := c.fn 43 rfl rfl
  g__law_orders := He.glo_ok X G (c.b 1 13)
  F__law_is_whole := c.fn 44 rfl rfl
  g__law_is_whole := He.glo_ok X G (c.b 1 14)
  F__law_same_row := c.fn 45 rfl rfl
  g__law_same_row := He.glo_ok X G (c.b 1 15)
  F__law_same_rows := c.fn 46 rfl rfl
  g__law_same_rows := He.glo_ok X G (c.b 1 16)
  F__law_one := c.fn 47 rfl rfl
  g__law_one := He.glo_ok X G (c.b 1 17)
  F__law_rolled := c.fn 48 rfl rfl
  g__law_rolled := He.glo_ok X G (c.b 1 18)
  F__law_asked := c.fn 49 rfl rfl
  g__law_asked := He.glo_ok X G (c.b 1 19)
  F__law_refused := c.fn 50 rfl rfl
  g__law_refused := He.glo_ok X G (c.b 1 20)
  F__law_place_right := c.fn 51 rfl rfl
  g__law_place_right := He.glo_ok X G (c.b 1 21)
  F__law_row_right := c.fn 52 rfl rfl
  g__law_row_right := He.glo_ok X G (c.b 1 22)
  F__law_wrong_rows := c.fn 53 rfl rfl
  g__law_wrong_rows := He.glo_ok X G (c.b 1 23)
  F__law_frame_right := c.fn 54 rfl rfl
  g__law_frame_right := He.glo_ok X G (c.b 1 24)
  F_law := c.fn 55 rfl rfl
  g_law := He.glo_ok X G (c.b 1 25)
  z_len := He.free_ok X G (c.b 1 26)
  z_list := He.free_ok X G (c.b 1 27)
  z_tuple := He.free_ok X G (c.b 1 28)
  z_sorted := He.free_ok X G (c.b 1 29)
  z_range := He.free_ok X G (c.b 2 0)
  z_int := He.free_ok X G (c.b 2 1)
  z_isinstance := He.free_ok X G (c.b 2 2)
  z_bool := He.free_ok X G (c.b 2 3)
  z_str := He.free_ok X G (c.b 2 4)
  z_min := He.free_ok X G (c.b 2 5)
  z_max := He.free_ok X G (c.b 2 6)
  z_super := He.free_ok X G (c.b 2 7)
  i_MOST_PARTS := He.int_ok X G (c.b 2 8)
  i_LONGEST_PART := He.int_ok X G (c.b 2 9)
  i_MOST_RULES := He.int_ok X G (c.b 2 10)
  i_MOST_ROLES := He.int_ok X G (c.b 2 11)
  i_LONGEST_NAME := He.int_ok X G (c.b 2 12)
  i_MOST_NOUNS := He.int_ok X G (c.b 2 13)
  i_MOST_STOCKS := He.int_ok X G (c.b 2 14)
  i_MOST_FRAMES := He.int_ok X G (c.b 2 15)
  LETTERS := He.str_ok X G (c.b 2 16)
  VERBS := ⟨He.glo_ok X G (c.b 2 17), fun H => He.tupB_ok (c.b 2 18) H⟩
  g_Stock := He.glo_ok X G (c.b 2 19)
  cls_Stock := He.cls_ok (c.b 2 20)
  no_Stock_name := He.noat_ok (c.b 2 21)
  no_Stock_table := He.noat_ok (c.b 2 22)
  ty_Stock := tyB_ok (c.b 2 23)
  kit_Stock := of_decide_eq_true (c.b 2 24)
  I_Stock := ⟨_, He.mkr_ok (c.b 2 25), c.fn 56 rfl rfl⟩
  g_Frame := He.glo_ok X G (c.b 2 26)
  cls_Frame := He.cls_ok (c.b 2 27)
  no_Frame_name := He.noat_ok (c.b 2 28)
  no_Frame_nouns := He.noat_ok (c.b 2 29)
  no_Frame_clause := He.noat_ok (c.b 3 0)
  no_Frame_agreed := He.noat_ok (c.b 3 1)
  ty_Frame := tyB_ok (c.b 3 2)
  kit_Frame := of_decide_eq_true (c.b 3 3)
  I_Frame := ⟨_, He.mkr_ok (c.b 3 4), c.fn 57 rfl rfl⟩
  g_Tongue := He.glo_ok X G (c.b 3 5)
  cls_Tongue := He.cls_ok (c.b 3 6)
  no_Tongue_roles := He.noat_ok (c.b 3 7)
  no_Tongue_stocks := He.noat_ok (c.b 3 8)
  no_Tongue_frames := He.noat_ok (c.b 3 9)
  no_Tongue_rules := He.noat_ok (c.b 3 10)
  no_Tongue_verbs := He.noat_ok (c.b 3 11)
  no_Tongue_closure := He.noat_ok (c.b 3 12)
  ty_Tongue := tyB_ok (c.b 3 13)
  kit_Tongue := of_decide_eq_true (c.b 3 14)
  I_Tongue := ⟨_, He.mkr_ok (c.b 3 15), c.fn 58 rfl rfl⟩
  borne := ⟨_, _, propB_ok (c.b 3 16), c.fn 59 rfl rfl⟩
  slots := ⟨_, _, propB_ok (c.b 3 17), c.fn 60 rfl rfl⟩
  g_TongueError := He.glo_ok X G (c.b 3 18)
  g_NoFrame := He.glo_ok X G (c.b 3 19)
  g_NoOrder := He.glo_ok X G (c.b 3 20)
  oex_NoFrame := oexB_ok (c.b 3 21)
  exc_NoFrame := excB_ok (c.b 3 22)
  exm_NoFrame := of_decide_eq_true (c.b 3 23)
  oex_NoOrder := oexB_ok (c.b 3 24)
  exc_NoOrder := excB_ok (c.b 3 25)
  exm_NoOrder := of_decide_eq_true (c.b 3 26)
  xf_NoFrame := xfB_ok (c.b 3 27)
  fld_NoFrame := He.noat_ok (c.b 3 28)
  I_NoOrder := ⟨_, (iniB_ok (c.b 3 29)).1, (iniB_ok (c.b 3 29)).2, c.fn 61 rfl rfl⟩
  base_NoOrder := bseB_ok (c.b 4 0)
  I_NoFrame := nf_init (c.parts 62 rfl) (iniB_ok (c.b 4 1)) (c.b 4 2) (oexB_ok (c.b 3 21)) (He.noat_ok (c.b 3 28))
  kit_NoOrder_NoOrder := of_decide_eq_true (c.b 4 3)
  kit_NoOrder_NoFrame := of_decide_eq_true (c.b 4 4)
  kit_NoFrame_NoOrder := of_decide_eq_true (c.b 4 5)
  kit_NoFrame_NoFrame := of_decide_eq_true (c.b 4 6)
theorem mods2_of {K : PySem.W.Frag} {h base : Heap} {mg : Str → Option Value} (X0 : K.In h) (G0 : h.Ns mainGlobals mg) (c : Zs K) (X : K.In base) (G : base.Ns mainGlobals mg) : Mods2 pw K mg base := ⟨mods_of X0 G0 c X G, of_decide_eq_true (c.b 4 7)⟩
end LO

set_option Elab.async false
set_option linter.all false
set_option maxRecDepth 100000
set_option maxHeartbeats 0
namespace LO
open PySem PySem.W PySem.Calls PyProof.Rows
abbrev R : OpenRow := OpenLaw.row PySem.Challenge.rw_looseorder_k26_whole_orders_listed_and_n
abbrev qv : Program := view R.prog [89]
def names1 : List PySem.Str := ["_wall", "TongueError", "BadEnding", "BadRules", "BadStock", "BadFrame", "BadTongue", "NoFrame", "NoOrder", "LETTERS", "MOST_PARTS", "LONGEST_PART", "is_whole", "has_letters", "is_name", "is_ending", "ending_from", "MOST_RULES", "closure_of", "has_ring", "is_rule", "check_rules", "without_role", "is_first", "rows_from", "count_from", "keeps_rules", "is_row_of", "MOST_ROLES", "LONGEST_NAME"]
def names2 : List PySem.Str := ["check_table", "Stock", "MOST_NOUNS", "check_nouns", "Frame", "MOST_STOCKS", "MOST_FRAMES", "VERBS", "check_frame", "names_of_roles", "good_stocks", "good_frames", "good_rules", "Tongue", "couples_within", "slots_of", "orders_of", "how_many_orders", "check_order", "order_place", "order_at"]
def names3 : List PySem.Str := ["_law_hand", "_law_mixed", "_law_take", "_law_shuffled", "_law_some", "_law_closure", "_law_beside", "_law_many", "_law_rules", "_law_pool", "_law_table", "_law_webbed", "_law_clear_table", "_law_frames", "_law_world", "_law_make", "_law_slots", "_law_orders", "_law_is_whole", "_law_same_row", "_law_same_rows", "_law_one", "_law_rolled", "_law_asked", "_law_refused", "_law_place_right", "_law_row_right", "_law_wrong_rows", "_law_frame_right"]
def names : List PySem.Str := names1 ++ names2 ++ names3
def obT (s : PySem.W.SharedT) : AlZ := obsZG (HandSHeadRun.getT s)
theorem obT_eq (s : PySem.W.SharedT) : obT s = hkZ.obs s.abs := by
  have e : HandSHeadRun.getT s = s.abs.heap.get? := funext (HandSHeadRun.getT_eq s)
  show obsZG (HandSHeadRun.getT s) = obsZG s.abs.heap.get?
  rw [e]
theorem run (w : World) : HandSHeadRun.RunEq R qv hkZ obT 8000 names w := by
  intro os
  kernel_rfl
end LO

set_option Elab.async false
set_option linter.all false
set_option maxRecDepth 100000
set_option maxHeartbeats 0
namespace LO
open PySem PySem.Spec PyProof.Rows L2
/-- the law, of whatever heap stands behind the top -/
theorem facts_law {w : World} {K : PySem.W.Frag} {h : Heap} {mg : Str → Option Value} {f : Addr} (X : K.In h) (G : h.Ns mainGlobals mg) (hfa : mg ("law" : Str) = some (.ref f)) (c : Zs K) :
    ∃ fd : FuncData, (∀ (s : Shared) (v : Value), BindsTo s fd ⟨[v], []⟩ [("_law_script", v)]) ∧ ∀ base : Heap, K.In base → base.Ns mainGlobals mg → FnOk pw w K mg base CX0 14 f fd ["_law_script"] (sp_law K) := by
  have M0 := mods_of X G c X G
  have e : f = ga K "law" := by
    have e1 := hfa.symm.trans M0.g_law
    injection e1 with e2
    injection e2
  subst e
  obtain ⟨fd, F⟩ := M0.F_law
  have b := FunD.bindsA (ps := ["_law_script"]) F fun _ _ _ _ _ _ us hl => match us, hl with | [_], _ => rfl
  exact ⟨fd, fun s v => b s [v] rfl, fun base X2 G2 => ok_law (mods2_of X G c X2 G2) F⟩
end LO
open PySem PySem.W PySem.Calls PyProof.Rows
theorem PySem.Challenge.cw_looseorder_k26_whole_orders_listed_and_n_holds : PySem.Challenge.rw_looseorder_k26_whole_orders_listed_and_n.Holds := by
  w_on; o_law
  refine HandSHeadRun.head_any (r := OpenLaw.row PySem.Challenge.rw_looseorder_k26_whole_orders_listed_and_n) (q := LO.qv) (H := LO.hkZ) (ob := LO.obT) (M := 8000) (loose := LO.names) (d := HandSHeadRun.topDef (OpenLaw.row PySem.Challenge.rw_looseorder_k26_whole_orders_listed_and_n).prog 89) (kwd := []) LO.obT_eq
    (by kernel_rfl) (fun s => by kernel_rfl) LO.run (by kernel_rfl) (by kernel_rfl) (by kernel_rfl) (by rfl) (by first | assumption | decide +kernel) (by decide +kernel) ⟨rfl, rfl, rfl, rfl, rfl, by decide +kernel⟩ ?hw ?hc
  case hw => w_witness2
  case hc =>
    refine L2.walk_ofE (l := PySem.Challenge.rw_looseorder_k26_whole_orders_listed_and_n) (n := 63) (k := 14) (x := "_law_script") (CX := L2.CX0) rfl (by decide) (by kernel_rfl) ⟨rfl, by decide, by decide⟩ ?F (fun _ _ _ _ z => z)
    intro w mg fa h Y G hmg0
    obtain ⟨K, KX, c⟩ := Y
    have hmg : mg ("law" : PySem.Str) = some (.ref fa) := by
      have e : (HandSHeadRun.topDef (OpenLaw.row PySem.Challenge.rw_looseorder_k26_whole_orders_listed_and_n).prog 89).name = ("law" : PySem.Str) := by kernel_rfl
      rw [← e]
      exact hmg0
    obtain ⟨fd, hb, hF⟩ := LO.facts_law (w := w) KX G hmg c
    exact ⟨K, fd, LO.sp_law K, KX, hb, fun H a ns hl _ hS => ⟨a, ns, rfl, hS, hl, fun _ => rfl⟩, hF⟩
