/- A part of a proof: for every string the law ScriptWords returns true, and its argument reads as it did (no condition) -/
import Derived.IntWalk
import Derived.Below
import Derived.Test.YtdhlolbpiohboaaGreatDoorW01
set_option linter.all false
section
/- The engine, part 13: what it is that a todo list runs to its end; the verification condition, and that it is sound. -/
set_option linter.unusedSimpArgs false
namespace Go.Rm

/-- From here on the frame comes to its end, and R holds there. -/
def Good (P : Program) (f : FuncId) (k : List Item) (a : Act) (w : World) (R : Ending → World → Prop) : Prop :=
  ∀ (b : Frame) (cs : List Frame), b.fn = f → b.kind = .normal →
    ∃ e w' fr, R e w' ∧ Comes P (lone (b.at a k) cs w) (lone fr cs w') e ∧ fr.fn = f ∧ fr.leaving P w' e

theorem Good.step {P : Program} {f : FuncId} {k k' : List Item} {a a' : Act} {w w' : World} {R : Ending → World → Prop} (h : Good P f k' a' w' R)
    (hs : ∀ (b : Frame) cs, b.kind = .normal → step P (lone (b.at a k) cs w) = .next (lone (b.at a' k') cs w')) : Good P f k a w R := by
  intro b cs hb hk
  obtain ⟨e, w'', fr, h1, h2, h3⟩ := h b cs hb hk
  exact ⟨e, w'', fr, h1, .of_steps (.one (hs b cs hk)) h2, h3⟩

theorem Good.mono {P : Program} {f : FuncId} {k : List Item} {a : Act} {w : World} {R R' : Ending → World → Prop} (h : Good P f k a w R) (hR : ∀ e w, R e w → R' e w) : Good P f k a w R' := by
  intro b cs hb hk
  obtain ⟨e, w'', fr, h1, h2⟩ := h b cs hb hk
  exact ⟨e, w'', fr, hR _ _ h1, h2⟩

/-- The end of a run. -/
def Fin (c : Cfg) (ρ : Nat → Hnd) (w : World) (F : FP) (e : Ending) (w' : World) : Prop :=
  ∃ ρ' x H Fs', e = .returned (x.val ρ') ∧ (∀ n, n < c.k0 → ρ' n = ρ n) ∧ Sat c.g ρ' H w' Fs' ∧ c.Gl w' ∧ Keeps w w' F (allF Fs') ∧ x.lt H.length = true ∧ c.Q x H ∧ c.k0 ≤ H.length

theorem Fin.trans {c : Cfg} {ρ ρ1 : Nat → Hnd} {w w1 w' : World} {F F1 : FP} {e : Ending} (h : Fin c ρ1 w1 F1 e w') (hρ : ∀ n, n < c.k0 → ρ1 n = ρ n) (hk : Keeps w w1 F F1) : Fin c ρ w F e w' := by
  obtain ⟨ρ', x, H, Fs', h1, h2, h3, h4, h5, h6, h7⟩ := h
  exact ⟨ρ', x, H, Fs', h1, fun n hn => (h2 n hn).trans (hρ n hn), h3, h4, hk.trans h5, h6, h7⟩

section ops
variable {P : Program} {b : Frame} {a : Act} {k : List Item} {cs : List Frame} {w w' : World} {ops : Array Oper} {i : Nat} {rest : List Nat} {o : Oper} {v : Value}

theorem step_op_value (ho : ops[i]? = some o) (hw : Region.wanted o (yielded ops a.tmps) = true) (hr : (execOp a.eval o).run P w = .ok (.value v) w') :
    step P (lone (b.at a (.inRegion ops (i :: rest) :: k)) cs w) = .next (lone (b.at (a.put o.dst v) (.inRegion ops rest :: k)) cs w') := by
  have hg := stepG_op (P := P) (b := b) (k := k) (cs := cs) (w := w) (rest := rest) ho hw
  have hfin : (b.at a (.inRegion ops (i :: rest) :: k)).finish v = b.at (a.put o.dst v) (.inRegion ops rest :: k) := by
    rw [Frame.finish_at, ho]; rfl
  refine step_lone_go ?_
  rw [hg, ← hfin]; simp [stepG.apply, hr]

theorem step_op_skip_next (ho : ops[i]? = some o) (hw : Region.wanted o (yielded ops a.tmps) = true) (hr : (execOp a.eval o).run P w = .ok .skip w') :
    step P (lone (b.at a (.inRegion ops (i :: rest) :: k)) cs w) = .next (lone (b.at (a.put o.dst undef) (.inRegion ops rest :: k)) cs w') := by
  have hg := stepG_op (P := P) (b := b) (k := k) (cs := cs) (w := w) (rest := rest) ho hw
  have hfin : (b.at a (.inRegion ops (i :: rest) :: k)).finish undef = b.at (a.put o.dst undef) (.inRegion ops rest :: k) := by
    rw [Frame.finish_at, ho]; rfl
  refine step_lone_go ?_
  rw [hg, ← hfin]; simp [stepG.apply, hr]

theorem step_op_unwanted (ho : ops[i]? = some o) (hw : Region.wanted o (yielded ops a.tmps) = false) :
    step P (lone (b.at a (.inRegion ops (i :: rest) :: k)) cs w) = .next (lone (b.at (a.put o.dst undef) (.inRegion ops rest :: k)) cs w) := by
  have hs := step_op_skip (P := P) (b := b) (a := a) (k := k) (cs := cs) (w := w) (ops := ops) (i := i) (rest := rest) (by simp [ho, hw])
  simpa [ho] using hs
end ops

inductive It where
  | code (c : Code)
  | ops (A : Array Oper) (l : List Oper)
  | inBlock (id : Nat)
  | inLoop (c : Code)
  | inScope (c : Code)

def exitIt (id : Nat) : List It → Option (List It)
  | .inBlock id' :: k => if id' = id then some k else exitIt id k
  | _ :: k => exitIt id k
  | [] => none

/-- The results, read at the end. -/
def S.result (c : Cfg) (s : S) : ResultVar → Option AV
  | .tmp t => lookE s.env t
  | .cell a T => match lookE s.env a with
    | some x => (stepLoad c T x s).map Eff.x
    | none => none

def S.results (c : Cfg) (s : S) : List ResultVar → Option (List AV)
  | [] => some []
  | r :: rs => match s.result c r with
    | some x => match s.results c rs with
      | some l => some (x :: l)
      | none => none
    | none => none

def mkRes : List AV → AV
  | [x] => x
  | l => .tup l

def fin (c : Cfg) (s : S) : Prop :=
  match s.results c c.res with
  | some l => c.Q (mkRes l) s.heap
  | none => False

/-- Does the next operation's guard read what this one writes? -/
def splitB (A : Array Oper) (o : Oper) : List Oper → Bool
  | ⟨_, _, _, _, _, some (j, _)⟩ :: _ => match A.toList[j]? with
    | some o' => match o'.dst, o.dst with
      | some t, some t' => t == t'
      | _, _ => false
    | none => false
  | _ => false

/-- The Bool of a guard. -/
def guardOf (A : Array Oper) (s : S) (j : Nat) : Option Bool :=
  match A.toList[j]? with
  | some o => match o.dst with
    | some t => match lookE s.env t with
      | some (.v (.bool b)) => some b
      | _ => none
    | none => none
  | none => none


/-- What a list of items is to the machine. -/
def DenI : It → Item → Prop
  | .code c, x => x = .code c
  | .ops A l, x => ∃ i, A.toList.drop i = l ∧ x = .inRegion A (List.range' i l.length)
  | .inBlock id, x => x = .inBlock id
  | .inLoop c, x => x = .inLoop c
  | .inScope c, x => x = .inScope c

def Den : List It → List Item → Prop
  | [], [] => True
  | x :: r, y :: q => DenI x y ∧ Den r q
  | _, _ => False

/-- From such a state on such a todo list runs to an end of which Q holds. -/
def Runs (c : Cfg) (k : List It) (s : S) : Prop :=
  ∀ ρ a w Fs, Rel c ρ s a w Fs → ∀ k', Den k k' → Good c.P c.f k' a w (Fin c ρ w (allF Fs))

def vcs (c : Cfg) : Nat → List It → S → Prop
  | 0, k, s => Runs c k s
  | _ + 1, [], s => fin c s
  | n + 1, .inBlock _ :: k, s => vcs c n k s
  | n + 1, .inScope _ :: k, s => vcs c n k s
  | _ + 1, .inLoop b :: k, s => Runs c (.inLoop b :: k) s
  | n + 1, .ops _ [] :: k, s => vcs c n k s
  | n + 1, .ops A (o :: r) :: k, s =>
    if dstOk c.N o.dst = true then
    match o.guard with
    | none =>
      match stepOp c o.op s with
      | some e => e.pre ∧ (match splitB A o r, e.x with
          | true, .v (.bool b) => (b = true → vcs c n (.ops A r :: k) ({ s with heap := e.heap }.put o.dst (.v (.bool true)))) ∧
              (b = false → vcs c n (.ops A r :: k) ({ s with heap := e.heap }.put o.dst (.v (.bool false))))
          | _, x => vcs c n (.ops A r :: k) ({ s with heap := e.heap }.put o.dst x))
      | none => Runs c (.ops A (o :: r) :: k) s
    | some (j, want) =>
      match guardOf A s j with
      | some b => if b = want then
            match stepOp c o.op s with
            | some e => e.pre ∧ (match splitB A o r, e.x with
                | true, .v (.bool b) => (b = true → vcs c n (.ops A r :: k) ({ s with heap := e.heap }.put o.dst (.v (.bool true)))) ∧
                    (b = false → vcs c n (.ops A r :: k) ({ s with heap := e.heap }.put o.dst (.v (.bool false))))
                | _, x => vcs c n (.ops A r :: k) ({ s with heap := e.heap }.put o.dst x))
            | none => Runs c (.ops A (o :: r) :: k) s
          else vcs c n (.ops A r :: k) (s.put o.dst (.v undef))
      | none => Runs c (.ops A (o :: r) :: k) s
    else Runs c (.ops A (o :: r) :: k) s
  | n + 1, .code c' :: k, s => match c' with
    | .skip => vcs c n k s
    | .label _ => vcs c n k s
    | .ret => fin c s
    | .seq a b => vcs c n (.code a :: .code b :: k) s
    | .cond t x y => match s.opd t with
      | some (.v (.bool b)) => (b = true → vcs c n (.code x :: k) s) ∧ (b = false → vcs c n (.code y :: k) s)
      | _ => False
    | .block id b => vcs c n (.code b :: .inBlock id :: k) s
    | .scope b => vcs c n (.code b :: .inScope b :: k) s
    | .exit id => match exitIt id k with
      | some k' => vcs c n k' s
      | none => False
    | .region _ A false => vcs c n (.ops A A.toList :: k) s
    | c' => Runs c (.code c' :: k) s

structure CfgFn (c : Cfg) : Prop extends CfgOk c where
  fn : ∃ fn, c.P.funcs[c.f]? = some fn ∧ fn.results.toList = c.res

section
variable {c : Cfg} {ρ : Nat → Hnd} {s : S} {a : Act} {w : World} {Fs : Nat → FP}

theorem Den.cons {x : It} {k : List It} {k' : List Item} (h : Den (x :: k) k') : ∃ y q, k' = y :: q ∧ DenI x y ∧ Den k q := by
  cases k' with
  | nil => exact h.elim
  | cons y q => exact ⟨y, q, rfl, h⟩

theorem exitIt_den {id : Nat} : ∀ {k k2 : List It} {k' : List Item}, exitIt id k = some k2 → Den k k' → ∃ q, exitTo id k' = some q ∧ Den k2 q := by
  intro k
  induction k with
  | nil => intro k2 k' h; simp [exitIt] at h
  | cons x r ih =>
    intro k2 k' h hd
    obtain ⟨y, q, rfl, h1, h2⟩ := hd.cons
    cases x with
    | inBlock id' =>
      simp only [DenI] at h1; subst h1
      simp only [exitIt] at h
      simp only [exitTo]
      by_cases hid : id' = id
      · simp [hid] at h ⊢; subst h; exact h2
      · simp [hid] at h ⊢; exact ih h h2
    | code c => simp only [DenI] at h1; subst h1; simpa [exitTo] using ih (by simpa [exitIt] using h) h2
    | ops A l => obtain ⟨i, _, rfl⟩ := h1; simpa [exitTo] using ih (by simpa [exitIt] using h) h2
    | inLoop c => simp only [DenI] at h1; subst h1; simpa [exitTo] using ih (by simpa [exitIt] using h) h2
    | inScope c => simp only [DenI] at h1; subst h1; simpa [exitTo] using ih (by simpa [exitIt] using h) h2

def readRes (tmps : Array Value) : ResultVar → Sem Value
  | .tmp t => pure (tmps.getD t undef)
  | .cell a t => do loadVar t (← asAddr (tmps.getD a undef))

theorem results_eq (fn : Func) (tmps : Array Value) :
    results fn tmps = (do let vs ← fn.results.mapM (readRes tmps); pure (if h : vs.size = 1 then vs[0] else .tuple vs)) := by
  unfold results
  congr 1

theorem mkRes_lt {m : Nat} : ∀ {l : List AV}, AV.ltL m l = true → (mkRes l).lt m = true
  | [], _ => by simp [mkRes, AV.lt, AV.ltL]
  | [x], h => by simpa [mkRes, AV.ltL] using h
  | x :: y :: r, h => by simpa [mkRes, AV.lt] using h

theorem mkRes_val : ∀ (l : List AV), (mkRes l).val ρ = (if h : (AV.vals ρ l).toArray.size = 1 then (AV.vals ρ l).toArray[0] else .tuple (AV.vals ρ l).toArray)
  | [] => by simp [mkRes, AV.vals, AV.val]
  | [x] => by simp [mkRes, AV.vals]
  | x :: y :: r => by simp [mkRes, AV.vals, AV.val]

theorem result_sound (hc : CfgFn c) (hr : Rel c ρ s a w Fs) {r : ResultVar} {x : AV} (h : s.result c r = some x) :
    (readRes a.tmps r).run c.P w = .ok (x.val ρ) w ∧ x.lt s.heap.length = true := by
  cases r with
  | tmp t =>
    simp only [S.result] at h
    have := hr.env t x h
    exact ⟨by simp [readRes, this], hr.lt t x h⟩
  | cell b t =>
    simp only [S.result] at h
    split at h
    · rename_i y hy
      simp only [Option.map_eq_some_iff] at h
      obtain ⟨e, he, rfl⟩ := h
      have hpre : e.pre := by
        unfold stepLoad at he
        split at he
        · split at he
          · split at he
            · simp only [Option.map_eq_some_iff] at he; obtain ⟨_, _, rfl⟩ := he; trivial
            · simp at he
          · split at he
            · split at he
              · split at he
                · simp only [Option.map_eq_some_iff] at he; obtain ⟨_, _, rfl⟩ := he; trivial
                · simp at he
              · simp at he
            · simp at he
          · split at he
            · simp at he
            · simp only [Option.map_eq_some_iff] at he; obtain ⟨_, _, rfl⟩ := he; trivial
          · simp at he
        · simp at he
      obtain ⟨k1, k2, k3⟩ := stepLoad_sound hc.toCfgOk hr he hpre (hr.lt b y hy)
      refine ⟨?_, k3⟩
      have hg : a.tmps.getD b undef = y.val ρ := by simp [hr.env b y hy]
      simp only [readRes, hg]
      unfold Instr.loadAt at k1
      cases hv : y.val ρ <;> rw [hv] at k1 <;> simp only [Instr.sureAddr, Sem.run_bind, run_stuck, Result.andThen_halt, reduceCtorEq] at k1
      rename_i ad
      cases ad with
      | none => simp [Instr.sureAddr] at k1
      | some ad => simpa [asAddr] using k1
    · simp at h

theorem results_sound (hc : CfgFn c) (hr : Rel c ρ s a w Fs) : ∀ {rs : List ResultVar} {l : List AV}, s.results c rs = some l →
    (rs.mapM (readRes a.tmps)).run c.P w = .ok (AV.vals ρ l) w ∧
      AV.ltL s.heap.length l = true := by
  intro rs
  induction rs with
  | nil => intro l h; simp [S.results] at h; subst h; simp [AV.vals, AV.ltL]
  | cons r rs ih =>
    intro l h
    simp only [S.results] at h
    split at h
    · rename_i x hx
      split at h
      · rename_i l' hl'
        cases h
        obtain ⟨h1, h2⟩ := result_sound hc hr hx
        obtain ⟨h3, h4⟩ := ih hl'
        refine ⟨?_, by simp [AV.ltL, h2, h4]⟩
        rw [List.mapM_cons]
        simp only [Sem.run_bind, h1, Result.andThen_ok, h3, Sem.run_pure, AV.vals]
      · simp at h
    · simp at h

theorem fin_sound (hc : CfgFn c) (hr : Rel c ρ s a w Fs) (h : fin c s) {k : List Item} (hk : ∀ (b : Frame) cs, ∃ todo, step c.P (lone (b.at a k) cs w) = .next (lone { b.at a todo with mode := .returning } cs w)) :
    Good c.P c.f k a w (Fin c ρ w (allF Fs)) := by
  unfold fin at h
  split at h
  rotate_left
  · exact h.elim
  rename_i l hl
  obtain ⟨fn, hfn, hres⟩ := hc.fn
  obtain ⟨h1, h2⟩ := results_sound hc hr hl
  intro b cs hb hkd
  obtain ⟨todo, hs⟩ := hk b cs
  refine ⟨.returned ((mkRes l).val ρ), w, _, ⟨ρ, mkRes l, s.heap, Fs, rfl, fun _ _ => rfl, hr.sat, hr.gl, .refl _ _, mkRes_lt h2, h, hr.k0⟩, .one hs, hb, rfl, hr.defs, hkd, fn, hb ▸ hfn, ?_⟩
  have e : fn.results = c.res.toArray := by rw [← hres]
  simp only [Frame.at, results_eq, e, List.mapM_toArray, Sem.run_bind, Sem.run_map, h1, Result.andThen_ok, Sem.run_pure]
  rw [mkRes_val]

theorem guardOf_sound (hr : Rel c ρ s a w Fs) {A : Array Oper} {j : Nat} {b : Bool} (h : guardOf A s j = some b) : yielded A a.tmps j = some b := by
  unfold guardOf at h
  split at h
  · rename_i o ho
    split at h
    · rename_i t ht
      split at h
      · rename_i b' hb
        cases h
        have := hr.env t _ hb
        have ho' : A[j]? = some o := by simpa using ho
        simp [yielded, ho', ht, this, AV.val]
      · simp at h
    · simp at h
  · simp at h

theorem Runs.op (hc : CfgFn c) {A : Array Oper} {o : Oper} {r : List Oper} {k : List It} {e : Eff} (hd : dstOk c.N o.dst = true) (hs : stepOp c o.op s = some e) (hp : e.pre)
    (hw : ∀ ρ a w Fs, Rel c ρ s a w Fs → Region.wanted o (yielded A a.tmps) = true)
    (h : Runs c (.ops A r :: k) ({ s with heap := e.heap }.put o.dst e.x)) : Runs c (.ops A (o :: r) :: k) s := by
  intro ρ a w Fs hr k' hk'
  obtain ⟨y, q, rfl, ⟨i, hi, rfl⟩, hq⟩ := hk'.cons
  obtain ⟨v, w', ρ', Fs', hrun, he⟩ := stepOp_sound hc.toCfgOk hr hs hp
  have hr' := hr.put hc.toCfgOk he hd
  have hoi : A[i]? = some o := by
    have : (A.toList.drop i)[0]? = some o := by rw [hi]; rfl
    simpa using this
  have hdr : A.toList.drop (i + 1) = r := by
    rw [show A.toList.drop (i + 1) = (A.toList.drop i).drop 1 by simp, hi]; rfl
  have hg := h ρ' _ w' Fs' hr' (.inRegion A (List.range' (i + 1) r.length) :: q) ⟨⟨i + 1, hdr, rfl⟩, hq⟩
  have hg' : Good c.P c.f (.inRegion A (List.range' (i + 1) r.length) :: q) (a.put o.dst v) w' (Fin c ρ w (allF Fs)) :=
    hg.mono fun _ _ hf => hf.trans (fun n hn => he.same n (Nat.lt_of_lt_of_le hn hr.k0)) he.keeps
  refine hg'.step fun b cs _ => ?_
  rw [List.length_cons, List.range'_succ]
  rcases hrun with hrun | ⟨hrun, rfl⟩
  · exact step_op_value hoi (hw ρ a w Fs hr) hrun
  · exact step_op_skip_next hoi (hw ρ a w Fs hr) hrun

theorem Runs.skip (hc : CfgFn c) {A : Array Oper} {o : Oper} {r : List Oper} {k : List It} (hd : dstOk c.N o.dst = true)
    (hw : ∀ ρ a w Fs, Rel c ρ s a w Fs → Region.wanted o (yielded A a.tmps) = false)
    (h : Runs c (.ops A r :: k) (s.put o.dst (.v undef))) : Runs c (.ops A (o :: r) :: k) s := by
  intro ρ a w Fs hr k' hk'
  obtain ⟨y, q, rfl, ⟨i, hi, rfl⟩, hq⟩ := hk'.cons
  have he : EffOK c ρ s w Fs ⟨True, .v undef, s.heap⟩ undef w ρ Fs := by
    have := EffOK.refl hr (e := ⟨True, .v undef, s.heap⟩) rfl (by simp [AV.lt])
    simpa [AV.val] using this
  have hr' := hr.put hc.toCfgOk he hd
  have hoi : A[i]? = some o := by
    have : (A.toList.drop i)[0]? = some o := by rw [hi]; rfl
    simpa using this
  have hdr : A.toList.drop (i + 1) = r := by
    rw [show A.toList.drop (i + 1) = (A.toList.drop i).drop 1 by simp, hi]; rfl
  have hg := h ρ _ w Fs hr' (.inRegion A (List.range' (i + 1) r.length) :: q) ⟨⟨i + 1, hdr, rfl⟩, hq⟩
  refine hg.step fun b cs _ => ?_
  rw [List.length_cons, List.range'_succ]
  exact step_op_unwanted hoi (hw ρ a w Fs hr)

theorem step_inScope {P : Program} {b : Frame} {a : Act} {k : List Item} {cs : List Frame} {w : World} {c : Code} :
    step P (lone (b.at a (.inScope c :: k)) cs w) = .next (lone (b.at a k) cs w) :=
  step_lone_go (by simp [stepG, stepG.exec, Frame.at])

theorem step_scope {P : Program} {b : Frame} {a : Act} {k : List Item} {cs : List Frame} {w : World} {c : Code} :
    step P (lone (b.at a (.code (.scope c) :: k)) cs w) = .next (lone (b.at a (.code c :: .inScope c :: k)) cs w) :=
  step_lone_go (by simp [stepG, stepG.exec, Frame.at])

/-- A turn of the todo list that leaves the state. -/
theorem Runs.turn {k k2 : List It} (h : Runs c k2 s)
    (ht : ∀ ρ a w Fs, Rel c ρ s a w Fs → ∀ k', Den k k' → ∃ q, Den k2 q ∧ ∀ (b : Frame) cs, step c.P (lone (b.at a k') cs w) = .next (lone (b.at a q) cs w)) : Runs c k s := by
  intro ρ a w Fs hr k' hk'
  obtain ⟨q, hq, hs⟩ := ht ρ a w Fs hr k' hk'
  exact (h ρ a w Fs hr q hq).step fun b cs _ => hs b cs

/-- A Bool of the frame is seen to be what it is. -/
theorem Runs.op_split (hc : CfgFn c) {A : Array Oper} {o : Oper} {r : List Oper} {k : List It} {e : Eff} {b : Bool} (hd : dstOk c.N o.dst = true) (hs : stepOp c o.op s = some e) (hp : e.pre)
    (hx : e.x = .v (.bool b)) (hw : ∀ ρ a w Fs, Rel c ρ s a w Fs → Region.wanted o (yielded A a.tmps) = true)
    (h : (b = true → Runs c (.ops A r :: k) ({ s with heap := e.heap }.put o.dst (.v (.bool true)))) ∧
        (b = false → Runs c (.ops A r :: k) ({ s with heap := e.heap }.put o.dst (.v (.bool false))))) : Runs c (.ops A (o :: r) :: k) s := by
  refine Runs.op hc hd hs hp hw ?_
  rw [hx]
  cases b
  · exact h.2 rfl
  · exact h.1 rfl

theorem vcs_sound (hc : CfgFn c) : ∀ (n : Nat) (k : List It) (s : S), vcs c n k s → Runs c k s := by
  intro n
  induction n with
  | zero => intro k s h; simpa [vcs] using h
  | succ n ih =>
    intro k s h
    cases k with
    | nil =>
      intro ρ a w Fs hr k' hk'
      cases k' with
      | cons => exact hk'.elim
      | nil =>
        simp only [vcs] at h
        exact fin_sound hc hr h fun b cs => ⟨[], step_end⟩
    | cons x k =>
      cases x with
      | inBlock id =>
        simp only [vcs] at h
        refine (ih k s h).turn fun ρ a w Fs _ k' hk' => ?_
        obtain ⟨y, q, rfl, h1, h2⟩ := hk'.cons
        simp only [DenI] at h1; subst h1
        exact ⟨q, h2, fun b cs => step_inBlock⟩
      | inScope c' =>
        simp only [vcs] at h
        refine (ih k s h).turn fun ρ a w Fs _ k' hk' => ?_
        obtain ⟨y, q, rfl, h1, h2⟩ := hk'.cons
        simp only [DenI] at h1; subst h1
        exact ⟨q, h2, fun b cs => step_inScope⟩
      | inLoop c' => simpa [vcs] using h
      | ops A l =>
        cases l with
        | nil =>
          simp only [vcs] at h
          refine (ih k s h).turn fun ρ a w Fs _ k' hk' => ?_
          obtain ⟨y, q, rfl, ⟨i, _, rfl⟩, h2⟩ := hk'.cons
          exact ⟨q, h2, fun b cs => step_region_end⟩
        | cons o r =>
          simp only [vcs] at h
          split at h
          rotate_left
          · exact h
          rename_i hd
          have body : ∀ (hw : ∀ ρ a w Fs, Rel c ρ s a w Fs → Region.wanted o (yielded A a.tmps) = true),
              (match stepOp c o.op s with
                | some e => e.pre ∧ (match splitB A o r, e.x with
                    | true, .v (.bool b) => (b = true → vcs c n (.ops A r :: k) ({ s with heap := e.heap }.put o.dst (.v (.bool true)))) ∧
                        (b = false → vcs c n (.ops A r :: k) ({ s with heap := e.heap }.put o.dst (.v (.bool false))))
                    | _, x => vcs c n (.ops A r :: k) ({ s with heap := e.heap }.put o.dst x))
                | none => Runs c (.ops A (o :: r) :: k) s) → Runs c (.ops A (o :: r) :: k) s := by
            intro hw h
            split at h
            · rename_i e he
              obtain ⟨hp, h⟩ := h
              split at h
              · rename_i b _ hx
                exact Runs.op_split hc hd he hp hx hw ⟨fun hb => ih _ _ (h.1 hb), fun hb => ih _ _ (h.2 hb)⟩
              · exact Runs.op hc hd he hp hw (ih _ _ h)
            · exact h
          split at h
          · rename_i hgd
            exact body (fun _ _ _ _ _ => by simp [Region.wanted, hgd]) h
          · rename_i j want hgd
            split at h
            · rename_i b hb
              split at h
              · rename_i hbw
                exact body (fun ρ a w Fs hr => by simp [Region.wanted, hgd, guardOf_sound hr hb, hbw]) h
              · rename_i hbw
                exact Runs.skip hc hd (fun ρ a w Fs hr => by simp [Region.wanted, hgd, guardOf_sound hr hb, hbw]) (ih _ _ h)
            · exact h
      | code c' =>
        have den : ∀ {k'}, Den (.code c' :: k) k' → ∃ q, k' = .code c' :: q ∧ Den k q := by
          intro k' hk'
          obtain ⟨y, q, rfl, h1, h2⟩ := hk'.cons
          simp only [DenI] at h1; subst h1
          exact ⟨q, rfl, h2⟩
        cases c' with
        | skip =>
          simp only [vcs] at h
          refine (ih k s h).turn fun ρ a w Fs _ k' hk' => ?_
          obtain ⟨q, rfl, h2⟩ := den hk'
          exact ⟨q, h2, fun b cs => step_skip⟩
        | label l =>
          simp only [vcs] at h
          refine (ih k s h).turn fun ρ a w Fs _ k' hk' => ?_
          obtain ⟨q, rfl, h2⟩ := den hk'
          exact ⟨q, h2, fun b cs => step_label⟩
        | ret =>
          simp only [vcs] at h
          intro ρ a w Fs hr k' hk'
          obtain ⟨q, rfl, h2⟩ := den hk'
          exact fin_sound hc hr h fun b cs => ⟨_, step_ret⟩
        | seq x y =>
          simp only [vcs] at h
          refine (ih _ s h).turn fun ρ a w Fs _ k' hk' => ?_
          obtain ⟨q, rfl, h2⟩ := den hk'
          exact ⟨.code x :: .code y :: q, ⟨rfl, rfl, h2⟩, fun b cs => step_seq⟩
        | cond t x y =>
          simp only [vcs] at h
          split at h
          rotate_left
          · exact h.elim
          rename_i b hb
          cases b with
          | true =>
            refine (ih _ s (h.1 rfl)).turn fun ρ a w Fs hr k' hk' => ?_
            obtain ⟨q, rfl, h2⟩ := den hk'
            have := (opd_sound hr hb).1
            simp only [AV.val] at this
            exact ⟨.code x :: q, ⟨rfl, h2⟩, fun b cs => by simpa using step_cond (t := true) this⟩
          | false =>
            refine (ih _ s (h.2 rfl)).turn fun ρ a w Fs hr k' hk' => ?_
            obtain ⟨q, rfl, h2⟩ := den hk'
            have := (opd_sound hr hb).1
            simp only [AV.val] at this
            exact ⟨.code y :: q, ⟨rfl, h2⟩, fun b cs => by simpa using step_cond (t := false) this⟩
        | block id x =>
          simp only [vcs] at h
          refine (ih _ s h).turn fun ρ a w Fs _ k' hk' => ?_
          obtain ⟨q, rfl, h2⟩ := den hk'
          exact ⟨.code x :: .inBlock id :: q, ⟨rfl, rfl, h2⟩, fun b cs => step_block⟩
        | scope x =>
          simp only [vcs] at h
          refine (ih _ s h).turn fun ρ a w Fs _ k' hk' => ?_
          obtain ⟨q, rfl, h2⟩ := den hk'
          exact ⟨.code x :: .inScope x :: q, ⟨rfl, rfl, h2⟩, fun b cs => step_scope⟩
        | exit id =>
          simp only [vcs] at h
          split at h
          rotate_left
          · exact h.elim
          rename_i k2 hk2
          refine (ih _ s h).turn fun ρ a w Fs _ k' hk' => ?_
          obtain ⟨q, rfl, h2⟩ := den hk'
          obtain ⟨q2, h3, h4⟩ := exitIt_den hk2 h2
          exact ⟨q2, h4, fun b cs => step_exit h3⟩
        | region id A draw =>
          cases draw with
          | true => simpa [vcs] using h
          | false =>
            simp only [vcs] at h
            refine (ih _ s h).turn fun ρ a w Fs _ k' hk' => ?_
            obtain ⟨q, rfl, h2⟩ := den hk'
            refine ⟨.inRegion A (List.range A.size) :: q, ⟨⟨0, by simp, by simp [List.range_eq_range']⟩, h2⟩, fun b cs => step_region⟩
        | loop x => simpa [vcs] using h
        | rangeFunc f ps x y => simpa [vcs] using h
        | goto l => simpa [vcs] using h
        | refuse w => simpa [vcs] using h
end
end Go.Rm
end

section
/- The engine, part 14: renaming, loops, contracts, calls. -/
set_option linter.unusedSimpArgs false
namespace Go.Rm

/-! Renaming. -/
mutual
def AV.ren (f : Nat → Nat) : AV → AV
  | .v x => .v x
  | .ptr n o => .ptr (f n) o
  | .elt n sz i o => .elt (f n) sz i o
  | .hnd n => .hnd (f n)
  | .agg l => .agg (AV.renL f l)
  | .bytes k x => .bytes k x
  | .blk k x => .blk k x
  | .tup l => .tup (AV.renL f l)
  | .fn g a b => .fn g (AV.renL f a) (AV.renL f b)
  | .sl n sz lo len => .sl (f n) sz lo len
  | .cv n off len cap => .cv (f n) off len cap
  | .ifc t x => .ifc t (AV.ren f x)
def AV.renL (f : Nat → Nat) : List AV → List AV
  | [] => []
  | x :: r => AV.ren f x :: AV.renL f r
end

mutual
theorem AV.val_ren (ρ : Nat → Hnd) (f : Nat → Nat) : (x : AV) → (x.ren f).val ρ = x.val (fun n => ρ (f n))
  | .v _ => by simp [AV.ren, AV.val]
  | .ptr _ _ => by simp [AV.ren, AV.val]
  | .elt _ _ _ _ => by simp [AV.ren, AV.val]
  | .hnd _ => by simp [AV.ren, AV.val]
  | .agg l => by simp [AV.ren, AV.val, AV.vals_ren ρ f l]
  | .tup l => by simp [AV.ren, AV.val, AV.vals_ren ρ f l]
  | .fn _ a b => by simp [AV.ren, AV.val, AV.vals_ren ρ f a, AV.vals_ren ρ f b]
  | .bytes _ _ => by simp [AV.ren, AV.val]
  | .blk _ _ => by simp [AV.ren, AV.val]
  | .sl _ _ _ _ => by simp [AV.ren, AV.val]
  | .cv _ _ _ _ => by simp [AV.ren, AV.val]
  | .ifc _ x => by simp [AV.ren, AV.val, AV.val_ren ρ f x]
theorem AV.vals_ren (ρ : Nat → Hnd) (f : Nat → Nat) : (l : List AV) → AV.vals ρ (AV.renL f l) = AV.vals (fun n => ρ (f n)) l
  | [] => by simp [AV.renL, AV.vals]
  | x :: r => by simp [AV.renL, AV.vals, AV.val_ren ρ f x, AV.vals_ren ρ f r]
end

theorem AV.renL_map (f : Nat → Nat) (l : List AV) : AV.renL f l = l.map (AV.ren f) := by
  induction l with
  | nil => simp [AV.renL]
  | cons x r ih => simp [AV.renL, ih]

theorem cellsL_ren (ρ : Nat → Hnd) (f : Nat → Nat) (l : List AV) : cellsL ρ (AV.renL f l) = cellsL (fun n => ρ (f n)) l := by
  induction l with
  | nil => simp [AV.renL]
  | cons x r ih => simp [AV.renL, AV.cells, AV.val_ren, ih]

theorem part_ren (f : Nat → Nat) (x : AV) : (x.ren f).part = x.part := by cases x <;> simp [AV.ren, AV.part]
theorem partsOk_ren (f : Nat → Nat) (l : List AV) : partsOk (AV.renL f l) = partsOk l := by
  induction l with
  | nil => simp [AV.renL]
  | cons x r ih =>
    have h : ∀ (y : AV) (q : List AV), partsOk (y :: q) = (y.part && partsOk q) := fun _ _ => rfl
    rw [AV.renL, h, h, ih, part_ren]

mutual
theorem AV.lt_ren {f : Nat → Nat} {m m' : Nat} (h : ∀ n, n < m → f n < m') : (x : AV) → x.lt m = true → (x.ren f).lt m' = true
  | .v _, _ => by simp [AV.ren, AV.lt]
  | .ptr n _, hx => by simp [AV.lt] at hx; simp [AV.ren, AV.lt, h n hx]
  | .elt n _ _ _, hx => by simp [AV.lt] at hx; simp [AV.ren, AV.lt, h n hx]
  | .hnd n, hx => by simp [AV.lt] at hx; simp [AV.ren, AV.lt, h n hx]
  | .agg l, hx => by simp [AV.lt] at hx; simp [AV.ren, AV.lt, AV.ltL_ren h l hx]
  | .tup l, hx => by simp [AV.lt] at hx; simp [AV.ren, AV.lt, AV.ltL_ren h l hx]
  | .fn _ a b, hx => by simp [AV.lt] at hx; simp [AV.ren, AV.lt, AV.ltL_ren h a hx.1, AV.ltL_ren h b hx.2]
  | .bytes _ _, _ => by simp [AV.ren, AV.lt]
  | .blk _ _, _ => by simp [AV.ren, AV.lt]
  | .sl n _ _ _, hx => by simp [AV.lt] at hx; simp [AV.ren, AV.lt, h n hx]
  | .cv n _ _ _, hx => by simp [AV.lt] at hx; simp [AV.ren, AV.lt, h n hx]
  | .ifc _ x, hx => by simp [AV.lt] at hx; simp [AV.ren, AV.lt, AV.lt_ren h x hx]
theorem AV.ltL_ren {f : Nat → Nat} {m m' : Nat} (h : ∀ n, n < m → f n < m') : (l : List AV) → AV.ltL m l = true → AV.ltL m' (AV.renL f l) = true
  | [], _ => by simp [AV.renL, AV.ltL]
  | x :: r, hx => by simp [AV.ltL] at hx; simp [AV.renL, AV.ltL, AV.lt_ren h x hx.1, AV.ltL_ren h r hx.2]
end

mutual
/-- Whoever is renamed to something below a bound was below the length of the renaming, or stands for itself: a test that reckons. -/
theorem AV.lt_of_ren {f : Nat → Nat} {m m' : Nat} (h : ∀ n, f n < m' → n < m) : (x : AV) → (x.ren f).lt m' = true → x.lt m = true
  | .v _, _ => by simp [AV.lt]
  | .ptr n _, hx => by simp [AV.ren, AV.lt] at hx; simp [AV.lt, h n hx]
  | .elt n _ _ _, hx => by simp [AV.ren, AV.lt] at hx; simp [AV.lt, h n hx]
  | .hnd n, hx => by simp [AV.ren, AV.lt] at hx; simp [AV.lt, h n hx]
  | .agg l, hx => by simp [AV.ren, AV.lt] at hx; simp [AV.lt, AV.ltL_of_ren h l hx]
  | .tup l, hx => by simp [AV.ren, AV.lt] at hx; simp [AV.lt, AV.ltL_of_ren h l hx]
  | .fn _ a b, hx => by simp [AV.ren, AV.lt] at hx; simp [AV.lt, AV.ltL_of_ren h a hx.1, AV.ltL_of_ren h b hx.2]
  | .bytes _ _, _ => by simp [AV.lt]
  | .blk _ _, _ => by simp [AV.lt]
  | .sl n _ _ _, hx => by simp [AV.ren, AV.lt] at hx; simp [AV.lt, h n hx]
  | .cv n _ _ _, hx => by simp [AV.ren, AV.lt] at hx; simp [AV.lt, h n hx]
  | .ifc _ x, hx => by simp [AV.ren, AV.lt] at hx; simp [AV.lt, AV.lt_of_ren h x hx]
theorem AV.ltL_of_ren {f : Nat → Nat} {m m' : Nat} (h : ∀ n, f n < m' → n < m) : (l : List AV) → AV.ltL m' (AV.renL f l) = true → AV.ltL m l = true
  | [], _ => by simp [AV.ltL]
  | x :: r, hx => by simp [AV.renL, AV.ltL] at hx; simp [AV.ltL, AV.lt_of_ren h x hx.1, AV.ltL_of_ren h r hx.2]
end

def AV.renLL (f : Nat → Nat) : List (List AV) → List (List AV)
  | [] => []
  | x :: r => AV.renL f x :: AV.renLL f r

def AV.renE (f : Nat → Nat) : List (AV × AV) → List (AV × AV)
  | [] => []
  | x :: r => (AV.ren f x.1, AV.ren f x.2) :: AV.renE f r

theorem AV.renLL_map (f : Nat → Nat) (l : List (List AV)) : AV.renLL f l = l.map (AV.renL f) := by
  induction l with
  | nil => rfl
  | cons x r ih => simp [AV.renLL, ih]

theorem AV.renE_map (f : Nat → Nat) (l : List (AV × AV)) : AV.renE f l = l.map fun x => (AV.ren f x.1, AV.ren f x.2) := by
  induction l with
  | nil => rfl
  | cons x r ih => simp [AV.renE, ih]

theorem width_ren (f : Nat → Nat) (x : AV) : (x.ren f).width = x.width := by cases x <;> simp [AV.ren, AV.width]
theorem widthL_ren (f : Nat → Nat) (l : List AV) : widthL (AV.renL f l) = widthL l := by
  induction l with
  | nil => simp [AV.renL]
  | cons x r ih => simp [AV.renL, widthL, ih, width_ren]

theorem rows_ren (ρ : Nat → Hnd) (f : Nat → Nat) (l : List (List AV)) : (AV.renLL f l).flatMap (cellsL ρ) = l.flatMap (cellsL fun n => ρ (f n)) := by
  induction l with
  | nil => rfl
  | cons x r ih => simp [AV.renLL, cellsL_ren, ih]

theorem ents_ren (ρ : Nat → Hnd) (f : Nat → Nat) (l : List (AV × AV)) : entsL ρ (AV.renE f l) = entsL (fun n => ρ (f n)) l := by
  induction l with
  | nil => rfl
  | cons x r ih => simp only [entsL, AV.renE, List.map_cons, AV.val_ren] at ih ⊢; rw [ih]

theorem rowOk_ren {f : Nat → Nat} {sz : Nat} {x : List AV} : rowOk sz (AV.renL f x) ↔ rowOk sz x := by
  simp [rowOk, partsOk_ren, widthL_ren]

theorem rowsOk_ren {f : Nat → Nat} {sz : Nat} {l : List (List AV)} : (∀ x ∈ AV.renLL f l, rowOk sz x) ↔ ∀ x ∈ l, rowOk sz x := by
  rw [AV.renLL_map]
  simp only [List.mem_map, forall_exists_index, and_imp, forall_apply_eq_imp_iff₂, rowOk_ren]

theorem renLL_len (f : Nat → Nat) (l : List (List AV)) : (AV.renLL f l).length = l.length := by simp [AV.renLL_map]
theorem renLL_nil {f : Nat → Nat} {l : List (List AV)} : AV.renLL f l = [] ↔ l = [] := by simp [AV.renLL_map]

theorem AV.ltLL_ren {f : Nat → Nat} {m m' : Nat} (h : ∀ n, n < m → f n < m') {l : List (List AV)} (hl : AV.ltLL m l = true) : AV.ltLL m' (AV.renLL f l) = true := by
  induction l with
  | nil => rfl
  | cons x r ih =>
    simp only [AV.ltLL, Bool.and_eq_true] at hl
    simp [AV.renLL, AV.ltLL, AV.ltL_ren h x hl.1, ih hl.2]

theorem AV.ltE_ren {f : Nat → Nat} {m m' : Nat} (h : ∀ n, n < m → f n < m') {l : List (AV × AV)} (hl : AV.ltE m l = true) : AV.ltE m' (AV.renE f l) = true := by
  induction l with
  | nil => rfl
  | cons x r ih =>
    simp only [AV.ltE, Bool.and_eq_true] at hl
    simp [AV.renE, AV.ltE, AV.lt_ren h x.1 hl.1.1, AV.lt_ren h x.2 hl.1.2, ih hl.2]

theorem AV.ltLL_of_ren {f : Nat → Nat} {m m' : Nat} (h : ∀ n, f n < m' → n < m) {l : List (List AV)} (hl : AV.ltLL m' (AV.renLL f l) = true) : AV.ltLL m l = true := by
  induction l with
  | nil => rfl
  | cons x r ih =>
    simp only [AV.renLL, AV.ltLL, Bool.and_eq_true] at hl
    simp [AV.ltLL, AV.ltL_of_ren h x hl.1, ih hl.2]

theorem AV.ltE_of_ren {f : Nat → Nat} {m m' : Nat} (h : ∀ n, f n < m' → n < m) {l : List (AV × AV)} (hl : AV.ltE m' (AV.renE f l) = true) : AV.ltE m l = true := by
  induction l with
  | nil => rfl
  | cons x r ih =>
    simp only [AV.renE, AV.ltE, Bool.and_eq_true] at hl
    simp [AV.ltE, AV.lt_of_ren h x.1 hl.1.1, AV.lt_of_ren h x.2 hl.1.2, ih hl.2]

def Chunk.ren (f : Nat → Nat) : Chunk → Chunk
  | .cells l => .cells (AV.renL f l)
  | .row sz xs => .row sz (AV.renLL f xs)
  | .map es => .map (AV.renE f es)
  | x => x

theorem Chunk.lt_ren {f : Nat → Nat} {m m' : Nat} (h : ∀ n, n < m → f n < m') {x : Chunk} (hx : x.lt m = true) : (x.ren f).lt m' = true := by
  cases x with
  | cells l => exact AV.ltL_ren h l hx
  | row sz xs => exact AV.ltLL_ren h hx
  | map es => exact AV.ltE_ren h hx
  | siter => rfl
  | res => rfl
  | resv => rfl
  | gone => rfl

theorem Chunk.lt_of_ren {f : Nat → Nat} {m m' : Nat} (h : ∀ n, f n < m' → n < m) {x : Chunk} (hx : (x.ren f).lt m' = true) : x.lt m = true := by
  cases x with
  | cells l => exact AV.ltL_of_ren h l hx
  | row sz xs => exact AV.ltLL_of_ren h hx
  | map es => exact AV.ltE_of_ren h hx
  | siter => rfl
  | res => rfl
  | resv => rfl
  | gone => rfl

theorem Chunk.holds_ren {ρ : Nat → Hnd} {f : Nat → Nat} {x : Chunk} {h : Hnd} {w : World} {F : FP} : (x.ren f).holds ρ h w F ↔ x.holds (fun n => ρ (f n)) h w F := by
  cases x <;> simp only [Chunk.ren, Chunk.holds, cellsL_ren, partsOk_ren, rowsOk_ren, renLL_nil, renLL_len, rows_ren, ents_ren]

/-- The names σ of H carry the heap H2. -/
def subL (f : Nat → Nat) (H : List Chunk) : List Chunk → List Nat → Prop
  | [], [] => True
  | c :: r, m :: q => H[m]? = some (c.ren f) ∧ subL f H r q
  | _, _ => False

def nm (σ : List Nat) (m : Nat) (n : Nat) : Nat := σ.getD n (m + n)

def Sub (σ : List Nat) (H2 H : List Chunk) : Prop := σ.Nodup ∧ subL (nm σ H.length) H H2 σ

theorem subL_spec {f : Nat → Nat} {H : List Chunk} : ∀ {H2 : List Chunk} {σ : List Nat}, subL f H H2 σ → H2.length = σ.length ∧ ∀ (n : Nat) (x : Chunk), H2[n]? = some x → ∃ m : Nat, σ[n]? = some m ∧ H[m]? = some (x.ren f)
  | [], [], _ => by simp
  | c :: r, m :: q, h => by
    obtain ⟨h1, h2⟩ := h
    obtain ⟨k1, k2⟩ := subL_spec h2
    refine ⟨by simp [k1], fun n x hx => ?_⟩
    cases n with
    | zero => simp at hx; subst hx; exact ⟨m, rfl, h1⟩
    | succ n => simp at hx; simpa using k2 n x hx
  | [], _ :: _, h => h.elim
  | _ :: _, [], h => h.elim

theorem nm_lt {σ : List Nat} {m n : Nat} (h : n < σ.length) : nm σ m n = σ[n] := by simp [nm, List.getD, List.getElem?_eq_getElem h]
theorem nm_ge {σ : List Nat} {m n : Nat} (h : σ.length ≤ n) : nm σ m n = m + n := by simp [nm, List.getD, List.getElem?_eq_none h]

theorem Sub.lt {σ : List Nat} {H2 H : List Chunk} (h : Sub σ H2 H) {n : Nat} (hn : n < H2.length) : nm σ H.length n < H.length := by
  obtain ⟨h1, h2⟩ := subL_spec h.2
  obtain ⟨m, hm, hx⟩ := h2 n _ (List.getElem?_eq_getElem hn)
  have hl : n < σ.length := by omega
  rw [nm_lt hl]
  rw [List.getElem?_eq_getElem hl] at hm; cases hm
  exact (List.getElem?_eq_some_iff.1 hx).1

theorem nodup_inj {σ : List Nat} (h : σ.Nodup) {i j : Nat} {hi : i < σ.length} {hj : j < σ.length} (he : σ[i] = σ[j]) : i = j := by
  rw [List.Nodup, List.pairwise_iff_getElem] at h
  rcases Nat.lt_trichotomy i j with hij | hij | hij
  · exact absurd he (h i j hi hj hij)
  · exact hij
  · exact absurd he.symm (h j i hj hi hij)

theorem Sub.inj {σ : List Nat} {H2 H : List Chunk} (h : Sub σ H2 H) {n n' : Nat} (hn : n < H2.length) (hn' : n' < H2.length) (he : nm σ H.length n = nm σ H.length n') : n = n' := by
  obtain ⟨h1, _⟩ := subL_spec h.2
  rw [nm_lt (by omega), nm_lt (by omega)] at he
  exact nodup_inj h.1 he

/-- A part of a heap, under its own names. -/
theorem Sat.sub {g : Nat} {ρ : Nat → Hnd} {H H2 : List Chunk} {w : World} {Fs : Nat → FP} {σ : List Nat} (hs : Sat g ρ H w Fs) (h : Sub σ H2 H) :
    Sat g (fun n => ρ (nm σ H.length n)) H2 w (fun n k => n < H2.length ∧ Fs (nm σ H.length n) k) := by
  obtain ⟨h1, h2⟩ := subL_spec h.2
  have hh : ∀ (n : Nat) (x : Chunk), H2[n]? = some x → H[nm σ H.length n]? = some (x.ren (nm σ H.length)) := by
    intro n x hx
    obtain ⟨m, hm, hy⟩ := h2 n x hx
    have hl : n < σ.length := (List.getElem?_eq_some_iff.1 hm).1
    rw [nm_lt hl]
    rw [List.getElem?_eq_getElem hl] at hm; cases hm
    exact hy
  refine ⟨fun n => hs.one _, ?_, ?_, fun n hn k hk => by have := hk.1; omega, fun n k hk => hs.fits _ k hk.2, ?_⟩
  · intro n x hx
    have := hs.holds _ _ (hh n x hx)
    have hn : n < H2.length := (List.getElem?_eq_some_iff.1 hx).1
    have e : (fun k => n < H2.length ∧ Fs (nm σ H.length n) k) = Fs (nm σ H.length n) := by funext k; simp [hn]
    simp only [e]
    exact Chunk.holds_ren.1 this
  · intro n n' k hn hn'
    exact h.inj hn.1 hn'.1 (hs.apart _ _ k hn.2 hn'.2)
  · intro n x hx
    have := hs.lt _ _ (hh n x hx)
    refine Chunk.lt_of_ren (m' := H.length) (fun n hn => ?_) this
    rcases Nat.lt_or_ge n H2.length with h3 | h3
    · exact h3
    · rw [nm_ge (by omega)] at hn; omega

def envSub (f : Nat → Nat) (env : List (Nat × AV)) : List (Nat × AV) → Prop
  | [] => True
  | (t, x) :: r => lookE env t = some (x.ren f) ∧ envSub f env r

theorem envSub_spec {f : Nat → Nat} {env : List (Nat × AV)} : ∀ {e2 : List (Nat × AV)}, envSub f env e2 → ∀ t x, lookE e2 t = some x → lookE env t = some (x.ren f)
  | [], _, t, x, h => by simp [lookE] at h
  | (t', y) :: r, h, t, x, hx => by
    simp only [lookE] at hx
    split at hx
    · rename_i ht; subst ht; cases hx; exact h.1
    · exact envSub_spec h.2 t x hx

/-- The state s2 says no more than s, under the names σ. -/
def Weak (k0 : Nat) (σ : List Nat) (s s2 : S) : Prop :=
  Sub σ s2.heap s.heap ∧ envSub (nm σ s.heap.length) s.env s2.env ∧ k0 ≤ s2.heap.length ∧ σ.take k0 = List.range k0

section
variable {c : Cfg} {ρ : Nat → Hnd} {s s2 : S} {a : Act} {w : World} {Fs : Nat → FP}

theorem nm_id {σ : List Nat} {m k0 n : Nat} (h : σ.take k0 = List.range k0) (hn : n < k0) : nm σ m n = n := by
  have : (σ.take k0)[n]? = some n := by rw [h]; simp [hn]
  rw [List.getElem?_take] at this
  simp only [hn, if_true] at this
  simp [nm, List.getD, this]

theorem Runs.weak {k : List It} {σ : List Nat} (h : Runs c k s2) (hw : Weak c.k0 σ s s2) : Runs c k s := by
  intro ρ a w Fs hr k' hk'
  obtain ⟨h1, h2, h3, h4⟩ := hw
  have hl := (subL_spec h1.2).1
  have hr2 : Rel c (fun n => ρ (nm σ s.heap.length n)) s2 a w (fun n k => n < s2.heap.length ∧ Fs (nm σ s.heap.length n) k) := by
    refine ⟨hr.size, hr.defs, ?_, ?_, hr.sat.sub h1, hr.gl, h3, hr.gs⟩
    · intro t x hx
      rw [hr.env t _ (envSub_spec h2 t x hx), AV.val_ren]
    · intro t x hx
      refine AV.lt_of_ren (m' := s.heap.length) (fun n hn => ?_) x (hr.lt t _ (envSub_spec h2 t x hx))
      rcases Nat.lt_or_ge n s2.heap.length with h5 | h5
      · exact h5
      · rw [nm_ge (by omega)] at hn; omega
  refine (h _ a w _ hr2 k' hk').mono fun e w' hf => hf.trans (fun n hn => by rw [nm_id h4 hn]) ?_
  refine ⟨rfl, rfl, rfl, Nat.le_refl _, fun _ _ _ => rfl, ?_⟩
  rintro k ⟨n, hn⟩
  exact .inl ⟨_, hn.2⟩

/-- A loop. -/
theorem Runs.loop {X : Type} (I : X → S) (p : X → Prop) (μ : X → Nat) {body : Code} {k : List It} (x0 : X) (σ : List Nat) (hp : p x0) (h0 : Weak c.k0 σ s (I x0))
    (round : ∀ x, p x → (∀ x', p x' → μ x' < μ x → Runs c (.inLoop body :: k) (I x')) → Runs c (.code body :: .inLoop body :: k) (I x)) : Runs c (.code (.loop body) :: k) s := by
  have key : ∀ n x, p x → μ x = n → Runs c (.code body :: .inLoop body :: k) (I x) := by
    intro n
    induction n using Nat.strongRecOn with
    | _ n ih =>
      intro x hx hn
      refine round x hx fun x' hx' hlt => ?_
      refine (ih (μ x') (hn ▸ hlt) x' hx' rfl).turn fun ρ a w Fs _ k' hk' => ?_
      obtain ⟨y, q, rfl, h1, h2⟩ := hk'.cons
      simp only [DenI] at h1; subst h1
      exact ⟨.code body :: .inLoop body :: q, ⟨rfl, rfl, h2⟩, fun b cs => step_inLoop⟩
  refine Runs.weak ?_ h0
  refine (key _ x0 hp rfl).turn fun ρ a w Fs _ k' hk' => ?_
  obtain ⟨y, q, rfl, h1, h2⟩ := hk'.cons
  simp only [DenI] at h1; subst h1
  exact ⟨.code body :: .inLoop body :: q, ⟨rfl, rfl, h2⟩, fun b cs => step_loop⟩

/-- A nil slice is an empty row of one's own. -/
theorem Runs.nilRow {k : List It} (t sz : Nat) (ht : lookE s.env t = some (.v (.slice none 0 0)))
    (h : Runs c k ⟨(t, .hnd s.heap.length) :: s.env, s.heap ++ [.row sz []]⟩) : Runs c k s := by
  intro ρ a w Fs hr k' hk'
  have hadd := hr.sat.add (w' := w) (h := ⟨.slice none 0 0, [], [], 0⟩) (x := .row sz []) (F := fun _ => False) rfl
    ⟨by simp, .inl ⟨rfl, rfl, fun _ h => h⟩⟩ rfl (fun _ _ _ => rfl) (Nat.le_refl _) (fun _ h => h.elim) (fun _ _ _ h => h)
  have hρ : ∀ n, n < s.heap.length → ρ n = updN ρ s.heap.length ⟨.slice none 0 0, [], [], 0⟩ n := fun n hn => (updN_ne _ _ (by omega)).symm
  have hr2 : Rel c (updN ρ s.heap.length ⟨.slice none 0 0, [], [], 0⟩) ⟨(t, .hnd s.heap.length) :: s.env, s.heap ++ [.row sz []]⟩ a w (updN Fs s.heap.length fun _ => False) := by
    refine ⟨hr.size, hr.defs, ?_, ?_, hadd, hr.gl, by simpa using Nat.le_succ_of_le hr.k0, hr.gs⟩
    · intro t' x hx
      simp only [lookE] at hx
      split at hx
      · rename_i h; subst h; cases hx
        rw [hr.env t _ ht]; simp [AV.val]
      · rw [hr.env t' x hx, AV.val_congr hρ x (hr.lt t' x hx)]
    · intro t' x hx
      simp only [lookE] at hx
      split at hx
      · cases hx; simp [AV.lt]
      · exact AV.lt_mono (by simp) x (hr.lt t' x hx)
  refine (h _ a w _ hr2 k' hk').mono fun e w' hf => hf.trans (fun n hn => updN_ne _ _ (by have := hr.k0; omega)) ?_
  refine ⟨rfl, rfl, rfl, Nat.le_refl _, fun _ _ _ => rfl, ?_⟩
  rintro k ⟨n, hn⟩
  by_cases h1 : n = s.heap.length
  · subst h1; simp at hn
  · rw [updN_ne _ _ h1] at hn; exact .inl ⟨n, hn⟩
end
end Go.Rm
end

section
/- The engine, part 15: contracts, and calls by them. -/
set_option linter.unusedSimpArgs false
namespace Go.Rm

structure Env where
  P : Program
  g : Nat
  Gl : World → Prop
  glob : Nat → Nat → Option Value
  D : TypeId → Option TD
  ext : FuncId → List AV → Option AV

def Env.cfg (E : Env) (f : FuncId) (N k0 : Nat) (res : List ResultVar) (Q : AV → List Chunk → Prop) : Cfg :=
  ⟨E.P, E.g, E.Gl, E.glob, E.D, f, N, k0, res, Q, E.ext⟩

/-- What holds where a call has ended. -/
def FinE (E : Env) (k0 : Nat) (Q : AV → List Chunk → Prop) (ρ : Nat → Hnd) (w : World) (F : FP) (e : Ending) (w' : World) : Prop :=
  ∃ ρ' x H' Fs', e = .returned (x.val ρ') ∧ (∀ n, n < k0 → ρ' n = ρ n) ∧ Sat E.g ρ' H' w' Fs' ∧ E.Gl w' ∧ Keeps w w' F (allF Fs') ∧ x.lt H'.length = true ∧ Q x H' ∧ k0 ≤ H'.length

/-- THE CONTRACT of a function: handed `args`, over the heap `H` (whose first k0 chunks keep their handles), it returns a value x, over a heap H', of which Q holds. -/
def Sp (E : Env) (f : FuncId) (k0 : Nat) (H : List Chunk) (args : List AV) (Q : AV → List Chunk → Prop) : Prop :=
  (∀ as w, (callFunc f as).run E.P w = .ok (.enter f as) w) ∧
  ∀ ρ w Fs, Sat E.g ρ H w Fs → E.Gl w → E.g ≤ w.heap.size → Calls E.P f (AV.vals ρ args).toArray w (FinE E k0 Q ρ w (allF Fs))

theorem Sp.mono {E : Env} {f : FuncId} {k0 : Nat} {H : List Chunk} {args : List AV} {Q Q' : AV → List Chunk → Prop} (h : Sp E f k0 H args Q) (hQ : ∀ x H', Q x H' → Q' x H') : Sp E f k0 H args Q' :=
  ⟨h.1, fun ρ w Fs hs hg hz => (h.2 ρ w Fs hs hg hz).mono fun _ _ ⟨ρ', x, H', Fs', h1, h2, h3, h4, h5, h6, h7, h8⟩ => ⟨ρ', x, H', Fs', h1, h2, h3, h4, h5, h6, hQ _ _ h7, h8⟩⟩

/-- The end's heap, without what is of no use any more, under other names. -/
def Clean (k0 : Nat) (Q : AV → List Chunk → Prop) (x : AV) (H : List Chunk) : Prop :=
  ∃ σ x2 H2, Sub σ H2 H ∧ x = AV.ren (nm σ H.length) x2 ∧ k0 ≤ H2.length ∧ σ.take k0 = List.range k0 ∧ Q x2 H2

def envOf : Nat → List AV → List (Nat × AV)
  | _, [] => []
  | i, x :: r => (i, x) :: envOf (i + 1) r

theorem envOf_spec : ∀ (l : List AV) (i t : Nat) (x : AV), lookE (envOf i l) t = some x → i ≤ t ∧ l[t - i]? = some x
  | [], i, t, x, h => by simp [envOf, lookE] at h
  | y :: r, i, t, x, h => by
    simp only [envOf, lookE] at h
    split at h
    · rename_i ht; subst ht; cases h; simp
    · obtain ⟨h1, h2⟩ := envOf_spec r (i + 1) t x h
      refine ⟨by omega, ?_⟩
      rw [show t - i = (t - (i + 1)) + 1 by omega]
      simpa using h2

/-- A function's contract out of its body's run. -/
theorem run_fn {E : Env} {f : FuncId} {fn : Func} {code : Code} {N k0 : Nat} {res : List ResultVar} {Q : AV → List Chunk → Prop} (hc : CfgOk (E.cfg f N k0 res (Clean k0 Q)))
    (hf : E.P.funcs[f]? = some fn) (hb : fn.body = some code) (hn : fn.ntmps = N) (hres : fn.results.toList = res) (hcall : ∀ as w, (callFunc f as).run E.P w = .ok (.enter f as) w)
    {H : List Chunk} {args : List AV} (hlen : args.length ≤ N) (hl : AV.ltL H.length args = true) (hk : k0 ≤ H.length)
    (h : Runs (E.cfg f N k0 res (Clean k0 Q)) [.code code] ⟨envOf 0 args, H⟩) : Sp E f k0 H args Q := by
  refine ⟨hcall, fun ρ w Fs hs hg hz => ?_⟩
  intro cs
  have hr : Rel (E.cfg f N k0 res (Clean k0 Q)) ρ ⟨envOf 0 args, H⟩ { tmps := (AV.vals ρ args).toArray ++ Array.replicate (fn.ntmps - (AV.vals ρ args).toArray.size) undef, defers := [] } w Fs := by
    have hvl : (AV.vals ρ args).length = args.length := by rw [AV.vals_eq]; simp
    refine ⟨?_, rfl, ?_, ?_, hs, hg, hk, hz⟩
    · simp [hvl, Env.cfg, hn]; omega
    · intro t x hx
      obtain ⟨_, h2⟩ := envOf_spec args 0 t x hx
      rw [Nat.sub_zero] at h2
      have ht : t < args.length := (List.getElem?_eq_some_iff.1 h2).1
      rw [Array.getElem?_append_left (by simpa [hvl] using ht)]
      simp [AV.vals_eq, h2]
    · intro t x hx
      obtain ⟨_, h2⟩ := envOf_spec args 0 t x hx
      exact AV.ltL_all.1 hl x (List.mem_of_getElem? h2)
  let b : Frame := { (default : Frame) with fn := f, kind := .normal }
  have henter : Frame.enter E.P f (AV.vals ρ args).toArray .normal =
      b.at { tmps := (AV.vals ρ args).toArray ++ Array.replicate (fn.ntmps - (AV.vals ρ args).toArray.size) undef, defers := [] } [.code code] := by
    simp [Frame.enter, Frame.at, hf, hb, b]
  obtain ⟨e, w', fr, hfin, hcomes, hfn, hleave⟩ := h ρ _ w Fs hr [.code code] ⟨rfl, trivial⟩ b cs rfl rfl
  refine ⟨e, w', fr, ?_, by rw [henter]; exact hcomes, hfn, hleave⟩
  obtain ⟨ρ', x, H', Fs', h1, h2, h3, h4, h5, h6, ⟨σ, x2, H2, k1, k2, k3, k4, k5⟩, h8⟩ := hfin
  have hl2 := (subL_spec k1.2).1
  refine ⟨fun n => ρ' (nm σ H'.length n), x2, H2, _, by rw [h1, k2, AV.val_ren], fun n hn => by have := nm_id (m := H'.length) k4 hn; simp only [this]; exact h2 n hn, h3.sub k1, h4, ?_, ?_, k5, k3⟩
  · refine ⟨h5.os, h5.tape, h5.output, h5.size, h5.block, ?_⟩
    rintro k ⟨n, hn⟩
    exact h5.foot k ⟨_, hn.2⟩
  · rw [k2] at h6
    refine AV.lt_of_ren (m' := H'.length) (fun n hn => ?_) x2 h6
    rcases Nat.lt_or_ge n H2.length with h7 | h7
    · exact h7
    · rw [nm_ge (by omega)] at hn; omega

/-! Calls. -/
def callOf (o : Op) (s : S) : Option (FuncId × List AV) :=
  match o with
  | .call ⟨.value fo, as, _⟩ => match s.opd fo with
    | some (.fn (.func g) first caps) => (s.opds as.toList).map fun l => (g, first ++ (l ++ caps))
    | _ => none
  | _ => none

def posN : List Nat → Nat → Option Nat
  | [], _ => none
  | x :: r, i => if x = i then some 0 else (posN r i).map (· + 1)

def tau (σ : List Nat) (k1 m n : Nat) : Nat := if n < k1 then nm σ m n else m + (n - k1)

def mergeAt (σ : List Nat) (k1 : Nat) (H' : List Chunk) (f : Nat → Nat) : Nat → List Chunk → List Chunk
  | _, [] => []
  | i, c :: r => (match posN σ i with
      | some n => if n < k1 then (match H'[n]? with | some x => x.ren f | none => .gone) else .gone
      | none => c) :: mergeAt σ k1 H' f (i + 1) r

def renH (f : Nat → Nat) (l : List Chunk) : List Chunk := l.map (Chunk.ren f)

def mergeH (H : List Chunk) (σ : List Nat) (k1 : Nat) (H' : List Chunk) : List Chunk :=
  mergeAt σ k1 H' (tau σ k1 H.length) 0 H ++ renH (tau σ k1 H.length) (H'.drop k1)

def S.after (s : S) (σ : List Nat) (k1 : Nat) (dst : Option Tmp) (x : AV) (H' : List Chunk) : S :=
  { s with heap := mergeH s.heap σ k1 H' }.put dst (x.ren (tau σ k1 s.heap.length))

theorem posN_some {σ : List Nat} {i n : Nat} (h : posN σ i = some n) : σ[n]? = some i := by
  induction σ generalizing n with
  | nil => simp [posN] at h
  | cons x r ih =>
    simp only [posN] at h
    split at h
    · cases h; simp [*]
    · simp only [Option.map_eq_some_iff] at h
      obtain ⟨m, hm, rfl⟩ := h
      simpa using ih hm

theorem posN_none {σ : List Nat} {i : Nat} (h : posN σ i = none) (n : Nat) : σ[n]? ≠ some i := by
  induction σ generalizing n with
  | nil => simp
  | cons x r ih =>
    simp only [posN] at h
    split at h
    · simp at h
    · rename_i hx
      simp only [Option.map_eq_none_iff] at h
      cases n with
      | zero => simpa using hx
      | succ n => simpa using ih h n

theorem mergeAt_len (σ : List Nat) (k1 : Nat) (H' : List Chunk) (f : Nat → Nat) : ∀ (H : List Chunk) (i : Nat), (mergeAt σ k1 H' f i H).length = H.length
  | [], _ => rfl
  | c :: r, i => by simp [mergeAt, mergeAt_len σ k1 H' f r (i + 1)]

theorem mergeAt_get (σ : List Nat) (k1 : Nat) (H' : List Chunk) (f : Nat → Nat) : ∀ (H : List Chunk) (i j : Nat) (x : Chunk), (mergeAt σ k1 H' f i H)[j]? = some x →
    ∃ c, H[j]? = some c ∧ x = (match posN σ (i + j) with
      | some n => if n < k1 then (match H'[n]? with | some y => y.ren f | none => .gone) else .gone
      | none => c)
  | [], i, j, x, h => by simp [mergeAt] at h
  | c :: r, i, j, x, h => by
    cases j with
    | zero => simp only [mergeAt, List.getElem?_cons_zero, Option.some.injEq] at h; exact ⟨c, rfl, h.symm⟩
    | succ j =>
      simp only [mergeAt, List.getElem?_cons_succ] at h
      obtain ⟨c', h1, h2⟩ := mergeAt_get σ k1 H' f r (i + 1) j x h
      exact ⟨c', by simpa using h1, by rw [h2, show i + 1 + j = i + (j + 1) by omega]⟩

section
variable {c : Cfg} {ρ : Nat → Hnd} {s : S} {a : Act} {w : World} {Fs : Nat → FP}

theorem callOf_sound (hr : Rel c ρ s a w Fs) {o : Oper} {g : FuncId} {avs : List AV} (h : callOf o.op s = some (g, avs)) (hcall : ∀ as w, (callFunc g as).run c.P w = .ok (.enter g as) w) :
    (execOp a.eval o).run c.P w = .ok (.enter g (AV.vals ρ avs).toArray) w := by
  obtain ⟨dst, op, type, pos, after, guard⟩ := o
  simp only [] at h
  unfold callOf at h
  split at h
  rotate_left
  · simp at h
  rename_i fo as tys
  split at h
  rotate_left
  · simp at h
  rename_i g' first caps hfo
  simp only [Option.map_eq_some_iff, Prod.mk.injEq] at h
  obtain ⟨l, hl, rfl, rfl⟩ := h
  have h1 := (opd_sound hr hfo).1
  have h2 := (opds_sound hr hl).1
  have e1 : as.map a.eval = (AV.vals ρ l).toArray := by apply Array.toList_inj.1; simp [h2]
  have e2 : (AV.vals ρ first).toArray ++ (AV.vals ρ l).toArray ++ (AV.vals ρ caps).toArray = (AV.vals ρ (first ++ (l ++ caps))).toArray := by
    apply Array.toList_inj.1; simp [AV.vals_eq]
  simp only [AV.val] at h1
  simp only [execOp, resolve, h1, e1, Deferred.ofValue, Sem.run_bind, Sem.run_pure, Result.andThen_ok, invoke, e2, hcall]

/-- A call is entered, and its contract met. -/
theorem Good.enter {P : Program} {f g : FuncId} {ops : Array Oper} {i : Nat} {rest : List Nat} {o : Oper} {k : List Item} {args : Array Value} {w' : World} {R : Ending → World → Prop}
    {R' : Value → World → Prop} (ho : ops[i]? = some o) (hw : Region.wanted o (yielded ops a.tmps) = true) (hr : (execOp a.eval o).run P w = .ok (.enter g args) w')
    (hc : Calls P g args w' fun e w'' => ∃ v, e = .returned v ∧ R' v w'') (h : ∀ v w'', R' v w'' → Good P f (.inRegion ops rest :: k) (a.put o.dst v) w'' R) :
    Good P f (.inRegion ops (i :: rest) :: k) a w R := by
  intro b cs hb hk
  have hg := stepG_op (P := P) (b := b) (k := k) (cs := cs) (w := w) (rest := rest) ho hw
  obtain ⟨e, w'', fr, ⟨v, rfl, hR⟩, hsteps, _, hleave⟩ := hc (b.at a (.inRegion ops (i :: rest) :: k) :: cs)
  have henter : Go.step P (lone (b.at a (.inRegion ops (i :: rest) :: k)) cs w) =
      .next (lone (Frame.enter P g args .normal) (b.at a (.inRegion ops (i :: rest) :: k) :: cs) w') :=
    step_lone_go (by rw [hg]; simp [stepG.apply, hr, Frame.at])
  have hfin : (b.at a (.inRegion ops (i :: rest) :: k)).finish v = b.at (a.put o.dst v) (.inRegion ops rest :: k) := by
    rw [Frame.finish_at, ho]; rfl
  obtain ⟨e, w3, fr', h1, h2, h3⟩ := h v w'' hR b cs hb hk
  refine ⟨e, w3, fr', h1, .of_steps (.head henter (hsteps.trans (.one ?_))) h2, h3⟩
  rw [← hfin]; exact step_leave_returned hleave

def mF (σ : List Nat) (k1 : Nat) (Fs' Fs : Nat → FP) (i : Nat) : FP :=
  match posN σ i with
  | some n => if n < k1 then Fs' n else fun _ => False
  | none => Fs i

theorem mF_cases {σ : List Nat} {k1 : Nat} {Fs' Fs : Nat → FP} {i k : Nat} (h : mF σ k1 Fs' Fs i k) : (∃ n, posN σ i = some n ∧ n < k1 ∧ Fs' n k) ∨ (posN σ i = none ∧ Fs i k) := by
  unfold mF at h
  cases hp : posN σ i with
  | none => rw [hp] at h; exact .inr ⟨rfl, h⟩
  | some n =>
    rw [hp] at h
    by_cases hn : n < k1
    · simp only [if_pos hn] at h; exact .inl ⟨n, rfl, hn, h⟩
    · simp only [if_neg hn] at h

/-- The heap behind a call. -/
theorem Sat.merge {g : Nat} {H : List Chunk} {σ : List Nat} {k1 : Nat} {Hc H' : List Chunk} {ρ' : Nat → Hnd} {Fs' : Nat → FP} {w' : World} (hs : Sat g ρ H w Fs) (hsub : Sub σ Hc H)
    (hs' : Sat g ρ' H' w' Fs') (hρ : ∀ n, n < k1 → ρ' n = ρ (nm σ H.length n)) (hk : Keeps w w' (allF fun n k => n < Hc.length ∧ Fs (nm σ H.length n) k) (allF Fs')) (hk1 : k1 ≤ H'.length) (hk1' : k1 ≤ Hc.length) :
    ∃ ρ2 Fs2, Sat g ρ2 (mergeH H σ k1 H') w' Fs2 ∧ (∀ n, n < H.length → ρ2 n = ρ n) ∧ (∀ n, n < H'.length → ρ2 (tau σ k1 H.length n) = ρ' n) ∧ Keeps w w' (allF Fs) (allF Fs2) ∧
      H.length ≤ (mergeH H σ k1 H').length ∧ (∀ n, n < H'.length → tau σ k1 H.length n < (mergeH H σ k1 H').length) := by
  have hsl := (subL_spec hsub.2).1
  have hm : (mergeH H σ k1 H').length = H.length + (H'.length - k1) := by simp [mergeH, mergeAt_len, renH]
  have htau : ∀ n, n < H'.length → tau σ k1 H.length n < (mergeH H σ k1 H').length := by
    intro n hn
    unfold tau
    rw [hm]
    split
    · rename_i h; have := hsub.lt (n := n) (by omega); omega
    · omega
  have hρ2 : ∀ n, n < H'.length → (if tau σ k1 H.length n < H.length then ρ (tau σ k1 H.length n) else ρ' (k1 + (tau σ k1 H.length n - H.length))) = ρ' n := by
    intro n hn
    by_cases h : n < k1
    · have : tau σ k1 H.length n = nm σ H.length n := if_pos h
      rw [this, if_pos (hsub.lt (by omega)), hρ n h]
    · have : tau σ k1 H.length n = H.length + (n - k1) := if_neg h
      rw [this, if_neg (by omega)]; congr 1; omega
  refine ⟨fun i => if i < H.length then ρ i else ρ' (k1 + (i - H.length)),
    fun i => if i < H.length then mF σ k1 Fs' Fs i else Fs' (k1 + (i - H.length)), ?_, ?_, ?_, ?_, by omega, htau⟩
  · refine ⟨fun n => ?_, ?_, ?_, ?_, ?_, ?_⟩
    · split
      · exact hs.one n
      · exact hs'.one _
    · intro i x hx
      unfold mergeH at hx
      rcases Nat.lt_or_ge i H.length with hi | hi
      · rw [List.getElem?_append_left (by rw [mergeAt_len]; exact hi)] at hx
        obtain ⟨ch, hch, rfl⟩ := mergeAt_get _ _ _ _ _ _ _ _ hx
        simp only [Nat.zero_add, if_pos hi]
        cases hn : posN σ i with
        | some n =>
          by_cases h : n < k1
          · simp only [mF, hn, if_pos h]
            have hnl : n < H'.length := by omega
            rw [List.getElem?_eq_getElem hnl]
            have h1 := hs'.holds n _ (List.getElem?_eq_getElem hnl)
            have hsn : nm σ H.length n = i := by
              have := posN_some hn
              simp [nm, List.getD, this]
            rw [hρ n h, hsn] at h1
            refine Chunk.holds_ren.2 (Chunk.holds_ρ (m := H'.length) (fun n hn => (hρ2 n hn).symm) (hs'.lt n _ (List.getElem?_eq_getElem hnl)) h1)
          · simp only [mF, hn, if_neg h]; exact fun _ h => h
        | none =>
          simp only [mF, hn]
          have h1 := hs.holds i ch hch
          refine Chunk.holds_ρ (m := H.length) (fun n hn => by rw [if_pos hn]) (hs.lt i ch hch) (Chunk.holds_congr (fun k hkk => ?_) h1)
          refine hk.block k (hs.fits i k hkk).2 ?_
          rintro ⟨n, hnl, hnk⟩
          have := hs.apart _ _ _ hkk hnk
          rw [nm_lt (by omega)] at this
          exact posN_none hn n (by rw [List.getElem?_eq_getElem (by omega), this])
      · rw [List.getElem?_append_right (by rw [mergeAt_len]; exact hi), mergeAt_len] at hx
        simp only [renH, List.getElem?_map, List.getElem?_drop, Option.map_eq_some_iff] at hx
        obtain ⟨y, hy, rfl⟩ := hx
        simp only [if_neg (show ¬ i < H.length by omega)]
        have h1 := hs'.holds _ y hy
        exact Chunk.holds_ren.2 (Chunk.holds_ρ (m := H'.length) (fun n hn => (hρ2 n hn).symm) (hs'.lt _ y hy) h1)
    · -- apart
      have old : ∀ i j k, i < H.length → posN σ i = none → Fs i k → Fs' j k → False := by
        intro i j k hi hp h1 h2
        rcases hk.foot k ⟨j, h2⟩ with ⟨n, hnl, hnk⟩ | h3
        · have := hs.apart _ _ _ h1 hnk
          rw [nm_lt (by omega)] at this
          exact posN_none hp n (by rw [List.getElem?_eq_getElem (by omega), this])
        · have := (hs.fits i k h1).2; omega
      intro i j k hi hj
      by_cases h1 : i < H.length <;> by_cases h2 : j < H.length
      · rw [if_pos h1] at hi; rw [if_pos h2] at hj
        rcases mF_cases hi with ⟨n, hn, _, hi⟩ | ⟨hn, hi⟩ <;> rcases mF_cases hj with ⟨n', hn', _, hj⟩ | ⟨hn', hj⟩
        · have := hs'.apart _ _ _ hi hj
          subst this
          have e1 := posN_some hn; have e2 := posN_some hn'
          rw [e1] at e2; cases e2; rfl
        · exact (old j n k h2 hn' hj hi).elim
        · exact (old i n' k h1 hn hi hj).elim
        · exact hs.apart _ _ _ hi hj
      · rw [if_pos h1] at hi; rw [if_neg h2] at hj
        rcases mF_cases hi with ⟨n, hn, h3, hi⟩ | ⟨hn, hi⟩
        · have := hs'.apart _ _ _ hi hj; omega
        · exact (old i _ k h1 hn hi hj).elim
      · rw [if_neg h1] at hi; rw [if_pos h2] at hj
        rcases mF_cases hj with ⟨n, hn, h3, hj⟩ | ⟨hn, hj⟩
        · have := hs'.apart _ _ _ hi hj; omega
        · exact (old j _ k h2 hn hj hi).elim
      · rw [if_neg h1] at hi; rw [if_neg h2] at hj
        have := hs'.apart _ _ _ hi hj; omega
    · intro i hi k hk'
      rw [hm] at hi
      simp only [if_neg (show ¬ i < H.length by omega)] at hk'
      exact hs'.out _ (by omega) k hk'
    · intro i k hk'
      by_cases h1 : i < H.length
      · simp only [if_pos h1] at hk'
        rcases mF_cases hk' with ⟨n, hn, h3, hk'⟩ | ⟨hn, hk'⟩
        · exact hs'.fits _ k hk'
        · have := hs.fits i k hk'; exact ⟨this.1, Nat.lt_of_lt_of_le this.2 hk.size⟩
      · simp only [if_neg h1] at hk'
        exact hs'.fits _ k hk'
    · intro i x hx
      unfold mergeH at hx
      rcases Nat.lt_or_ge i H.length with hi | hi
      · rw [List.getElem?_append_left (by rw [mergeAt_len]; exact hi)] at hx
        obtain ⟨ch, hch, rfl⟩ := mergeAt_get _ _ _ _ _ _ _ _ hx
        split
        · rename_i n hn
          split
          · rename_i h
            have hnl : n < H'.length := by omega
            rw [List.getElem?_eq_getElem hnl]
            have h1 := hs'.lt n _ (List.getElem?_eq_getElem hnl)
            exact Chunk.lt_ren htau h1
          · rfl
        · exact Chunk.lt_mono (by rw [hm]; omega) (hs.lt i ch hch)
      · rw [List.getElem?_append_right (by rw [mergeAt_len]; exact hi), mergeAt_len] at hx
        simp only [renH, List.getElem?_map, List.getElem?_drop, Option.map_eq_some_iff] at hx
        obtain ⟨y, hy, rfl⟩ := hx
        have h1 := hs'.lt _ y hy
        exact Chunk.lt_ren htau h1
  · intro n hn; simp only [if_pos hn]
  · exact hρ2
  · refine ⟨hk.os, hk.tape, hk.output, hk.size, fun k hkl hkF => hk.block k hkl fun ⟨n, _, hnk⟩ => hkF ⟨_, hnk⟩, ?_⟩
    rintro k ⟨i, hi⟩
    have new : ∀ j, Fs' j k → allF Fs k ∨ w.heap.size ≤ k := fun j hj => (hk.foot k ⟨j, hj⟩).imp (fun ⟨n, _, hnk⟩ => ⟨_, hnk⟩) id
    by_cases h1 : i < H.length
    · simp only [if_pos h1] at hi
      rcases mF_cases hi with ⟨n, hn, h3, hi⟩ | ⟨hn, hi⟩
      · exact new _ hi
      · exact .inl ⟨i, hi⟩
    · simp only [if_neg h1] at hi
      exact new _ hi

theorem Runs.call {E : Env} {f : FuncId} {N k0 : Nat} {res : List ResultVar} {Q : AV → List Chunk → Prop} (hc : CfgOk (E.cfg f N k0 res Q)) {g : FuncId} {k1 : Nat} {Hc : List Chunk} {args : List AV}
    {Qc : AV → List Chunk → Prop} (hsp : Sp E g k1 Hc args Qc) (σ : List Nat) {A : Array Oper} {o : Oper} {r : List Oper} {k : List It} (hd : dstOk N o.dst = true)
    (hw : o.guard = none ∨ ∃ j b, o.guard = some (j, b) ∧ guardOf A s j = some b) (hop : callOf o.op s = some (g, AV.renL (nm σ s.heap.length) args)) (hsub : Sub σ Hc s.heap) (hk1 : k1 ≤ Hc.length)
    (cont : ∀ x H', Qc x H' → k1 ≤ H'.length → Runs (E.cfg f N k0 res Q) (.ops A r :: k) (s.after σ k1 o.dst x H')) : Runs (E.cfg f N k0 res Q) (.ops A (o :: r) :: k) s := by
  intro ρ a w Fs hr k' hk'
  obtain ⟨y, q, rfl, ⟨i, hi, rfl⟩, hq⟩ := hk'.cons
  have hoi : A[i]? = some o := by
    have : (A.toList.drop i)[0]? = some o := by rw [hi]; rfl
    simpa using this
  have hdr : A.toList.drop (i + 1) = r := by
    rw [show A.toList.drop (i + 1) = (A.toList.drop i).drop 1 by simp, hi]; rfl
  have hwant : Region.wanted o (yielded A a.tmps) = true := by
    rcases hw with hw | ⟨j, b, hw, hb⟩
    · simp [Region.wanted, hw]
    · simp [Region.wanted, hw, guardOf_sound hr hb]
  have hrun := callOf_sound hr hop hsp.1
  rw [AV.vals_ren] at hrun
  have hcl := hsp.2 _ w _ (hr.sat.sub hsub) hr.gl hr.gs
  rw [List.length_cons, List.range'_succ]
  refine Good.enter (R' := fun v w'' => FinE E k1 Qc (fun n => ρ (nm σ s.heap.length n)) w (allF fun n k => n < Hc.length ∧ Fs (nm σ s.heap.length n) k) (.returned v) w'') hoi hwant hrun
    (hcl.mono fun e w'' he => ?_) ?_
  · obtain ⟨ρ', x, H', Fs', h1, h2⟩ := he
    exact ⟨_, h1, ρ', x, H', Fs', rfl, h2⟩
  · rintro v w'' ⟨ρ', x, H', Fs', h1, h2, h3, h4, h5, h6, h7, h8⟩
    cases h1
    obtain ⟨ρ2, Fs2, m1, m2, m3, m4, m5, m6⟩ := Sat.merge (k1 := k1) hr.sat hsub h3 h2 h5 h8 hk1
    have he : EffOK (E.cfg f N k0 res Q) ρ s w Fs ⟨True, x.ren (tau σ k1 s.heap.length), mergeH s.heap σ k1 H'⟩ (x.val ρ') w'' ρ2 Fs2 := by
      refine ⟨?_, AV.lt_ren m6 x h6, m1, m5, m2, m4⟩
      rw [AV.val_ren]
      exact AV.val_congr (fun n hn => (m3 n hn).symm) x h6
    have hr' := hr.put hc he hd
    have hg := cont x H' h7 h8 ρ2 _ w'' Fs2 hr' (.inRegion A (List.range' (i + 1) r.length) :: q) ⟨⟨i + 1, hdr, rfl⟩, hq⟩
    exact hg.mono fun _ _ hf => hf.trans (fun n hn => m2 n (Nat.lt_of_lt_of_le hn hr.k0)) m4
end
end Go.Rm
end

section
/- The engine, part 16: what a proof of a contract begins and ends with; what simp reckons with. -/
namespace Go.Rm

attribute [simp] loadV storeP getB setB vcs stepOp S.opd S.opds S.put S.parts lookE stepLoad getP takeP dropP putP AV.width AV.single mkV Kd.isAgg TD.isAgg splitB sureP stepFieldAddr stepStore flatP widthL partsOk AV.part oneB
  Value.oneCell' fin S.results S.result mkRes exitIt guardOf stepBin intBin strBin stepBuild putParts fieldAt stepIndexAddr stepIndex stepField stepUn stepConv optI stepSlice stepLen appDst appSrc isSrc stepAppend
  stepBuildSlice rowOf repL dstOk Env.cfg envOf AV.ltL AV.lt callOf AV.ren AV.renL Chunk.ren subL S.after mergeH mergeAt posN renH nm tau envSub

theorem fn_sp {E : Env} {f : FuncId} {fn : Func} {code : Code} {N k0 : Nat} {res : List ResultVar} {Q : AV → List Chunk → Prop} {H : List Chunk} {args : List AV} (n : Nat)
    (hc : CfgOk (E.cfg f N k0 res (Clean k0 Q))) (hf : E.P.funcs[f]? = some fn) (hb : fn.body = some code) (hn : fn.ntmps = N) (hres : fn.results.toList = res)
    (hcall : ∀ as w, (callFunc f as).run E.P w = .ok (.enter f as) w) (hlen : args.length ≤ N) (hl : AV.ltL H.length args = true) (hk : k0 ≤ H.length)
    (h : vcs (E.cfg f N k0 res (Clean k0 Q)) n [.code code] ⟨envOf 0 args, H⟩) : Sp E f k0 H args Q :=
  run_fn hc hf hb hn hres hcall hlen hl hk (vcs_sound { toCfgOk := hc, fn := ⟨fn, hf, hres⟩ } n _ _ h)

/-- A contract of a function that only computes. -/
theorem Clean.v {Q : AV → List Chunk → Prop} {x : Value} {H : List Chunk} (h : Q (.v x) []) : Clean 0 Q (.v x) H :=
  ⟨[], .v x, [], ⟨List.nodup_nil, trivial⟩, by simp, by simp, by simp, h⟩

end Go.Rm
end

section
/- The engine, part 17: an operation looks at its operands alone. -/
set_option linter.unusedSimpArgs false
namespace Go.Rm
section
variable {c : Cfg} {s s' : S}

theorem opds_congr {l : List Operand} (h : ∀ x ∈ l, s.opd x = s'.opd x) : s.opds l = s'.opds l := by
  induction l with
  | nil => rfl
  | cons x r ih =>
    have h1 := h x (by simp)
    have h2 := ih fun y hy => h y (by simp [hy])
    rw [S.opds, S.opds, h1, h2]

theorem parts_congr {l : List (Nat × Operand)} (h : ∀ p ∈ l, s.opd p.2 = s'.opd p.2) : s.parts l = s'.parts l := by
  induction l with
  | nil => rfl
  | cons x r ih =>
    obtain ⟨i, x⟩ := x
    have h1 := h (i, x) (by simp)
    have h2 := ih fun y hy => h y (by simp [hy])
    simp only at h1
    rw [S.parts, S.parts, h1, h2]

theorem stepOp_congr (o : Op) (h : ∀ x ∈ o.operands, s.opd x = s'.opd x) (hh : s.heap = s'.heap) : stepOp c o s = stepOp c o s' := by
  have hb : ∀ (op : BinOp) T x y, stepBin c op T x y s = stepBin c op T x y s' := by intros; unfold stepBin; simp only [hh]
  have hl : ∀ T a, stepLoad c T a s = stepLoad c T a s' := by intros; unfold stepLoad; simp only [hh]
  have hst : ∀ T a x, stepStore c T a x s = stepStore c T a x s' := by intros; unfold stepStore; simp only [hh]
  have hbd : ∀ T ps, stepBuild c T ps s = stepBuild c T ps s' := by intros; unfold stepBuild; simp only [hh]
  have hbs : ∀ T n ps, stepBuildSlice c T n ps s = stepBuildSlice c T n ps s' := by intros; unfold stepBuildSlice; simp only [hh]
  have hfa : ∀ T x f, stepFieldAddr c T x f s = stepFieldAddr c T x f s' := by intros; unfold stepFieldAddr; simp only [hh]
  have hia : ∀ T x i, stepIndexAddr c T x i s = stepIndexAddr c T x i s' := by intros; unfold stepIndexAddr; simp only [hh]
  have hix : ∀ T x i, stepIndex c T x i s = stepIndex c T x i s' := by intros; unfold stepIndex; simp only [hh]
  have hfi : ∀ T x f, stepField c T x f s = stepField c T x f s' := by intros; unfold stepField; simp only [hh]
  have hun : ∀ op x, stepUn op x s = stepUn op x s' := by intros; unfold stepUn; simp only [hh]
  have hcv : ∀ a b x, stepConv c a b x s = stepConv c a b x s' := by intros; unfold stepConv; simp only [hh]
  have hsl : ∀ T x lo hi, stepSlice c T x lo hi s = stepSlice c T x lo hi s' := by intros; unfold stepSlice; simp only [hh]
  have hln : ∀ T x, stepLen c T x s = stepLen c T x s' := by intros; unfold stepLen; simp only [hh]
  have hap : ∀ T T2 x y, stepAppend c T T2 x y s = stepAppend c T T2 x y s' := by intros; unfold stepAppend; simp only [hh]
  have hpt : ∀ T m k x, stepPut c T m k x s = stepPut c T m k x s' := by intros; unfold stepPut; simp only [hh]
  have hlk : ∀ T m k ok, stepLookup c T m k ok s = stepLookup c T m k ok s' := by intros; unfold stepLookup; simp only [hh]
  have has : ∀ x T ok, stepAssert c x T ok s = stepAssert c x T ok s' := by intros; unfold stepAssert; simp only [hh]
  have hms : ∀ T l cp, stepMakeSlice c T l cp s = stepMakeSlice c T l cp s' := by intros; unfold stepMakeSlice; simp only [hh]
  cases o <;> simp only [Op.operands] at h
  all_goals try rfl
  all_goals simp only [stepOp]
  case move x => rw [h x (by simp), hh]
  case assign x => rw [h x (by simp), hh]
  case pick t a b => rw [h t (by simp), h a (by simp), h b (by simp), hh]
  case alloc T => rw [hh]
  case box T x => rw [h x (by simp), hh]
  case build T ps =>
    rw [parts_congr (s := s) (s' := s') fun p hp => h p.2 (by simp; exact ⟨p.1, by simpa using hp⟩)]
    simp only [hbd]
  case buildSlice T n ps =>
    rw [parts_congr (s := s) (s' := s') fun p hp => h p.2 (by simp; exact ⟨p.1, by simpa using hp⟩)]
    simp only [hbs]
  case load T a => rw [h a (by simp)]; simp only [hl]
  case store T a x => rw [h a (by simp), h x (by simp)]; simp only [hst]
  case nilCheck x => rw [h x (by simp)]; simp only [hh]
  case binOp op T x y T2 => rw [h x (by simp), h y (by simp)]; simp only [hb]
  case unOp op T x => rw [h x (by simp)]; simp only [hun]
  case convert a b x => rw [h x (by simp)]; simp only [hcv]
  case makeFunc f a b =>
    rw [opds_congr (s := s) (s' := s') (l := a.toList) fun x hx => h x (by simp; left; simpa using hx), opds_congr (s := s) (s' := s') (l := b.toList) fun x hx => h x (by simp; right; simpa using hx), hh]
  case slice T x lo hi mx =>
    cases mx with
    | some m => rfl
    | none =>
      simp only [stepOp]
      rw [h x (by simp)]
      cases lo with
      | none =>
        cases hi with
        | none => simp only [hsl]
        | some u => have hu := h u (by simp); simp only [hu, hsl]
      | some l =>
        have hlo := h l (by simp)
        cases hi with
        | none => simp only [hlo, hsl]
        | some u => have hu := h u (by simp); simp only [hlo, hu, hsl]
  case fieldAddr T x f => rw [h x (by simp)]; simp only [hfa]
  case field T x f => rw [h x (by simp)]; simp only [hfi]
  case indexAddr T x i => rw [h x (by simp), h i (by simp)]; simp only [hia]
  case index T x i => rw [h x (by simp), h i (by simp)]; simp only [hix]
  case extract t i => rw [h t (by simp), hh]
  case makeInterface T x => simp only [stepNew]; rw [h x (by simp), hh]
  case typeAssert x xT T ok => simp only [stepNew]; rw [h x (by simp)]; simp only [has]
  case makeSlice T l cp => simp only [stepNew]; rw [h l (by simp), h cp (by simp)]; simp only [hms]
  case makeMap T r => cases r with
    | none => simp only [stepNew, hh]
    | some r => rfl
  case insert T m k x => simp only [stepNew]; rw [h m (by simp), h k (by simp), h x (by simp)]; simp only [hpt]
  case mapUpdate T m k x => simp only [stepNew]; rw [h m (by simp), h k (by simp), h x (by simp)]; simp only [hpt]
  case lookup T m k ok => simp only [stepNew]; rw [h m (by simp), h k (by simp)]; simp only [hlk]
  case range T x => simp only [stepNew]; rw [h x (by simp), hh]
  case next x b => cases b with
    | true => simp only [stepNew]; rw [h x (by simp), hh]
    | false => rfl
  case call cl =>
    obtain ⟨cal, args, tys⟩ := cl
    cases cal with
    | value f =>
      simp only [Call.operands] at h
      simp only [stepOp, stepNew]
      rw [h f (by simp), opds_congr (s := s) (s' := s') (l := args.toList) fun x hx => h x (by simp; right; simpa using hx), hh]
    | invoke r m => rfl
    | builtin b =>
      have he : s.opds args.toList = s'.opds args.toList := opds_congr fun x hx => h x (by simp [Call.operands]; simpa using hx)
      cases b <;> first | rfl | (simp only [stepOp]; rw [he]; simp only [hln, hap]) | (simp only [stepOp, stepNew]; rw [he, hh])

theorem callOf_congr (o : Op) (h : ∀ x ∈ o.operands, s.opd x = s'.opd x) : callOf o s = callOf o s' := by
  unfold callOf
  split
  · rename_i fo as tys
    simp only [Op.operands, Call.operands] at h
    rw [h fo (by simp), opds_congr (s := s) (s' := s') (l := as.toList) fun x hx => h x (by simp; right; simpa using hx)]
  · rfl
end
end Go.Rm
end

section
/- The engine, part 18: regions that draw their order: the plan, and what is checked of it. -/
set_option linter.unusedSimpArgs false
namespace Go.Rm

inductive OpK where
  | ben | new | act
  deriving DecidableEq

/-- Leaves the heap; makes a variable; acts. -/
def opK : Op → OpK
  | .alloc _ => .new
  | .move _ => .ben
  | .assign _ => .ben
  | .pick .. => .ben
  | .build .. => .ben
  | .load .. => .ben
  | .nilCheck _ => .ben
  | .binOp .. => .ben
  | .unOp .. => .ben
  | .convert .. => .ben
  | .makeFunc .. => .ben
  | .slice .. => .ben
  | .fieldAddr .. => .ben
  | .field .. => .ben
  | .indexAddr .. => .ben
  | .index .. => .ben
  | .extract .. => .ben
  | .call ⟨.builtin .len, _, _⟩ => .ben
  | _ => .act

/-- May its value hang on the heap? -/
def needChk (D : TypeId → Option TD) : Op → Bool
  | .load .. => true
  | .nilCheck _ => true
  | .fieldAddr .. => true
  | .indexAddr .. => true
  | .call ⟨.builtin .len, _, _⟩ => true
  | .slice T .. => match (D T).map TD.kd with
    | some .string => false
    | _ => true
  | .binOp _ T .. => match (D T).map TD.kd with
    | some .ptr => true
    | some (.slice _) => true
    | _ => false
  | _ => false

def befRow (acc : List (List Nat)) (o : Oper) : List Nat :=
  o.after.toList.flatMap fun e => if Region.binds .any e then e.on :: acc.getD e.on [] else []

def befAcc : List Oper → List (List Nat) → List (List Nat)
  | [], acc => acc
  | o :: r, acc => befAcc r (acc ++ [befRow acc o])

/-- Whatever has to be ahead of each operation. -/
def bef (A : Array Oper) (j : Nat) : List Nat := (befAcc A.toList []).getD j []

def kAt (A : Array Oper) (i : Nat) : OpK := match A[i]? with | some o => opK o.op | none => .act
def chkAt (D : TypeId → Option TD) (A : Array Oper) (i : Nat) : Bool := match A[i]? with | some o => needChk D o.op | none => true

def planCond (D : TypeId → Option TD) (A : Array Oper) (B : List (List Nat)) (seen : List Nat) (z : Nat) (ck : List Nat) : Bool :=
  (B.getD z []).all (fun x => seen.contains x) &&
  seen.all fun x =>
    ((kAt A x == .ben) || (kAt A z == .new) || (B.getD z []).contains x) &&
    (!(kAt A x == .ben) || !(chkAt D A x) || (kAt A z == .ben) || (B.getD z []).contains x || ck.contains x)

def planGo (D : TypeId → Option TD) (A : Array Oper) (B : List (List Nat)) : List Nat → List (Nat × List Nat) → Bool
  | _, [] => true
  | seen, (z, ck) :: r => planCond D A B seen z ck && planGo D A B (seen ++ [z]) r

def nodupB : List Nat → Bool
  | [] => true
  | x :: r => !r.contains x && nodupB r

def readsOk (A : Array Oper) (B : List (List Nat)) (o : Oper) (j : Nat) : Bool :=
  (o.looksAt A).all fun t => (A.toList.zipIdx).all fun (oi, i) => !(oi.dst == some t) || (B.getD j []).contains i

def newOk (D : TypeId → Option TD) : Op → Bool
  | .alloc T => (D T).isSome
  | _ => false

def planB (D : TypeId → Option TD) (A : Array Oper) (T : List (Nat × List Nat)) : Bool :=
  let B := befAcc A.toList []
  ((List.range A.size).all fun i => (T.map (·.1)).contains i) && nodupB (T.map (·.1)) && (T.all fun p => decide (p.1 < A.size)) &&
  nodupB (A.toList.filterMap (·.dst)) &&
  ((A.toList.zipIdx).all fun (o, j) => readsOk A B o j && (o.after.toList.all fun e => !Region.binds .any e || decide (e.on < j)) &&
    (!(opK o.op == .new) || (o.guard.isNone && o.dst.isSome && newOk D o.op))) &&
  planGo D A B [] T

structure PlanOK (D : TypeId → Option TD) (A : Array Oper) (T : List (Nat × List Nat)) : Prop where
  all : ∀ i, i < A.size → i ∈ T.map (·.1)
  nodup : (T.map (·.1)).Nodup
  lt : ∀ p ∈ T, p.1 < A.size
  dst : ∀ (i j : Nat) (oi oj : Oper) (t : Tmp), A[i]? = some oi → A[j]? = some oj → oi.dst = some t → oj.dst = some t → i = j
  reads : ∀ (j i : Nat) (o oi : Oper) (t : Tmp), A[j]? = some o → t ∈ o.looksAt A → A[i]? = some oi → oi.dst = some t → i ∈ bef A j
  edge : ∀ (j : Nat) (o : Oper), A[j]? = some o → ∀ e ∈ o.after.toList, Region.binds .any e = true → e.on < j
  new : ∀ (j : Nat) (o : Oper), A[j]? = some o → opK o.op = .new → o.guard = none ∧ (∃ t, o.dst = some t) ∧ ∃ T d, o.op = .alloc T ∧ D T = some d
  go : ∀ P z ck R, T = P ++ (z, ck) :: R → (∀ x ∈ bef A z, x ∈ P.map (·.1)) ∧
    ∀ x ∈ P.map (·.1), (kAt A x = .ben ∨ kAt A z = .new ∨ x ∈ bef A z) ∧ (kAt A x ≠ .ben ∨ chkAt D A x = false ∨ kAt A z = .ben ∨ x ∈ bef A z ∨ x ∈ ck)

theorem nodupB_ok : ∀ {l : List Nat}, nodupB l = true → l.Nodup
  | [], _ => List.nodup_nil
  | x :: r, h => by
    simp only [nodupB, Bool.and_eq_true, Bool.not_eq_true', List.contains_eq_mem, decide_eq_false_iff_not] at h
    exact List.nodup_cons.2 ⟨h.1, nodupB_ok h.2⟩

theorem planGo_ok {D : TypeId → Option TD} {A : Array Oper} {B : List (List Nat)} : ∀ {T : List (Nat × List Nat)} {seen : List Nat}, planGo D A B seen T = true →
    ∀ P z ck R, T = P ++ (z, ck) :: R → planCond D A B (seen ++ P.map (·.1)) z ck = true
  | [], _, _, P, z, ck, R, h => by simp at h
  | (y, cy) :: r, seen, h, P, z, ck, R, hT => by
    simp only [planGo, Bool.and_eq_true] at h
    cases P with
    | nil => simp at hT; obtain ⟨⟨rfl, rfl⟩, rfl⟩ := hT; simpa using h.1
    | cons p P =>
      simp only [List.cons_append, List.cons.injEq] at hT
      obtain ⟨rfl, hT⟩ := hT
      have := planGo_ok h.2 P z ck R hT
      simpa using this

theorem filterMap_dst {l : List Oper} (h : (l.filterMap (·.dst)).Nodup) : ∀ (i j : Nat) (oi oj : Oper) (t : Tmp), l[i]? = some oi → l[j]? = some oj → oi.dst = some t → oj.dst = some t → i = j := by
  induction l with
  | nil => intro i j oi oj t h1; simp at h1
  | cons o r ih =>
    intro i j oi oj t h1 h2 h3 h4
    have key : ∀ (k : Nat) (o' : Oper), r[k]? = some o' → o'.dst = some t → t ∈ r.filterMap (·.dst) := fun k o' hk ht =>
      List.mem_filterMap.2 ⟨o', List.mem_of_getElem? hk, ht⟩
    have hr : (r.filterMap (·.dst)).Nodup := by
      rw [List.filterMap_cons] at h
      split at h
      · exact h
      · exact (List.nodup_cons.1 h).2
    have hcons : ∀ t', o.dst = some t' → t' ∉ r.filterMap (·.dst) := by
      intro t' ht'
      rw [List.filterMap_cons, ht'] at h
      exact (List.nodup_cons.1 h).1
    cases i with
    | zero =>
      cases j with
      | zero => rfl
      | succ j =>
        simp at h1 h2; subst h1
        exact absurd (key j oj h2 h4) (hcons t h3)
    | succ i =>
      cases j with
      | zero =>
        simp at h1 h2; subst h2
        exact absurd (key i oi h1 h3) (hcons t h4)
      | succ j => simp at h1 h2; rw [ih hr i j oi oj t h1 h2 h3 h4]

theorem planB_ok {D : TypeId → Option TD} {A : Array Oper} {T : List (Nat × List Nat)} (h : planB D A T = true) : PlanOK D A T := by
  unfold planB at h
  simp only [Bool.and_eq_true, decide_eq_true_eq] at h
  obtain ⟨⟨⟨⟨⟨h1, h2⟩, h3⟩, h4⟩, h5⟩, h6⟩ := h
  have hall : ∀ (j : Nat) (o : Oper), A[j]? = some o → readsOk A (befAcc A.toList []) o j = true ∧ (o.after.toList.all fun e => !Region.binds .any e || decide (e.on < j)) = true ∧
      (!(opK o.op == .new) || (o.guard.isNone && o.dst.isSome && newOk D o.op)) = true := by
    intro j o hj
    have hm : (o, j) ∈ A.toList.zipIdx := by
      rw [List.mem_zipIdx_iff_getElem?]; simpa using hj
    have := List.all_eq_true.1 h5 (o, j) hm
    simp only [Bool.and_eq_true] at this
    exact ⟨this.1.1, this.1.2, this.2⟩
  refine ⟨fun i hi => by simpa only [List.contains_eq_mem, decide_eq_true_eq] using List.all_eq_true.1 h1 i (List.mem_range.2 hi), nodupB_ok h2, fun p hp => by simpa using List.all_eq_true.1 h3 p hp, ?_, ?_, ?_, ?_, ?_⟩
  · intro i j oi oj t hi hj
    exact filterMap_dst (nodupB_ok h4) i j oi oj t (by simpa using hi) (by simpa using hj)
  · intro j i o oi t hj ht hi hd
    have := (hall j o hj).1
    unfold readsOk at this
    have h7 := List.all_eq_true.1 this t ht
    have hm : (oi, i) ∈ A.toList.zipIdx := by rw [List.mem_zipIdx_iff_getElem?]; simpa using hi
    have h8 := List.all_eq_true.1 h7 (oi, i) hm
    simpa [hd, bef] using h8
  · intro j o hj e he hb
    have := List.all_eq_true.1 (hall j o hj).2.1 e he
    simpa [hb] using this
  · intro j o hj hk
    have := (hall j o hj).2.2
    simp only [hk, beq_self_eq_true, Bool.not_true, Bool.false_or, Bool.and_eq_true, Option.isNone_iff_eq_none, Option.isSome_iff_exists] at this
    refine ⟨this.1.1, this.1.2, ?_⟩
    have h9 := this.2
    unfold newOk at h9
    split at h9
    · rename_i T hT
      obtain ⟨d, hd⟩ := Option.isSome_iff_exists.1 h9
      exact ⟨T, d, hT, hd⟩
    · simp at h9
  · intro P z ck R hT
    have := planGo_ok h6 P z ck R hT
    simp only [List.nil_append, planCond, Bool.and_eq_true, List.all_eq_true, List.contains_eq_mem, decide_eq_true_eq] at this
    refine ⟨this.1, fun x hx => ?_⟩
    have h7 := this.2 x hx
    simp only [Bool.or_eq_true, beq_iff_eq, decide_eq_true_eq, Bool.not_eq_true', beq_eq_false_iff_ne] at h7
    refine ⟨?_, ?_⟩
    · rcases h7.1 with (h8 | h8) | h8
      · exact .inl h8
      · exact .inr (.inl h8)
      · exact .inr (.inr h8)
    · rcases h7.2 with (((h8 | h8) | h8) | h8) | h8
      · exact .inl h8
      · exact .inr (.inl h8)
      · exact .inr (.inr (.inl h8))
      · exact .inr (.inr (.inr (.inl h8)))
      · exact .inr (.inr (.inr (.inr h8)))

/-- Who is ready has all that has to be ahead behind it. -/
theorem bef_listed {A : Array Oper} {L : Nat → Prop} (hdc : ∀ (j : Nat) (o : Oper), L j → A[j]? = some o → ∀ e ∈ o.after.toList, Region.binds .any e = true → L e.on) {y : Nat} {o : Oper}
    (hy : A[y]? = some o) (hr : ∀ e ∈ o.after.toList, Region.binds .any e = true → L e.on) : ∀ x ∈ bef A y, L x := by
  have key : ∀ (r : List Oper) (acc : List (List Nat)) (n : Nat), acc.length = n → A.toList.drop n = r →
      (∀ j (o : Oper), j < n → A[j]? = some o → (∀ e ∈ o.after.toList, Region.binds .any e = true → L e.on) → ∀ x ∈ acc.getD j [], L x) →
      ∀ (j : Nat) (o : Oper), A[j]? = some o → (∀ e ∈ o.after.toList, Region.binds .any e = true → L e.on) → ∀ x ∈ (befAcc r acc).getD j [], L x := by
    intro r
    induction r with
    | nil =>
      intro acc n hn hd hacc j o hj he x hx
      have hjn : j < n := by
        have h1 : j < A.toList.length := by simpa using (Array.getElem?_eq_some_iff.1 hj).1
        have h2 : A.toList.length ≤ n := by simpa using hd
        omega
      exact hacc j o hjn hj he x (by simpa [befAcc] using hx)
    | cons o' r ih =>
      intro acc n hn hd hacc j o hj he x hx
      simp only [befAcc] at hx
      have hon : A[n]? = some o' := by
        have : (A.toList.drop n)[0]? = some o' := by rw [hd]; rfl
        simpa using this
      refine ih (acc ++ [befRow acc o']) (n + 1) (by simp [hn]) (by rw [← List.tail_drop, hd]; rfl) ?_ j o hj he x hx
      intro j1 o1 hj1 ho1 he1 x1 hx1
      rcases Nat.lt_or_ge j1 n with hlt | hge
      · rw [List.getD, List.getElem?_append_left (by omega)] at hx1
        exact hacc j1 o1 hlt ho1 he1 x1 hx1
      · have : j1 = n := by omega
        subst this
        rw [hon] at ho1; cases ho1
        rw [List.getD, List.getElem?_append_right (by omega)] at hx1
        simp only [hn, Nat.sub_self, List.getElem?_cons_zero, Option.getD_some, befRow, List.mem_flatMap] at hx1
        obtain ⟨e, hem, hxe⟩ := hx1
        split at hxe
        · rename_i hb
          rcases List.mem_cons.1 hxe with rfl | hxe
          · exact he1 e hem hb
          · have hL := he1 e hem hb
            rcases Nat.lt_or_ge e.on acc.length with h3 | h3
            · have h4 : e.on < A.size := by
                have h7 : (A.toList.drop j1).length = r.length + 1 := by rw [hd]; rfl
                rw [List.length_drop, Array.length_toList] at h7
                omega
              have h6 : A[e.on]? = some A[e.on] := Array.getElem?_eq_getElem h4
              exact hacc e.on _ (by omega) h6 (fun e' he' hb' => hdc e.on _ hL h6 e' he' hb') x1 hxe
            · rw [List.getD, List.getElem?_eq_none h3] at hxe; simp at hxe
        · simp at hxe
  intro x hx
  exact key A.toList [] 0 rfl rfl (fun j o h => absurd h (by omega)) y o hy hr x hx
end Go.Rm
end

section
/- The engine, part 19: regions that draw their order: one plan's verification condition serves every order. -/
set_option linter.unusedSimpArgs false
namespace Go.Rm

/-- Is the operation run, as far as its guard goes? -/
def wantS (A : Array Oper) (o : Oper) (s : S) (b : Bool) : Prop :=
  match o.guard with
  | none => b = true
  | some (j, want) => ∃ v, guardOf A s j = some v ∧ (v == want) = b

/-- Run anew, the operation comes to what stands there for it. -/
def Stab (c : Cfg) (A : Array Oper) (j : Nat) (s : S) : Prop :=
  ∃ o, A[j]? = some o ∧
    ((wantS A o s true ∧ ∃ e, stepOp c o.op s = some e ∧ e.pre ∧ e.heap = s.heap ∧ ∀ t, o.dst = some t → ∃ x, lookE s.env t = some x ∧ (∀ ρ, x.val ρ = e.x.val ρ) ∧ ∀ m, e.x.lt m = true → x.lt m = true) ∨
     (wantS A o s false ∧ ∀ t, o.dst = some t → lookE s.env t = some (.v undef)))

def chkAll (c : Cfg) (A : Array Oper) (s : S) : List Nat → Prop
  | [] => True
  | j :: r => Stab c A j s ∧ chkAll c A s r

theorem chkAll_mem {c : Cfg} {A : Array Oper} {s : S} : ∀ {l : List Nat}, chkAll c A s l → ∀ j ∈ l, Stab c A j s
  | [], _, j, h => by simp at h
  | x :: r, h, j, hj => by
    rcases List.mem_cons.1 hj with rfl | hj
    · exact h.1
    · exact chkAll_mem h.2 j hj

inductive VCd (E : Env) (c : Cfg) (A : Array Oper) (k : List It) : List (Nat × List Nat) → S → Prop where
  | nil {s : S} : Runs c k s → VCd E c A k [] s
  | op {i : Nat} {ck : List Nat} {r : List (Nat × List Nat)} {s : S} {o : Oper} {e : Eff} {x : AV} : A[i]? = some o → dstOk c.N o.dst = true → wantS A o s true → stepOp c o.op s = some e → e.pre →
      (∀ ρ, x.val ρ = e.x.val ρ) → (∀ m, e.x.lt m = true → x.lt m = true) → chkAll c A ({ s with heap := e.heap }.put o.dst x) ck →
      VCd E c A k r ({ s with heap := e.heap }.put o.dst x) → VCd E c A k ((i, ck) :: r) s
  | skip {i : Nat} {ck : List Nat} {r : List (Nat × List Nat)} {s : S} {o : Oper} : A[i]? = some o → dstOk c.N o.dst = true → wantS A o s false → chkAll c A (s.put o.dst (.v undef)) ck →
      VCd E c A k r (s.put o.dst (.v undef)) → VCd E c A k ((i, ck) :: r) s
  | call {i : Nat} {ck : List Nat} {r : List (Nat × List Nat)} {s : S} {o : Oper} {g k1 : Nat} {Hc : List Chunk} {args : List AV} {Qc : AV → List Chunk → Prop} (σ : List Nat) :
      A[i]? = some o → dstOk c.N o.dst = true → wantS A o s true → opK o.op = .act → Sp E g k1 Hc args Qc → callOf o.op s = some (g, AV.renL (nm σ s.heap.length) args) →
      ((∀ (n : Nat) (y : Chunk), s.heap[n]? = some y → y.lt s.heap.length = true) → Sub σ Hc s.heap) → k1 ≤ Hc.length →
      (∀ x H', Qc x H' → k1 ≤ H'.length → chkAll c A (s.after σ k1 o.dst x H') ck) → (∀ x H', Qc x H' → k1 ≤ H'.length → VCd E c A k r (s.after σ k1 o.dst x H')) → VCd E c A k ((i, ck) :: r) s

/-- The destination of an operation. -/
def dstA (A : Array Oper) (j : Nat) : Option Tmp := (A[j]?).bind (·.dst)

structure PRel (E : Env) (c : Cfg) (A : Array Oper) (pend : List Nat) (early : List (Nat × Nat)) (ρ : Nat → Hnd) (s : S) (a : Act) (w : World) (Fs : Nat → FP) (w0 : World) (F0 : FP) : Prop where
  size : a.tmps.size = c.N
  defs : a.defers = []
  env : ∀ t x, lookE s.env t = some x → (∃ j ∈ pend, dstA A j = some t) ∨ (∃ p ∈ early, dstA A p.1 = some t) ∨ a.tmps[t]? = some (x.val ρ)
  lt : ∀ t x, lookE s.env t = some x → (∃ j ∈ pend, dstA A j = some t) ∨ x.lt s.heap.length = true
  sat : Sat c.g ρ s.heap w Fs
  gl : c.Gl w
  k0 : c.k0 ≤ s.heap.length
  gs : c.g ≤ w.heap.size
  stab : ∀ j ∈ pend, Stab c A j s ∧ kAt A j = .ben
  erl : ∀ p ∈ early, ∃ o T d t, A[p.1]? = some o ∧ o.op = .alloc T ∧ o.dst = some t ∧ c.D T = some d ∧ a.tmps[t]? = some (.pointer (some ⟨p.2, 0, none⟩)) ∧ blockIs w p.2 (cellsL ρ0 d.zero) T ∧ ¬ allF Fs p.2 ∧ c.g ≤ p.2
  enod : (early.map (·.2)).Nodup ∧ (early.map (·.1)).Nodup
  keeps : Keeps w0 w F0 (fun k => allF Fs k ∨ ∃ p ∈ early, p.2 = k)

section
variable {E : Env} {c : Cfg} {A : Array Oper} {pend : List Nat} {early : List (Nat × Nat)} {ρ : Nat → Hnd} {s : S} {a : Act} {w : World} {Fs : Nat → FP} {w0 : World} {F0 : FP}

/-- The state that knows of the temporaries in l alone. -/
def S.only (s : S) (l : List Tmp) : S := { s with env := s.env.filter fun p => decide (p.1 ∈ l) }

theorem look_only {l : List Tmp} : ∀ {env : List (Nat × AV)} {t : Tmp}, t ∈ l → lookE (env.filter fun p => decide (p.1 ∈ l)) t = lookE env t
  | [], _, _ => rfl
  | (k, x) :: r, t, ht => by
    by_cases hk : k = t
    · subst hk; simp [List.filter_cons, ht, lookE]
    · by_cases hkl : k ∈ l
      · simp [List.filter_cons, hkl, lookE, hk]; exact look_only ht
      · simp [List.filter_cons, hkl, lookE, hk]; exact look_only ht

theorem look_only_mem {l : List Tmp} : ∀ {env : List (Nat × AV)} {t : Tmp} {x : AV}, lookE (env.filter fun p => decide (p.1 ∈ l)) t = some x → t ∈ l ∧ lookE env t = some x
  | [], _, _, h => by simp [lookE] at h
  | (k, y) :: r, t, x, h => by
    by_cases hkl : k ∈ l
    · simp [List.filter_cons, hkl, lookE] at h
      by_cases hk : k = t
      · subst hk; simp at h; subst h; exact ⟨hkl, by simp [lookE]⟩
      · simp [hk] at h
        obtain ⟨h1, h2⟩ := look_only_mem (l := l) (env := r) (by simpa using h)
        exact ⟨h1, by simp [lookE, hk, h2]⟩
    · simp [List.filter_cons, hkl] at h
      obtain ⟨h1, h2⟩ := look_only_mem (l := l) (env := r) (by simpa using h)
      refine ⟨h1, ?_⟩
      have hk : k ≠ t := fun e => hkl (e ▸ h1)
      simp [lookE, hk, h2]

/-- What an operation looks at. -/
def clear (A : Array Oper) (pend : List Nat) (early : List (Nat × Nat)) (o : Oper) : Prop :=
  ∀ t ∈ o.looksAt A, (∀ j ∈ pend, dstA A j ≠ some t) ∧ ∀ p ∈ early, dstA A p.1 ≠ some t

theorem PRel.only (h : PRel E c A pend early ρ s a w Fs w0 F0) {o : Oper} (hc : clear A pend early o) : Rel c ρ (s.only (o.looksAt A)) a w Fs := by
  refine ⟨h.size, h.defs, ?_, ?_, h.sat, h.gl, h.k0, h.gs⟩
  · intro t x hx
    obtain ⟨h1, h2⟩ := look_only_mem hx
    rcases h.env t x h2 with ⟨j, hj, hd⟩ | ⟨p, hp, hd⟩ | h3
    · exact absurd hd ((hc t h1).1 j hj)
    · exact absurd hd ((hc t h1).2 p hp)
    · exact h3
  · intro t x hx
    obtain ⟨h1, h2⟩ := look_only_mem hx
    rcases h.lt t x h2 with ⟨j, hj, hd⟩ | h3
    · exact absurd hd ((hc t h1).1 j hj)
    · exact h3

theorem opd_only {l : List Tmp} {x : Operand} (h : ∀ t, x = .tmp t → t ∈ l) : (s.only l).opd x = s.opd x := by
  cases x with
  | tmp t => exact look_only (h t rfl)
  | _ => rfl

theorem looks_operand {o : Oper} {x : Operand} (hx : x ∈ o.op.operands) : ∀ t, x = .tmp t → t ∈ o.looksAt A := by
  intro t ht; subst ht
  unfold Oper.looksAt
  refine List.mem_append.2 (.inl (List.mem_filterMap.2 ⟨.tmp t, by simpa using hx, rfl⟩))

theorem step_only (o : Oper) : stepOp c o.op (s.only (o.looksAt A)) = stepOp c o.op s :=
  stepOp_congr o.op (fun x hx => opd_only (looks_operand hx)) rfl

theorem callOf_only (o : Oper) : callOf o.op (s.only (o.looksAt A)) = callOf o.op s :=
  callOf_congr o.op (fun x hx => opd_only (looks_operand hx))

theorem wanted_of (h : PRel E c A pend early ρ s a w Fs w0 F0) {o : Oper} (hc : clear A pend early o) {b : Bool} (hw : wantS A o s b) : Region.wanted o (yielded A a.tmps) = b := by
  unfold wantS at hw
  unfold Region.wanted
  split at hw
  · rename_i hg; rw [hg]; simp [hw]
  · rename_i j want hg
    obtain ⟨v, hv, hb⟩ := hw
    have hr := h.only hc
    have hv' : guardOf A (s.only (o.looksAt A)) j = some v := by
      rw [← hv]
      unfold guardOf
      split
      · rename_i o' ho'
        split
        · rename_i t ht
          have : t ∈ o.looksAt A := by
            unfold Oper.looksAt
            refine List.mem_append.2 (.inr ?_)
            rw [hg]
            have : A[j]? = some o' := by simpa using ho'
            simp [this, ht]
          rw [show (s.only (o.looksAt A)).env = s.env.filter fun p => decide (p.1 ∈ o.looksAt A) from rfl, look_only this]
        · rfl
      · rfl
    rw [hg]
    simp only [guardOf_sound hr hv']
    rw [← hb]
    cases v <;> cases want <;> rfl
end
end Go.Rm
end

section
/- The engine, part 20: regions that draw their order: single steps of the machine and of the plan. -/
set_option linter.unusedSimpArgs false
set_option linter.unusedVariables false
namespace Go.Rm
section
variable {E : Env} {c : Cfg} {A : Array Oper} {pend : List Nat} {early : List (Nat × Nat)} {ρ : Nat → Hnd} {s : S} {a : Act} {w : World} {Fs : Nat → FP} {w0 : World} {F0 : FP}

/-- An operation that leaves the heap leaves it. -/
theorem ben_heap {o : Op} {e : Eff} (hk : opK o = .ben) (h : stepOp c o s = some e) : e.heap = s.heap := by
  unfold opK at hk
  split at hk <;> simp only [reduceCtorEq] at hk <;> simp only [stepOp] at h
  · simp only [Option.map_eq_some_iff] at h; obtain ⟨_, _, rfl⟩ := h; rfl
  · simp only [Option.map_eq_some_iff] at h; obtain ⟨_, _, rfl⟩ := h; rfl
  · split at h
    · split at h <;> (simp only [Option.map_eq_some_iff] at h; obtain ⟨_, _, rfl⟩ := h; rfl)
    · simp at h
  · simp only [Option.bind_eq_some_iff] at h
    obtain ⟨ps, _, h⟩ := h
    unfold stepBuild at h
    split at h
    · split at h
      · simp only [Option.map_eq_some_iff] at h; obtain ⟨_, _, rfl⟩ := h; rfl
      · split at h
        · simp only [Option.map_eq_some_iff] at h; obtain ⟨_, _, rfl⟩ := h; rfl
        · simp at h
      · simp at h
    · simp at h
  · simp only [Option.bind_eq_some_iff] at h
    obtain ⟨v, _, h⟩ := h
    unfold stepLoad at h
    split at h
    · split at h
      · split at h
        · simp only [Option.map_eq_some_iff] at h; obtain ⟨_, _, rfl⟩ := h; rfl
        · simp at h
      · split at h
        · split at h
          · split at h
            · simp only [Option.map_eq_some_iff] at h; obtain ⟨_, _, rfl⟩ := h; rfl
            · simp at h
          · simp at h
        · simp at h
      · split at h
        · simp at h
        · simp only [Option.map_eq_some_iff] at h; obtain ⟨_, _, rfl⟩ := h; rfl
      · simp at h
    · simp at h
  · split at h
    · split at h
      · cases h; rfl
      · simp at h
    · simp only [Option.map_eq_some_iff] at h; obtain ⟨_, _, rfl⟩ := h; rfl
    · simp at h
  · split at h
    · unfold stepBin at h
      split at h
      · split at h
        · cases h; rfl
        · cases h; rfl
        · split at h
          · simp only [Option.map_eq_some_iff] at h; obtain ⟨_, _, rfl⟩ := h; rfl
          · simp at h
      · simp only [Option.map_eq_some_iff] at h; obtain ⟨_, _, rfl⟩ := h; rfl
      · split at h
        · split at h <;> first | (cases h; rfl) | simp at h
        · simp at h
      · split at h
        · split at h
          · split at h
            · split at h
              · split at h <;> first | (cases h; rfl) | simp at h
              · simp at h
            · simp at h
          · simp at h
        · simp at h
      · split at h
        · split at h <;> first | (cases h; rfl) | simp at h
        · split at h <;> first | (cases h; rfl) | simp at h
        · simp at h
      · split at h
        · split at h <;> first | (cases h; rfl) | simp at h
        · simp at h
      · simp at h
    · simp at h
  · simp only [Option.bind_eq_some_iff] at h
    obtain ⟨v, _, h⟩ := h
    unfold stepUn at h
    split at h <;> first | (cases h; rfl) | simp at h
  · simp only [Option.bind_eq_some_iff] at h
    obtain ⟨v, _, h⟩ := h
    unfold stepConv at h
    split at h <;> first | (cases h; rfl) | simp at h
  · split at h
    · cases h; rfl
    · simp at h
  · rename_i T x lo hi mx
    cases mx with
    | some m => simp [stepOp, stepNew] at h
    | none =>
      simp only [stepOp] at h
      have key : ∀ y l u, stepSlice c T y l u s = some e → e.heap = s.heap := by
        intro y l u h
        unfold stepSlice at h
        repeat' split at h
        all_goals first | (cases h; rfl) | simp at h
      split at h
      · cases lo <;> cases hi <;> simp only [Option.bind_eq_some_iff] at h
        · exact key _ _ _ h
        · obtain ⟨_, _, h⟩ := h; exact key _ _ _ h
        · obtain ⟨_, _, h⟩ := h; exact key _ _ _ h
        · obtain ⟨_, _, _, _, h⟩ := h; exact key _ _ _ h
      · simp at h
  · simp only [Option.bind_eq_some_iff] at h
    obtain ⟨v, _, h⟩ := h
    unfold stepFieldAddr at h
    split at h
    · split at h
      · split at h
        · split at h <;> first | (cases h; rfl) | simp at h
        · simp at h
      · simp at h
    · simp at h
  · simp only [Option.bind_eq_some_iff] at h
    obtain ⟨v, _, h⟩ := h
    unfold stepField at h
    split at h
    · split at h
      · split at h
        · split at h
          · split at h
            · simp only [Option.map_eq_some_iff] at h; obtain ⟨_, _, rfl⟩ := h; rfl
            · simp at h
          · simp at h
        · simp at h
      · simp at h
    · simp at h
  · split at h
    · unfold stepIndexAddr at h
      repeat' split at h
      all_goals first | (cases h; rfl) | simp at h
    · simp at h
  · split at h
    · unfold stepIndex at h
      split at h
      · split at h
        · cases h; rfl
        · split at h
          · split at h
            · simp only [Option.map_eq_some_iff] at h; obtain ⟨_, _, rfl⟩ := h; rfl
            · simp at h
          · simp at h
        · split at h
          · split at h <;> first | (cases h; rfl) | simp at h
          · simp at h
        · simp at h
      · simp at h
    · simp at h
  · split at h
    · simp only [Option.map_eq_some_iff] at h; obtain ⟨_, _, rfl⟩ := h; rfl
    · simp at h
  · split at h
    · unfold stepLen at h
      repeat' split at h
      all_goals first | (cases h; rfl) | simp at h
    · simp at h

/-- An operation whose value does not hang on the heap. -/
theorem ben_free {o : Op} {e : Eff} (hk : opK o = .ben) (hn : needChk c.D o = false) (h : stepOp c o s = some e) (H : List Chunk) :
    stepOp c o { s with heap := H } = some { e with heap := H } := by
  have hopd : ∀ x, S.opd { s with heap := H } x = s.opd x := fun x => by cases x <;> rfl
  have hopds : ∀ l, S.opds { s with heap := H } l = s.opds l := fun l => opds_congr fun x _ => hopd x
  have hparts : ∀ l, S.parts { s with heap := H } l = s.parts l := fun l => parts_congr fun p _ => hopd p.2
  unfold opK at hk
  split at hk <;> simp only [reduceCtorEq] at hk <;> simp only [needChk, Bool.true_eq_false, reduceCtorEq] at hn <;> simp only [stepOp] at h ⊢ <;> simp only [hopd, hopds, hparts]
  · simp only [Option.map_eq_some_iff] at h ⊢; obtain ⟨v, hv, rfl⟩ := h; exact ⟨v, hv, rfl⟩
  · simp only [Option.map_eq_some_iff] at h ⊢; obtain ⟨v, hv, rfl⟩ := h; exact ⟨v, hv, rfl⟩
  · split at h
    · rename_i b hb
      (try rw [hb])
      cases b <;> (simp only [Option.map_eq_some_iff] at h ⊢; obtain ⟨v, hv, rfl⟩ := h; exact ⟨v, hv, rfl⟩)
    · simp at h
  · simp only [Option.bind_eq_some_iff] at h ⊢
    obtain ⟨ps, hps, h⟩ := h
    refine ⟨ps, hps, ?_⟩
    unfold stepBuild at h ⊢
    split at h
    · rename_i d hd; (try rw [hd]); (try simp only [])
      split at h
      · rename_i fs hfs; (try rw [hfs]); simp only [Option.map_eq_some_iff] at h ⊢; obtain ⟨v, hv, rfl⟩ := h; exact ⟨v, hv, rfl⟩
      · rename_i n el hfs; (try rw [hfs]); (try simp only [])
        split at h
        · rename_i de hde; (try rw [hde]); simp only [Option.map_eq_some_iff] at h ⊢; obtain ⟨v, hv, rfl⟩ := h; exact ⟨v, hv, rfl⟩
        · simp at h
      · simp at h
    · simp at h
  · rename_i op T x y T2
    split at h
    · rename_i vx vy hx hy
      (try rw [hx, hy]); (try simp only [])
      unfold stepBin at h ⊢
      split at h
      · split at h
        · cases h; rfl
        · cases h; rfl
        · split at h
          · rename_i hkk; subst hkk
            simp only [if_true, Option.map_eq_some_iff] at h ⊢; obtain ⟨v, hv, rfl⟩ := h; exact ⟨v, hv, rfl⟩
          · simp at h
      · simp only [Option.map_eq_some_iff] at h ⊢; obtain ⟨v, hv, rfl⟩ := h; exact ⟨v, hv, rfl⟩
      · split at h
        · rename_i hkd; (try simp only [hkd])
          split at h <;> first | (cases h; rfl) | simp at h
        · simp at h
      · split at h
        · rename_i d hd; (try simp only [hd])
          split at h
          · rename_i hb; (try rw [if_pos hb])
            split at h
            · rename_i hkk; subst hkk
              simp only [dite_true]
              split at h
              · rename_i hsz; (try rw [if_pos hsz])
                split at h <;> first | (cases h; rfl) | simp at h
              · simp at h
            · simp at h
          · simp at h
        · simp at h
      · split at h
        · rename_i hkd _; rw [hkd] at hn; simp at hn
        · rename_i hkd _; rw [hkd] at hn; simp at hn
        · simp at h
      · split at h
        · rename_i hkd _; rw [hkd] at hn; simp at hn
        · simp at h
      · simp at h
    · simp at h
  · simp only [Option.bind_eq_some_iff] at h ⊢
    obtain ⟨v, hv, h⟩ := h
    refine ⟨v, hv, ?_⟩
    unfold stepUn at h ⊢
    split at h <;> first | (cases h; rfl) | simp at h
  · simp only [Option.bind_eq_some_iff] at h ⊢
    obtain ⟨v, hv, h⟩ := h
    refine ⟨v, hv, ?_⟩
    unfold stepConv at h ⊢
    split at h
    · rename_i h1 h2; (try rw [h1, h2]); cases h; rfl
    · rename_i h1 h2; (try rw [h1, h2]); cases h; rfl
    · simp at h
  · split at h
    · rename_i h1 h2; (try rw [h1, h2]); cases h; rfl
    · simp at h
  · rename_i T x lo hi mx
    cases mx with
    | some m => simp [stepOp, stepNew] at h
    | none =>
      simp only [stepOp] at h ⊢
      have hkd : (c.D T).map TD.kd = some .string := by
        split at hn
        · assumption
        · simp at hn
      have key : ∀ y l u, stepSlice c T y l u s = some e → stepSlice c T y l u { s with heap := H } = some { e with heap := H } := by
        intro y l u h
        simp only [Option.map_eq_some_iff] at hkd
        obtain ⟨d, hd, hkd⟩ := hkd
        unfold stepSlice at h ⊢
        simp only [hd, hkd] at h ⊢
        split at h
        · rename_i b heq
          split at h
          · cases h; (try simp only [*]); (try rfl)
          · simp at h
        all_goals first | contradiction | (simp at h; done) | simp_all
      split at h
      · rename_i v hv
        (try rw [hopd, hv])
        cases lo <;> cases hi <;> simp only [Option.bind_eq_some_iff, hopd] at h ⊢
        · exact key _ _ _ h
        · obtain ⟨u, hu, h⟩ := h; exact ⟨u, hu, key _ _ _ h⟩
        · obtain ⟨u, hu, h⟩ := h; exact ⟨u, hu, key _ _ _ h⟩
        · obtain ⟨u, hu, z, hz, h⟩ := h; exact ⟨u, hu, z, hz, key _ _ _ h⟩
      · simp at h
  · simp only [Option.bind_eq_some_iff] at h ⊢
    obtain ⟨v, hv, h⟩ := h
    refine ⟨v, hv, ?_⟩
    unfold stepField at h ⊢
    split at h
    · rename_i d hd; (try rw [hd]); (try simp only [])
      split at h
      · rename_i fs l hkd; (try rw [hkd]); (try simp only [])
        split at h
        · rename_i o t ho; (try rw [ho]); (try simp only [])
          split at h
          · rename_i dt hdt; (try rw [hdt]); (try simp only [])
            split at h
            · rename_i hp; (try rw [if_pos hp])
              simp only [Option.map_eq_some_iff] at h ⊢; obtain ⟨v, hv, rfl⟩ := h; exact ⟨v, hv, rfl⟩
            · simp at h
          · simp at h
        · simp at h
      · simp at h
    · simp at h
  · split at h
    · rename_i vx vi hx hi
      (try rw [hx, hi]); (try simp only [])
      unfold stepIndex at h ⊢
      split at h
      · rename_i d hd; (try rw [hd]); (try simp only [])
        split at h
        · rename_i hkd; (try rw [hkd]); cases h; rfl
        · rename_i hkd; (try rw [hkd]); (try simp only [])
          split at h
          · rename_i de hde; (try rw [hde]); (try simp only [])
            split at h
            · rename_i hp; (try rw [if_pos hp])
              simp only [Option.map_eq_some_iff] at h ⊢; obtain ⟨v, hv, rfl⟩ := h; exact ⟨v, hv, rfl⟩
            · simp at h
          · simp at h
        · rename_i hkd; (try rw [hkd]); (try simp only [])
          split at h
          · rename_i de hde; (try rw [hde]); (try simp only [])
            split at h
            · rename_i hp; (try rw [if_pos hp]); cases h; rfl
            · simp at h
          · simp at h
        · simp at h
      · simp at h
    · simp at h
  · split at h
    · rename_i l hl
      (try rw [hl])
      simp only [Option.map_eq_some_iff] at h ⊢; obtain ⟨v, hv, rfl⟩ := h; exact ⟨v, hv, rfl⟩
    · simp at h
end
end Go.Rm
end

section
/- The engine, part 21: what a drawn order is. -/
set_option linter.unusedSimpArgs false
set_option linter.unusedVariables false
namespace Go.Rm

/-- l is an order of all that L does not hold yet. -/
def Topo (A : Array Oper) : List Nat → List Nat → Prop
  | L, [] => ∀ j, j < A.size → j ∈ L
  | L, y :: r => y ∉ L ∧ (∃ o, A[y]? = some o ∧ ∀ e ∈ o.after.toList, Region.binds .any e = true → e.on ∈ L) ∧ Topo A (y :: L) r

def isT (l : Array Bool) (j : Nat) : Prop := l[j]? = some true

theorem edges_have {A : Array Oper} (hedge : ∀ (j : Nat) (o : Oper), A[j]? = some o → ∀ e ∈ o.after.toList, Region.binds .any e = true → e.on < j) {listed : Array Bool} (hsz : listed.size = A.size)
    (hr : Region.ready .any A listed = []) : ∀ j, j < A.size → listed[j]? = some true := by
  intro j
  induction j using Nat.strongRecOn with
  | _ j ih =>
    intro hj
    have hjl : j < listed.size := by omega
    cases hb : listed[j] with
    | true => rw [Array.getElem?_eq_getElem hjl, hb]
    | false =>
      exfalso
      have : j ∈ Region.ready .any A listed := by
        unfold Region.ready
        rw [List.mem_filter]
        refine ⟨by simpa using hj, ?_⟩
        simp only [Bool.and_eq_true, Array.getD_eq_getD_getElem?, Array.getElem?_eq_getElem hjl, hb, Option.getD_some, Bool.not_false, true_and, Array.getElem?_eq_getElem hj, Option.map_some]
        rw [Array.all_eq_true']
        intro e he
        by_cases hbd : Region.binds .any e = true
        · have h1 := hedge j A[j] (Array.getElem?_eq_getElem hj) e (by simpa using he) hbd
          simp [ih e.on h1 (by omega)]
        · simp [hbd]
      rw [hr] at this
      simp at this

/-- How many are not listed yet. -/
def unl (listed : Array Bool) : Nat := listed.toList.countP (fun b => !b)

theorem countP_set {l : List Bool} : ∀ {i : Nat}, l[i]? = some false → (l.set i true).countP (fun b => !b) + 1 = l.countP (fun b => !b) := by
  induction l with
  | nil => intro i h; simp at h
  | cons b r ih =>
    intro i h
    cases i with
    | zero => simp at h; subst h; simp
    | succ i =>
      simp only [List.getElem?_cons_succ] at h
      have := ih h
      cases b
      · simp only [List.set_cons_succ, List.countP_cons, Bool.not_false, if_true]; omega
      · simp only [List.set_cons_succ, List.countP_cons, Bool.not_true, Bool.false_eq_true, if_false]; omega

theorem unl_set {listed : Array Bool} {i : Nat} (h : listed[i]? = some false) : unl (listed.setIfInBounds i true) + 1 = unl listed := by
  unfold unl
  rw [Array.toList_setIfInBounds]
  exact countP_set (by simpa using h)

theorem topo_lin {A : Array Oper} (hedge : ∀ (j : Nat) (o : Oper), A[j]? = some o → ∀ e ∈ o.after.toList, Region.binds .any e = true → e.on < j) :
    ∀ (fuel t : Nat) (listed : Array Bool) (L : List Nat), listed.size = A.size → (∀ j, j ∈ L ↔ listed[j]? = some true) → unl listed ≤ fuel →
      Topo A L (Region.linearise.go .any A fuel t listed []) := by
  intro fuel
  induction fuel with
  | zero =>
    intro t listed L hsz hL hf j hj
    rw [hL]
    have hjl : j < listed.size := by omega
    have : listed[j] = true := by
      cases hb : listed[j] with
      | true => rfl
      | false =>
        have h0 : unl listed = 0 := by omega
        unfold unl at h0
        rw [List.countP_eq_zero] at h0
        have := h0 listed[j] (by simp)
        simp [hb] at this
    rw [Array.getElem?_eq_getElem hjl, this]
  | succ fuel ih =>
    intro t listed L hsz hL hf
    simp only [Region.linearise.go]
    change Topo A L (match (Region.ready .any A listed)[t % (Region.ready .any A listed).length]? with
      | some i => Region.linearise.go .any A fuel (t / (Region.ready .any A listed).length) (listed.setIfInBounds i true) [i]
      | none => [].reverse)
    cases hi : (Region.ready .any A listed)[t % (Region.ready .any A listed).length]? with
    | none =>
      have hnil : Region.ready .any A listed = [] := by
        cases hr : Region.ready .any A listed with
        | nil => rfl
        | cons x xs =>
          rw [hr] at hi
          have hlt : t % (x :: xs).length < (x :: xs).length := Nat.mod_lt _ (by simp)
          simp at hi
          simp at hlt
          omega
      exact fun j hj => (hL j).2 (edges_have hedge hsz hnil j hj)
    | some i =>
      simp only []
      rw [linearise_go_acc, List.reverse_singleton, List.singleton_append]
      have hm := List.mem_of_getElem? hi
      unfold Region.ready at hm
      rw [List.mem_filter] at hm
      obtain ⟨h1, h2⟩ := hm
      have hiA : i < A.size := by simpa using h1
      have hil : i < listed.size := by omega
      simp only [Bool.and_eq_true, Array.getD_eq_getD_getElem?, Array.getElem?_eq_getElem hil, Option.getD_some, Array.getElem?_eq_getElem hiA, Option.map_some, Bool.not_eq_true'] at h2
      obtain ⟨h3, h4⟩ := h2
      have hlf : listed[i]? = some false := by rw [Array.getElem?_eq_getElem hil, h3]
      refine ⟨?_, ⟨A[i], Array.getElem?_eq_getElem hiA, ?_⟩, ih _ _ _ (by simpa using hsz) ?_ (by have := unl_set hlf; omega)⟩
      · rw [hL, hlf]; simp
      · intro e he hb
        rw [Array.all_eq_true'] at h4
        have := h4 e (by simpa using he)
        rw [hb] at this
        simp only [Bool.not_true, Bool.false_or] at this
        rw [hL]
        cases hx : listed[e.on]? with
        | none => rw [hx] at this; simp at this
        | some b => rw [hx] at this; simp at this; rw [this]
      · intro j
        simp only [List.mem_cons, hL, Array.getElem?_setIfInBounds]
        by_cases hij : i = j
        · subst hij; simp [hil]
        · simp [hij, Ne.symm hij]

theorem topo_schedule {A : Array Oper} (hedge : ∀ (j : Nat) (o : Oper), A[j]? = some o → ∀ e ∈ o.after.toList, Region.binds .any e = true → e.on < j) (t : Nat) :
    Topo A [] (Region.schedule true A t) := by
  simp only [Region.schedule, Bool.true_or, if_true]
  refine topo_lin hedge _ _ _ _ (by simp) ?_ ?_
  · intro j; simp [Array.getElem?_replicate]
  · unfold unl; exact Nat.le_trans (List.countP_le_length) (by simp)
end Go.Rm
end

section
/- The engine, part 22: regions that draw their order: the simulation. -/
set_option linter.unusedSimpArgs false
set_option linter.unusedVariables false
namespace Go.Rm
section
variable {E : Env} {c : Cfg} {A : Array Oper} {k : List It} {T P R : List (Nat × List Nat)} {L pend : List Nat} {early : List (Nat × Nat)} {ρ ρ0 : Nat → Hnd} {s s' : S} {a : Act} {w : World} {Fs : Nat → FP} {w0 : World} {F0 : FP}

theorem wantS_congr {o : Oper} {b : Bool} (h : wantS A o s b) (he : ∀ t ∈ o.looksAt A, lookE s'.env t = lookE s.env t) : wantS A o s' b := by
  unfold wantS at *
  split at h
  · exact h
  · rename_i j want hg
    obtain ⟨v, hv, hb⟩ := h
    refine ⟨v, ?_, hb⟩
    rw [← hv]
    unfold guardOf
    split
    · rename_i o' ho'
      split
      · rename_i t ht
        have : t ∈ o.looksAt A := by
          unfold Oper.looksAt
          refine List.mem_append.2 (.inr ?_)
          rw [hg]
          have : A[j]? = some o' := by simpa using ho'
          simp [this, ht]
        rw [he t this]
      · rfl
    · rfl

theorem opd_env {x : Operand} (h : ∀ t, x = .tmp t → lookE s'.env t = lookE s.env t) : s'.opd x = s.opd x := by
  cases x with
  | tmp t => exact h t rfl
  | _ => rfl

theorem Stab.move {j : Nat} (h : Stab c A j s) (hk : kAt A j = .ben) (hh : s'.heap = s.heap ∨ chkAt c.D A j = false)
    (henv : ∀ o, A[j]? = some o → (∀ t ∈ o.looksAt A, lookE s'.env t = lookE s.env t) ∧ (∀ t, o.dst = some t → lookE s'.env t = lookE s.env t)) : Stab c A j s' := by
  obtain ⟨o, ho, h⟩ := h
  obtain ⟨h1, h2⟩ := henv o ho
  refine ⟨o, ho, ?_⟩
  rcases h with ⟨hw, e, he, hp, hhp, hd⟩ | ⟨hw, hd⟩
  · left
    refine ⟨wantS_congr hw h1, ?_⟩
    have hk' : opK o.op = .ben := by simpa [kAt, ho] using hk
    rcases hh with hh | hh
    · refine ⟨e, ?_, hp, hhp.trans hh.symm, fun t ht => ?_⟩
      · rw [← he]; exact stepOp_congr o.op (fun x hx => opd_env fun t ht => h1 t (looks_operand hx t ht)) hh
      · rw [h2 t ht]; exact hd t ht
    · refine ⟨{ e with heap := s'.heap }, ?_, hp, rfl, fun t ht => ?_⟩
      · have hn : needChk c.D o.op = false := by simpa [chkAt, ho] using hh
        rw [← ben_free hk' hn he s'.heap]
        exact stepOp_congr o.op (fun x hx => by
          rw [opd_env (s := s) (s' := s') fun t ht => h1 t (looks_operand hx t ht)]
          cases x <;> rfl) rfl
      · rw [h2 t ht]; exact hd t ht
  · right
    exact ⟨wantS_congr hw h1, fun t ht => by rw [h2 t ht]; exact hd t ht⟩

structure Inv (E : Env) (c : Cfg) (A : Array Oper) (k : List It) (T P R : List (Nat × List Nat)) (L pend : List Nat) (early : List (Nat × Nat)) (ρ0 ρ : Nat → Hnd) (s : S) (a : Act) (w : World) (Fs : Nat → FP) (w0 : World) (F0 : FP) : Prop where
  tl : T = P ++ R
  vc : VCd E c A k R s
  pp : ∀ j ∈ pend, j ∈ P.map (·.1)
  ep : ∀ p ∈ early, p.1 ∉ P.map (·.1)
  ls : ∀ j, j ∈ L ↔ (j ∈ P.map (·.1) ∧ j ∉ pend) ∨ j ∈ early.map (·.1)
  dc : ∀ (j : Nat) (o : Oper), j ∈ L → A[j]? = some o → ∀ e ∈ o.after.toList, Region.binds .any e = true → e.on ∈ L
  pr : PRel E c A pend early ρ s a w Fs w0 F0
  rho : ∀ n, n < c.k0 → ρ n = ρ0 n

variable (hp : PlanOK c.D A T) (hd : ∀ (j : Nat) (o : Oper), A[j]? = some o → dstOk c.N o.dst = true)
include hp

theorem Inv.befP (h : Inv E c A k T P R L pend early ρ0 ρ s a w Fs w0 F0) {y : Nat} (hy : y ∈ P.map (·.1)) : ∀ x ∈ bef A y, x ∈ P.map (·.1) := by
  obtain ⟨⟨y', ck⟩, hm, rfl⟩ := List.mem_map.1 hy
  obtain ⟨P1, P2, rfl⟩ := List.append_of_mem hm
  intro x hx
  have := (hp.go P1 y' ck (P2 ++ R) (by rw [h.tl]; simp)).1 x hx
  simp only [List.map_append, List.mem_append] at *
  exact .inl this

theorem Inv.befR (h : Inv E c A k T P R L pend early ρ0 ρ s a w Fs w0 F0) {y : Nat} {ck : List Nat} {R1 : List (Nat × List Nat)} (hR : R = (y, ck) :: R1) : ∀ x ∈ bef A y, x ∈ P.map (·.1) :=
  (hp.go P y ck R1 (by rw [h.tl, hR])).1

theorem Inv.befL (h : Inv E c A k T P R L pend early ρ0 ρ s a w Fs w0 F0) {y : Nat} {o : Oper} (ho : A[y]? = some o) (hr : ∀ e ∈ o.after.toList, Region.binds .any e = true → e.on ∈ L) :
    ∀ x ∈ bef A y, x ∈ L := bef_listed (L := fun j => j ∈ L) (fun j o hj => h.dc j o hj) ho hr

theorem Inv.clear (h : Inv E c A k T P R L pend early ρ0 ρ s a w Fs w0 F0) {y : Nat} {o : Oper} (ho : A[y]? = some o) (hL : ∀ x ∈ bef A y, x ∈ L) (hP : ∀ x ∈ bef A y, x ∈ P.map (·.1)) : clear A pend early o := by
  intro t ht
  refine ⟨fun j hj hd => ?_, fun p hpe hd => ?_⟩
  · unfold dstA at hd
    obtain ⟨oj, hoj, hdj⟩ := Option.bind_eq_some_iff.1 hd
    have hb := hp.reads y j o oj t ho ht hoj hdj
    rcases (h.ls j).1 (hL j hb) with ⟨_, h1⟩ | h1
    · exact h1 hj
    · obtain ⟨p, hpm, rfl⟩ := List.mem_map.1 h1
      exact h.ep p hpm (h.pp _ hj)
  · unfold dstA at hd
    obtain ⟨oj, hoj, hdj⟩ := Option.bind_eq_some_iff.1 hd
    exact h.ep p hpe (hP _ (hp.reads y p.1 o oj t ho ht hoj hdj))

theorem Inv.notP (h : Inv E c A k T P R L pend early ρ0 ρ s a w Fs w0 F0) {y : Nat} (hy : y ∈ R.map (·.1)) : y ∉ P.map (·.1) := by
  have := hp.nodup
  rw [h.tl, List.map_append, List.nodup_append] at this
  exact fun hP => this.2.2 _ hP _ hy rfl

theorem Inv.early_new (h : Inv E c A k T P R L pend early ρ0 ρ s a w Fs w0 F0) {y : Nat} (hy : y ∈ early.map (·.1)) : kAt A y = .new := by
  obtain ⟨p, hpm, rfl⟩ := List.mem_map.1 hy
  obtain ⟨o, T, d, t, h1, h2, _⟩ := h.pr.erl p hpm
  simp [kAt, h1, h2, opK]

/-- Writing z's destination leaves what pending ones look at and write. -/
theorem Inv.apart (h : Inv E c A k T P R L pend early ρ0 ρ s a w Fs w0 F0) {z : Nat} {oz : Oper} (hz : z ∉ P.map (·.1)) (hoz : A[z]? = some oz) {H : List Chunk} {x : AV} {j : Nat} (hj : j ∈ P.map (·.1)) :
    ∀ o, A[j]? = some o → (∀ t ∈ o.looksAt A, lookE (S.put { s with heap := H } oz.dst x).env t = lookE s.env t) ∧ (∀ t, o.dst = some t → lookE (S.put { s with heap := H } oz.dst x).env t = lookE s.env t) := by
  intro o ho
  have key : ∀ t, oz.dst ≠ some t → lookE (S.put { s with heap := H } oz.dst x).env t = lookE s.env t := by
    intro t ht
    cases hdz : oz.dst with
    | none => rfl
    | some t' =>
      have : t' ≠ t := fun e => ht (by rw [hdz, e])
      simp [S.put, lookE, this]
  refine ⟨fun t ht => key t fun hzt => hz ?_, fun t ht => key t fun hzt => hz ?_⟩
  · exact h.befP hp hj z (hp.reads j z o oz t ho ht hoz hzt)
  · rw [hp.dst z j oz o t hoz ho hzt ht]; exact hj

omit hp in
theorem put_heap {H : List Chunk} {dst : Option Tmp} {x : AV} : (S.put { s with heap := H } dst x).heap = H := by cases dst <;> rfl

omit hp in
theorem look_put {H : List Chunk} {dst : Option Tmp} {x y : AV} {t : Tmp} (h : lookE (S.put { s with heap := H } dst x).env t = some y) : (dst = some t ∧ y = x) ∨ (dst ≠ some t ∧ lookE s.env t = some y) := by
  cases dst with
  | none => exact .inr ⟨by simp, h⟩
  | some t' =>
    simp only [S.put, lookE] at h
    by_cases he : t' = t
    · subst he; simp at h; exact .inl ⟨rfl, h.symm⟩
    · rw [if_neg (by simpa using he)] at h; exact .inr ⟨by simpa using he, h⟩

/-- The verification condition goes on by an operation that leaves the heap. -/
theorem Inv.ben (h : Inv E c A k T P R L pend early ρ0 ρ s a w Fs w0 F0) {z : Nat} {ck : List Nat} {R1 : List (Nat × List Nat)} (hR : R = (z, ck) :: R1) (hk : kAt A z = .ben) (hzL : z ∉ L) :
    ∃ s', Inv E c A k T (P ++ [(z, ck)]) R1 L (z :: pend) early ρ0 ρ s' a w Fs w0 F0 := by
  have hzP : z ∉ P.map (·.1) := h.notP hp (by simp [hR])
  have hbef := h.befR hp hR
  have hvc := h.vc
  rw [hR] at hvc
  have hself : ∀ (o : Oper), A[z]? = some o → ∀ t ∈ o.looksAt A, o.dst ≠ some t := fun o ho t ht hdz => hzP (hbef z (hp.reads z z o o t ho ht ho hdz))
  -- what is common
  have key : ∀ (o : Oper) (x : AV), A[z]? = some o → VCd E c A k R1 (S.put { s with heap := s.heap } o.dst x) → Stab c A z (S.put { s with heap := s.heap } o.dst x) →
      ∃ s', Inv E c A k T (P ++ [(z, ck)]) R1 L (z :: pend) early ρ0 ρ s' a w Fs w0 F0 := by
    intro o x ho hv hst
    refine ⟨_, by rw [h.tl, hR]; simp, hv, ?_, ?_, ?_, h.dc, ?_, h.rho⟩
    · intro j hj
      rcases List.mem_cons.1 hj with rfl | hj
      · simp
      · have := h.pp j hj; simp only [List.map_append, List.mem_append]; exact .inl this
    · intro p hpe hm
      simp only [List.map_append, List.mem_append, List.map_cons, List.map_nil, List.mem_singleton] at hm
      rcases hm with hm | hm
      · exact h.ep p hpe hm
      · exact hzL ((h.ls z).2 (.inr (List.mem_map.2 ⟨p, hpe, hm⟩)))
    · intro j
      rw [h.ls j]
      simp only [List.map_append, List.mem_append, List.map_cons, List.map_nil, List.mem_singleton, List.mem_cons, not_or]
      constructor
      · rintro (⟨h1, h2⟩ | h1)
        · exact .inl ⟨.inl h1, fun e => hzP (e ▸ h1), h2⟩
        · exact .inr h1
      · rintro (⟨h1 | h1, h2, h3⟩ | h1)
        · exact .inl ⟨h1, h3⟩
        · exact absurd h1 (by simpa using h2)
        · exact .inr h1
    · have hr := h.pr
      refine ⟨hr.size, hr.defs, ?_, ?_, by rw [put_heap]; exact hr.sat, hr.gl, by rw [put_heap]; exact hr.k0, hr.gs, ?_, hr.erl, hr.enod, hr.keeps⟩
      · intro t y hy
        rcases look_put hy with ⟨h1, _⟩ | ⟨_, h2⟩
        · exact .inl ⟨z, by simp, by simp [dstA, ho, h1]⟩
        · rcases hr.env t y h2 with ⟨j, hj, hjd⟩ | h3 | h3
          · exact .inl ⟨j, by simp [hj], hjd⟩
          · exact .inr (.inl h3)
          · exact .inr (.inr h3)
      · intro t y hy
        rw [put_heap]
        rcases look_put hy with ⟨h1, _⟩ | ⟨_, h2⟩
        · exact .inl ⟨z, by simp, by simp [dstA, ho, h1]⟩
        · rcases hr.lt t y h2 with ⟨j, hj, hjd⟩ | h3
          · exact .inl ⟨j, by simp [hj], hjd⟩
          · exact .inr h3
      · intro j hj
        rcases List.mem_cons.1 hj with rfl | hj
        · exact ⟨hst, hk⟩
        · obtain ⟨h1, h2⟩ := hr.stab j hj
          exact ⟨h1.move h2 (.inl put_heap) (h.apart hp hzP ho (h.pp j hj)), h2⟩
  cases hvc with
  | op ho hdst hw hs hpre hval hlt hchk hv =>
    rename_i o e x
    have hb : opK o.op = .ben := by simpa [kAt, ho] using hk
    have hh := ben_heap hb hs
    rw [hh] at hv
    have hself' := hself o ho
    have hcl : ∀ t ∈ o.looksAt A, lookE (S.put { s with heap := s.heap } o.dst x).env t = lookE s.env t := by
      intro t ht
      cases hdz : o.dst with
      | none => rfl
      | some t' =>
        have : t' ≠ t := fun e => hself' t ht (by rw [hdz, e])
        simp [S.put, lookE, this]
    refine key o x ho hv ⟨o, ho, .inl ⟨wantS_congr hw hcl, e, ?_, hpre, hh.trans put_heap.symm, fun t ht => ⟨x, by simp [S.put, ht, lookE], hval, hlt⟩⟩⟩
    · rw [← hs]
      exact stepOp_congr o.op (fun x hx => opd_env fun t ht => hcl t (looks_operand hx t ht)) put_heap
  | skip ho hdst hw hck hv =>
    rename_i o
    have hself' := hself o ho
    have hcl : ∀ t ∈ o.looksAt A, lookE (S.put { s with heap := s.heap } o.dst (.v undef)).env t = lookE s.env t := by
      intro t ht
      cases hdz : o.dst with
      | none => rfl
      | some t' =>
        have : t' ≠ t := fun e => hself' t ht (by rw [hdz, e])
        simp [S.put, lookE, this]
    exact key o (.v undef) ho hv ⟨o, ho, .inr ⟨wantS_congr hw hcl, fun t ht => by simp [S.put, ht, lookE]⟩⟩
  | call σ ho hdst hw hact => simp [kAt, ho, hact] at hk

omit hp in
theorem map_inj {α β : Type} {f : α → β} : ∀ {l : List α}, (l.map f).Nodup → ∀ {x y : α}, x ∈ l → y ∈ l → f x = f y → x = y
  | [], _, x, y, h, _, _ => by simp at h
  | z :: r, hn, x, y, hx, hy, he => by
    simp only [List.map_cons, List.nodup_cons] at hn
    rcases List.mem_cons.1 hx with h1 | h1 <;> rcases List.mem_cons.1 hy with h2 | h2
    · rw [h1, h2]
    · exact absurd (List.mem_map.2 ⟨y, h2, by rw [← he, h1]⟩) hn.1
    · exact absurd (List.mem_map.2 ⟨x, h1, by rw [he, h2]⟩) hn.1
    · exact map_inj hn.2 h1 h2 he

omit hp in
theorem Inv.pendL (h : Inv E c A k T P R L pend early ρ0 ρ s a w Fs w0 F0) {j : Nat} (hj : j ∈ pend) : j ∉ L := by
  intro hL
  rcases (h.ls j).1 hL with ⟨_, h1⟩ | h1
  · exact h1 hj
  · obtain ⟨p, hpm, rfl⟩ := List.mem_map.1 h1
    exact h.ep p hpm (h.pp _ hj)

/-- Pending ones stand a step that is not of theirs. -/
theorem Inv.stab (h : Inv E c A k T P R L pend early ρ0 ρ s a w Fs w0 F0) {z : Nat} {ck : List Nat} {R1 : List (Nat × List Nat)} (hR : R = (z, ck) :: R1) (hb : ∀ x ∈ bef A z, x ∈ L)
    {o : Oper} (ho : A[z]? = some o) (hk : kAt A z ≠ .ben) {H : List Chunk} {x : AV} (hck : chkAll c A (S.put { s with heap := H } o.dst x) ck) :
    ∀ j ∈ pend, Stab c A j (S.put { s with heap := H } o.dst x) ∧ kAt A j = .ben := by
  intro j hj
  obtain ⟨h1, h2⟩ := h.pr.stab j hj
  refine ⟨?_, h2⟩
  have hjP := h.pp j hj
  have hzP : z ∉ P.map (·.1) := h.notP hp (by simp [hR])
  rcases ((hp.go P z ck R1 (by rw [h.tl, hR])).2 j hjP).2 with h3 | h3 | h3 | h3 | h3
  · exact absurd h2 h3
  · exact h1.move h2 (.inr h3) (h.apart hp hzP ho hjP)
  · exact absurd h3 hk
  · exact absurd (hb j h3) (h.pendL hj)
  · exact chkAll_mem hck j h3

/-- The verification condition goes on by a variable that the machine has made. -/
theorem Inv.new (hc : CfgOk c) (h : Inv E c A k T P R L pend early ρ0 ρ s a w Fs w0 F0) {z : Nat} {ck : List Nat} {R1 : List (Nat × List Nat)} (hR : R = (z, ck) :: R1) (hzL : z ∈ L) :
    ∃ early' ρ' s' Fs', Inv E c A k T (P ++ [(z, ck)]) R1 L pend early' ρ0 ρ' s' a w Fs' w0 F0 := by
  have hzP : z ∉ P.map (·.1) := h.notP hp (by simp [hR])
  have hze : z ∈ early.map (·.1) := by
    rcases (h.ls z).1 hzL with ⟨h1, _⟩ | h1
    · exact absurd h1 hzP
    · exact h1
  have hkn := h.early_new hp hze
  obtain ⟨⟨z', b⟩, hpm, rfl⟩ := List.mem_map.1 hze
  obtain ⟨o, T', d, t, ho, hop, hdst, hD, htm, hbl, hnF, hgb⟩ := h.pr.erl _ hpm
  have hb : ∀ x ∈ bef A z', x ∈ L := h.befL hp ho fun e he hbd => h.dc z' o hzL ho e he hbd
  have hvc := h.vc
  rw [hR] at hvc
  have hr := h.pr
  cases hvc with
  | call σ ho' hd' hw hact => simp [kAt, ho', hact] at hkn
  | skip ho' hd' hw hck hv =>
    rw [ho] at ho'; cases ho'
    obtain ⟨h1, _⟩ := hp.new z' o ho (by simp [hop, opK])
    simp [wantS, h1] at hw
  | op ho' hd' hw hs hpre hval hlt hchk hv =>
    rename_i o' e x
    rw [ho] at ho'; cases ho'
    have hst := h.stab hp hR hb ho (by simp [hkn]) hchk
    rw [hop] at hs
    simp only [stepOp, hD, Option.map_some, Option.some.injEq] at hs
    subst hs
    simp only at hv hval hlt hst hchk
    have td := hc.D T' d hD
    have hadd := hr.sat.add (w' := w) (h := ⟨.pointer (some ⟨b, 0, none⟩), [], [], T'⟩) (x := .cells d.zero) (F := (· = b)) rfl
      ⟨td.parts, b, rfl, by simpa [closed_cells td.closed ρ] using hbl, fun k => Iff.rfl⟩ (AV.ltL_mono (Nat.zero_le _) _ td.closed) (fun _ _ _ => rfl) (Nat.le_refl _)
      (fun k hk => by
        subst hk
        obtain ⟨fz, h1, _⟩ := hbl
        exact ⟨hgb, (Array.getElem?_eq_some_iff.1 h1).1⟩)
      (fun n k hn hk => hnF ⟨n, hk ▸ hn⟩)
    have hρ : ∀ n, n < s.heap.length → ρ n = updN ρ s.heap.length ⟨.pointer (some ⟨b, 0, none⟩), [], [], T'⟩ n := fun n hn => (updN_ne _ _ (by omega)).symm
    have hother : ∀ p ∈ early, p.1 ≠ z' → p.2 ≠ b := by
      intro p hpe hne h2
      have := map_inj hr.enod.1 hpe hpm h2
      exact hne (by rw [this])
    refine ⟨early.filter (fun p => p.1 ≠ z'), _, _, updN Fs s.heap.length (· = b), by rw [h.tl, hR]; simp, hv, ?_, ?_, ?_, h.dc, ⟨hr.size, hr.defs, ?_, ?_, by rw [put_heap]; exact hadd, hr.gl, by rw [put_heap]; simp; have := hr.k0; omega, hr.gs, hst, ?_, ?_, ?_⟩, ?_⟩
    · intro j hj; have := h.pp j hj; simp only [List.map_append, List.mem_append]; exact .inl this
    · intro p hpe hm
      simp only [List.mem_filter, decide_eq_true_eq] at hpe
      simp only [List.map_append, List.mem_append, List.map_cons, List.map_nil, List.mem_singleton] at hm
      rcases hm with hm | hm
      · exact h.ep p hpe.1 hm
      · exact hpe.2 hm
    · intro j
      rw [h.ls j]
      simp only [List.map_append, List.mem_append, List.map_cons, List.map_nil, List.mem_singleton, List.mem_map, List.mem_filter, decide_eq_true_eq]
      constructor
      · rintro (⟨h1, h2⟩ | ⟨p, h1, rfl⟩)
        · exact .inl ⟨.inl (by simpa using h1), h2⟩
        · by_cases hj : p.1 = z'
          · exact .inl ⟨.inr hj, fun hpd => h.pendL hpd (hj ▸ hzL)⟩
          · exact .inr ⟨p, ⟨h1, hj⟩, rfl⟩
      · rintro (⟨h1 | h1, h2⟩ | ⟨p, ⟨h1, h2⟩, rfl⟩)
        · exact .inl ⟨by simpa using h1, h2⟩
        · exact .inr ⟨_, hpm, h1.symm⟩
        · exact .inr ⟨p, h1, rfl⟩
    · intro t' y hy
      rcases look_put hy with ⟨h1, rfl⟩ | ⟨hne, h2⟩
      · rw [hdst] at h1; cases h1
        refine .inr (.inr ?_)
        rw [htm, hval]
        simp [AV.val, shiftPtr, Addr.add_eq]
      · rcases hr.env t' y h2 with h3 | ⟨p, h3, h4⟩ | h3
        · exact .inl h3
        · refine .inr (.inl ⟨p, ?_, h4⟩)
          simp only [List.mem_filter, decide_eq_true_eq]
          refine ⟨h3, fun e => hne ?_⟩
          rw [e] at h4
          simpa [dstA, ho] using h4
        · rcases hr.lt t' y h2 with h4 | h4
          · exact .inl h4
          · exact .inr (.inr (by rw [h3, AV.val_congr hρ y h4]))
    · intro t' y hy
      rw [put_heap]
      rcases look_put hy with ⟨h1, rfl⟩ | ⟨hne, h2⟩
      · exact .inr (hlt _ (by simp [AV.lt]))
      · rcases hr.lt t' y h2 with h4 | h4
        · exact .inl h4
        · exact .inr (AV.lt_mono (by simp) y h4)
    · intro p hpe
      simp only [List.mem_filter, decide_eq_true_eq] at hpe
      obtain ⟨o, T, d, t, h1, h2, h3, h4, h5, h6, h7, h8⟩ := hr.erl p hpe.1
      refine ⟨o, T, d, t, h1, h2, h3, h4, h5, h6, ?_, h8⟩
      rintro ⟨n, hn⟩
      by_cases hnl : n = s.heap.length
      · subst hnl; rw [updN_same] at hn; exact hother p hpe.1 hpe.2 hn
      · rw [updN_ne _ _ hnl] at hn; exact h7 ⟨n, hn⟩
    · exact ⟨(hr.enod.1.sublist (List.filter_sublist.map _)), (hr.enod.2.sublist (List.filter_sublist.map _))⟩
    · have hk := hr.keeps
      refine ⟨hk.os, hk.tape, hk.output, hk.size, hk.block, fun k hkk => hk.foot k ?_⟩
      rcases hkk with ⟨n, hn⟩ | ⟨p, hpe, hpk⟩
      · by_cases hnl : n = s.heap.length
        · subst hnl; rw [updN_same] at hn; exact .inr ⟨_, hpm, hn.symm⟩
        · rw [updN_ne _ _ hnl] at hn; exact .inl ⟨n, hn⟩
      · simp only [List.mem_filter] at hpe
        exact .inr ⟨p, hpe.1, hpk⟩
    · intro n hn
      rw [← hρ n (Nat.lt_of_lt_of_le hn hr.k0)]; exact h.rho n hn

/-- The verification condition goes on to a place. -/
theorem Inv.advance (hc : CfgOk c) : ∀ {R1 : List (Nat × List Nat)} {P R : List (Nat × List Nat)} {pend : List Nat} {early : List (Nat × Nat)} {ρ : Nat → Hnd} {s : S} {Fs : Nat → FP} {R2 : List (Nat × List Nat)}, Inv E c A k T P R L pend early ρ0 ρ s a w Fs w0 F0 → R = R1 ++ R2 →
    (∀ z ∈ R1.map (·.1), (kAt A z = .ben ∧ z ∉ L) ∨ z ∈ L) → ∃ pend' early' ρ' s' Fs', Inv E c A k T (P ++ R1) R2 L pend' early' ρ0 ρ' s' a w Fs' w0 F0 := by
  intro R1
  induction R1 with
  | nil => intro P R pend early ρ s Fs R2 h hR _; simp only [List.nil_append] at hR; subst hR; exact ⟨pend, early, ρ, s, Fs, by simpa using h⟩
  | cons q R1 ih =>
    intro P R pend early ρ s Fs R2 h hR hz
    obtain ⟨z, ck⟩ := q
    have hrest : ∀ z ∈ R1.map (·.1), (kAt A z = .ben ∧ z ∉ L) ∨ z ∈ L := fun y hy => hz y (by simp only [List.map_cons, List.mem_cons]; exact .inr hy)
    rcases hz z (by simp) with ⟨h1, h2⟩ | h2
    · obtain ⟨s', h'⟩ := h.ben hp hR h1 h2
      obtain ⟨p1, e1, r1, s1, F1, hh⟩ := ih h' rfl hrest
      exact ⟨p1, e1, r1, s1, F1, by simpa using hh⟩
    · obtain ⟨e0, r0, s0, F0', h'⟩ := h.new hp hc hR h2
      obtain ⟨p1, e1, r1, s1, F1, hh⟩ := ih h' rfl hrest
      exact ⟨p1, e1, r1, s1, F1, by simpa using hh⟩

end
end Go.Rm
end

section
/- The engine, part 23: regions that draw their order: whoever's turn it is; the whole. -/
set_option linter.unusedSimpArgs false
set_option linter.unusedVariables false
set_option linter.unusedSectionVars false
namespace Go.Rm

/-- What an operation does, short of a call. -/
def Does (P : Program) (A : Array Oper) (a : Act) (w : World) (o : Oper) (v : Value) (w' : World) : Prop :=
  (Region.wanted o (yielded A a.tmps) = true ∧ ((execOp a.eval o).run P w = .ok (.value v) w' ∨ ((execOp a.eval o).run P w = .ok .skip w' ∧ v = undef))) ∨
  (Region.wanted o (yielded A a.tmps) = false ∧ v = undef ∧ w' = w)

theorem Does.good {P : Program} {f : FuncId} {A : Array Oper} {a : Act} {w w' : World} {o : Oper} {v : Value} {y : Nat} {rest : List Nat} {k : List Item} {R : Ending → World → Prop}
    (h : Does P A a w o v w') (ho : A[y]? = some o) (hg : Good P f (.inRegion A rest :: k) (a.put o.dst v) w' R) : Good P f (.inRegion A (y :: rest) :: k) a w R := by
  rcases h with ⟨h1, h2 | ⟨h2, rfl⟩⟩ | ⟨h1, rfl, rfl⟩
  · exact hg.step fun b cs _ => step_op_value ho h1 h2
  · exact hg.step fun b cs _ => step_op_skip_next ho h1 h2
  · exact hg.step fun b cs _ => step_op_unwanted ho h1

theorem Keeps.frame {w w' : World} {F F' G : FP} (h : Keeps w w' F F') : Keeps w w' (fun k => F k ∨ G k) (fun k => F' k ∨ G k) :=
  ⟨h.os, h.tape, h.output, h.size, fun k hk hF => h.block k hk fun h => hF (.inl h), fun k hk => by
    rcases hk with hk | hk
    · exact (h.foot k hk).imp .inl id
    · exact .inl (.inr hk)⟩

section
variable {E : Env} {c : Cfg} {A : Array Oper} {k : List It} {T P R : List (Nat × List Nat)} {L pend : List Nat} {early : List (Nat × Nat)} {ρ ρ0 ρ' : Nat → Hnd} {s s' : S} {a : Act} {w w' : World} {Fs Fs' : Nat → FP} {w0 : World} {F0 : FP}

theorem put_tmp {a : Act} {dst : Option Tmp} {v : Value} {t : Tmp} (h : dst ≠ some t) : (a.put dst v).tmps[t]? = a.tmps[t]? := by
  cases dst with
  | none => rfl
  | some t' =>
    have : t' ≠ t := fun e => h (by rw [e])
    simp [Act.put, Array.getElem?_setIfInBounds_ne this]

theorem put_tmp_same {a : Act} {N t : Nat} {v : Value} (hs : a.tmps.size = N) (hd : dstOk N (some t) = true) : (a.put (some t) v).tmps[t]? = some v := by
  simp only [dstOk, decide_eq_true_eq] at hd
  simp [Act.put, hs, hd]

/-- A step of the machine's, of an operation that is none of the early ones. -/
theorem PRel.exec (hc : CfgOk c) (hp : PlanOK c.D A T) (hr : PRel E c A pend early ρ s a w Fs w0 F0) {y : Nat} {o : Oper} (ho : A[y]? = some o) (hd : dstOk c.N o.dst = true) (hye : y ∉ early.map (·.1))
    {v : Value} {w' : World} {Fs' : Nat → FP} (hk : Keeps w w' (allF Fs) (allF Fs')) :
    (a.put o.dst v).tmps.size = c.N ∧ (a.put o.dst v).defers = [] ∧ c.Gl w' ∧ c.g ≤ w'.heap.size ∧
    (∀ p ∈ early, ∃ o1 T d t, A[p.1]? = some o1 ∧ o1.op = .alloc T ∧ o1.dst = some t ∧ c.D T = some d ∧ (a.put o.dst v).tmps[t]? = some (.pointer (some ⟨p.2, 0, none⟩)) ∧ blockIs w' p.2 (cellsL Go.Rm.ρ0 d.zero) T ∧ ¬ allF Fs' p.2 ∧ c.g ≤ p.2) ∧
    Keeps w0 w' F0 (fun k => allF Fs' k ∨ ∃ p ∈ early, p.2 = k) := by
  refine ⟨(put_size ..).trans hr.size, (put_defs ..).trans hr.defs, hc.gl _ _ _ _ hr.gl hk (fun k ⟨n, hn⟩ => (hr.sat.fits n k hn).1), Nat.le_trans hr.gs hk.size, ?_, hr.keeps.trans hk.frame⟩
  intro p hpe
  obtain ⟨o1, T1, d, t, h1, h2, h3, h4, h5, h6, h7, h8⟩ := hr.erl p hpe
  have hlt : p.2 < w.heap.size := by obtain ⟨fz, h1, _⟩ := h6; exact (Array.getElem?_eq_some_iff.1 h1).1
  refine ⟨o1, T1, d, t, h1, h2, h3, h4, ?_, blockIs.congr (hk.block _ hlt h7) h6, ?_, h8⟩
  · rw [put_tmp, h5]
    intro e
    exact hye (List.mem_map.2 ⟨p, hpe, hp.dst p.1 y o1 o t h1 ho h3 e⟩)
  · intro h
    rcases hk.foot _ h with h | h
    · exact h7 h
    · omega

variable (hp : PlanOK c.D A T)
include hp

theorem Inv.dcs (h : Inv E c A k T P R L pend early ρ0 ρ s a w Fs w0 F0) {y : Nat} {o : Oper} (ho : A[y]? = some o) (he : ∀ e ∈ o.after.toList, Region.binds .any e = true → e.on ∈ L) :
    ∀ (j : Nat) (o : Oper), j ∈ y :: L → A[j]? = some o → ∀ e ∈ o.after.toList, Region.binds .any e = true → e.on ∈ y :: L := by
  intro j o' hj ho' e hee hb
  rcases List.mem_cons.1 hj with rfl | hj
  · rw [ho] at ho'; cases ho'; exact List.mem_cons_of_mem _ (he e hee hb)
  · exact List.mem_cons_of_mem _ (h.dc j o' hj ho' e hee hb)

/-- A pending one's turn. -/
theorem Inv.turn_pend (hc : CfgOk c) (hd : ∀ (j : Nat) (o : Oper), A[j]? = some o → dstOk c.N o.dst = true) (h : Inv E c A k T P R L pend early ρ0 ρ s a w Fs w0 F0) {y : Nat} {o : Oper} (ho : A[y]? = some o)
    (he : ∀ e ∈ o.after.toList, Region.binds .any e = true → e.on ∈ L) (hy : y ∈ pend) :
    ∃ v w' ρ' Fs', Does c.P A a w o v w' ∧ Inv E c A k T P R (y :: L) (pend.filter fun j => j ≠ y) early ρ0 ρ' s (a.put o.dst v) w' Fs' w0 F0 := by
  have hyP := h.pp y hy
  have hcl := h.clear hp ho (h.befL hp ho he) (h.befP hp hyP)
  have hr := h.pr
  have hye : y ∉ early.map (·.1) := fun hm => by
    obtain ⟨p, hpm, rfl⟩ := List.mem_map.1 hm
    exact h.ep p hpm hyP
  have hrel := hr.only hcl
  obtain ⟨hst, hkb⟩ := hr.stab y hy
  obtain ⟨o', ho', hst⟩ := hst
  rw [ho] at ho'; cases ho'
  have key : ∀ v w' ρ' Fs', Does c.P A a w o v w' → Sat c.g ρ' s.heap w' Fs' → (∀ n, n < s.heap.length → ρ' n = ρ n) → Keeps w w' (allF Fs) (allF Fs') →
      (∀ t, o.dst = some t → ∃ x, lookE s.env t = some x ∧ v = x.val ρ' ∧ x.lt s.heap.length = true) →
      ∃ v w' ρ' Fs', Does c.P A a w o v w' ∧ Inv E c A k T P R (y :: L) (pend.filter fun j => j ≠ y) early ρ0 ρ' s (a.put o.dst v) w' Fs' w0 F0 := by
    intro v w' ρ' Fs' hdo hsat hsame hk hdst
    obtain ⟨e1, e2, e3, e4, e5, e6⟩ := hr.exec hc hp ho (hd y o ho) hye (v := v) hk
    refine ⟨v, w', ρ', Fs', hdo, h.tl, h.vc, ?_, h.ep, ?_, h.dcs hp ho he, ⟨e1, e2, ?_, ?_, hsat, e3, hr.k0, e4, ?_, e5, hr.enod, e6⟩, ?_⟩
    · intro j hj; exact h.pp j (List.mem_filter.1 hj).1
    · intro j
      simp only [List.mem_cons, h.ls j, List.mem_filter, decide_eq_true_eq, ne_eq, not_and, Classical.not_not]
      constructor
      · rintro (rfl | ⟨h1, h2⟩ | h1)
        · exact .inl ⟨hyP, fun _ => rfl⟩
        · exact .inl ⟨h1, fun h3 => absurd h3 h2⟩
        · exact .inr h1
      · rintro (⟨h1, h2⟩ | h1)
        · by_cases hj : j = y
          · exact .inl hj
          · exact .inr (.inl ⟨h1, fun h3 => hj (h2 h3)⟩)
        · exact .inr (.inr h1)
    · intro t x hx
      by_cases hdt : o.dst = some t
      · obtain ⟨x', h1, h2, h3⟩ := hdst t hdt
        rw [hx] at h1; cases h1
        refine .inr (.inr ?_)
        rw [hdt, put_tmp_same hr.size (hdt ▸ hd y o ho), h2]
      · rcases hr.env t x hx with ⟨j, hj, hjd⟩ | h3 | h3
        · refine .inl ⟨j, ?_, hjd⟩
          simp only [List.mem_filter, decide_eq_true_eq]
          refine ⟨hj, fun e => hdt ?_⟩
          rw [e] at hjd; simpa [dstA, ho] using hjd
        · exact .inr (.inl h3)
        · rcases hr.lt t x hx with ⟨j, hj, hjd⟩ | h4
          · refine .inl ⟨j, ?_, hjd⟩
            simp only [List.mem_filter, decide_eq_true_eq]
            refine ⟨hj, fun e => hdt ?_⟩
            rw [e] at hjd; simpa [dstA, ho] using hjd
          · exact .inr (.inr (by rw [put_tmp hdt, h3, AV.val_congr (fun n hn => (hsame n hn).symm) x h4]))
    · intro t x hx
      by_cases hdt : o.dst = some t
      · obtain ⟨x', h1, h2, h3⟩ := hdst t hdt
        rw [hx] at h1; cases h1
        exact .inr h3
      · rcases hr.lt t x hx with ⟨j, hj, hjd⟩ | h4
        · refine .inl ⟨j, ?_, hjd⟩
          simp only [List.mem_filter, decide_eq_true_eq]
          refine ⟨hj, fun e => hdt ?_⟩
          rw [e] at hjd; simpa [dstA, ho] using hjd
        · exact .inr h4
    · intro j hj; exact hr.stab j (List.mem_filter.1 hj).1
    · intro n hn; rw [hsame n (Nat.lt_of_lt_of_le hn hr.k0)]; exact h.rho n hn
  rcases hst with ⟨hw, e, hs, hpre, hhp, hx⟩ | ⟨hw, hx⟩
  · obtain ⟨v, w', ρ', Fs', hrun, heff⟩ := stepOp_sound hc hrel ((step_only o).trans hs) hpre
    have hlt := heff.lt
    rw [hhp] at hlt
    refine key v w' ρ' Fs' (.inl ⟨wanted_of hr hcl hw, hrun⟩) (hhp ▸ heff.sat) heff.same heff.keeps fun t ht => ?_
    obtain ⟨x, h1, h2, h3⟩ := hx t ht
    exact ⟨x, h1, by rw [heff.val, h2], h3 _ hlt⟩
  · exact key undef w ρ Fs (.inr ⟨wanted_of hr hcl hw, rfl, rfl⟩) hr.sat (fun _ _ => rfl) (.refl _ _) fun t ht => ⟨_, hx t ht, by simp [AV.val], by simp [AV.lt]⟩

omit hp in
theorem Sat.worldI {g : Nat} {H : List Chunk} (hs : Sat g ρ H w Fs) (hsame : ∀ n k, Fs n k → w'.heap[k]? = w.heap[k]?) (hsize : w.heap.size ≤ w'.heap.size) : Sat g ρ H w' Fs :=
  ⟨hs.one, fun n x hx => Chunk.holds_congr (fun k hk => hsame n k hk) (hs.holds n x hx), hs.apart, hs.out, fun n k hk => ⟨(hs.fits n k hk).1, Nat.lt_of_lt_of_le (hs.fits n k hk).2 hsize⟩, hs.lt⟩

/-- A variable is made ahead of its turn in the plan. -/
theorem Inv.turn_new (hc : CfgOk c) (hd : ∀ (j : Nat) (o : Oper), A[j]? = some o → dstOk c.N o.dst = true) (h : Inv E c A k T P R L pend early ρ0 ρ s a w Fs w0 F0) {y : Nat} {o : Oper} (ho : A[y]? = some o)
    (he : ∀ e ∈ o.after.toList, Region.binds .any e = true → e.on ∈ L) (hyL : y ∉ L) (hyP : y ∉ P.map (·.1)) (hk : kAt A y = .new) :
    ∃ v w', Does c.P A a w o v w' ∧ Inv E c A k T P R (y :: L) pend (early ++ [(y, w.heap.size)]) ρ0 ρ s (a.put o.dst v) w' Fs w0 F0 := by
  have hr := h.pr
  have hye : y ∉ early.map (·.1) := fun hm => hyL ((h.ls y).2 (.inr hm))
  obtain ⟨hg, ⟨t, hdt⟩, T', d, hop, hD⟩ := hp.new y o ho (by simpa [kAt, ho] using hk)
  have td := hc.D T' d hD
  obtain ⟨z, hz, hzc⟩ := td.zero
  have hkp : Keeps w (w.alloc (.cells z.cells T')) (allF Fs) (allF Fs) := by
    refine ⟨rfl, rfl, rfl, by simp, fun k hk _ => ?_, fun k hk => .inl hk⟩
    simp only [World.alloc, Array.getElem?_push]; rw [if_neg (by omega)]
  have hrun : (execOp a.eval o).run c.P w = .ok (.value (.pointer (some ⟨w.heap.size, 0, none⟩))) (w.alloc (.cells z.cells T')) := by
    obtain ⟨dst, op, ty, pos, af, gd⟩ := o
    simp only at hop; subst hop
    simp [execOp, Instr.alloc, hz, newVar, newRow]
  obtain ⟨e1, e2, e3, e4, e5, e6⟩ := hr.exec hc hp ho (hd y o ho) hye (v := .pointer (some ⟨w.heap.size, 0, none⟩)) hkp
  have hnew : ∀ b, (∃ p ∈ early, p.2 = b) → b < w.heap.size := by
    rintro b ⟨p, hpe, rfl⟩
    obtain ⟨o1, T1, d, t, h1, h2, h3, h4, h5, ⟨fz, h6, _⟩, h7, h8⟩ := hr.erl p hpe
    exact (Array.getElem?_eq_some_iff.1 h6).1
  have hbl : blockIs (w.alloc (.cells z.cells T')) w.heap.size (cellsL Go.Rm.ρ0 d.zero) T' := by
    refine ⟨(0, 0), ?_, .inl rfl⟩
    simp only [World.alloc, Array.getElem?_push, if_true]
    rw [← hzc]
  refine ⟨_, _, .inl ⟨by simp [Region.wanted, hg], .inl hrun⟩, h.tl, h.vc, h.pp, ?_, ?_, h.dcs hp ho he, ⟨e1, e2, ?_, hr.lt, hr.sat.worldI (fun n k hk => ?_) (by simp), e3, hr.k0, e4, hr.stab, ?_, ?_, ?_⟩, h.rho⟩
  · intro p hpe
    rcases List.mem_append.1 hpe with hpe | hpe
    · exact h.ep p hpe
    · simp only [List.mem_singleton] at hpe; subst hpe; exact hyP
  · intro j
    simp only [List.mem_cons, h.ls j, List.map_append, List.mem_append, List.map_cons, List.map_nil, List.mem_singleton]
    constructor
    · rintro (rfl | h1 | h1)
      · exact .inr (.inr (by simp))
      · exact .inl h1
      · exact .inr (.inl h1)
    · rintro (h1 | h1 | h1)
      · exact .inr (.inl h1)
      · exact .inr (.inr h1)
      · exact .inl (by simpa using h1)
  · intro t' x hx
    by_cases hdt' : o.dst = some t'
    · exact .inr (.inl ⟨(y, w.heap.size), by simp, by simp [dstA, ho, hdt']⟩)
    · rcases hr.env t' x hx with h1 | ⟨p, h1, h2⟩ | h1
      · exact .inl h1
      · exact .inr (.inl ⟨p, by simp [h1], h2⟩)
      · exact .inr (.inr (by rw [put_tmp hdt', h1]))
  · have := (hr.sat.fits n k hk).2
    simp only [World.alloc, Array.getElem?_push]
    rw [if_neg (by omega)]
  · intro p hpe
    rcases List.mem_append.1 hpe with hpe | hpe
    · exact e5 p hpe
    · simp only [List.mem_singleton] at hpe; subst hpe
      refine ⟨o, T', d, t, ho, hop, hdt, hD, ?_, hbl, ?_, hr.gs⟩
      · rw [hdt]; exact put_tmp_same hr.size (hdt ▸ hd y o ho)
      · rintro ⟨n, hn⟩
        have := (hr.sat.fits n _ hn).2
        simp at this
  · simp only [List.map_append, List.map_cons, List.map_nil, List.nodup_append, List.nodup_cons, List.not_mem_nil, not_false_eq_true, List.nodup_nil, and_self, List.mem_singleton, forall_eq, true_and]
    refine ⟨⟨hr.enod.1, fun b hb e => ?_⟩, hr.enod.2, fun b hb e => ?_⟩
    · obtain ⟨p, h1, h2⟩ := List.mem_map.1 hb
      have := hnew b ⟨p, h1, h2⟩; omega
    · exact hye (e ▸ hb)
  · refine ⟨e6.os, e6.tape, e6.output, e6.size, e6.block, ?_⟩
    rintro k (hk | ⟨p, hpe, rfl⟩)
    · exact e6.foot k (.inl hk)
    · rcases List.mem_append.1 hpe with hpe | hpe
      · exact e6.foot _ (.inr ⟨p, hpe, rfl⟩)
      · simp only [List.mem_singleton] at hpe; subst hpe
        exact .inr hr.keeps.size
end

section
variable {E : Env} {f : FuncId} {N k0 : Nat} {res : List ResultVar} {Q : AV → List Chunk → Prop}
variable {A : Array Oper} {k : List It} {T P R : List (Nat × List Nat)} {L pend : List Nat} {early : List (Nat × Nat)} {ρ ρ0 ρ' : Nat → Hnd} {s s' : S} {a : Act} {w w' : World} {Fs Fs' : Nat → FP} {w0 : World} {F0 : FP}

/-- Behind a step of the operation at the plan's head. -/
theorem Inv.acted (hp : PlanOK (E.cfg f N k0 res Q).D A T) (hc : CfgOk (E.cfg f N k0 res Q)) (hd : ∀ (j : Nat) (o : Oper), A[j]? = some o → dstOk N o.dst = true)
    (h : Inv E (E.cfg f N k0 res Q) A k T P R L pend early ρ0 ρ s a w Fs w0 F0) {y : Nat} {o : Oper} (ho : A[y]? = some o) {ck : List Nat} {R1 : List (Nat × List Nat)} (hR : R = (y, ck) :: R1)
    (he : ∀ e ∈ o.after.toList, Region.binds .any e = true → e.on ∈ L) (hyL : y ∉ L) (hk : kAt A y ≠ .ben) {v : Value} {w' : World} {ρ' : Nat → Hnd} {Fs' : Nat → FP} {H : List Chunk} {x : AV}
    (hsat : Sat E.g ρ' H w' Fs') (hlen : s.heap.length ≤ H.length) (hsame : ∀ n, n < s.heap.length → ρ' n = ρ n) (hkp : Keeps w w' (allF Fs) (allF Fs')) (hv : v = x.val ρ') (hxl : x.lt H.length = true)
    (hck : chkAll (E.cfg f N k0 res Q) A (S.put { s with heap := H } o.dst x) ck) (hvc : VCd E (E.cfg f N k0 res Q) A k R1 (S.put { s with heap := H } o.dst x)) :
    Inv E (E.cfg f N k0 res Q) A k T (P ++ [(y, ck)]) R1 (y :: L) pend early ρ0 ρ' (S.put { s with heap := H } o.dst x) (a.put o.dst v) w' Fs' w0 F0 := by
  have hr := h.pr
  have hyP : y ∉ P.map (·.1) := h.notP hp (by simp [hR])
  have hye : y ∉ early.map (·.1) := fun hm => hyL ((h.ls y).2 (.inr hm))
  have hypd : y ∉ pend := fun hm => hyP (h.pp y hm)
  obtain ⟨e1, e2, e3, e4, e5, e6⟩ := hr.exec hc hp ho (hd y o ho) hye (v := v) hkp
  refine ⟨by rw [h.tl, hR]; simp, hvc, ?_, ?_, ?_, h.dcs hp ho he, ⟨e1, e2, ?_, ?_, by rw [put_heap]; exact hsat, e3, by rw [put_heap]; exact Nat.le_trans hr.k0 hlen, e4, h.stab hp hR (h.befL hp ho he) ho hk hck, e5, hr.enod, e6⟩, ?_⟩
  · intro j hj; have := h.pp j hj; simp only [List.map_append, List.mem_append]; exact .inl this
  · intro p hpe hm
    simp only [List.map_append, List.mem_append, List.map_cons, List.map_nil, List.mem_singleton] at hm
    rcases hm with hm | hm
    · exact h.ep p hpe hm
    · exact hye (List.mem_map.2 ⟨p, hpe, hm⟩)
  · intro j
    simp only [List.mem_cons, h.ls j, List.map_append, List.mem_append, List.map_cons, List.map_nil, List.not_mem_nil, or_false]
    constructor
    · rintro (rfl | ⟨h1, h2⟩ | h1)
      · exact .inl ⟨.inr rfl, hypd⟩
      · exact .inl ⟨.inl h1, h2⟩
      · exact .inr h1
    · rintro (⟨h1 | h1, h2⟩ | h1)
      · exact .inr (.inl ⟨h1, h2⟩)
      · exact .inl h1
      · exact .inr (.inr h1)
  · intro t x' hx
    rcases look_put hx with ⟨h1, rfl⟩ | ⟨hne, h2⟩
    · refine .inr (.inr ?_)
      rw [h1, put_tmp_same hr.size (h1 ▸ hd y o ho), hv]
    · rcases hr.env t x' h2 with h3 | h3 | h3
      · exact .inl h3
      · exact .inr (.inl h3)
      · rcases hr.lt t x' h2 with h4 | h4
        · exact .inl h4
        · exact .inr (.inr (by rw [put_tmp hne, h3, AV.val_congr (fun n hn => (hsame n hn).symm) x' h4]))
  · intro t x' hx
    rw [put_heap]
    rcases look_put hx with ⟨h1, rfl⟩ | ⟨hne, h2⟩
    · exact .inr hxl
    · rcases hr.lt t x' h2 with h4 | h4
      · exact .inl h4
      · exact .inr (AV.lt_mono hlen x' h4)
  · intro n hn
    rw [hsame n (Nat.lt_of_lt_of_le hn hr.k0)]; exact h.rho n hn

theorem Inv.turn_act (hp : PlanOK (E.cfg f N k0 res Q).D A T) (hc : CfgOk (E.cfg f N k0 res Q)) (hd : ∀ (j : Nat) (o : Oper), A[j]? = some o → dstOk N o.dst = true)
    (h : Inv E (E.cfg f N k0 res Q) A k T P R L pend early ρ0 ρ s a w Fs w0 F0) {y : Nat} {o : Oper} (ho : A[y]? = some o) {ck : List Nat} {R1 : List (Nat × List Nat)} (hR : R = (y, ck) :: R1)
    (he : ∀ e ∈ o.after.toList, Region.binds .any e = true → e.on ∈ L) (hyL : y ∉ L) (hk : kAt A y ≠ .ben) {rest : List Nat} {k' : List Item} {Rn : Ending → World → Prop}
    (cont : ∀ P R pend early ρ s a w Fs, Inv E (E.cfg f N k0 res Q) A k T P R (y :: L) pend early ρ0 ρ s a w Fs w0 F0 → Good E.P f (.inRegion A rest :: k') a w Rn) :
    Good E.P f (.inRegion A (y :: rest) :: k') a w Rn := by
  have hr := h.pr
  have hcl := h.clear hp ho (h.befL hp ho he) (h.befR hp hR)
  have hrel := hr.only hcl
  have hvc := h.vc
  rw [hR] at hvc
  cases hvc with
  | op ho' hd' hw hs hpre hval hlt hchk hv =>
    rename_i o' e x
    rw [ho] at ho'; cases ho'
    obtain ⟨v, w', ρ', Fs', hrun, heff⟩ := stepOp_sound hc hrel ((step_only o).trans hs) hpre
    exact Does.good (.inl ⟨wanted_of hr hcl hw, hrun⟩) ho
      (cont _ _ _ _ _ _ _ _ _ (h.acted hp hc hd ho hR he hyL hk heff.sat heff.len heff.same heff.keeps (heff.val.trans (hval ρ').symm) (hlt _ heff.lt) hchk hv))
  | skip ho' hd' hw hck hv =>
    rename_i o'
    rw [ho] at ho'; cases ho'
    have hhd : (s.put o.dst (.v undef)) = S.put { s with heap := s.heap } o.dst (.v undef) := rfl
    refine Does.good (.inr ⟨wanted_of hr hcl hw, rfl, rfl⟩) ho ?_
    refine cont _ _ _ _ _ _ _ _ _ (h.acted hp hc hd ho hR he hyL hk hr.sat (Nat.le_refl _) (fun _ _ => rfl) (.refl _ _) (by simp [AV.val]) (by simp [AV.lt]) hck hv)
  | call σ ho' hd' hw hact hsp hop hsub hk1 hchk hv =>
    rename_i o' g k1 Hc args Qc
    have hsub := hsub hr.sat.lt
    rw [ho] at ho'; cases ho'
    have hrun := callOf_sound hrel ((callOf_only o).trans hop) hsp.1
    rw [AV.vals_ren] at hrun
    have hcl' := hsp.2 _ w _ (hr.sat.sub hsub) hr.gl hr.gs
    refine Good.enter (R' := fun v w'' => FinE E k1 Qc (fun n => ρ (nm σ s.heap.length n)) w (allF fun n k => n < Hc.length ∧ Fs (nm σ s.heap.length n) k) (.returned v) w'') ho (wanted_of hr hcl hw) hrun
      (hcl'.mono fun e w'' he => ?_) ?_
    · obtain ⟨ρ', x, H', Fs', h1, h2⟩ := he
      exact ⟨_, h1, ρ', x, H', Fs', rfl, h2⟩
    · rintro v w'' ⟨ρ', x, H', Fs', h1, h2, h3, h4, h5, h6, h7, h8⟩
      cases h1
      obtain ⟨ρ2, Fs2, m1, m2, m3, m4, m5, m6⟩ := Sat.merge (k1 := k1) hr.sat hsub h3 h2 h5 h8 hk1
      refine cont _ _ _ _ _ _ _ _ _ (h.acted hp hc hd ho hR he hyL hk m1 m5 m2 m4 ?_ (AV.lt_ren m6 x h6) (hchk x H' h7 h8) (hv x H' h7 h8))
      rw [AV.val_ren]
      exact AV.val_congr (fun n hn => (m3 n hn).symm) x h6

/-- The whole region, from any state of it. -/
theorem sim (hp : PlanOK (E.cfg f N k0 res Q).D A T) (hc : CfgOk (E.cfg f N k0 res Q)) (hd : ∀ (j : Nat) (o : Oper), A[j]? = some o → dstOk N o.dst = true) {k' : List Item} (hk : Den k k') :
    ∀ (l : List Nat) (P R : List (Nat × List Nat)) (L pend : List Nat) (early : List (Nat × Nat)) (ρ : Nat → Hnd) (s : S) (a : Act) (w : World) (Fs : Nat → FP),
      Inv E (E.cfg f N k0 res Q) A k T P R L pend early ρ0 ρ s a w Fs w0 F0 → Topo A L l → Good E.P f (.inRegion A l :: k') a w (Fin (E.cfg f N k0 res Q) ρ0 w0 F0) := by
  intro l
  induction l with
  | nil =>
    intro P R L pend early ρ s a w Fs h ht
    have hRL : ∀ z ∈ R.map (·.1), (kAt A z = .ben ∧ z ∉ L) ∨ z ∈ L := by
      intro z hz
      obtain ⟨q, hq, rfl⟩ := List.mem_map.1 hz
      exact .inr (ht _ (hp.lt q (by rw [h.tl]; simp [hq])))
    obtain ⟨pend, early, ρ, s, Fs, h⟩ := h.advance hp hc (R2 := []) (by simp) hRL
    have hpd : pend = [] := by
      cases pend with
      | nil => rfl
      | cons j r =>
        exfalso
        have hj := h.pp j (by simp)
        obtain ⟨q, hq, rfl⟩ := List.mem_map.1 hj
        exact h.pendL (j := q.1) (by simp) (ht _ (hp.lt q (by rw [h.tl]; simpa using hq)))
    have hel : early = [] := by
      cases early with
      | nil => rfl
      | cons p r =>
        exfalso
        obtain ⟨o, T', d, t, h1, _⟩ := h.pr.erl p (by simp)
        -- p.1 stands in the plan, for the plan is whole
        have hlt : p.1 < A.size := (Array.getElem?_eq_some_iff.1 h1).1
        refine h.ep p (by simp) ?_
        have := hp.all p.1 hlt
        rw [h.tl] at this
        simpa using this
    subst hpd hel
    have hr := h.pr
    have hrel : Rel (E.cfg f N k0 res Q) ρ s a w Fs := by
      refine ⟨hr.size, hr.defs, ?_, ?_, hr.sat, hr.gl, hr.k0, hr.gs⟩
      · intro t x hx
        rcases hr.env t x hx with ⟨j, hj, _⟩ | ⟨p, hpe, _⟩ | h3
        · simp at hj
        · simp at hpe
        · exact h3
      · intro t x hx
        rcases hr.lt t x hx with ⟨j, hj, _⟩ | h3
        · simp at hj
        · exact h3
    have hvc := h.vc
    cases hvc with
    | nil hruns =>
      have hg := hruns ρ a w Fs hrel k' hk
      have hkeep : Keeps w0 w F0 (allF Fs) := ⟨hr.keeps.os, hr.keeps.tape, hr.keeps.output, hr.keeps.size, hr.keeps.block, fun k hk => hr.keeps.foot k (.inl hk)⟩
      exact (hg.mono fun _ _ hf => hf.trans h.rho hkeep).step fun b cs _ => step_region_end
  | cons y rest ih =>
    intro P R L pend early ρ s a w Fs h ht
    obtain ⟨hyL, ⟨o, ho, he⟩, ht⟩ := ht
    have hlt : y < A.size := (Array.getElem?_eq_some_iff.1 ho).1
    by_cases hyp : y ∈ pend
    · obtain ⟨v, w', ρ', Fs', hdo, h'⟩ := h.turn_pend hp hc hd ho he hyp
      exact hdo.good ho (ih _ _ _ _ _ _ _ _ _ _ h' ht)
    · have hyP : y ∉ P.map (·.1) := fun hm => hyL ((h.ls y).2 (.inl ⟨hm, hyp⟩))
      by_cases hkn : kAt A y = .new
      · obtain ⟨v, w', hdo, h'⟩ := h.turn_new hp hc hd ho he hyL hyP hkn
        exact hdo.good ho (ih _ _ _ _ _ _ _ _ _ _ h' ht)
      · have hyR : y ∈ R.map (·.1) := by
          have : y ∈ T.map (·.1) := hp.all y hlt
          rw [h.tl, List.map_append, List.mem_append] at this
          exact this.resolve_left hyP
        obtain ⟨⟨y', ck⟩, hq, rfl⟩ := List.mem_map.1 hyR
        obtain ⟨R1, R2, hR⟩ := List.append_of_mem hq
        have hcond := hp.go (P ++ R1) y' ck R2 (by rw [h.tl, hR]; simp)
        have hadv : ∀ z ∈ R1.map (·.1), (kAt A z = .ben ∧ z ∉ L) ∨ z ∈ L := by
          intro z hz
          have hz' : z ∈ (P ++ R1).map (·.1) := by simp only [List.map_append, List.mem_append]; exact .inr hz
          by_cases hzL : z ∈ L
          · exact .inr hzL
          · rcases (hcond.2 z hz').1 with h1 | h1 | h1
            · exact .inl ⟨h1, hzL⟩
            · exact absurd h1 hkn
            · exact .inr (h.befL hp ho he z h1)
        obtain ⟨pend', early', ρ', s', Fs', h'⟩ := h.advance hp hc hR hadv
        by_cases hkb : kAt A y' = .ben
        · obtain ⟨s2, h2⟩ := h'.ben hp rfl hkb hyL
          obtain ⟨v, w', ρ2, Fs2, hdo, h3⟩ := h2.turn_pend hp hc hd ho he (by simp)
          exact hdo.good ho (ih _ _ _ _ _ _ _ _ _ _ h3 ht)
        · exact h'.turn_act hp hc hd ho rfl he hyL hkb fun P R pend early ρ s a w Fs hi => ih _ _ _ _ _ _ _ _ _ _ hi ht

theorem draw_sound (hc : CfgOk (E.cfg f N k0 res Q)) (hp : planB E.D A T = true) (hd : (A.toList.all fun o => dstOk N o.dst) = true) {id : Nat} (h : VCd E (E.cfg f N k0 res Q) A k T s) :
    Runs (E.cfg f N k0 res Q) (.code (.region id A true) :: k) s := by
  have hp' := planB_ok (D := (E.cfg f N k0 res Q).D) hp
  intro ρ a w Fs hr k' hk'
  obtain ⟨y, q, rfl, h1, hq⟩ := hk'.cons
  simp only [DenI] at h1; subst h1
  have hm : (E.cfg f N k0 res Q).P.follows .mixedOrders = true := hc.mixed
  have hdrawn : Keeps w { w with drawn := w.drawn + 1 } (allF Fs) (allF Fs) := ⟨rfl, rfl, rfl, Nat.le_refl _, fun _ _ _ => rfl, fun _ h => .inl h⟩
  have hgo : ∀ t, Good E.P f (.inRegion A (Region.schedule true A t) :: q) a { w with drawn := w.drawn + 1 } (Fin (E.cfg f N k0 res Q) ρ w (allF Fs)) := by
    intro t
    refine sim (ρ0 := ρ) (w0 := w) (F0 := allF Fs) (T := T) (k := k) hp' hc (fun j o ho => ?_) hq _ [] T [] [] [] ρ s a _ Fs ?_ (topo_schedule hp'.edge t)
    · exact List.all_eq_true.1 hd o (by have := Array.mem_of_getElem? ho; simpa using this)
    · refine ⟨rfl, h, by simp, by simp, by simp, by simp, ?_, fun _ _ => rfl⟩
      refine ⟨hr.size, hr.defs, fun t x hx => .inr (.inr (hr.env t x hx)), fun t x hx => .inr (hr.lt t x hx), hr.sat.worldI (fun _ _ _ => rfl) (Nat.le_refl _), hc.gl _ _ _ _ hr.gl hdrawn hr.fits, hr.k0, hr.gs, by simp, by simp, by simp, ?_⟩
      exact ⟨rfl, rfl, rfl, Nat.le_refl _, fun _ _ _ => rfl, fun k hk => .inl (by simpa using hk)⟩
  intro b cs hb hkd
  obtain ⟨e, w', fr, g1, g2, g3⟩ := hgo (w.tape w.drawn (.order b.fn id)) b cs hb hkd
  refine ⟨e, w', fr, g1, .of_steps (.one ?_) g2, g3⟩
  rw [step_region_draw, hm]
end
end Go.Rm
end

section
/- The engine, part 24: a run that reckons: regions. -/
set_option linter.unusedSimpArgs false
set_option linter.unusedVariables false
namespace Go.Rm

structure FnD where
  code : Code
  N : Nat
  res : List ResultVar

/-- What a call comes to. -/
abbrev CallX := FuncId → List AV → List Chunk → Option (AV × List Chunk)

/-- Is the guard met? -/
def guardX (A : Array Oper) (o : Oper) (s : S) : Option Bool :=
  match o.guard with
  | none => some true
  | some (j, want) => match guardOf A s j with
    | some b => some (b == want)
    | none => none

/-- One operation. -/
def opX (c : Cfg) (call : CallX) (A : Array Oper) (o : Oper) (s : S) : Option S :=
  if dstOk c.N o.dst = true then
    match guardX A o s with
    | some true => match stepOp c o.op s with
      | some e => if @decide e.pre e.dec then some ({ s with heap := e.heap }.put o.dst e.x) else none
      | none => match callOf o.op s with
        | some (g, args) => match call g args s.heap with
          | some (x, H) => some ({ s with heap := H }.put o.dst x)
          | none => none
        | none => none
    | some false => some (s.put o.dst (.v undef))
    | none => none
  else none

def opsX (c : Cfg) (call : CallX) (A : Array Oper) : List Oper → S → Option S
  | [], s => some s
  | o :: r, s => match opX c call A o s with
    | some s' => opsX c call A r s'
    | none => none

mutual
/-- Values that are surely the same. -/
def sameAV : AV → AV → Bool
  | .v x, .v y => sameV x y
  | .ptr n o, .ptr n' o' => decide (n = n') && decide (o = o')
  | .elt n z i o, .elt n' z' i' o' => decide (n = n') && decide (z = z') && decide (i = i') && decide (o = o')
  | .hnd n, .hnd n' => decide (n = n')
  | .agg l, .agg q => sameAVL l q
  | .tup l, .tup q => sameAVL l q
  | .bytes k x, .bytes k' y => decide (k = k') && decide (x.toList = y.toList)
  | .fn f a b, .fn f' a' b' => decide (f = f') && sameAVL a a' && sameAVL b b'
  | .sl n z i o, .sl n' z' i' o' => decide (n = n') && decide (z = z') && decide (i = i') && decide (o = o')
  | .cv n z i o, .cv n' z' i' o' => decide (n = n') && decide (z = z') && decide (i = i') && decide (o = o')
  | .ifc t x, .ifc t' y => decide (t = t') && sameAV x y
  | _, _ => false
def sameAVL : List AV → List AV → Bool
  | [], [] => true
  | x :: r, y :: q => sameAV x y && sameAVL r q
  | _, _ => false
end

mutual
theorem sameAV_eq : (x y : AV) → sameAV x y = true → x = y
  | .v x, .v y, h => by simp only [sameAV] at h; rw [sameV_eq h]
  | .ptr .., .ptr .., h => by simp [sameAV] at h; simp [h]
  | .elt .., .elt .., h => by simp [sameAV] at h; simp [h]
  | .hnd .., .hnd .., h => by simp [sameAV] at h; simp [h]
  | .agg l, .agg q, h => by simp only [sameAV] at h; rw [sameAVL_eq l q h]
  | .tup l, .tup q, h => by simp only [sameAV] at h; rw [sameAVL_eq l q h]
  | .bytes k x, .bytes k' y, h => by
    simp [sameAV] at h
    obtain ⟨rfl, h⟩ := h
    have : x = y := by apply Vector.toList_inj.1; exact h
    rw [this]
  | .fn f a b, .fn f' a' b', h => by
    simp only [sameAV, Bool.and_eq_true, decide_eq_true_eq] at h
    rw [h.1.1, sameAVL_eq a a' h.1.2, sameAVL_eq b b' h.2]
  | .sl .., .sl .., h => by simp [sameAV] at h; simp [h]
  | .cv .., .cv .., h => by simp [sameAV] at h; simp [h]
  | .ifc t x, .ifc t' y, h => by
    simp only [sameAV, Bool.and_eq_true, decide_eq_true_eq] at h
    rw [h.1, sameAV_eq x y h.2]
theorem sameAVL_eq : (x y : List AV) → sameAVL x y = true → x = y
  | [], [], _ => rfl
  | x :: r, y :: q, h => by
    simp only [sameAVL, Bool.and_eq_true] at h
    rw [sameAV_eq x y h.1, sameAVL_eq r q h.2]
end

mutual
theorem AV.ren_id : (x : AV) → x.ren (fun n => n) = x
  | .v _ => by simp [AV.ren]
  | .ptr _ _ => by simp [AV.ren]
  | .elt _ _ _ _ => by simp [AV.ren]
  | .hnd _ => by simp [AV.ren]
  | .agg l => by simp [AV.ren, AV.renL_id l]
  | .bytes _ _ => by simp [AV.ren]
  | .blk _ _ => by simp [AV.ren]
  | .tup l => by simp [AV.ren, AV.renL_id l]
  | .fn _ a b => by simp [AV.ren, AV.renL_id a, AV.renL_id b]
  | .sl _ _ _ _ => by simp [AV.ren]
  | .cv _ _ _ _ => by simp [AV.ren]
  | .ifc _ x => by simp [AV.ren, AV.ren_id x]
theorem AV.renL_id : (l : List AV) → AV.renL (fun n => n) l = l
  | [] => by simp [AV.renL]
  | x :: r => by simp [AV.renL, AV.ren_id x, AV.renL_id r]
end

theorem Chunk.ren_id (x : Chunk) : x.ren (fun n => n) = x := by
  cases x with
  | cells l => simp [Chunk.ren, AV.renL_id]
  | row sz xs =>
    have : (AV.renL fun n => n) = id := funext AV.renL_id
    simp [Chunk.ren, AV.renLL_map, this]
  | map es => simp [Chunk.ren, AV.renE_map, AV.ren_id]
  | _ => rfl

mutual
theorem AV.ren_congr {f g : Nat → Nat} {m : Nat} (h : ∀ n, n < m → f n = g n) : (x : AV) → x.lt m = true → x.ren f = x.ren g
  | .v _, _ => by simp [AV.ren]
  | .ptr n _, hx => by simp [AV.lt] at hx; simp [AV.ren, h n hx]
  | .elt n _ _ _, hx => by simp [AV.lt] at hx; simp [AV.ren, h n hx]
  | .hnd n, hx => by simp [AV.lt] at hx; simp [AV.ren, h n hx]
  | .agg l, hx => by simp [AV.lt] at hx; simp [AV.ren, AV.renL_congr h l hx]
  | .bytes _ _, _ => by simp [AV.ren]
  | .blk _ _, _ => by simp [AV.ren]
  | .tup l, hx => by simp [AV.lt] at hx; simp [AV.ren, AV.renL_congr h l hx]
  | .fn _ a b, hx => by simp [AV.lt] at hx; simp [AV.ren, AV.renL_congr h a hx.1, AV.renL_congr h b hx.2]
  | .sl n _ _ _, hx => by simp [AV.lt] at hx; simp [AV.ren, h n hx]
  | .cv n _ _ _, hx => by simp [AV.lt] at hx; simp [AV.ren, h n hx]
  | .ifc _ x, hx => by simp [AV.lt] at hx; simp [AV.ren, AV.ren_congr h x hx]
theorem AV.renL_congr {f g : Nat → Nat} {m : Nat} (h : ∀ n, n < m → f n = g n) : (l : List AV) → AV.ltL m l = true → AV.renL f l = AV.renL g l
  | [], _ => by simp [AV.renL]
  | x :: r, hx => by simp [AV.ltL] at hx; simp [AV.renL, AV.ren_congr h x hx.1, AV.renL_congr h r hx.2]
end

theorem Chunk.ren_congr {f g : Nat → Nat} {m : Nat} (h : ∀ n, n < m → f n = g n) {x : Chunk} (hx : x.lt m = true) : x.ren f = x.ren g := by
  cases x with
  | cells l => simp only [Chunk.ren, AV.renL_congr h l hx]
  | row sz xs =>
    simp only [Chunk.lt, AV.ltLL_all] at hx
    simp only [Chunk.ren, AV.renLL_map]
    rw [List.map_congr_left fun y hy => AV.renL_congr h y (hx y hy)]
  | map es =>
    simp only [Chunk.lt, AV.ltE_all] at hx
    simp only [Chunk.ren, AV.renE_map]
    rw [List.map_congr_left fun y hy => by rw [AV.ren_congr h y.1 (hx y hy).1, AV.ren_congr h y.2 (hx y hy).2]]
  | _ => rfl

theorem nm_range {m n : Nat} (h : n < m) : nm (List.range m) m n = n := by simp [nm, List.getD, h]

theorem tau_range (m : Nat) : tau (List.range m) m m = fun n => n := by
  funext n
  unfold tau
  split
  · exact nm_range ‹_›
  · omega

theorem subL_self {f : Nat → Nat} {H : List Chunk} : ∀ {H2 : List Chunk} {σ : List Nat}, H2.length = σ.length → (∀ (i m : Nat) (x : Chunk), H2[i]? = some x → σ[i]? = some m → H[m]? = some (x.ren f)) → subL f H H2 σ
  | [], [], _, _ => trivial
  | c :: r, m :: q, hl, h => ⟨h 0 m c rfl rfl, subL_self (by simpa using hl) fun i m' x hx hm => h (i + 1) m' x (by simpa using hx) (by simpa using hm)⟩
  | [], _ :: _, hl, _ => by simp at hl
  | _ :: _, [], hl, _ => by simp at hl

theorem Sub.self {H : List Chunk} (h : ∀ (n : Nat) (y : Chunk), H[n]? = some y → y.lt H.length = true) : Sub (List.range H.length) H H := by
  refine ⟨List.nodup_range, subL_self (by simp) fun i m x hx hm => ?_⟩
  have hi : i < H.length := (List.getElem?_eq_some_iff.1 hx).1
  simp [hi] at hm
  subst hm
  rw [hx, Chunk.ren_congr (g := fun n => n) (fun n hn => nm_range hn) (h i x hx), Chunk.ren_id]

theorem posN_range : ∀ {m i : Nat}, i < m → posN (List.range m) i = some i := by
  intro m i hi
  cases h : posN (List.range m) i with
  | none => exact absurd (by simp [hi]) (posN_none h i)
  | some n =>
    have := posN_some h
    have hn : n < m := by simpa using (List.getElem?_eq_some_iff.1 this).1
    simp [hn] at this
    rw [this]

theorem mergeAt_range {k1 : Nat} {H' : List Chunk} (hk : k1 ≤ H'.length) : ∀ (H : List Chunk) (i : Nat), i + H.length = k1 →
    mergeAt (List.range k1) k1 H' (fun n => n) i H = (H'.drop i).take H.length
  | [], i, _ => by simp [mergeAt]
  | c :: r, i, h => by
    simp only [List.length_cons] at h
    have hi : i < k1 := by omega
    have hi' : i < H'.length := by omega
    simp only [mergeAt, posN_range hi, if_pos hi, List.getElem?_eq_getElem hi', Chunk.ren_id, List.length_cons]
    rw [mergeAt_range hk r (i + 1) (by omega), List.drop_eq_getElem_cons hi', List.take_succ_cons]

theorem after_range (s : S) {dst : Option Tmp} {x : AV} {H' : List Chunk} (hk : s.heap.length ≤ H'.length) :
    s.after (List.range s.heap.length) s.heap.length dst x H' = { s with heap := H' }.put dst x := by
  unfold S.after mergeH renH
  rw [tau_range, mergeAt_range hk s.heap 0 (by simp), AV.ren_id]
  have : List.map (Chunk.ren fun n => n) (List.drop s.heap.length H') = List.drop s.heap.length H' := by
    rw [List.map_congr_left (fun y _ => Chunk.ren_id y)]; simp
  rw [this]
  simp

/-- Calls that do what they are said to. -/
def CallOK (E : Env) (call : CallX) : Prop :=
  ∀ g args H x H', call g args H = some (x, H') → AV.ltL H.length args = true ∧ Sp E g H.length H args fun y K => y = x ∧ K = H'

section
variable {E : Env} {f : FuncId} {N k0 : Nat} {res : List ResultVar} {Q : AV → List Chunk → Prop} {call : CallX} {A : Array Oper} {o : Oper} {s s' : S} {k : List It}

theorem guardX_want {b : Bool} (h : guardX A o s = some b) : wantS A o s b := by
  unfold guardX at h
  unfold wantS
  split at h
  · rename_i hg; first | (rw [hg]; simpa using h.symm) | simpa using h.symm
  · rename_i j want hg
    try rw [hg]
    split at h
    · rename_i v hv; exact ⟨v, hv, by simpa using h⟩
    · simp at h

/-- One operation in text order. -/
theorem opX_runs (hc : CfgFn (E.cfg f N k0 res Q)) (hcall : CallOK E call) {r : List Oper} (h : opX (E.cfg f N k0 res Q) call A o s = some s') (hr : Runs (E.cfg f N k0 res Q) (.ops A r :: k) s') :
    Runs (E.cfg f N k0 res Q) (.ops A (o :: r) :: k) s := by
  unfold opX at h
  split at h
  rotate_left
  · simp at h
  rename_i hd
  split at h
  · rename_i hg
    have hw := guardX_want hg
    have hw' : ∀ ρ a w Fs, Rel (E.cfg f N k0 res Q) ρ s a w Fs → Region.wanted o (yielded A a.tmps) = true := by
      intro ρ a w Fs hrel
      unfold wantS at hw
      split at hw
      · rename_i hgd; simp [Region.wanted, hgd]
      · rename_i j want hgd
        obtain ⟨v, hv, hb⟩ := hw
        simp only [beq_iff_eq] at hb
        subst hb
        simp [Region.wanted, hgd, guardOf_sound hrel hv]
    split at h
    · rename_i e he
      split at h
      · rename_i hp
        cases h
        exact Runs.op hc hd he (by simpa using hp) hw' hr
      · simp at h
    · split at h
      · rename_i g args hop
        split at h
        · rename_i x H hx
          cases h
          obtain ⟨hlt, hsp⟩ := hcall _ _ _ _ _ hx
          intro ρ a w Fs hrel
          have hargs : AV.renL (nm (List.range s.heap.length) s.heap.length) args = args := by
            rw [AV.renL_congr (g := fun n => n) (fun n hn => nm_range hn) args hlt, AV.renL_id]
          refine Runs.call hc.toCfgOk hsp (List.range s.heap.length) hd ?_ (by rw [hargs]; exact hop) (Sub.self hrel.sat.lt) (Nat.le_refl _) ?_ ρ a w Fs hrel
          · unfold wantS at hw
            split at hw
            · rename_i hgd; exact .inl hgd
            · rename_i j want hgd
              obtain ⟨v, hv, hb⟩ := hw
              simp only [beq_iff_eq] at hb
              subst hb
              exact .inr ⟨j, v, hgd, hv⟩
          · rintro y K ⟨rfl, rfl⟩ hK
            rw [after_range s hK]; exact hr
        · simp at h
      · simp at h
  · rename_i hg
    have hw := guardX_want hg
    cases h
    refine Runs.skip hc hd (fun ρ a w Fs hrel => ?_) hr
    unfold wantS at hw
    split at hw
    · simp at hw
    · rename_i j want hgd
      obtain ⟨v, hv, hb⟩ := hw
      simp only [Region.wanted, hgd, guardOf_sound hrel hv]
      rw [← hb]
      cases v <;> cases want <;> rfl
  · simp at h

theorem opsX_runs (hc : CfgFn (E.cfg f N k0 res Q)) (hcall : CallOK E call) : ∀ {l : List Oper} {s s' : S}, opsX (E.cfg f N k0 res Q) call A l s = some s' → Runs (E.cfg f N k0 res Q) (.ops A [] :: k) s' →
    Runs (E.cfg f N k0 res Q) (.ops A l :: k) s := by
  intro l
  induction l with
  | nil => intro s s' h hr; simp only [opsX, Option.some.injEq] at h; subst h; exact hr
  | cons o r ih =>
    intro s s' h hr
    simp only [opsX] at h
    split at h
    · rename_i s1 h1
      exact opX_runs hc hcall h1 (ih h hr)
    · simp at h
end
end Go.Rm
end

section
/- The engine, part 25: a run that reckons: plans, todo lists, calls. -/
set_option linter.unusedSimpArgs false
set_option linter.unusedVariables false
namespace Go.Rm

def isUndef : AV → Bool
  | .v (.tuple a) => a.toList.isEmpty
  | _ => false

theorem isUndef_eq {x : AV} (h : isUndef x = true) : x = .v undef := by
  unfold isUndef at h
  split at h
  · rename_i a
    have : a = #[] := by
      apply Array.toList_inj.1
      simpa using h
    rw [this]; rfl
  · simp at h

def stabX (c : Cfg) (A : Array Oper) (j : Nat) (s : S) : Bool :=
  match A.toList[j]? with
  | some o => match guardX A o s with
    | some true => decide (opK o.op = .ben) && match stepOp c o.op s with
      | some e => @decide e.pre e.dec && match o.dst with
        | some t => match lookE s.env t with
          | some x => sameAV x e.x
          | none => false
        | none => true
      | none => false
    | some false => match o.dst with
      | some t => match lookE s.env t with
        | some x => isUndef x
        | none => false
      | none => true
    | none => false
  | none => false

theorem stabX_ok {c : Cfg} {A : Array Oper} {j : Nat} {s : S} (h : stabX c A j s = true) : Stab c A j s := by
  unfold stabX at h
  split at h
  rotate_left
  · simp at h
  rename_i o ho
  refine ⟨o, by simpa using ho, ?_⟩
  split at h
  · rename_i hg
    simp only [Bool.and_eq_true, decide_eq_true_eq] at h
    obtain ⟨hk, h⟩ := h
    split at h
    rotate_left
    · simp at h
    rename_i e he
    simp only [Bool.and_eq_true, decide_eq_true_eq] at h
    refine .inl ⟨guardX_want hg, e, he, h.1, ben_heap hk he, fun t ht => ?_⟩
    obtain ⟨_, h⟩ := h
    rw [ht] at h
    simp only [] at h
    split at h
    · rename_i x hx
      exact ⟨x, hx, fun ρ => by rw [sameAV_eq _ _ h], fun m hm => by rw [sameAV_eq _ _ h]; exact hm⟩
    · simp at h
  · rename_i hg
    refine .inr ⟨guardX_want hg, fun t ht => ?_⟩
    rw [ht] at h
    simp only [] at h
    split at h
    · rename_i x hx
      rw [hx, isUndef_eq h]
    · simp at h
  · simp at h

theorem chkX_ok {c : Cfg} {A : Array Oper} {s : S} : ∀ {l : List Nat}, (l.all fun j => stabX c A j s) = true → chkAll c A s l
  | [], _ => trivial
  | j :: r, h => by
    simp only [List.all_cons, Bool.and_eq_true] at h
    exact ⟨stabX_ok h.1, chkX_ok h.2⟩

def planX (c : Cfg) (call : CallX) (A : Array Oper) : List (Nat × List Nat) → S → Option S
  | [], s => some s
  | (i, ck) :: r, s => match A.toList[i]? with
    | some o => match opX c call A o s with
      | some s' => if (ck.all fun j => stabX c A j s') = true then planX c call A r s' else none
      | none => none
    | none => none

section
variable {E : Env} {f : FuncId} {N k0 : Nat} {res : List ResultVar} {Q : AV → List Chunk → Prop} {call : CallX} {A : Array Oper} {o : Oper} {s s' : S} {k : List It}

theorem callOf_act {o : Op} {g : FuncId} {args : List AV} (h : callOf o s = some (g, args)) : opK o = .act := by
  unfold callOf at h
  split at h
  · rfl
  · simp at h

theorem opX_vcd (hcall : CallOK E call) {i : Nat} {ck : List Nat} {r : List (Nat × List Nat)} (ho : A[i]? = some o) (h : opX (E.cfg f N k0 res Q) call A o s = some s')
    (hck : chkAll (E.cfg f N k0 res Q) A s' ck) (hr : VCd E (E.cfg f N k0 res Q) A k r s') : VCd E (E.cfg f N k0 res Q) A k ((i, ck) :: r) s := by
  unfold opX at h
  split at h
  rotate_left
  · simp at h
  rename_i hd
  split at h
  · rename_i hg
    have hw := guardX_want hg
    split at h
    · rename_i e he
      split at h
      · rename_i hp
        cases h
        exact .op ho hd hw he (by simpa using hp) (fun _ => rfl) (fun _ h => h) hck hr
      · simp at h
    · split at h
      · rename_i g args hop
        split at h
        · rename_i x H hx
          cases h
          obtain ⟨hlt, hsp⟩ := hcall _ _ _ _ _ hx
          have hargs : AV.renL (nm (List.range s.heap.length) s.heap.length) args = args := by
            rw [AV.renL_congr (g := fun n => n) (fun n hn => nm_range hn) args hlt, AV.renL_id]
          refine .call (List.range s.heap.length) ho hd hw (callOf_act hop) hsp (by rw [hargs]; exact hop) (fun hlt => Sub.self hlt) (Nat.le_refl _) ?_ ?_
          · rintro y K ⟨rfl, rfl⟩ hK
            rw [after_range s hK]; exact hck
          · rintro y K ⟨rfl, rfl⟩ hK
            rw [after_range s hK]; exact hr
        · simp at h
      · simp at h
  · rename_i hg
    have hw := guardX_want hg
    cases h
    exact .skip ho hd hw hck hr
  · simp at h

theorem planX_vcd (hcall : CallOK E call) : ∀ {l : List (Nat × List Nat)} {s s' : S}, planX (E.cfg f N k0 res Q) call A l s = some s' → Runs (E.cfg f N k0 res Q) k s' → VCd E (E.cfg f N k0 res Q) A k l s := by
  intro l
  induction l with
  | nil => intro s s' h hr; simp only [planX, Option.some.injEq] at h; subst h; exact .nil hr
  | cons p r ih =>
    obtain ⟨i, ck⟩ := p
    intro s s' h hr
    simp only [planX] at h
    split at h
    · rename_i o ho
      split at h
      · rename_i s1 h1
        split at h
        · rename_i hck
          exact opX_vcd hcall (by simpa using ho) h1 (chkX_ok hck) (ih h hr)
        · simp at h
      · simp at h
    · simp at h

/-! Todo lists. -/

/-- The plans of a function's regions, checked. -/
def codeB (D : TypeId → Option TD) (N : Nat) (pl : Nat → List (Nat × List Nat)) : Code → Bool
  | .region id A true => planB D A (pl id) && A.toList.all fun o => dstOk N o.dst
  | .seq a b => codeB D N pl a && codeB D N pl b
  | .cond _ a b => codeB D N pl a && codeB D N pl b
  | .block _ a => codeB D N pl a
  | .scope a => codeB D N pl a
  | .loop a => codeB D N pl a
  | _ => true

def itB (D : TypeId → Option TD) (N : Nat) (pl : Nat → List (Nat × List Nat)) : It → Bool
  | .code c => codeB D N pl c
  | .inLoop c => codeB D N pl c
  | _ => true

/-- The results, read at the end. -/
def finX (c : Cfg) (s : S) : Option (AV × List Chunk) :=
  match s.results c c.res with
  | some l => some (mkRes l, s.heap)
  | none => none

/-- A todo list, run. -/
def rx (c : Cfg) (call : CallX) (pl : Nat → List (Nat × List Nat)) : Nat → List It → S → Option (AV × List Chunk)
  | 0, _, _ => none
  | _ + 1, [], s => finX c s
  | n + 1, .inBlock _ :: k, s => rx c call pl n k s
  | n + 1, .inScope _ :: k, s => rx c call pl n k s
  | n + 1, .inLoop b :: k, s => rx c call pl n (.code b :: .inLoop b :: k) s
  | _ + 1, .ops .. :: _, _ => none
  | n + 1, .code c' :: k, s => match c' with
    | .skip => rx c call pl n k s
    | .label _ => rx c call pl n k s
    | .ret => finX c s
    | .seq a b => rx c call pl n (.code a :: .code b :: k) s
    | .cond t x y => match s.opd t with
      | some (.v (.bool true)) => rx c call pl n (.code x :: k) s
      | some (.v (.bool false)) => rx c call pl n (.code y :: k) s
      | _ => none
    | .block id b => rx c call pl n (.code b :: .inBlock id :: k) s
    | .scope b => rx c call pl n (.code b :: .inScope b :: k) s
    | .loop b => rx c call pl n (.code b :: .inLoop b :: k) s
    | .exit id => match exitIt id k with
      | some k' => rx c call pl n k' s
      | none => none
    | .region _ A false => match opsX c call A A.toList s with
      | some s' => rx c call pl n k s'
      | none => none
    | .region id A true => match planX c call A (pl id) s with
      | some s' => rx c call pl n k s'
      | none => none
    | _ => none

theorem itB_exit {D : TypeId → Option TD} {N : Nat} {pl : Nat → List (Nat × List Nat)} {id : Nat} : ∀ {k k2 : List It}, exitIt id k = some k2 → (k.all fun x => itB D N pl x) = true → (k2.all fun x => itB D N pl x) = true
  | [], _, h, _ => by simp [exitIt] at h
  | x :: r, k2, h, hk => by
    simp only [List.all_cons, Bool.and_eq_true] at hk
    cases x with
    | inBlock i =>
      simp only [exitIt] at h
      split at h
      · cases h; exact hk.2
      · exact itB_exit h hk.2
    | code c => exact itB_exit (by simpa [exitIt] using h) hk.2
    | ops A l => exact itB_exit (by simpa [exitIt] using h) hk.2
    | inLoop c => exact itB_exit (by simpa [exitIt] using h) hk.2
    | inScope c => exact itB_exit (by simpa [exitIt] using h) hk.2

theorem fin_runs (hc : CfgFn (E.cfg f N k0 res Q)) {r : AV × List Chunk} (h : finX (E.cfg f N k0 res Q) s = some r) (hQ : Q r.1 r.2) : fin (E.cfg f N k0 res Q) s := by
  unfold finX at h
  unfold fin
  split at h
  · rename_i l hl
    try rw [hl]
    cases h
    exact hQ
  · simp at h

theorem rx_runs (hc : CfgFn (E.cfg f N k0 res Q)) (hcall : CallOK E call) {pl : Nat → List (Nat × List Nat)} {r : AV × List Chunk} (hQ : Q r.1 r.2) : ∀ (n : Nat) (k : List It) (s : S),
    rx (E.cfg f N k0 res Q) call pl n k s = some r → (k.all fun x => itB E.D N pl x) = true → Runs (E.cfg f N k0 res Q) k s := by
  intro n
  induction n with
  | zero => intro k s h; simp [rx] at h
  | succ n ih =>
    intro k s h hk
    cases k with
    | nil =>
      simp only [rx] at h
      refine vcs_sound hc 1 [] s ?_
      simpa [vcs] using fin_runs hc h hQ
    | cons x k =>
      have hk' := hk
      simp only [List.all_cons, Bool.and_eq_true] at hk'
      obtain ⟨hx, hk2⟩ := hk'
      -- by way of the verification condition
      have go : ∀ (k2 : List It) (s2 : S), rx (E.cfg f N k0 res Q) call pl n k2 s2 = some r → (k2.all fun x => itB E.D N pl x) = true → vcs (E.cfg f N k0 res Q) 0 k2 s2 := fun k2 s2 h h2 => by
        simpa [vcs] using ih k2 s2 h h2
      cases x with
      | inBlock id => simp only [rx] at h; exact vcs_sound hc 1 _ _ (by simpa [vcs] using go _ _ h hk2)
      | inScope b => simp only [rx] at h; exact vcs_sound hc 1 _ _ (by simpa [vcs] using go _ _ h hk2)
      | inLoop b =>
        simp only [rx] at h
        have := ih _ _ h (by simp only [List.all_cons, Bool.and_eq_true]; exact ⟨hx, hx, hk2⟩)
        refine this.turn fun ρ a w Fs _ k' hk' => ?_
        obtain ⟨y, q, rfl, h1, h2⟩ := hk'.cons
        simp only [DenI] at h1; subst h1
        exact ⟨.code b :: .inLoop b :: q, ⟨rfl, rfl, h2⟩, fun b' cs => step_inLoop⟩
      | ops A l => simp [rx] at h
      | code c' =>
        simp only [itB] at hx
        cases c' with
        | skip => simp only [rx] at h; exact vcs_sound hc 1 _ _ (by simpa [vcs] using go _ _ h hk2)
        | label l => simp only [rx] at h; exact vcs_sound hc 1 _ _ (by simpa [vcs] using go _ _ h hk2)
        | ret =>
          simp only [rx] at h
          exact vcs_sound hc 1 _ _ (by simpa [vcs] using fin_runs hc h hQ)
        | seq a b =>
          simp only [rx] at h
          simp only [codeB, Bool.and_eq_true] at hx
          exact vcs_sound hc 1 _ _ (by simpa [vcs] using go _ _ h (by simp only [List.all_cons, Bool.and_eq_true]; exact ⟨hx.1, hx.2, hk2⟩))
        | cond t a b =>
          simp only [codeB, Bool.and_eq_true] at hx
          simp only [rx] at h
          split at h
          · rename_i ht
            exact vcs_sound hc 1 _ _ (by simp only [vcs, ht]; exact ⟨fun _ => ih _ _ h (by simp only [List.all_cons, Bool.and_eq_true]; exact ⟨hx.1, hk2⟩), fun h => by simp at h⟩)
          · rename_i ht
            exact vcs_sound hc 1 _ _ (by simp only [vcs, ht]; exact ⟨fun h => by simp at h, fun _ => ih _ _ h (by simp only [List.all_cons, Bool.and_eq_true]; exact ⟨hx.2, hk2⟩)⟩)
          · simp at h
        | block id b => simp only [rx] at h; exact vcs_sound hc 1 _ _ (by simpa [vcs] using go _ _ h (by simp only [List.all_cons, Bool.and_eq_true]; exact ⟨hx, rfl, hk2⟩))
        | scope b => simp only [rx] at h; exact vcs_sound hc 1 _ _ (by simpa [vcs] using go _ _ h (by simp only [List.all_cons, Bool.and_eq_true]; exact ⟨hx, rfl, hk2⟩))
        | loop b =>
          simp only [rx] at h
          have := ih _ _ h (by simp only [List.all_cons, Bool.and_eq_true]; exact ⟨hx, hx, hk2⟩)
          refine this.turn fun ρ a w Fs _ k' hk' => ?_
          obtain ⟨y, q, rfl, h1, h2⟩ := hk'.cons
          simp only [DenI] at h1; subst h1
          exact ⟨.code b :: .inLoop b :: q, ⟨rfl, rfl, h2⟩, fun b' cs => step_loop⟩
        | exit id =>
          simp only [rx] at h
          split at h
          · rename_i k2 hk3
            exact vcs_sound hc 1 _ _ (by simpa [vcs, hk3] using go _ _ h (itB_exit hk3 hk2))
          · simp at h
        | region id A draw =>
          cases draw with
          | false =>
            simp only [rx] at h
            split at h
            · rename_i s' hs'
              have h1 := ih _ _ h hk2
              have h2 : Runs (E.cfg f N k0 res Q) (.ops A [] :: k) s' := vcs_sound hc 1 _ _ (by simpa [vcs] using h1)
              have h3 := opsX_runs hc hcall hs' h2
              exact vcs_sound hc 1 _ _ (by simpa [vcs] using h3)
            · simp at h
          | true =>
            simp only [rx] at h
            simp only [codeB, Bool.and_eq_true] at hx
            split at h
            · rename_i s' hs'
              exact draw_sound hc.toCfgOk hx.1 hx.2 (planX_vcd hcall hs' (ih _ _ h hk2))
            · simp at h
        | rangeFunc => simp [rx] at h
        | goto => simp [rx] at h
        | refuse => simp [rx] at h
end
end Go.Rm
end

section
/- The engine, part 26: a run that reckons: what is of no use is dropped; calls of functions by a table. -/
set_option linter.unusedSimpArgs false
set_option linter.unusedVariables false
namespace Go.Rm

mutual
def AV.names : AV → List Nat → List Nat
  | .ptr n _, acc => n :: acc
  | .elt n _ _ _, acc => n :: acc
  | .hnd n, acc => n :: acc
  | .agg l, acc => AV.namesL l acc
  | .tup l, acc => AV.namesL l acc
  | .fn _ a b, acc => AV.namesL a (AV.namesL b acc)
  | .sl n _ _ _, acc => n :: acc
  | .cv n _ _ _, acc => n :: acc
  | .ifc _ x, acc => AV.names x acc
  | _, acc => acc
def AV.namesL : List AV → List Nat → List Nat
  | [], acc => acc
  | x :: r, acc => AV.names x (AV.namesL r acc)
end

def Chunk.names (c : Chunk) (acc : List Nat) : List Nat :=
  match c with
  | .cells l => AV.namesL l acc
  | .row _ xs => xs.foldr AV.namesL acc
  | .map es => es.foldr (fun e a => AV.names e.1 (AV.names e.2 a)) acc
  | _ => acc

mutual
def AV.allN (p : Nat → Bool) : AV → Bool
  | .ptr n _ => p n
  | .elt n _ _ _ => p n
  | .hnd n => p n
  | .agg l => AV.allNL p l
  | .tup l => AV.allNL p l
  | .fn _ a b => AV.allNL p a && AV.allNL p b
  | .sl n _ _ _ => p n
  | .cv n _ _ _ => p n
  | .ifc _ x => AV.allN p x
  | _ => true
def AV.allNL (p : Nat → Bool) : List AV → Bool
  | [] => true
  | x :: r => AV.allN p x && AV.allNL p r
end

def Chunk.allN (p : Nat → Bool) : Chunk → Bool
  | .cells l => AV.allNL p l
  | .row _ xs => xs.all (AV.allNL p)
  | .map es => es.all fun e => AV.allN p e.1 && AV.allN p e.2
  | _ => true

mutual
theorem AV.ren_ren {f g : Nat → Nat} {p : Nat → Bool} (h : ∀ n, p n = true → g (f n) = n) : (x : AV) → x.allN p = true → (x.ren f).ren g = x
  | .v _, _ => by simp [AV.ren]
  | .ptr n _, hx => by simp only [AV.allN] at hx; simp [AV.ren, h n hx]
  | .elt n _ _ _, hx => by simp only [AV.allN] at hx; simp [AV.ren, h n hx]
  | .hnd n, hx => by simp only [AV.allN] at hx; simp [AV.ren, h n hx]
  | .agg l, hx => by simp only [AV.allN] at hx; simp [AV.ren, AV.renL_ren h l hx]
  | .bytes _ _, _ => by simp [AV.ren]
  | .blk _ _, _ => by simp [AV.ren]
  | .tup l, hx => by simp only [AV.allN] at hx; simp [AV.ren, AV.renL_ren h l hx]
  | .fn _ a b, hx => by simp only [AV.allN, Bool.and_eq_true] at hx; simp [AV.ren, AV.renL_ren h a hx.1, AV.renL_ren h b hx.2]
  | .sl n _ _ _, hx => by simp only [AV.allN] at hx; simp [AV.ren, h n hx]
  | .cv n _ _ _, hx => by simp only [AV.allN] at hx; simp [AV.ren, h n hx]
  | .ifc _ x, hx => by simp only [AV.allN] at hx; simp [AV.ren, AV.ren_ren h x hx]
theorem AV.renL_ren {f g : Nat → Nat} {p : Nat → Bool} (h : ∀ n, p n = true → g (f n) = n) : (l : List AV) → AV.allNL p l = true → AV.renL g (AV.renL f l) = l
  | [], _ => by simp [AV.renL]
  | x :: r, hx => by simp only [AV.allNL, Bool.and_eq_true] at hx; simp [AV.renL, AV.ren_ren h x hx.1, AV.renL_ren h r hx.2]
end

theorem Chunk.ren_ren {f g : Nat → Nat} {p : Nat → Bool} (h : ∀ n, p n = true → g (f n) = n) (x : Chunk) (hx : x.allN p = true) : (x.ren f).ren g = x := by
  cases x with
  | cells l => simp only [Chunk.ren, AV.renL_ren h l hx]
  | row sz xs =>
    simp only [Chunk.allN, List.all_eq_true] at hx
    simp only [Chunk.ren, AV.renLL_map, List.map_map]
    have : List.map (AV.renL g ∘ AV.renL f) xs = List.map id xs := List.map_congr_left fun y hy => AV.renL_ren h y (hx y hy)
    rw [this, List.map_id]
  | map es =>
    simp only [Chunk.allN, List.all_eq_true, Bool.and_eq_true] at hx
    simp only [Chunk.ren, AV.renE_map, List.map_map]
    have : List.map ((fun x => (AV.ren g x.1, AV.ren g x.2)) ∘ fun x => (AV.ren f x.1, AV.ren f x.2)) es = List.map id es :=
      List.map_congr_left fun y hy => by simp [AV.ren_ren h y.1 (hx y hy).1, AV.ren_ren h y.2 (hx y hy).2]
    rw [this, List.map_id]
  | _ => rfl

def mark (H : List Chunk) (k1 : Nat) : Nat → List Nat → List Nat → List Nat
  | 0, _, seen => seen
  | _ + 1, [], seen => seen
  | n + 1, x :: w, seen => if Nat.blt x k1 then mark H k1 n w seen else if seen.elem x then mark H k1 n w seen else match H[x]? with
    | some c => mark H k1 n (c.names w) (x :: seen)
    | none => mark H k1 n w seen

def invOf (k1 : Nat) (kept : List Nat) (n : Nat) : Nat :=
  if Nat.blt n k1 then n else match posN kept n with
    | some i => k1 + i
    | none => n

/-- The value and the heap, without what nobody leads to. -/
def gc (k1 : Nat) (x : AV) (H : List Chunk) : Option (AV × List Chunk) :=
  let seen := mark H k1 100000 (x.names ((H.take k1).foldr Chunk.names [])) []
  let kept := (List.range' k1 (H.length - k1)).filter fun i => seen.elem i
  let σ := List.range k1 ++ kept
  let inv := invOf k1 kept
  let p : Nat → Bool := fun n => decide (nm σ H.length (inv n) = n)
  if decide (k1 ≤ H.length) && x.allN p && (σ.all fun m => match H[m]? with | some c => c.allN p | none => false) then
    some (x.ren inv, σ.map fun m => (H.getD m .gone).ren inv)
  else none

theorem gc_clean {k1 : Nat} {x x2 : AV} {H H2 : List Chunk} (h : gc k1 x H = some (x2, H2)) : Clean k1 (fun y K => y = x2 ∧ K = H2) x H := by
  unfold gc at h
  simp only [] at h
  generalize hk : (List.range' k1 (H.length - k1)).filter (fun i => (mark H k1 100000 (x.names ((H.take k1).foldr Chunk.names [])) []).elem i) = kept at h
  split at h
  rotate_left
  · simp at h
  rename_i hc
  simp only [Bool.and_eq_true, decide_eq_true_eq, List.all_eq_true] at hc
  obtain ⟨⟨hc1, hc2⟩, hc3⟩ := hc
  simp only [Option.some.injEq, Prod.mk.injEq] at h
  obtain ⟨rfl, rfl⟩ := h
  have hp : ∀ n, (fun n => decide (nm (List.range k1 ++ kept) H.length (invOf k1 kept n) = n)) n = true → nm (List.range k1 ++ kept) H.length (invOf k1 kept n) = n := fun n hn => by simpa using hn
  refine ⟨List.range k1 ++ kept, _, _, ⟨?_, ?_⟩, (AV.ren_ren hp x hc2).symm, by simp, by simp, rfl, rfl⟩
  · rw [List.nodup_append]
    refine ⟨List.nodup_range, ?_, ?_⟩
    · rw [← hk]; exact (List.nodup_range' ..).sublist List.filter_sublist
    · intro a ha b hb hab
      subst hab
      rw [← hk] at hb
      simp only [List.mem_range, List.mem_filter, List.mem_range'_1] at ha hb
      omega
  · refine subL_self (by simp) fun i m y hy hm => ?_
    rw [List.getElem?_map, hm] at hy
    simp only [Option.map_some, Option.some.injEq] at hy
    have h3 := hc3 m (List.mem_of_getElem? hm)
    split at h3
    · rename_i c hcm
      rw [hcm]
      rw [← hy, List.getD, hcm, Option.getD_some, Chunk.ren_ren hp c h3]
    · simp at h3

/-- A function's contract out of its body's run. -/
theorem run_fn0 {E : Env} {f : FuncId} {fn : Func} {code : Code} {N k0 : Nat} {res : List ResultVar} {Q : AV → List Chunk → Prop} 
    (hf : E.P.funcs[f]? = some fn) (hb : fn.body = some code) (hn : fn.ntmps = N) (hcall : ∀ as w, (callFunc f as).run E.P w = .ok (.enter f as) w)
    {H : List Chunk} {args : List AV} (hlen : args.length ≤ N) (hl : AV.ltL H.length args = true) (hk : k0 ≤ H.length)
    (h : Runs (E.cfg f N k0 res Q) [.code code] ⟨envOf 0 args, H⟩) : Sp E f k0 H args Q := by
  refine ⟨hcall, fun ρ w Fs hs hg hz => ?_⟩
  intro cs
  have hr : Rel (E.cfg f N k0 res Q) ρ ⟨envOf 0 args, H⟩ { tmps := (AV.vals ρ args).toArray ++ Array.replicate (fn.ntmps - (AV.vals ρ args).toArray.size) undef, defers := [] } w Fs := by
    have hvl : (AV.vals ρ args).length = args.length := by rw [AV.vals_eq]; simp
    refine ⟨?_, rfl, ?_, ?_, hs, hg, hk, hz⟩
    · simp [hvl, Env.cfg, hn]; omega
    · intro t x hx
      obtain ⟨_, h2⟩ := envOf_spec args 0 t x hx
      rw [Nat.sub_zero] at h2
      have ht : t < args.length := (List.getElem?_eq_some_iff.1 h2).1
      rw [Array.getElem?_append_left (by simpa [hvl] using ht)]
      simp [AV.vals_eq, h2]
    · intro t x hx
      obtain ⟨_, h2⟩ := envOf_spec args 0 t x hx
      exact AV.ltL_all.1 hl x (List.mem_of_getElem? h2)
  let b : Frame := { (default : Frame) with fn := f, kind := .normal }
  have henter : Frame.enter E.P f (AV.vals ρ args).toArray .normal =
      b.at { tmps := (AV.vals ρ args).toArray ++ Array.replicate (fn.ntmps - (AV.vals ρ args).toArray.size) undef, defers := [] } [.code code] := by
    simp [Frame.enter, Frame.at, hf, hb, b]
  obtain ⟨e, w', fr, hfin, hcomes, hfn, hleave⟩ := h ρ _ w Fs hr [.code code] ⟨rfl, trivial⟩ b cs rfl rfl
  refine ⟨e, w', fr, ?_, by rw [henter]; exact hcomes, hfn, hleave⟩
  obtain ⟨ρ', x, H', Fs', h1, h2, h3, h4, h5, h6, h7, h8⟩ := hfin
  exact ⟨ρ', x, H', Fs', h1, h2, h3, h4, h5, h6, h7, h8⟩

/-- The table's row of a function. -/
structure Entry (E : Env) (g : FuncId) (d : FnD) (pl : Nat → List (Nat × List Nat)) : Prop where
  fn : ∃ fn, E.P.funcs[g]? = some fn ∧ fn.body = some d.code ∧ fn.ntmps = d.N ∧ fn.results.toList = d.res
  call : ∀ as w, (callFunc g as).run E.P w = .ok (.enter g as) w
  plans : codeB E.D d.N pl d.code = true

/-- Calls, by the table; ext has the contracts that are known otherwise. -/
def callT (E : Env) (fnT : FuncId → Option FnD) (plT : FuncId → Nat → List (Nat × List Nat)) (ext : CallX) (grow : Nat) : Nat → CallX
  | 0, _, _, _ => none
  | n + 1, g, args, H => match ext g args H with
    | some r => some r
    | none => match fnT g with
      | some d => if Nat.ble args.length d.N && AV.ltL H.length args then
          match rx (E.cfg g d.N H.length d.res fun _ _ => True) (callT E fnT plT ext grow n) (plT g) 100000 [.code d.code] ⟨envOf 0 args, H⟩ with
          | some (x, H') => if Nat.blt H'.length (H.length + grow) then some (x, H') else match gc H.length x H' with
            | some r => some r
            | none => some (x, H')
          | none => none
        else none
      | none => none


theorem rx_Q {E : Env} {f : FuncId} {N k0 : Nat} {res : List ResultVar} (Q Q' : AV → List Chunk → Prop) (call : CallX) (pl : Nat → List (Nat × List Nat)) (n : Nat) (k : List It) (s : S) :
    rx (E.cfg f N k0 res Q) call pl n k s = rx (E.cfg f N k0 res Q') call pl n k s := by
  have h2 : ∀ A o s, opX (E.cfg f N k0 res Q) call A o s = opX (E.cfg f N k0 res Q') call A o s := fun A o s => rfl
  have h3 : ∀ A l s, opsX (E.cfg f N k0 res Q) call A l s = opsX (E.cfg f N k0 res Q') call A l s := by
    intro A l
    induction l with
    | nil => intro s; rfl
    | cons o r ih => intro s; simp only [opsX, h2, ih]
  have h4 : ∀ A j s, stabX (E.cfg f N k0 res Q) A j s = stabX (E.cfg f N k0 res Q') A j s := fun A j s => rfl
  have h5 : ∀ A l s, planX (E.cfg f N k0 res Q) call A l s = planX (E.cfg f N k0 res Q') call A l s := by
    intro A l
    induction l with
    | nil => intro s; rfl
    | cons o r ih => intro s; obtain ⟨i, ck⟩ := o; simp only [planX, h2, h4, ih]
  have h6 : ∀ s : S, ∀ l, s.results (E.cfg f N k0 res Q) l = s.results (E.cfg f N k0 res Q') l := by
    intro s l
    induction l with
    | nil => rfl
    | cons r l ih =>
      have : s.result (E.cfg f N k0 res Q) r = s.result (E.cfg f N k0 res Q') r := rfl
      simp only [S.results, ih, this]
  have h7 : ∀ s, finX (E.cfg f N k0 res Q) s = finX (E.cfg f N k0 res Q') s := by
    intro s
    unfold finX
    rw [h6]
    rfl
  induction n generalizing k s with
  | zero => rfl
  | succ n ih =>
    cases k with
    | nil => simp only [rx, h7]
    | cons x k =>
      cases x with
      | inBlock id => simp only [rx, ih]
      | inScope b => simp only [rx, ih]
      | inLoop b => simp only [rx, ih]
      | ops A l => rfl
      | code c =>
        cases c with
        | region id A d => cases d <;> simp only [rx, h3, h5, ih]
        | ret => simp only [rx, h7]
        | _ => simp only [rx, ih]

theorem callT_ok {E : Env} {fnT : FuncId → Option FnD} {plT : FuncId → Nat → List (Nat × List Nat)} {ext : CallX} {grow : Nat} (hE : ∀ f N k0 res Q, CfgOk (E.cfg f N k0 res Q))
    (hT : ∀ g d, fnT g = some d → Entry E g d (plT g)) (hext : CallOK E ext) : ∀ n, CallOK E (callT E fnT plT ext grow n) := by
  intro n
  induction n with
  | zero => intro g args H x H' h; simp [callT] at h
  | succ n ih =>
    intro g args H x H' h
    simp only [callT] at h
    split at h
    · rename_i r hr
      cases h
      exact hext _ _ _ _ _ hr
    · split at h
      rotate_left
      · simp at h
      rename_i d hd
      have hent := hT g d hd
      obtain ⟨fn, hf, hb, hn, hres⟩ := hent.fn
      split at h
      rotate_left
      · simp at h
      rename_i hcond
      simp only [Bool.and_eq_true] at hcond
      have hlen : args.length ≤ d.N := Nat.le_of_ble_eq_true hcond.1
      refine ⟨hcond.2, ?_⟩
      split at h
      rotate_left
      · simp at h
      rename_i y K hrx
      have plain : ∀ (Q : AV → List Chunk → Prop), Q y K → Runs (E.cfg g d.N H.length d.res Q) [.code d.code] ⟨envOf 0 args, H⟩ := fun Q hQ => by
        refine rx_runs { toCfgOk := hE .., fn := ⟨fn, hf, hres⟩ } ih (r := (y, K)) hQ 100000 _ _ (by rw [rx_Q Q (fun _ _ => True)]; exact hrx) ?_
        simp only [List.all_cons, List.all_nil, Bool.and_true, itB]
        exact hent.plans
      have direct : Sp E g H.length H args fun z J => z = y ∧ J = K :=
        run_fn0 hf hb hn hent.call hlen hcond.2 (Nat.le_refl _) (plain _ ⟨rfl, rfl⟩)
      split at h
      · cases h; exact direct
      · split at h
        · rename_i r hgc
          cases h
          exact run_fn (hE ..) hf hb hn hres hent.call hlen hcond.2 (Nat.le_refl _) (plain _ (gc_clean hgc))
        · cases h; exact direct
end Go.Rm
end

section
/- The engine, part 27: tables as trees. -/
namespace Go.Rm

inductive BT (α : Type) where
  | nil
  | node (l : BT α) (k : Nat) (v : α) (r : BT α)

def BT.get {α : Type} : BT α → Nat → Option α
  | .nil, _ => none
  | .node l k v r, t => bif Nat.blt t k then l.get t else bif Nat.beq t k then some v else r.get t

def BT.allB {α : Type} (p : Nat → α → Bool) : BT α → Bool
  | .nil => true
  | .node l k v r => p k v && l.allB p && r.allB p

def BT.AllP {α : Type} (p : Nat → α → Prop) : BT α → Prop
  | .nil => True
  | .node l k v r => l.AllP p ∧ p k v ∧ r.AllP p

theorem BT.allB_get {α : Type} {p : Nat → α → Bool} : ∀ {b : BT α} {t : Nat} {v : α}, b.allB p = true → b.get t = some v → p t v = true
  | .nil, _, _, _, h => by simp [BT.get] at h
  | .node l k v r, t, x, ha, h => by
    simp only [BT.allB, Bool.and_eq_true] at ha
    simp only [BT.get, cond_eq_ite] at h
    split at h
    · exact allB_get ha.1.2 h
    · split at h
      · rename_i hk
        cases h
        rw [Nat.eq_of_beq_eq_true hk]; exact ha.1.1
      · exact allB_get ha.2 h

theorem BT.AllP_get {α : Type} {p : Nat → α → Prop} : ∀ {b : BT α} {t : Nat} {v : α}, b.AllP p → b.get t = some v → p t v
  | .nil, _, _, _, h => by simp [BT.get] at h
  | .node l k v r, t, x, ha, h => by
    simp only [BT.AllP] at ha
    simp only [BT.get, cond_eq_ite] at h
    split at h
    · exact AllP_get ha.1 h
    · split at h
      · rename_i hk
        cases h
        rw [Nat.eq_of_beq_eq_true hk]; exact ha.2.1
      · exact AllP_get ha.2.2 h

def bodyOf (f : Func) : Code := match f.body with
  | some c => c
  | none => .skip
end Go.Rm
end

section
/- The engine, part 28: the verification condition of a todo list, with regions that draw their order, and with what a call must meet. -/
set_option linter.unusedSimpArgs false
set_option linter.unusedVariables false
namespace Go.Rm

/-- What a call must meet: some contract of a part of the heap. -/
def CallK (E : Env) (g : FuncId) (args : List AV) (H : List Chunk) (K : AV → List Chunk → Prop) : Prop :=
  ∃ (σ : List Nat) (k1 : Nat) (Hc : List Chunk) (as : List AV) (Qc : AV → List Chunk → Prop), Sp E g k1 Hc as Qc ∧ args = AV.renL (nm σ H.length) as ∧
    ((∀ (n : Nat) (y : Chunk), H[n]? = some y → y.lt H.length = true) → Sub σ Hc H) ∧ k1 ≤ Hc.length ∧
    ∀ x H', Qc x H' → k1 ≤ H'.length → K (x.ren (tau σ k1 H.length)) (mergeH H σ k1 H')

theorem CallK.of {E : Env} {g : FuncId} {args as : List AV} {H Hc : List Chunk} {K Qc : AV → List Chunk → Prop} {k1 : Nat} (σ : List Nat) (h : Sp E g k1 Hc as Qc)
    (ha : args = AV.renL (nm σ H.length) as) (hs : Sub σ Hc H) (hk : k1 ≤ Hc.length) (hK : ∀ x H', Qc x H' → k1 ≤ H'.length → K (x.ren (tau σ k1 H.length)) (mergeH H σ k1 H')) : CallK E g args H K :=
  ⟨σ, k1, Hc, as, Qc, h, ha, fun _ => hs, hk, hK⟩

theorem CallK.mono {E : Env} {g : FuncId} {args : List AV} {H : List Chunk} {K K' : AV → List Chunk → Prop} (h : CallK E g args H K) (hK : ∀ x H', K x H' → K' x H') : CallK E g args H K' := by
  obtain ⟨σ, k1, Hc, as, Qc, h1, h2, h3, h4, h5⟩ := h
  exact ⟨σ, k1, Hc, as, Qc, h1, h2, h3, h4, fun x H' hq hk => hK _ _ (h5 x H' hq hk)⟩

/-- A call in a function: by a contract, or of the machine's own. -/
def CallP (E : Env) (c : Cfg) (o : Op) (s : S) (g : FuncId) (args : List AV) (H : List Chunk) (K : AV → List Chunk → Prop) : Prop :=
  (∃ x, stepOp c o s = some ⟨True, x, s.heap⟩ ∧ K x H) ∨ CallK E g args H K

theorem CallP.call {E : Env} {c : Cfg} {o : Op} {s : S} {g : FuncId} {args : List AV} {H : List Chunk} {K : AV → List Chunk → Prop} (h : CallK E g args H K) : CallP E c o s g args H K := .inr h

/-- Here the engine stands still. -/
def StuckV (o : Op) : Prop := False

/-- What an operation comes to, and what goes on behind it. -/
def NextV (o : Op) (e : Option Eff) (K : AV → List Chunk → Prop) : Prop :=
  match e with
  | some e => e.pre ∧ K e.x e.heap
  | none => StuckV o

/-- A Bool that a guard reads is seen to be what it is. -/
def SplitK (b : Bool) (K : AV → List Chunk → Prop) (x : AV) (H : List Chunk) : Prop :=
  match b, x with
  | true, .v (.bool v) => (v = true → K (.v (.bool true)) H) ∧ (v = false → K (.v (.bool false)) H)
  | _, x => K x H

theorem SplitK.out {b : Bool} {K : AV → List Chunk → Prop} {x : AV} {H : List Chunk} (h : SplitK b K x H) : K x H := by
  unfold SplitK at h
  split at h
  · rename_i v
    cases v
    · exact h.2 rfl
    · exact h.1 rfl
  · exact h

/-- A branch. -/
def CondV (t : Option AV) (x y : Prop) : Prop :=
  match t with
  | some (.v (.bool b)) => (b = true → x) ∧ (b = false → y)
  | _ => False

/-- From here on a loop. -/
def LoopV (c : Cfg) (pl : Nat → List (Nat × List Nat)) (b : Code) (k : List It) (s : S) : Prop := (itB c.D c.N pl (.inLoop b) = true) → (k.all fun x => itB c.D c.N pl x) = true → Runs c (.code (.loop b) :: k) s
/-- A loop's round is over. -/
def RoundV (c : Cfg) (pl : Nat → List (Nat × List Nat)) (b : Code) (k : List It) (s : S) : Prop := (itB c.D c.N pl (.inLoop b) = true) → (k.all fun x => itB c.D c.N pl x) = true → Runs c (.inLoop b :: k) s

/-- Nothing else is known of what goes on. -/
def RestV (c : Cfg) (pl : Nat → List (Nat × List Nat)) (k : List It) (s : S) : Prop := (k.all fun x => itB c.D c.N pl x) = true → Runs c k s

/-- Run anew, the operation comes to what stands there for it. -/
def stabV (c : Cfg) (A : Array Oper) (s : S) (j : Nat) : Prop :=
  match A.toList[j]? with
  | some o => match guardX A o s with
    | some true => match stepOp c o.op s with
      | some e => opK o.op = .ben ∧ e.pre ∧ (match o.dst with | some t => lookE s.env t = some e.x | none => True)
      | none => False
    | some false => match o.dst with | some t => lookE s.env t = some (.v undef) | none => True
    | none => False
  | none => False

def stabsV (c : Cfg) (A : Array Oper) (s : S) : List Nat → Prop
  | [] => True
  | j :: r => stabV c A s j ∧ stabsV c A s r

theorem stabV_ok {c : Cfg} {A : Array Oper} {j : Nat} {s : S} (h : stabV c A s j) : Stab c A j s := by
  unfold stabV at h
  split at h
  rotate_left
  · exact h.elim
  rename_i o ho
  refine ⟨o, by simpa using ho, ?_⟩
  split at h
  · rename_i hg
    split at h
    rotate_left
    · exact h.elim
    rename_i e he
    obtain ⟨hk, hp, h⟩ := h
    refine .inl ⟨guardX_want hg, e, he, hp, ben_heap hk he, fun t ht => ?_⟩
    rw [ht] at h
    exact ⟨_, h, fun _ => rfl, fun _ h => h⟩
  · rename_i hg
    refine .inr ⟨guardX_want hg, fun t ht => ?_⟩
    rw [ht] at h
    exact h
  · exact h.elim

theorem stabsV_ok {c : Cfg} {A : Array Oper} {s : S} : ∀ {l : List Nat}, stabsV c A s l → chkAll c A s l
  | [], _ => trivial
  | _ :: _, h => ⟨stabV_ok h.1, stabsV_ok h.2⟩

/-- Does a guard read what this operation writes? -/
def splitJ (A : Array Oper) (i : Nat) : Bool := A.toList.any fun o => match o.guard with | some (j, _) => j == i | none => false

/-- What goes on behind a call. -/
def AfterK (F : Option (Array Oper × List (Nat × List Nat)) → List It → S → Prop) (h : Option (Array Oper × List (Nat × List Nat))) (k : List It) (env : List (Nat × AV)) (dst : Option Tmp) (x : AV) (H : List Chunk) : Prop :=
  F h k (S.put ⟨env, H⟩ dst x)

/-- What goes on behind a call in a plan. -/
def AfterP (F : Option (Array Oper × List (Nat × List Nat)) → List It → S → Prop) (c : Cfg) (A : Array Oper) (ck : List Nat) (h : Option (Array Oper × List (Nat × List Nat))) (k : List It) (env : List (Nat × AV)) (dst : Option Tmp)
    (x : AV) (H : List Chunk) : Prop :=
  stabsV c A (S.put ⟨env, H⟩ dst x) ck ∧ F h k (S.put ⟨env, H⟩ dst x)

def vcx (E : Env) (c : Cfg) (pl : Nat → List (Nat × List Nat)) : Nat → Option (Array Oper × List (Nat × List Nat)) → List It → S → Prop
  | 0, none, k, s => RestV c pl k s
  | 0, some _, _, _ => False
  | n + 1, some (_, []), k, s => vcx E c pl n none k s
  | n + 1, some (A, (i, ck) :: r), k, s => match A.toList[i]? with
    | some o => if dstOk c.N o.dst = true then
        match guardX A o s with
        | some true => match callOf o.op s with
          | some (g, args) => CallP E c o.op s g args s.heap (AfterP (fun h k s => vcx E c pl n h k s) c A ck (some (A, r)) k s.env o.dst)
          | none => NextV o.op (stepOp c o.op s) (SplitK (splitJ A i) (AfterP (fun h k s => vcx E c pl n h k s) c A ck (some (A, r)) k s.env o.dst))
        | some false => stabsV c A (s.put o.dst (.v undef)) ck ∧ vcx E c pl n (some (A, r)) k (s.put o.dst (.v undef))
        | none => StuckV o.op
      else False
    | none => False
  | _ + 1, none, [], s => fin c s
  | n + 1, none, .inBlock _ :: k, s => vcx E c pl n none k s
  | n + 1, none, .inScope _ :: k, s => vcx E c pl n none k s
  | _ + 1, none, .inLoop b :: k, s => RoundV c pl b k s
  | n + 1, none, .ops _ [] :: k, s => vcx E c pl n none k s
  | n + 1, none, .ops A (o :: r) :: k, s =>
    if dstOk c.N o.dst = true then
      match guardX A o s with
      | some true => match callOf o.op s with
        | some (g, args) => CallP E c o.op s g args s.heap (AfterK (fun h k s => vcx E c pl n h k s) none (.ops A r :: k) s.env o.dst)
        | none => NextV o.op (stepOp c o.op s) (SplitK (splitB A o r) (AfterK (fun h k s => vcx E c pl n h k s) none (.ops A r :: k) s.env o.dst))
      | some false => vcx E c pl n none (.ops A r :: k) (s.put o.dst (.v undef))
      | none => StuckV o.op
    else False
  | n + 1, none, .code c' :: k, s => match c' with
    | .skip => vcx E c pl n none k s
    | .label _ => vcx E c pl n none k s
    | .ret => fin c s
    | .seq a b => vcx E c pl n none (.code a :: .code b :: k) s
    | .cond t x y => CondV (s.opd t) (vcx E c pl n none (.code x :: k) s) (vcx E c pl n none (.code y :: k) s)
    | .block id b => vcx E c pl n none (.code b :: .inBlock id :: k) s
    | .scope b => vcx E c pl n none (.code b :: .inScope b :: k) s
    | .loop b => LoopV c pl b k s
    | .exit id => match exitIt id k with
      | some k' => vcx E c pl n none k' s
      | none => False
    | .region _ A false => vcx E c pl n none (.ops A A.toList :: k) s
    | .region id A true => vcx E c pl n (some (A, pl id)) k s
    | _ => False

section
variable {E : Env} {f : FuncId} {N k0 : Nat} {res : List ResultVar} {Q : AV → List Chunk → Prop} {A : Array Oper} {o : Oper} {s s' : S} {k : List It} {pl : Nat → List (Nat × List Nat)}

theorem wantS_wanted {b : Bool} (hw : wantS A o s b) : ∀ ρ a w Fs, Rel (E.cfg f N k0 res Q) ρ s a w Fs → Region.wanted o (yielded A a.tmps) = b := by
  intro ρ a w Fs hrel
  unfold wantS at hw
  split at hw
  · rename_i hgd; simp [Region.wanted, hgd, hw]
  · rename_i j want hgd
    obtain ⟨v, hv, hb⟩ := hw
    simp only [Region.wanted, hgd, guardOf_sound hrel hv]
    rw [← hb]
    cases v <;> cases want <;> rfl

theorem wantS_guard (hw : wantS A o s true) : o.guard = none ∨ ∃ j b, o.guard = some (j, b) ∧ guardOf A s j = some b := by
  unfold wantS at hw
  split at hw
  · rename_i hgd; exact .inl hgd
  · rename_i j want hgd
    obtain ⟨v, hv, hb⟩ := hw
    simp only [beq_iff_eq] at hb
    subst hb
    exact .inr ⟨j, v, hgd, hv⟩

/-- A call in text order. -/
theorem CallP.runs (hc : CfgFn (E.cfg f N k0 res Q)) {g : FuncId} {args : List AV} {K : AV → List Chunk → Prop} {r : List Oper} (hd : dstOk N o.dst = true) (hw : wantS A o s true)
    (hop : callOf o.op s = some (g, args)) (h : CallP E (E.cfg f N k0 res Q) o.op s g args s.heap K)
    (cont : ∀ x H, K x H → Runs (E.cfg f N k0 res Q) (.ops A r :: k) (S.put ⟨s.env, H⟩ o.dst x)) : Runs (E.cfg f N k0 res Q) (.ops A (o :: r) :: k) s := by
  rcases h with ⟨x, hx, hK⟩ | ⟨σ, k1, Hc, as, Qc, h1, h2, h3, h4, h5⟩
  · exact Runs.op hc hd hx trivial (wantS_wanted hw) (cont _ _ hK)
  · intro ρ a w Fs hrel
    refine Runs.call hc.toCfgOk h1 σ hd (wantS_guard hw) (by rw [hop, h2]) (h3 hrel.sat.lt) h4 (fun x H' hq hk => ?_) ρ a w Fs hrel
    have := cont _ _ (h5 x H' hq hk)
    simpa [S.after] using this

/-- A call in a plan. -/
theorem CallP.vcd (hc : CfgFn (E.cfg f N k0 res Q)) {g : FuncId} {args : List AV} {K : AV → List Chunk → Prop} {i : Nat} {ck : List Nat} {r : List (Nat × List Nat)} (ho : A[i]? = some o)
    (hd : dstOk N o.dst = true) (hw : wantS A o s true) (hop : callOf o.op s = some (g, args)) (h : CallP E (E.cfg f N k0 res Q) o.op s g args s.heap K)
    (cont : ∀ x H, K x H → chkAll (E.cfg f N k0 res Q) A (S.put ⟨s.env, H⟩ o.dst x) ck ∧ VCd E (E.cfg f N k0 res Q) A k r (S.put ⟨s.env, H⟩ o.dst x)) :
    VCd E (E.cfg f N k0 res Q) A k ((i, ck) :: r) s := by
  rcases h with ⟨x, hx, hK⟩ | ⟨σ, k1, Hc, as, Qc, h1, h2, h3, h4, h5⟩
  · have := cont _ _ hK
    exact .op ho hd hw hx trivial (fun _ => rfl) (fun _ h => h) this.1 this.2
  · refine .call σ ho hd hw (callOf_act hop) h1 (by rw [hop, h2]) h3 h4 ?_ ?_
    · intro x H' hq hk
      have := (cont _ _ (h5 x H' hq hk)).1
      simpa [S.after] using this
    · intro x H' hq hk
      have := (cont _ _ (h5 x H' hq hk)).2
      simpa [S.after] using this

theorem vcx_sound (hc : CfgFn (E.cfg f N k0 res Q)) : ∀ (n : Nat) (k : List It) (s : S), (k.all fun x => itB E.D N pl x) = true →
    (vcx E (E.cfg f N k0 res Q) pl n none k s → Runs (E.cfg f N k0 res Q) k s) ∧
    (∀ A l, vcx E (E.cfg f N k0 res Q) pl n (some (A, l)) k s → VCd E (E.cfg f N k0 res Q) A k l s) := by
  intro n
  induction n with
  | zero => intro k s hk; exact ⟨fun h => by simp only [vcx] at h; exact h hk, fun A l h => by simp [vcx] at h⟩
  | succ n ih =>
    intro k s hk
    refine ⟨fun h => ?_, fun A l h => ?_⟩
    rotate_left
    · -- a plan
      cases l with
      | nil => simp only [vcx] at h; exact .nil ((ih k s hk).1 h)
      | cons p r =>
        obtain ⟨i, ck⟩ := p
        simp only [vcx] at h
        split at h
        rotate_left
        · exact h.elim
        rename_i o ho
        have ho' : A[i]? = some o := by simpa using ho
        split at h
        rotate_left
        · exact h.elim
        rename_i hd
        split at h
        · rename_i hg
          have hw := guardX_want hg
          split at h
          · rename_i g args hop
            exact CallP.vcd hc ho' hd hw hop h fun x H hK => ⟨stabsV_ok hK.1, (ih k _ hk).2 _ _ hK.2⟩
          · unfold NextV at h
            split at h
            · rename_i e he
              obtain ⟨hp, h⟩ := h
              have hx : stabsV (E.cfg f N k0 res Q) A ({ s with heap := e.heap }.put o.dst e.x) ck ∧ vcx E (E.cfg f N k0 res Q) pl n (some (A, r)) k ({ s with heap := e.heap }.put o.dst e.x) := h.out
              exact .op ho' hd hw he hp (fun _ => rfl) (fun _ h => h) (stabsV_ok hx.1) ((ih k _ hk).2 _ _ hx.2)
            · exact h.elim
        · rename_i hg
          exact .skip ho' hd (guardX_want hg) (stabsV_ok h.1) ((ih k _ hk).2 _ _ h.2)
        · exact h.elim
    · cases k with
      | nil => exact vcs_sound hc 1 [] s (by simpa [vcs, vcx] using h)
      | cons x k =>
        have hk' := hk
        simp only [List.all_cons, Bool.and_eq_true] at hk'
        obtain ⟨hx, hk2⟩ := hk'
        have go : ∀ (k2 : List It) (s2 : S), vcx E (E.cfg f N k0 res Q) pl n none k2 s2 → (k2.all fun x => itB E.D N pl x) = true → vcs (E.cfg f N k0 res Q) 0 k2 s2 := fun k2 s2 h h2 => by
          simpa [vcs] using (ih k2 s2 h2).1 h
        cases x with
        | inBlock id => simp only [vcx] at h; exact vcs_sound hc 1 _ _ (by simpa [vcs] using go _ _ h hk2)
        | inScope b => simp only [vcx] at h; exact vcs_sound hc 1 _ _ (by simpa [vcs] using go _ _ h hk2)
        | inLoop b => simp only [vcx] at h; exact h hx hk2
        | ops A l =>
          cases l with
          | nil => simp only [vcx] at h; exact vcs_sound hc 1 _ _ (by simpa [vcs] using go _ _ h hk2)
          | cons o r =>
            simp only [vcx] at h
            have hk3 : ((It.ops A r :: k).all fun x => itB E.D N pl x) = true := by simp only [List.all_cons, Bool.and_eq_true]; exact ⟨rfl, hk2⟩
            split at h
            rotate_left
            · exact h.elim
            rename_i hd
            split at h
            · rename_i hg
              have hw := guardX_want hg
              split at h
              · rename_i g args hop
                exact CallP.runs hc hd hw hop h fun x H hK => (ih _ _ hk3).1 hK
              · unfold NextV at h
                split at h
                · rename_i e he
                  obtain ⟨hp, h⟩ := h
                  have hx : vcx E (E.cfg f N k0 res Q) pl n none (.ops A r :: k) ({ s with heap := e.heap }.put o.dst e.x) := h.out
                  exact Runs.op hc hd he hp (wantS_wanted hw) ((ih _ _ hk3).1 hx)
                · exact h.elim
            · rename_i hg
              exact Runs.skip hc hd (wantS_wanted (guardX_want hg)) ((ih _ _ hk3).1 h)
            · exact h.elim
        | code c' =>
          simp only [itB] at hx
          cases c' with
          | skip => simp only [vcx] at h; exact vcs_sound hc 1 _ _ (by simpa [vcs] using go _ _ h hk2)
          | label l => simp only [vcx] at h; exact vcs_sound hc 1 _ _ (by simpa [vcs] using go _ _ h hk2)
          | ret => simp only [vcx] at h; exact vcs_sound hc 1 _ _ (by simpa [vcs] using h)
          | seq a b =>
            simp only [vcx] at h
            simp only [codeB, Bool.and_eq_true] at hx
            exact vcs_sound hc 1 _ _ (by simpa [vcs] using go _ _ h (by simp only [List.all_cons, Bool.and_eq_true]; exact ⟨hx.1, hx.2, hk2⟩))
          | cond t a b =>
            simp only [codeB, Bool.and_eq_true] at hx
            simp only [vcx] at h
            unfold CondV at h
            split at h
            rotate_left
            · exact h.elim
            rename_i v ht
            refine vcs_sound hc 1 _ _ ?_
            simp only [vcs, ht]
            exact ⟨fun hv => (ih _ _ (by simp only [List.all_cons, Bool.and_eq_true]; exact ⟨hx.1, hk2⟩)).1 (h.1 hv),
              fun hv => (ih _ _ (by simp only [List.all_cons, Bool.and_eq_true]; exact ⟨hx.2, hk2⟩)).1 (h.2 hv)⟩
          | block id b => simp only [vcx] at h; exact vcs_sound hc 1 _ _ (by simpa [vcs] using go _ _ h (by simp only [List.all_cons, Bool.and_eq_true]; exact ⟨hx, rfl, hk2⟩))
          | scope b => simp only [vcx] at h; exact vcs_sound hc 1 _ _ (by simpa [vcs] using go _ _ h (by simp only [List.all_cons, Bool.and_eq_true]; exact ⟨hx, rfl, hk2⟩))
          | loop b => simp only [vcx] at h; exact h hx hk2
          | exit id =>
            simp only [vcx] at h
            split at h
            · rename_i k2 hk3
              exact vcs_sound hc 1 _ _ (by simpa [vcs, hk3] using go _ _ h (itB_exit hk3 hk2))
            · exact h.elim
          | region id A draw =>
            cases draw with
            | false =>
              simp only [vcx] at h
              have hk3 : ((It.ops A A.toList :: k).all fun x => itB E.D N pl x) = true := by simp only [List.all_cons, Bool.and_eq_true]; exact ⟨rfl, hk2⟩
              exact vcs_sound hc 1 _ _ (by simpa [vcs] using go _ _ h hk3)
            | true =>
              simp only [vcx] at h
              simp only [codeB, Bool.and_eq_true] at hx
              exact draw_sound hc.toCfgOk hx.1 hx.2 ((ih _ _ hk2).2 _ _ h)
          | rangeFunc => simp [vcx] at h
          | goto => simp [vcx] at h
          | refuse => simp [vcx] at h
end
end Go.Rm
end

section
/- The engine, part 29: what a proof of a contract begins and ends with, by vcx; loops. -/
namespace Go.Rm

@[simp] theorem NextV_some {o : Op} {p : Prop} {x : AV} {H : List Chunk} {d : Decidable p} {K : AV → List Chunk → Prop} : NextV o (some (Eff.mk p x H (dec := d))) K = (p ∧ K x H) := rfl
@[simp] theorem NextV_none {o : Op} {K : AV → List Chunk → Prop} : NextV o none K = StuckV o := rfl
@[simp] theorem SplitK_false {K : AV → List Chunk → Prop} {x : AV} {H : List Chunk} : SplitK false K x H = K x H := by simp [SplitK]
@[simp] theorem SplitK_true {K : AV → List Chunk → Prop} {b : Bool} {H : List Chunk} : SplitK true K (.v (.bool b)) H = ((b = true → K (.v (.bool true)) H) ∧ (b = false → K (.v (.bool false)) H)) := rfl
@[simp] theorem CondV_some {b : Bool} {x y : Prop} : CondV (some (.v (.bool b))) x y = ((b = true → x) ∧ (b = false → y)) := rfl
attribute [simp] byteV AfterK AfterP vcx guardX stabV stabsV splitJ opK stepNew stepAssert stepMakeSlice stepLookup stepPut
attribute [-simp] Env.cfg

section
variable {E : Env} {f : FuncId} {N k0 : Nat} {res : List ResultVar} {Q : AV → List Chunk → Prop}
@[simp] theorem cfg_P : (E.cfg f N k0 res Q).P = E.P := rfl
@[simp] theorem cfg_glob : (E.cfg f N k0 res Q).glob = E.glob := rfl
@[simp] theorem cfg_D : (E.cfg f N k0 res Q).D = E.D := rfl
@[simp] theorem cfg_N : (E.cfg f N k0 res Q).N = N := rfl
@[simp] theorem cfg_k0 : (E.cfg f N k0 res Q).k0 = k0 := rfl
@[simp] theorem cfg_res : (E.cfg f N k0 res Q).res = res := rfl
@[simp] theorem cfg_Q : (E.cfg f N k0 res Q).Q = Q := rfl
@[simp] theorem cfg_ext : (E.cfg f N k0 res Q).ext = E.ext := rfl

theorem fn_spx {fn : Func} {code : Code} {H : List Chunk} {args : List AV} (n : Nat)
    (pl : Nat → List (Nat × List Nat)) (hc : CfgOk (E.cfg f N k0 res (Clean k0 Q))) (hf : E.P.funcs[f]? = some fn) (hb : fn.body = some code) (hn : fn.ntmps = N) (hres : fn.results.toList = res)
    (hcall : ∀ as w, (callFunc f as).run E.P w = .ok (.enter f as) w) (hpl : codeB E.D N pl code = true) (hlen : args.length ≤ N) (hl : AV.ltL H.length args = true) (hk : k0 ≤ H.length)
    (h : vcx E (E.cfg f N k0 res (Clean k0 Q)) pl n none [.code code] ⟨envOf 0 args, H⟩) : Sp E f k0 H args Q :=
  run_fn hc hf hb hn hres hcall hlen hl hk ((vcx_sound { toCfgOk := hc, fn := ⟨fn, hf, hres⟩ } n _ _ (by simp [itB, hpl])).1 h)

/-- A contract out of a row of the table. -/
theorem Entry.sp {d : FnD} {pl : Nat → List (Nat × List Nat)} (he : Entry E f d pl) (hE : ∀ f N k0 res Q, CfgOk (E.cfg f N k0 res Q)) {H : List Chunk} {args : List AV} (n : Nat) (hk : k0 ≤ H.length)
    (hlen : Nat.ble args.length d.N = true) (hl : AV.ltL H.length args = true) (h : vcx E (E.cfg f d.N k0 d.res (Clean k0 Q)) pl n none [.code d.code] ⟨envOf 0 args, H⟩) : Sp E f k0 H args Q := by
  obtain ⟨fn, hf, hb, hn, hres⟩ := he.fn
  exact fn_spx n pl (hE ..) hf hb hn hres he.call he.plans (Nat.le_of_ble_eq_true hlen) hl hk h

/-- A contract of a function that only computes. -/
theorem Clean.v' {x : AV} {H : List Chunk} (hx : x.lt 0 = true) (h : Q x []) : Clean 0 Q x H := by
  refine ⟨[], x, [], ⟨List.nodup_nil, trivial⟩, ?_, by simp, by simp, h⟩
  rw [AV.ren_congr (g := fun n => n) (m := 0) (fun n hn => by omega) x hx, AV.ren_id]

theorem LoopV.by (hc : CfgFn (E.cfg f N k0 res Q)) {pl : Nat → List (Nat × List Nat)} {b : Code} {k : List It} {s : S} {X : Type} (I : X → S) (p : X → Prop) (μ : X → Nat) (x0 : X) (σ : List Nat) (n : Nat)
    (hp : p x0) (h0 : Weak k0 σ s (I x0))
    (round : ∀ x, p x → (∀ x', p x' → μ x' < μ x → RoundV (E.cfg f N k0 res Q) pl b k (I x')) → vcx E (E.cfg f N k0 res Q) pl n none (.code b :: .inLoop b :: k) (I x)) :
    LoopV (E.cfg f N k0 res Q) pl b k s := by
  intro h1 h2
  refine Runs.loop I p μ x0 σ hp h0 fun x hx ih => ?_
  refine (vcx_sound hc n _ _ ?_).1 (round x hx fun x' hx' hlt _ _ => ih x' hx' hlt)
  simp only [List.all_cons, Bool.and_eq_true]
  exact ⟨h1, h1, h2⟩

theorem RoundV.to {pl : Nat → List (Nat × List Nat)} {b : Code} {k : List It} {s s2 : S} (σ : List Nat) (h : RoundV (E.cfg f N k0 res Q) pl b k s2) (hw : Weak k0 σ s s2) : RoundV (E.cfg f N k0 res Q) pl b k s :=
  fun h1 h2 => Runs.weak (h h1 h2) hw
end
end Go.Rm
namespace Go.Rm
theorem Entry.cfg {E : Env} {f : FuncId} {k0 : Nat} {Q : AV → List Chunk → Prop} {d : FnD} {pl : Nat → List (Nat × List Nat)} (he : Entry E f d pl) (hE : ∀ f N k0 res Q, CfgOk (E.cfg f N k0 res Q)) :
    CfgFn (E.cfg f d.N k0 d.res Q) := by
  obtain ⟨fn, hf, _, _, hres⟩ := he.fn
  exact { toCfgOk := hE .., fn := ⟨fn, hf, hres⟩ }
end Go.Rm
end

section
/- The engine, part 30: numbers. -/
namespace Go.Rm
theorem wrapI {n : Int} (h : -9223372036854775808 ≤ n) (h2 : n ≤ 9223372036854775807) : IntKind.i64.wrap n = n := by
  rw [IntWalk.i64_left, IntWalk.wrap64_in n ⟨h, h2⟩]

theorem wrapU {k : IntKind} (hs : k.signed = false) {n : Int} (h : 0 ≤ n) (h2 : n < 2 ^ k.bits) : k.wrap n = n := by
  unfold IntKind.wrap
  simp [hs]
  exact Int.emod_eq_of_lt h h2

theorem wrapU8 {n : Int} (h : 0 ≤ n) (h2 : n < 256) : IntKind.u8.wrap n = n := wrapU rfl h h2
theorem wrapU16 {n : Int} (h : 0 ≤ n) (h2 : n < 65536) : IntKind.u16.wrap n = n := wrapU rfl h h2
theorem wrapU32 {n : Int} (h : 0 ≤ n) (h2 : n < 4294967296) : IntKind.u32.wrap n = n := wrapU rfl h h2
theorem wrapU64 {n : Int} (h : 0 ≤ n) (h2 : n < 18446744073709551616) : IntKind.u64.wrap n = n := wrapU rfl h h2

theorem wrapU_nat {k : IntKind} (hs : k.signed = false) (n : Nat) : k.wrap (n : Int) = ((n % 2 ^ k.bits : Nat) : Int) := by
  unfold IntKind.wrap
  simp [hs]
end Go.Rm
end

section
/- The engine, part 31: contracts of the library's, lifted: what returns a value and leaves memory as it was. -/
namespace Go.Rm
open Go.RowKit (Below)


theorem Keeps.of_below {w w' : World} {F : FP} (h : Below w.heap.size w w') : Keeps w w' F F :=
  ⟨h.os, h.tape, h.output, h.size, fun k hk _ => h.block k hk, fun _ hk => .inl hk⟩

theorem Sat.of_below {g : Nat} {ρ : Nat → Hnd} {H : List Chunk} {w w' : World} {Fs : Nat → FP} (hs : Sat g ρ H w Fs) (h : Below w.heap.size w w') : Sat g ρ H w' Fs :=
  hs.worldI (fun n k hk => h.block k (hs.fits n k hk).2) h.size

theorem Sp.lift {E : Env} {g k0 : Nat} {H : List Chunk} {args : List AV} {x : AV} (hE : ∀ f N k0 res Q, CfgOk (E.cfg f N k0 res Q)) (hcall : ∀ as w, (callFunc g as).run E.P w = .ok (.enter g as) w) (hk : k0 ≤ H.length) (hx : x.lt H.length = true)
    (h : ∀ ρ w Fs, Sat E.g ρ H w Fs → E.Gl w → Calls E.P g (AV.vals ρ args).toArray w fun e w' => e = .returned (x.val ρ) ∧ Below w.heap.size w w') :
    Sp E g k0 H args fun y K => y = x ∧ K = H := by
  refine ⟨hcall, fun ρ w Fs hs hg hz => (h ρ w Fs hs hg).mono ?_⟩
  rintro e w' ⟨rfl, hb⟩
  refine ⟨ρ, x, H, Fs, rfl, fun _ _ => rfl, hs.of_below hb, ?_, .of_below hb, hx, ⟨rfl, rfl⟩, hk⟩
  exact (hE 0 0 0 [] (fun _ _ => True)).gl w w' (allF Fs) (allF Fs) hg (.of_below hb) (fun k ⟨n, hn⟩ => (hs.fits n k hn).1)

def strRow (xs : List ByteArray) : List (List AV) := xs.map fun x => [.v (.string x)]

theorem strRow_flat (ρ : Nat → Hnd) (xs : List ByteArray) : (strRow xs).flatMap (cellsL ρ) = xs.map Value.string := by
  induction xs with
  | nil => rfl
  | cons y r ih => simpa [strRow, AV.cells, AV.val, Value.cells] using ih

/-- The cells of a row of strings, in memory. -/
theorem strRow_cells {g : Nat} {ρ : Nat → Hnd} {H : List Chunk} {w : World} {Fs : Nat → FP} (hs : Sat g ρ H w Fs) {n : Nat} {xs : List ByteArray} (h : H[n]? = some (.row 1 (strRow xs))) :
    (xs = [] ∧ (ρ n).val = .slice none 0 0) ∨ ∃ b o cap, (ρ n).val = .slice (some ⟨b, o, none⟩) xs.length cap ∧ xs.length ≤ cap ∧ b < w.heap.size ∧ ∀ (j : Nat) x, xs[j]? = some x → w.cell? ⟨b, o + j, none⟩ = some (.string x) := by
  have hh := hs.holds n _ h
  simp only [Chunk.holds] at hh
  obtain ⟨_, hh⟩ := hh
  rcases hh with ⟨h1, h2, _⟩ | ⟨b, cap, spare, h1, h2, _, _, ⟨fz, h5, _⟩, hF⟩
  · left
    exact ⟨by simpa [strRow] using h1, h2⟩
  · right
    refine ⟨b, (ρ n).pre.length, cap, by simpa [strRow] using h1, by simpa [strRow] using h2, (hs.fits n b ((hF b).2 rfl)).2, fun j x hj => ?_⟩
    rw [strRow_flat] at h5
    unfold World.cell?
    rw [h5]
    simp only [Option.isSome_none, Bool.false_eq_true, if_false]
    have hl : j < xs.length := (List.getElem?_eq_some_iff.1 hj).1
    rw [List.getElem?_toArray, List.append_assoc, List.getElem?_append_right (by omega), List.getElem?_append_left (by simp; omega)]
    simp [hj]
end Go.Rm
end
