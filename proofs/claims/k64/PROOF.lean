import PyProof.Rows.All
import Wide.All
import OpenK.AllK
import Wide.FinOn
import HandS.ForMost
import HandS.ForExc
import HandS.IsInst
import HandS.TupAny
import HandS.Small
import HandS.StrMore
import HandS.RaiseMore
import HandS.Zip
import HandS.Codes
import HandS.More
import PyProof.StrOps2
import HandS.Comp
import HandS.HeadWalk
import HandS.ListItems
import HandS.Style
import HandS.ExcInit
import HandS.TryOnly
import HandS.Flow
import HandS.Defaults
import HandS.HeadHook4
import HandS.Lambda
import HandS.ExcField
import KE.KStateDown
import HandS.EndBits
import HandS.EndTab
import HandS.CallRecv
import HandS.Head0
import HandS.Head1
import HandS.Head2
import HandS.HeadEnd
import HandS.HeadHook1
import HandS.HeadHook2
import HandS.HeadHook3
import PyProof.Rows.StrDigitsNeg
import PySem.Challenge.RW_hotrows_k64_whole_texts_of_codes_read
set_option Elab.async false
set_option linter.all false
set_option maxRecDepth 100000
set_option maxHeartbeats 2000000
/-! Combined operator rules (by values): one relation for each operator, whatever the kinds. -/
namespace Dq
open PySem PySem.Spec PyProof.Rows L2
section
variable {X : Cx}

/-! ### consequence and choice -/
theorem PE.imp {e : Expr} {t t' : TE} (h : PE X e t) (i : ∀ σ H Q, t' σ H Q → t σ H Q) : PE X e t' := ⟨fun pins s σ H Q I q => h.run pins s σ H Q I (i σ H Q q)⟩
theorem PE.or {e : Expr} {t t' : TE} (h : PE X e t) (h' : PE X e t') : PE X e (fun σ H Q => t σ H Q ∨ t' σ H Q) :=
  ⟨fun pins s σ H Q I q => q.elim (h.run pins s σ H Q I) (h'.run pins s σ H Q I)⟩
theorem PT.imp {e : Expr} {t t' : TT} (h : PT X e t) (i : ∀ σ H Q, t' σ H Q → t σ H Q) : PT X e t' := ⟨fun pins s σ H Q I q => h.run pins s σ H Q I (i σ H Q q)⟩
theorem PS.imp {e : Stmt} {t t' : TS} (h : PS X e t) (i : ∀ D σ H, t' D σ H → t D σ H) : PS X e t' := ⟨fun pins s σ H D I q => h.run pins s σ H D I (i D σ H q)⟩

/-! ### one sign times int -/
def rStrMul : R2 := fun x y H Q => ∃ (c : Nat) (k : Nat), x = .str ⟨#[c]⟩ ∧ y = .int k ∧ 1 ≤ k ∧ k ≤ 100000 ∧ Q (.str ⟨(List.replicate k c).toArray⟩) H
theorem foldl_app (c : Nat) : ∀ (k : Nat) (a : Array Nat), (List.replicate k #[c]).foldl (· ++ ·) a = a ++ (List.replicate k c).toArray
  | 0, a => by simp
  | k + 1, a => by
    rw [List.replicate_succ, List.foldl_cons, foldl_app c k]
    apply Array.ext'
    simp [List.replicate_succ]
theorem op_strmul : OpR X (binaryOp .Mult) rStrMul := by
  intro pins s σ H x y v u Q I rx ry h
  obtain ⟨c, k, rfl, rfl, h1, h2, q⟩ := h
  obtain ⟨t, rfl⟩ := rx
  obtain ⟨t', rfl⟩ := ry
  have hl : (⟨#[c]⟩ : Str).length = 1 := rfl
  refine PySem.P.mul_str ?_ ?_ ?_ ?_
  · have a : ¬ (k : Int) < -(2 ^ 63) := by omega
    have b : ¬ (k : Int) ≥ 2 ^ 63 := by omega
    simp only [a, b, decide_false, Bool.or_self]
  · intro _ _
    rw [hl]
    have : (1 : Int) ≤ (2 ^ 63 - 1) / (k : Int) := by
      apply (Int.le_ediv_iff_mul_le (by omega)).mpr; omega
    omega
  · intro _ _
    rw [hl]
    unfold Builtin.Str.tooLong
    simp
    rw [sizeLine_eq]
    omega
  · rw [if_neg (by omega)]
    by_cases hk : k = 1
    · subst hk
      rw [if_pos (by rfl)]
      exact ⟨.str _, H, I, ⟨t, rfl⟩, q⟩
    · rw [if_neg (by rw [hl]; simp; omega)]
      have e : (⟨(List.replicate ((k : Int)).toNat (⟨#[c]⟩ : Str).cps).foldl (· ++ ·) #[]⟩ : Str) = ⟨(List.replicate k c).toArray⟩ := by
        rw [Int.toNat_natCast]
        show (⟨(List.replicate k #[c]).foldl (· ++ ·) #[]⟩ : Str) = _
        rw [foldl_app]
        simp
      rw [e]
      exact ⟨by show (List.replicate k c).toArray.size ≤ sizeLine; rw [List.size_toArray, List.length_replicate, sizeLine_eq]; omega, .str _, H, I.tok _, ⟨_, rfl⟩, q⟩

/-! ### one relation for each operator -/
def qAdd (K : PySem.W.Frag) : R2 := fun x y H Q => (∃ i j, x = .int i ∧ y = .int j ∧ Q (.int (i + j)) H) ∨ (∃ i j, x = .str i ∧ y = .str j ∧ i.length + j.length ≤ sizeLine ∧ Q (.str (i ++ j)) H) ∨ rCat x y H Q ∨ rCatA K x y H Q
theorem op_qAdd : OpR X (binaryOp .Add) (qAdd X.K) := OpR.or op_add (OpR.or op_add_str (OpR.or op_cat op_catA))
def qSub : R2 := rI0 fun i j => .int (i - j)
def qMul : R2 := fun x y H Q => rI CMul (fun i j => .int (i * j)) x y H Q ∨ rRep x y H Q ∨ rStrMul x y H Q
theorem op_qMul : OpR X (binaryOp .Mult) qMul := OpR.or op_mul (OpR.or op_rep op_strmul)
def qBin (K : PySem.W.Frag) : Operator → R2
  | .Add => qAdd K
  | .Sub => qSub
  | .Mult => qMul
  | .FloorDiv => rI CDiv fun i j => .int (i / j)
  | .Mod => rI (fun _ j => 0 < j) fun i j => .int (i % j)
  | .Pow => rI CPow fun i j => .int (i ^ j.toNat)
  | _ => fun _ _ _ _ => False
theorem op_qBin : ∀ op : Operator, OpR X (binaryOp op) (qBin X.K op) := fun op => by
  cases op
  case Add => exact op_qAdd
  case Sub => exact op_sub
  case Mult => exact op_qMul
  case FloorDiv => exact op_fdiv
  case Mod => exact op_mod
  case Pow => exact op_pow
  all_goals exact fun _ _ _ _ _ _ _ _ _ _ _ _ h => h.elim

/-! ### comparisons -/
def qEq (K : PySem.W.Frag) : R2 := fun x y H Q => rEq x y H Q ∨ rEqD K x y H Q
def qNe (K : PySem.W.Frag) : R2 := fun x y H Q => rNe x y H Q ∨ rNeD K x y H Q
def qIs : R2 := fun x y H Q => (y = .non ∧ Q (.bl (decide (x = .non))) H) ∨ ∃ m n, x = .ty m ∧ y = .ty n ∧ Q (.bl (decide (m = n))) H
def qIsNot : R2 := fun x y H Q => (y = .non ∧ Q (.bl (!decide (x = .non))) H) ∨ ∃ m n, x = .ty m ∧ y = .ty n ∧ Q (.bl (!decide (m = n))) H
/-- whether x is in y, by values -/
def InV (K : PySem.W.Frag) (w : World) (x y : V) (H : Hp) (b : Bool) : Prop :=
  (∃ p xs, y = .ref p ∧ (SqL K H p xs ∨ SqT K H p xs) ∧ flatV x = true ∧ xs.all flatV = true ∧ b = inV x xs) ∨
  (∃ (c : Nat) (z : Str), x = .str ⟨#[c]⟩ ∧ y = .str z ∧ b = decide (c ∈ z.cps.toList)) ∨
  (∃ a o, y = .ref a ∧ DGet H a x o ∧ b = o.isSome) ∨
  ∃ d es n z r, KDict K w d es n ∧ x = .str z ∧ y = .ref d ∧ PySem.W.nsIn K d z = some r ∧ b = r.isSome
def qIn (K : PySem.W.Frag) (w : World) (neg : Bool) : R2 := fun x y H Q => ∃ b, InV K w x y H b ∧ Q (.bl (if neg then !b else b)) H
theorem op_qIn (hu : X.A.units + 1 < cLine) : OpR X (compareOp .In) (qIn X.K X.w false) := by
  rintro pins s σ H x y v u Q I rx ry ⟨b, h, q⟩
  rcases h with ⟨p, xs, e, hq, fx, fs, rfl⟩ | ⟨c, z, e1, e2, rfl⟩ | ⟨a, o, e, g, rfl⟩ | ⟨d, es, n, z, r, D, e1, e2, e3, rfl⟩
  · exact op_in_seq pins s σ H x y v u Q I rx ry ⟨p, xs, e, hq, fx, fs, q⟩
  · exact op_in_sign pins s σ H x y v u Q I rx ry ⟨c, z, e1, e2, q⟩
  · subst e
    obtain rfl : u = Value.ref a := ry
    exact d_in hu I g rx fun s3 I3 => ⟨.bl o.isSome, H, I3, rfl, q⟩
  · exact op_in_kd D pins s σ H x y v u Q I rx ry ⟨z, r, e1, e2, e3, q⟩
theorem op_qNotIn (hu : X.A.units + 1 < cLine) : OpR X (compareOp .NotIn) (qIn X.K X.w true) := by
  rintro pins s σ H x y v u Q I rx ry ⟨b, h, q⟩
  rcases h with ⟨p, xs, e, hq, fx, fs, rfl⟩ | ⟨c, z, e1, e2, rfl⟩ | ⟨a, o, e, g, rfl⟩ | ⟨d, es, n, z, r, D, e1, e2, e3, rfl⟩
  · exact op_notIn_seq pins s σ H x y v u Q I rx ry ⟨p, xs, e, hq, fx, fs, q⟩
  · exact op_notIn_sign pins s σ H x y v u Q I rx ry ⟨c, z, e1, e2, q⟩
  · subst e
    obtain rfl : u = Value.ref a := ry
    exact d_notIn hu I g rx fun s3 I3 => ⟨.bl (!o.isSome), H, I3, rfl, q⟩
  · exact op_notIn_kd D pins s σ H x y v u Q I rx ry ⟨z, r, e1, e2, e3, q⟩
def qCmp (K : PySem.W.Frag) (w : World) : CmpOp → R2
  | .Eq => qEq K
  | .NotEq => qNe K
  | .Lt => rI0 fun i j => .bl (decide (i < j))
  | .LtE => rI0 fun i j => .bl (decide (i ≤ j))
  | .Gt => rI0 fun i j => .bl (decide (j < i))
  | .GtE => rI0 fun i j => .bl (decide (j ≤ i))
  | .Is => qIs
  | .IsNot => qIsNot
  | .In => qIn K w false
  | .NotIn => qIn K w true
theorem op_qCmp (hu : X.A.units + 64 < cLine) : ∀ op : CmpOp, OpR X (compareOp op) (qCmp X.K X.w op) := fun op => by
  cases op
  case Eq => exact OpR.or op_eq (op_eqD hu)
  case NotEq => exact OpR.or op_ne (op_neD hu)
  case Lt => exact op_lt
  case LtE => exact op_le
  case Gt => exact op_gt
  case GtE => exact op_ge
  case Is => exact OpR.or op_isN op_isTy
  case IsNot => exact OpR.or op_notN op_isNotTy
  case In => exact op_qIn (by omega)
  case NotIn => exact op_qNotIn (by omega)

/-! ### subscripts -/
def qIx (K : PySem.W.Frag) (w : World) : R2 := fun x y H Q => rIxL K x y H Q ∨ rIxT K x y H Q ∨ rIxS x y H Q ∨ (∃ a v, x = .ref a ∧ DGet H a y (some v) ∧ Q v H) ∨ rIxD K w x y H Q
theorem ix_dget (hu : X.A.units + 1 < cLine) : IxR X (fun x y H Q => ∃ a v, x = .ref a ∧ DGet H a y (some v) ∧ Q v H) := by
  rintro value slice pins s σ H x y v u Q I rx ry ⟨a, z, rfl, g, q⟩ hs
  obtain rfl : v = Value.ref a := rx
  exact tail_any (dict_typeIs I g) PySem.F.slot_dict_getitem.lookup (d_getItem hu I g ry fun w' s3 I3 rw' => ⟨z, H, I3, rw', q⟩) hs
theorem ix_q (hu : X.A.units + 1 < cLine) : IxR X (qIx X.K X.w) := IxR.or ix_list (IxR.or ix_tup (IxR.or ix_str (IxR.or (ix_dget hu) ix_kdict)))
def qSl (K : PySem.W.Frag) : V → Option Int → Option Int → Hp → VK → Prop := fun x lo hi H Q => rSlL K x lo hi H Q ∨ rSlA K x lo hi H Q ∨ C8.rSlX x lo hi H Q
theorem sl_q : SlR X (qSl X.K) := SlR.or sl_list (SlR.or sl_tupA C8.sl_txt)
end
end Dq

set_option maxHeartbeats 4000000
/-! List comprehensions from whose elements an exception may leave. -/
namespace Dq
open PySem PySem.Spec PyProof.Rows L2

section
variable {M : Model} {A : Around} {E : Value → Shared → Prop} {s : Shared} {env : Env}
/-- what stands behind a comprehension's block: the block's environment has the def's frame -/
def cPost (M : Model) (A : Around) (E : Value → Shared → Prop) (fr : Option Addr) (use : Option (Value → Sem Unit)) (Q : Value → Shared → Prop) (acc : Value) (C : Addr) : Result → Shared → Prop
  | .ok _, s' => (match use with
    | none => ∃ m, s'.heap.Ns C m ∧ ∀ h', Heap.SameBut C s'.heap h' → Q acc { s' with heap := h' }
    | some u => wpAny M A (u acc) (fun _ s2 => ∃ m, s2.heap.Ns C m ∧ ∀ h', Heap.SameBut C s2.heap h' → Q .none { s2 with heap := h' }) E s')
  | .error x, s' => ∃ m, s'.heap.Ns C m ∧ ∀ h', Heap.SameBut C s'.heap h' → ∀ ce : Env, ce.locals = C → ce.frame = fr →
      wpAny M A (passOn "comprehension.variables-let-go" x ce : Sem Value) (fun _ _ => False) E { s' with heap := h' }

theorem comp_free {e : Expr} {scope : Scope} {pos : Pos} {mk fst : Sem Value} {g : Comprehension} {gs : List Comprehension} {cl : List (Str × Addr)} {use : Option (Value → Sem Unit)} {Q : Value → Shared → Prop}
    (h1 : clausesOf e = g :: gs) (h2 : ∀ x, foldedSetIterable g.iter env x = pure x) (h3 : closureFor scope env = pure cl) (h4 : scope.kind = .function) (h5 : ∀ x ∈ scope.names, x.2 = .local → scope.names.lookup x.1 = some .local)
    (h : wpAny M A fst (fun x s1 => wpAny M A (pyIter x) (fun it s2 => wpAny M A mk (fun acc s3 => wpAny M A (newFunctionEnv scope env.globals cl [] env.qual none .none (some env)) (fun ce s4 => ce.frame = env.frame ∧
        codeAny M A (.compStart e 0 it acc { ce with scope := relabel scope env }) (cPost M A E env.frame use Q acc ce.locals) s4) E s3) E s2) E s1) E s) :
    wpAny M A (comprehension e scope env pos mk false fst use) Q E s := by
  unfold comprehension
  rw [h3, h1]
  refine wpAny_bind (wpAny_mono h (fun x s1 k1 => wpAny_bind (wpAny_standAt (wpAny_bind (wpAny_of_eq (h2 x) (wpAny_bind (wpAny_holding (wpAny_mono k1 (fun it s2 k2 => wpAny_standIf (wpAny_bind (wpAny_mono k2 (fun acc s3 k3 => wpAny_bind (wpAny_pure (wpAny_bind (wpAny_mono k3 (fun ce s4 k4 => ?_) fun _ _ z => z)))) fun _ _ z => z))) fun _ _ z => z))))))) fun _ _ z => z)
  dsimp only
  obtain ⟨kf, k4⟩ := k4
  have hv : ∀ y ∈ (scope.names.filter fun x => (x.2 == .local || x.2 == .cell) && x.1 != (".0" : Str)).reverse, y.2 = .local → Env.kindOf { ce with scope := relabel scope env } y.1 = some .local := fun y hy hl =>
    lookup_relabel_local (h5 y (List.mem_filter.mp (List.mem_reverse.mp hy)).1 hl)
  have hw : ∀ y ∈ (scope.names.filter fun x => (x.2 == .local || x.2 == .cell) && x.1 != (".0" : Str)).reverse.drop 1 ++ (scope.names.filter fun x => (x.2 == .local || x.2 == .cell) && x.1 != (".0" : Str)).reverse.take 1, y.2 = .local → Env.kindOf { ce with scope := relabel scope env } y.1 = some .local := fun y hy hl => by
    rcases List.mem_append.mp hy with z | z
    · exact hv y (List.mem_of_mem_drop z) hl
    · exact hv y (List.mem_of_mem_take z) hl
  refine wpAny_holding (wpAny_bind (wpAny_attempt (wpAny_holding (wpAny_run (codeAny_mono k4 fun r s' hr => ?_)))))
  cases r with
  | ok f =>
    cases use with
    | none =>
      obtain ⟨m, hn, hr⟩ := hr
      exact wpAny_bind (wpAny_holding (wpAny_comp_letGo (cenv := { ce with scope := relabel scope env }) h4 _ s' m hv hn fun h' _ _ sb => wpAny_pure (hr h' sb)))
    | some u =>
      exact wpAny_bind (wpAny_rule (wpAny_bind (wpAny_holding (wpAny_mono (show wpAny M A (u _) _ E s' from hr) (fun _ s2 ⟨m, hn, k⟩ => wpAny_bind (wpAny_comp_letGo (cenv := { ce with scope := relabel scope env }) h4 _ s2 m hw hn fun h' _ _ sb => wpAny_pure (k h' sb))) fun _ _ z => z))))
  | error x =>
    obtain ⟨m, hn, hr⟩ := (show ∃ m, s'.heap.Ns ce.locals m ∧ ∀ h', Heap.SameBut ce.locals s'.heap h' → ∀ c2 : Env, c2.locals = ce.locals → c2.frame = env.frame → wpAny M A (passOn "comprehension.variables-let-go" x c2 : Sem Value) (fun _ _ => False) E { s' with heap := h' } from hr)
    exact wpAny_bind (wpAny_holding (wpAny_comp_letGo (cenv := { ce with scope := relabel scope env }) h4 _ s' m hv hn fun h' _ _ sb => wpAny_mono (hr h' sb _ rfl kf) (fun _ _ f => f.elim) fun _ _ z => z))
end

/-! ### what leaves the block -/
theorem frames_but {base b2 h h' : Heap} {C : Addr} : ∀ {l : List Env}, h.FunFrames base l → (∀ L ∈ frs l, L ≠ C ∧ b2.get? L = none) → (∀ b, b ≠ C → h'.get? b = h.get? b) → h'.FunFrames b2 l
  | [], _, _, _ => trivial
  | env :: r, ⟨k, ⟨L, o, f, n, e, d⟩, t⟩, hn, hb => by
    have hL : L ∈ frs (env :: r) := by unfold frs; rw [List.filterMap_cons, f]; exact List.mem_cons_self
    refine ⟨k, ⟨L, o, f, (hn L hL).2, (hb L (hn L hL).1).trans e, d⟩, frames_but t (fun L' h' => hn L' ?_) hb⟩
    unfold frs
    rw [List.filterMap_cons, f]
    exact List.mem_cons_of_mem _ h'

abbrev blkE (X : Cx) (s : Shared) (H : Hp) (scope : Scope) (ce : Env) (fp : List Addr) (xe : Value → Shared → Prop) : Cx := { X.blk s H scope ce fp with xe := xe }

theorem blk_out {X : Cx} {W : WX} {pins p2 : List (Addr × Obj)} {σ σ2 : L2.St} {H3 H4 : Hp} {s3 s4 s' : Shared} {scope : Scope} {cl : List (Str × Addr)} {fp : List Addr} {xe : Value → Shared → Prop} {E' : XK} {use : Option (Value → Sem Unit)} {Qf : Value → Shared → Prop} {acc e : Value}
    (tk : Takes X W) (hs : X.stack = X.env :: X.outer) (hf : X.env.frame = some X.env.locals) (I3 : Inv X pins σ H3 s3) (f3 : ∀ b ∈ fp, FpOk X pins H3 b ∧ b < s3.heap.objs.size)
    (I : Inv (blkE X s3 H3 scope (compEnvC scope cl s3.heap.objs.size X.env) fp xe) p2 σ2 H4 s4) (c : CX X.prog X.w X.stack H4 s4 E' e s') (hE : ∀ cls d H, E' cls d H → W cls d σ H) :
    notedBy (model X.prog X.w) X.A (compEnvC scope cl s3.heap.objs.size X.env) (fun x s2 => cPost (model X.prog X.w) X.A X.xe X.env.frame use Qf acc s3.heap.objs.size (.error x) s2) e s' := by
  have xx := XE.of_call (W := fun cls d _ H => W cls d σ H) I hE c
  obtain ⟨a, B, sI, p3, σ3, H5, cls, d, rfl, I2, nb, up, sky, na, os, ag, w⟩ := xx
  have nb : ∀ b o, sI.heap.get? b = some o → b ∉ frs X.stack → B.get? b = some o := nb
  -- flying
  have fl : HandSPX.FlyingZ B X.stack a (Zc cls d) s'.heap ∨ (B.StaysIn s'.heap ∧ B.get? a = none ∧ s'.heap.FunFrames B X.stack ∧ ∃ oe vs, s'.heap.get? a = some oe ∧ Zc cls d oe ∧ oe.data = .fields vs ∧ vs[1]? = some .none) := by
    rcases sky with z | z | z
    · exact .inr z
    · exact .inl z
    · obtain ⟨a2, B2, H2, cls2, d2, e2, fl2, _⟩ := c
      cases e2
      obtain ⟨_, _, _, oe, vs, T, oT, ts, g1, _, g2, g3, _, _, g4, g5, g6⟩ := z
      obtain ⟨_, _, _, oe', vs', T', oT', ts', k1, _, k2, k3, _, _, k4, k5, k6⟩ := fl2
      rw [g1] at k1; cases k1
      rw [g2] at k2; cases k2
      rw [g3] at k3; cases k3
      rw [g4] at k4; cases k4
      rw [g5] at k5; cases k5
      rw [g6] at k6; cases k6
  have hfr : X.A.frames = some (X.env :: X.outer) := by rw [I3.ok.frames, hs]
  -- the note
  have note : ∀ {Q : Unit → Shared → Prop} {E₁ : Value → Shared → Prop}, (∀ h1, HandSPX.HeldZ B X.stack a (Zc cls d) X.env.locals h1 → s'.heap.UpToSlots h1 → Q () { s' with heap := h1 }) →
      wpAny (model X.prog X.w) X.A (noteFrame (.ref a) X.env) Q E₁ s' := fun {Q E₁} hQ => by
    rw [hs] at fl hQ
    rcases fl with z | ⟨z1, z2, z3, oe, vs, z4, z5, z6, z7⟩
    · exact HandSPX.looks_onZ Zc.steady hfr hf z hQ
    · exact HandSPX.look_newZ Zc.steady hfr z3 hf z4 z1 z2 z6 z7 z5 hQ
  have same : noteFrame (.ref a) (compEnvC scope cl s3.heap.objs.size X.env) = noteFrame (.ref a) X.env := rfl
  unfold notedBy
  rw [same]
  refine note fun h1 held up1 => ?_
  generalize hC : s3.heap.objs.size = C at I I2 ⊢
  have cL : (compEnvC scope cl C X.env).locals = C := rfl
  obtain ⟨m, hnI, _⟩ := I2.loc
  have hnI : sI.heap.Ns C m := hnI
  have hn1 : h1.Ns C m := up1.ns (up.ns hnI)
  refine ⟨m, hn1, fun h2 sb ce2 hl2 hf2 => ?_⟩
  have hCn : H5 C = none := I2.free
  have frC : ∀ L ∈ frs X.stack, L ≠ C := fun L hL z => by
    obtain ⟨_, o, ho, _⟩ := I3.stack.mem hL
    have lt := Heap.lt_size ho
    rw [z, ← hC] at lt
    exact Nat.lt_irrefl _ lt
  obtain ⟨st, Bn, ff, oe, vs, T, oT, ts, g1, gz, g2, g3, gB, gne, g4, g5, g6⟩ := held
  obtain ⟨oC, esC, epC, eC, dC, _⟩ := hn1
  have aC : a ≠ C := fun z => by rw [z, eC] at g1; cases g1; rw [dC] at g2; cases g2
  have TC : T ≠ C := fun z => by rw [z, eC] at g4; cases g4; rw [dC] at g5; cases g5
  have held2 : HandSPX.HeldZ (PySem.W.hideAll B [C]) X.stack a (Zc cls d) X.env.locals h2 := by
    refine ⟨fun b o e => ?_, ?_, frames_but ff (fun L hL => ⟨frC L hL, ?_⟩) sb.2, oe, vs, T, oT, ts, (sb.2 a aC).trans g1, gz, g2, g3, ?_, gne, (sb.2 T TC).trans g4, g5, g6⟩
    · have hb : b ≠ C := fun z => by rw [z, PySem.W.hideAll_none [C] (List.mem_singleton.mpr rfl)] at e; cases e
      exact (sb.2 b hb).trans (st b o (PySem.W.of_hideAll _ e))
    · cases q : (PySem.W.hideAll B [C]).get? a with
      | none => rfl
      | some o => have z := PySem.W.of_hideAll _ q; rw [Bn] at z; cases z
    · cases q : (PySem.W.hideAll B [C]).get? L with
      | none => rfl
      | some o => have z := PySem.W.of_hideAll _ q; rw [(ff.mem hL).1] at z; cases z
    · cases q : (PySem.W.hideAll B [C]).get? T with
      | none => rfl
      | some o => have z := PySem.W.of_hideAll _ q; rw [gB] at z; cases z
  -- the state without the block's names
  have hid : ∀ b o, (PySem.W.hideAll sI.heap [C]).get? b = some o → b ≠ C ∧ sI.heap.get? b = some o := fun b o e =>
    ⟨fun z => (by rw [z, PySem.W.hideAll_none [C] (List.mem_singleton.mpr rfl)] at e; exact nomatch e), PySem.W.of_hideAll _ e⟩
  have hid2 : ∀ b o, b ≠ C → sI.heap.get? b = some o → (PySem.W.hideAll sI.heap [C]).get? b = some o := fun b o n e => PySem.W.hideAll_get _ e fun z => n (List.mem_singleton.mp z)
  have old : ∀ b o, s3.heap.get? b = some o → b ≠ C := fun b o e z => by have lt := Heap.lt_size e; rw [z, ← hC] at lt; exact Nat.lt_irrefl _ lt
  have J : Inv X pins σ H5 { sI with heap := PySem.W.hideAll sI.heap [C] } := by
    have un : Un (frs X.stack) fp H3 H5 s3.heap sI.heap := I2.base
    refine I3.call' (ch := fp) I2.os ⟨fun b o e n hb hx => hid2 b o (old b o e) (un.keep b o e n hb hx), fun b o e n hb hx => ?_, un.free, fun b o e hx => ?_, un.tups, un.frzs, un.tbls⟩ (fun b o q => ?_) I2.bare
      (fun b hb => ⟨(f3 b hb).1.2.2.2.1, (f3 b hb).1.2.1, (f3 b hb).1.2.2.2.2.1, (f3 b hb).1.2.2.2.2.2⟩)
    · obtain ⟨sl, z⟩ := un.slot b o e n hb hx
      exact ⟨sl, hid2 b _ (old b o e) z⟩
    · obtain ⟨o', z⟩ := un.there b o e hx
      exact ⟨o', hid2 b _ (old b o e) z⟩
    · refine (I2.hok b o q).stay (fun c u hc e => hid2 c u (fun z => ?_) e) (fun _ z => z) fun _ _ z => z
      rcases hc with hc | hc
      · rw [← hc, z, hCn] at q; cases q
      · rw [z, hCn] at hc; cases hc
  have upJ : (PySem.W.hideAll sI.heap [C]).UpToSlots h2 := fun b o e hnf => by
    obtain ⟨n, e'⟩ := hid b o e
    obtain ⟨sl, e2⟩ := (up.trans up1) b o e' hnf
    exact ⟨sl, (sb.2 b n).trans e2⟩
  -- on
  unfold PySem.passOn
  refine wpAny_bind (wpAny_field ((sb.2 a aC).trans g1) g2 g3 ?_)
  rw [if_neg (by simp)]
  refine wpAny_bind ?_
  rw [hf2, hf]
  refine HandSPX.setFlight_onZ (held2 : HandSPX.HeldZ _ _ _ _ _ ({ s' with heap := h2 } : Shared).heap) fun h3 held3 up3 => wpAny_throw (tk _ _ ?_)
  exact ⟨a, PySem.W.hideAll B [C], _, pins, σ, H5, cls, d, rfl, J, fun b o e hb => PySem.W.hideAll_get _ (nb b o (hid b o e).2 hb) fun z => (hid b o e).1 (List.mem_singleton.mp z), upJ.trans up3, .inr (.inr held3), na, os, ag, w⟩
end Dq

set_option maxHeartbeats 4000000
/-! The comprehension's rule: what its element lets out passes the block. -/
namespace Dq
open PySem PySem.Spec PyProof.Rows L2
section
variable {X : Cx} {W : WX}
/-- what a callee lets out within the block is taken as at the slots σ ahead of it -/
abbrev PassB (X Y : Cx) (W : WX) (σ : L2.St) : Prop := ∀ σ2, PassesAt (L2.CX X.prog X.w) Y σ2 (fun cls d H => W cls d σ H)

theorem lc_raw {pins : List (Addr × Obj)} {s : Shared} {σ : L2.St} {H : Hp} {Q : VK} {elt tg iter : Expr} {ifs : List Expr} {scope : Scope} {own : List (Str × Nat)} {pos pos' : Pos} {wi : TI} {g : TG} {tt : TT} {te : TE} {use : Option (Value → Sem Unit)} {Qf : Value → Shared → Prop}
    (hc : X.calm = true) (hN : X.N.Nodup) (tk : Takes X W) (hs : X.stack = X.env :: X.outer) (hf : X.env.frame = some X.env.locals) (I : Inv X pins σ H s) (hi : PI X tg iter wi) (ok : BlkOk X.N X.env.scope scope own)
    (hg : ∀ (s : Shared) (H : Hp) (C : Addr) (cl : List (Str × Addr)) (fp : List Addr) (xe : Value → Shared → Prop), PG (blkE X s H scope (compEnvC scope cl C X.env) fp xe) tg g)
    (ht : ∀ (s : Shared) (H : Hp) (C : Addr) (cl : List (Str × Addr)) (fp : List Addr) (xe : Value → Shared → Prop), PassB X (blkE X s H scope (compEnvC scope cl C X.env) fp xe) W σ → PTs (blkE X s H scope (compEnvC scope cl C X.env) fp xe) ifs tt)
    (he : ∀ (s : Shared) (H : Hp) (C : Addr) (cl : List (Str × Addr)) (fp : List Addr) (xe : Value → Shared → Prop), PassB X (blkE X s H scope (compEnvC scope cl C X.env) fp xe) W σ → PE (blkE X s H scope (compEnvC scope cl C X.env) fp xe) elt te)
    (hfs : ∀ x, foldedSetIterable iter X.env x = pure x) (h : tLc wi g tt te (own.map (·.2)) σ H Q)
    (fin : ∀ D C s' m H', Inv X pins σ H' s' → Q (.ref D) H' → s'.heap.Ns C m → FpOk X pins H' C → cPost (model X.prog X.w) X.A X.xe X.env.frame use Qf (.ref D) C (.ok .next) s') :
    wpAny (model X.prog X.w) X.A (comprehension (.ListComp elt [⟨tg, iter, ifs, 0⟩] scope pos) scope X.env pos' (newList []) false (eval iter X.env) use) Qf X.xe s := by
  have has : ∀ y ∈ scope.names, y.2 = .free → ∃ c, X.env.cells.lookup y.1 = some c := fun y hy e => (ok.free y hy e).elim (fun k => I.ok.has _ (.inl k)) fun k => I.ok.has _ (.inr k)
  refine comp_free (use := use) rfl hfs (closure_ok has) ok.kind (fun y hy e => by rw [ok.uniq y hy, e]) (thn (hi.run pins s σ H _ I h) fun xv s1 hx => thn hx fun itv s2 h2 => ?_)
  obtain ⟨it, fp, tn, J, H2, rfl, I2, T, st2, f2, q⟩ := h2
  refine wpAny_newObj_type (newEnv_comp ⟨rfl, ?_⟩) (by show 0 ≤ sizeLine; decide)
  generalize eD : s2.heap.objs.size = D
  have nD : H2 D = none := I2.hok.fresh (Nat.le_of_eq eD)
  obtain ⟨Wv, ⟨m0, w0⟩, turn⟩ := q D nD
  generalize e3 : ({ s2 with heap := s2.heap.push { cls := .type "list", data := .seq ([] : List Value).toArray } } : Shared) = s3
  have hp3 : s3.heap = s2.heap.push { cls := .type "list", data := .seq ([] : List Value).toArray } := by rw [← e3]
  have I3 : Inv X pins σ (upd H2 D (.lst [])) s3 := by
    rw [← e3]
    refine I2.laid (t' := s2.toks) (fun b o e => Heap.get?_push_of_some _ e) (Nat.le_of_eq eD) ⟨Nat.zero_le _, [], 0, .nil, ?_⟩
    rw [← eD]
    exact Heap.get?_push_size _ rfl
  have f3 : ∀ b ∈ fp, FpOk X pins (upd H2 D (.lst [])) b ∧ b < s3.heap.objs.size := fun b hb => by
    obtain ⟨o, e, _⟩ := T.obj _ _ st2 b hb
    have lt := Heap.lt_size e
    refine ⟨⟨?_, (f2 b hb).2⟩, by rw [hp3, Heap.size_push]; exact Nat.lt_succ_of_lt lt⟩
    rw [upd_ne (by rw [← eD]; exact Nat.ne_of_lt lt)]
    exact (f2 b hb).1
  have st3 : tn 0 s3.heap := T.keep _ _ _ st2 fun b _ o e => (by rw [hp3]; exact Heap.get?_push_of_some _ e)
  have I4 := block_start I3 ok hN f3
  generalize hcl : cellsFrom (s3.heap.objs.size + 1) scope.names (cloFrom X.env.cells scope.names []) = cl at I4
  generalize hH3 : upd H2 D (.lst []) = H3 at I3 I4 w0 f3
  -- the block's wish
  generalize hxe : notedBy (model X.prog X.w) X.A (compEnvC scope cl s3.heap.objs.size X.env) (fun x s2 => cPost (model X.prog X.w) X.A X.xe X.env.frame use Qf (.ref D) s3.heap.objs.size (.error x) s2) = xe
  have pas : PassB X (blkE X s3 H3 scope (compEnvC scope cl s3.heap.objs.size X.env) fp xe) W σ := fun σ2 p2 H4 s4 e s' I' c => by
    show xe e s'
    rw [← hxe]
    exact blk_out tk hs hf I3 f3 I' c fun _ _ _ z => z
  have pg := hg s3 H3 s3.heap.objs.size cl fp xe
  have pt := ht s3 H3 s3.heap.objs.size cl fp xe pas
  have pe := he s3 H3 s3.heap.objs.size cl fp xe pas
  show codeAny _ _ (.compStart (.ListComp elt [⟨tg, iter, ifs, 0⟩] scope pos) 0 (.ref it) (.ref D) (compEnvC scope cl s3.heap.objs.size X.env)) (cPost (model X.prog X.w) X.A X.xe X.env.frame use Qf (.ref D) s3.heap.objs.size) { s3 with heap := pushCells (s3.heap.push { cls := .type "dict", data := .dict #[] }) scope.names }
  have nfp : ∀ b ∈ fp, H3 b = none := fun b hb => (f3 b hb).1.1
  have I4 : Inv (blkE X s3 H3 scope (compEnvC scope cl s3.heap.objs.size X.env) fp xe) [] (wipe σ (own.map (·.2))) H3 { s3 with heap := pushCells (s3.heap.push { cls := .type "dict", data := .dict #[] }) scope.names } := I4.wish xe
  generalize hs4 : ({ s3 with heap := pushCells (s3.heap.push { cls := .type "dict", data := .dict #[] }) scope.names } : Shared) = s4 at I4 ⊢
  have st4 : tn 0 s4.heap := T.keep _ _ _ st3 fun b _ o e => (by rw [← hs4]; exact pushCells_keeps _ _ _ _ (Heap.get?_push_of_some _ e))
  generalize hce : compEnvC scope cl s3.heap.objs.size X.env = ce at I4 pg pt pe hxe ⊢
  have cL : ce.locals = s3.heap.objs.size := by rw [← hce]; rfl
  have stat : ∀ {σ' : L2.St} {H' : Hp} {s' : Shared}, Inv (blkE X s3 H3 scope ce fp xe) [] σ' H' s' → (∀ b ∈ fp, H' b = none) → ∀ b ∈ fp, FpOk (blkE X s3 H3 scope ce fp xe) [] H' b := fun {σ' H' s'} I' hn b hb =>
    ⟨hn b hb, (I'.ok.exf b hb).1, I'.ok.exfs b hb, .inl hb, fun x c e => (I'.ok.exf b hb).2 x c e, fun p hp => absurd (show p ∈ ([] : List (Addr × Obj)) ++ [] from hp) (by simp)⟩
  have loop : codeAny (model X.prog X.w) X.A (.compLoop (.ListComp elt [⟨tg, iter, ifs, 0⟩] scope pos) 0 (.ref it) (.ref D) ce) (cPost (model X.prog X.w) X.A X.xe X.env.frame use Qf (.ref D) s3.heap.objs.size) s4 := by
    refine compLoop_any (fun n s' => ∃ i H', Inv (blkE X s3 H3 scope ce fp xe) [] (wipe σ (own.map (·.2))) H' s' ∧ tn i s'.heap ∧ (∀ b ∈ fp, H' b = none) ∧ Wv i n H') ?_ m0 ⟨0, H3, I4, st4, nfp, w0⟩
    rintro n s5 ⟨i, H5, I5, st5, n5, w5⟩
    show wpAny _ _ _ _ (notedBy (model X.prog X.w) X.A ce (fun e s' => cPost (model X.prog X.w) X.A X.xe X.env.frame use Qf (.ref D) s3.heap.objs.size (.error e) s')) s5
    rw [hxe]
    rcases turn i n H5 w5 with ⟨stop, qq⟩ | ⟨go, Nx, hNx, step⟩
    · refine thn (T.done (blkE X s3 H3 scope ce fp xe) rfl rfl rfl hc i [] s5 _ H5 xe I5 (stat I5 n5) st5 stop) fun r s6 ⟨hr, I6⟩ => ?_
      subst hr
      have I7 : Inv X pins σ H5 s6 := I3.call' (ch := fp) I6.os I6.base I6.hok I6.bare fun b hb => ⟨(f3 b hb).1.2.2.2.1, (f3 b hb).1.2.1, (f3 b hb).1.2.2.2.2.1, (f3 b hb).1.2.2.2.2.2⟩
      have nC : H5 s3.heap.objs.size = none := by rw [← cL]; exact I6.free
      obtain ⟨m, hn, _⟩ := I6.loc
      exact fin D s3.heap.objs.size s6 m H5 I7 qq (by rw [← cL]; exact hn) (I3.fpOk (Nat.le_refl _) nC)
    · refine thn (T.item (blkE X s3 H3 scope ce fp xe) rfl rfl rfl hc i [] s5 _ H5 xe I5 (stat I5 n5) st5 go) fun r s6 ⟨u, hr, h6⟩ => ?_
      subst hr
      refine thn h6 fun _ s7 ⟨x, H7, I7, r7, y7, st7, n7⟩ => ?_
      have I7' := I7.pinned (stat I7 n7) (T.obj _ _ st7)
      refine thn (pg.run _ s7 _ H7 x u _ I7' r7 (step x H7 y7)) fun _ s8 ⟨σ8, H8, I8, hw8, q8⟩ => ?_
      refine thn (pt.run _ s8 σ8 H8 _ I8 q8) fun b s9 ⟨H9, I9, q9⟩ => ?_
      have back : ∀ {s' : Shared} {H' : Hp}, Inv (blkE X s3 H3 scope ce fp xe) ([] ++ pinsAt fp s7.heap) σ8 H' s' → Nx H' → ∃ m, m < n ∧ ∃ i H', Inv (blkE X s3 H3 scope ce fp xe) [] (wipe σ (own.map (·.2))) H' s' ∧ tn i s'.heap ∧ (∀ b ∈ fp, H' b = none) ∧ Wv i m H' := fun {s' H'} I' nx => by
        obtain ⟨m', hm, w'⟩ := hNx H' nx
        have pin' : ∀ b ∈ fp, ∀ o, s7.heap.get? b = some o → s'.heap.get? b = some o ∧ H' b = none := fun b hb o e => let z := I'.pin (b, o) (List.mem_append_right _ (List.mem_append_right _ (mem_pinsAt hb e))); ⟨z.1, z.2.1⟩
        refine ⟨m', hm, i + 1, H', (I'.unpinned (pins := [])).weak (by rw [← hw8, wipe_length]) (fun j v e => ?_), T.keep _ _ _ st7 fun b hb o e => (pin' b hb o e).1, fun b hb => ?_, w'⟩
        · rw [← hw8] at e; exact (wipe_some e).1
        · obtain ⟨o, e, _⟩ := T.obj _ _ st7 b hb
          exact (pin' b hb o e).2
      cases b with
      | false =>
        simp only [Bool.false_eq_true, if_false] at q9 ⊢
        exact back I9 q9
      | true =>
        simp only [if_true] at q9 ⊢
        refine thn (pe.run _ s9 σ8 H9 _ I9 q9) fun z s10 ⟨yv, H10, I10, r10, acc, hD10, hz10, nx⟩ => ?_
        exact app_ok (X := blkE X s3 H3 scope ce fp xe) I10 hD10 hz10 r10 fun s11 I11 => back I11 nx
  exact codeAny_compStart_list loop (T.self X.A 0 _ _ _ st4 loop)
end
end Dq

set_option maxHeartbeats 4000000
/-! A small language for the bodies of defs, and what it asks. -/
namespace Dq
open PySem PySem.Spec PyProof.Rows L2

/-- built-in functions and types that are called by name -/
inductive BF where | len | isi | int | str | list | tuple | abs | all | any | type
  deriving DecidableEq
def BF.nm : BF → Str
  | .len => "len" | .isi => "isinstance" | .int => "int" | .str => "str" | .list => "list" | .tuple => "tuple" | .abs => "abs" | .all => "all" | .any => "any" | .type => "type"
def BF.v : BF → Value
  | .len => .builtin "len" | .isi => .builtin "isinstance" | .int => .type "int" | .str => .type "str" | .list => .type "list" | .tuple => .type "tuple" | .abs => .builtin "abs" | .all => .builtin "all" | .any => .builtin "any" | .type => .type "type"
def BF.all' : List BF := [.len, .isi, .int, .str, .list, .tuple, .abs, .all, .any, .type]
def BF.of (x : Str) : Option BF := BF.all'.find? fun b => b.nm == x
/-- methods of built-in types -/
inductive BM where | append | extend | pop | split | join | lstrip
  deriving DecidableEq
def BM.nm : BM → Str
  | .append => "append" | .extend => "extend" | .pop => "pop" | .split => "split" | .join => "join" | .lstrip => "lstrip"
def BM.all' : List BM := [.append, .extend, .pop, .split, .join, .lstrip]
def BM.of (x : Str) : Option BM := BM.all'.find? fun b => b.nm == x
def BM.T : BM → String
  | .append => "list" | .extend => "list" | .pop => "list" | .split => "str" | .join => "str" | .lstrip => "str"
def BM.id : BM → String
  | .append => "list.append" | .extend => "list.extend" | .pop => "list.pop" | .split => "str.split" | .join => "str.join" | .lstrip => "str.lstrip"

mutual
inductive CG where | nm (i : Nat) | tup (gs : CGs)
inductive CGs where | nil | cons (g : CG) (gs : CGs)
end
def CGs.len : CGs → Nat | .nil => 0 | .cons _ gs => gs.len + 1
mutual
inductive CE where
  | non | bl (b : Bool) | int (i : Int) | str (x : Str)
  | var (i : Nat) | glob (x : Str) | ty (x : String)
  | bin (op : Operator) (a b : CE) | neg (a : CE) | nt (a : CE)
  | cmp (op : CmpOp) (a b : CE) | chain (op op' : CmpOp) (a b c : CE)
  | and (a b : CE) | or (a b : CE) | ifx (t : CT) (a b : CE)
  | lst (es : CEs) | tup (es : CEs) | dict (ps : CPs)
  | ix (a b : CE) | sl (a : CE) (lo hi : CO)
  | fld (a : CE) (f : Str)
  | call (x : Str) (es : CEs) | mk (x : Str) (es : CEs) | bf (b : BF) (es : CEs)
  | me (a : CE) (m : Str) (es : CEs) | bm (m : BM) (a : CE) (es : CEs)
  | items (a : CE)
  | lc (own : List Nat) (g : CG) (it : CI) (ifs : CC) (e : CE)
inductive CEs where | nil | cons (e : CE) (es : CEs)
inductive CO where | no | some (e : CE)
inductive CPs where | nil | cons (k v : CE) (ps : CPs)
/-- a test -/
inductive CT where | tr (e : CE) | and (a b : CT) | or (a b : CT) | nt (a : CT) | ifx (t a b : CT) | cmp (op : CmpOp) (a b : CE) | chain (op op' : CmpOp) (a b c : CE)
/-- a comprehension's tests: none or one -/
inductive CC where | no | some (t : CT)
inductive CI where | val (e : CE) | rng (e : CE) | enum (e : CE) | zip (a b : CE)
end
def CEs.len : CEs → Nat | .nil => 0 | .cons _ es => es.len + 1
mutual
inductive CS where
  | expr (e : CE) | ret (e : CE) | retN | set (i : Nat) (e : CE) | unp (g : CG) (e : CE)
  | par2 (i j : Nat) (a b : CE) | par3 (i j k : Nat) (a b c : CE)
  | fld (o : CE) (f : Str) (e : CE) | fldA (o : CE) (f : Str) (op : Operator) (e : CE) | ixs (o i e : CE)
  | ifs (t : CT) (a b : CSs) | whl (t : CT) (b : CSs) | for_ (g : CG) (it : CI) (b : CSs)
  | raise (x : Str) (es : CEs)
inductive CSs where | nil | cons (s : CS) (ss : CSs)
end

/-! ### what is known of the program -/
structure Gam where
  K : PySem.W.Frag
  w : World
  fn : Str → Sp → Prop
  gv : Str → V → Prop
  ms : Addr → Str → Sp → Prop
  mkc : Str → Addr → Sp → Prop
  fd : Addr → Str → Prop
  /-- raise X(v): the class X at C, whose __init__ puts v to the field -/
  rs : Str → Addr → Str → Prop

/-! ### built-ins by values -/
def qF (K : PySem.W.Frag) : BF → List V → Hp → VK → Prop
  | .len => fun xs H Q => (∃ x n, xs = [x] ∧ LenV K x H n ∧ Q (.int n) H) ∨ ∃ a kvs, xs = [V.ref a] ∧ H a = some (.dK kvs) ∧ Q (.int kvs.length) H
  | .isi => fun xs H Q => rIsi K xs H Q ∨ rIsiT K xs H Q ∨ rIsiK K xs H Q
  | .int => fun xs H Q => ((∃ i, xs = [.int i] ∧ Q (.int i) H) ∨ ∃ k, xs = [.bl k] ∧ Q (.int (if k then 1 else 0)) H) ∨ ∃ a n, xs = [.str a] ∧ PySem.intText? a = some n ∧ a.length ≤ 640 ∧ Q (.int n) H
  | .str => fun xs H Q => (∃ i, xs = [.int i] ∧ i.natAbs.log2 < 1920 ∧ Q (.str (toString i)) H) ∨ ∃ a, xs = [.str a] ∧ Q (.str a) H
  | .list => fun xs H Q => (∃ p ys, xs = [.ref p] ∧ (SqL K H p ys ∨ SqT K H p ys) ∧ ∀ l, H l = none → Q (.ref l) (upd H l (.lst ys))) ∨
      ∃ (a : Addr) (kvs : List (Key × V)), xs = [.ref a] ∧ Rd H a (.dK kvs) ∧ ∀ p, H p = none → Q (.ref p) (upd H p (.lst (kvs.map fun kv => kV kv.1)))
  | .tuple => fun xs H Q => ∃ p ys, xs = [.ref p] ∧ ((SqL K H p ys ∧ ∀ l, H l = none → Q (.ref l) (upd H l (.tup ys))) ∨ (SqT K H p ys ∧ Q (.ref p) H))
  | .abs => fun xs H Q => ∃ i, xs = [.int i] ∧ Q (.int (if i < 0 then -i else i)) H
  | .all => rAll K
  | .any => rAny K
  | .type => rTyp K
theorem qF_ok {X : Cx} (hc : X.calm = true) : ∀ b : BF, CallR X b.v (qF X.K b) := fun b => by
  cases b
  case len => exact CallR.or call_len call_lenD
  case isi => exact CallR.or call_isi (CallR.or call_isiT call_isiK)
  case int => exact CallR.or call_int1 call_int_str
  case str => exact CallR.or call_str_int SkE.call_str_str
  case list => exact CallR.or call_list_of (call_listD hc)
  case tuple => exact call_tuple_of
  case abs => exact call_abs
  case all => exact cr_all hc
  case any => exact cr_any hc
  case type => exact call_type1
def qM (K : PySem.W.Frag) : BM → V → List V → Hp → VK → Prop
  | .append => rAppend
  | .extend => rExtend
  | .pop => fun x xs H Q => rPop x xs H Q ∨ rPopAt x xs H Q
  | .split => fun x xs H Q => ∃ a b, x = .str a ∧ xs = [.str b] ∧ (b.length == 0) = false ∧ a.length + 2 ≤ sizeLine ∧ rNewStrs (Txt.split a b) H Q
  | .join => fun x xs H Q => ∃ a p, ∃ ys : List Str, x = .str a ∧ xs = [.ref p] ∧ (SqL K H p (ys.map V.str) ∨ SqT K H p (ys.map V.str)) ∧ (ys.map (·.length)).sum + ys.length * a.length ≤ 16777216 ∧ Q (.str (Txt.join a ys)) H
  | .lstrip => fun x xs H Q => ∃ a b, x = .str a ∧ xs = [.str b] ∧ a.length ≤ sizeLine ∧ Q (.str (Txt.lstripChars a b)) H
theorem qM_ok {X : Cx} : ∀ m : BM, MtR X m.id (qM X.K m) := fun m => by
  cases m
  case append => exact mt_append
  case extend => exact mt_extend
  case pop => exact MtR.or mt_pop mt_popAt
  case split => exact mt_split
  case join => exact mt_join
  case lstrip => exact mt_lstripChars
theorem BM.facts (m : BM) : PlainAttrs m.T ∧ Slot m.T m.nm m.id ∧ typeOf (.builtin m.id) = pure (.type "method_descriptor") := by
  cases m
  case append => exact ⟨PySem.F.plainAttrs_list, PySem.F.slot_list_append, PySem.F.type_list_append⟩
  case extend => exact ⟨PySem.F.plainAttrs_list, PySem.F.slot_list_extend, PySem.F.type_list_extend⟩
  case pop => exact ⟨PySem.F.plainAttrs_list, PySem.F.slot_list_pop, PySem.F.type_list_pop⟩
  case split => exact ⟨PySem.F.plainAttrs_str, PySem.F.slot_str_split, PySem.F.type_str_split⟩
  case join => exact ⟨PySem.F.plainAttrs_str, PySem.F.slot_str_join, PySem.F.type_str_join⟩
  case lstrip => exact ⟨PySem.F.plainAttrs_str, PySem.F.slot_str_lstrip, PySem.F.type_str_lstrip⟩
theorem BF.boot (b : BF) : bootBuiltins b.nm = some b.v := by
  cases b <;> decide +kernel
end Dq

set_option maxHeartbeats 4000000
namespace Dq
open PySem PySem.Spec PyProof.Rows L2

/-- a, b, .. = a tuple or a list of that length -/
def gUn (K : PySem.W.Frag) (n : Nat) (t : TGs) : TG := fun v σ H Q => ∃ a xs, v = .ref a ∧ (SqT K H a xs ∨ SqL K H a xs) ∧ xs.length = n ∧ t xs σ H Q
mutual
def gOf (K : PySem.W.Frag) : CG → TG
  | .nm i => gName i
  | .tup gs => gUn K gs.len (gsOf K gs)
def gsOf (K : PySem.W.Frag) : CGs → TGs
  | .nil => gNil
  | .cons g gs => gCons (gOf K g) (gsOf K gs)
end
/-- a wish at the slots as they are -/
abbrev atS (W : WX) (σ : L2.St) : WX := fun cls d _ H => W cls d σ H
def noW : WX := fun _ _ _ _ => False

/-- what is walked, by its value -/
def ItV (K : PySem.W.Frag) (x : V) (H : Hp) (R : It → Hp → Prop) : Prop :=
  (∃ a, x = .ref a ∧ (∃ xs, SqL K H a xs) ∧ R (Itl K a) H) ∨ (∃ a, x = .ref a ∧ (∃ xs, SqT K H a xs) ∧ R (Itt K a) H) ∨ (∃ z, x = .str z ∧ R (Its z) H) ∨
  ∃ d o, x = .ref d ∧ ((∃ kvs, H d = some (.frz o (.dK kvs)) ∧ R (Itk d o kvs) H) ∨ ∃ kvs, H d = some (.frz o (.dT kvs)) ∧ R (Itkt d o kvs) H)
/-- a parameter of a slice -/
abbrev TO := L2.St → Hp → (Option Int → Hp → Prop) → Prop

def CPs.isNil : CPs → Bool | .nil => true | _ => false
variable (Γ : Gam)
mutual
def wE : CE → Bool → WX → TE
  | .non, _, _ => fun _ H Q => Q .non H
  | .bl b, _, _ => fun _ H Q => Q (.bl b) H
  | .int i, _, _ => fun _ H Q => Q (.int i) H
  | .str x, _, _ => fun _ H Q => Q (.str x) H
  | .ty x, _, _ => fun _ H Q => Q (.ty x) H
  | .var i, _, _ => fun σ H Q => ∃ v, σ[i]? = some (some v) ∧ Q v H
  | .glob x, _, _ => fun _ H Q => ∃ v, Γ.gv x v ∧ Q v H
  | .bin op a b, f, W => fun σ H Q => wE a f W σ H fun x H1 => wE b f W σ H1 fun y H2 => qBin Γ.K op x y H2 Q
  | .neg a, f, W => fun σ H Q => wE a f W σ H fun x H1 => ∃ i, x = .int i ∧ Q (.int (-i)) H1
  | .nt a, f, W => fun σ H Q => wE a f W σ H fun x H1 => ∃ k, TruV Γ.K x H1 k ∧ Q (.bl (!k)) H1
  | .cmp op a b, f, W => fun σ H Q => wE a f W σ H fun x H1 => wE b f W σ H1 fun y H2 => qCmp Γ.K Γ.w op x y H2 Q
  | .chain op op' a b c, f, W => fun σ H Q => wE a f W σ H fun x H1 => wE b f W σ H1 fun y H2 => qCmp Γ.K Γ.w op x y H2 fun z H3 => ∃ k, z = .bl k ∧
      if k = true then wE c f W σ H3 fun u H4 => qCmp Γ.K Γ.w op' y u H4 Q else Q (.bl false) H3
  | .and a b, f, W => fun σ H Q => wE a f W σ H fun x H1 => ∃ k, TruV Γ.K x H1 k ∧ if k = true then wE b f W σ H1 Q else Q x H1
  | .or a b, f, W => fun σ H Q => wE a f W σ H fun x H1 => ∃ k, TruV Γ.K x H1 k ∧ if k = true then Q x H1 else wE b f W σ H1 Q
  | .ifx t a b, f, W => fun σ H Q => wT t f W σ H fun k H1 => if k = true then wE a f W σ H1 Q else wE b f W σ H1 Q
  | .lst es, f, W => fun σ H Q => wEs es f W σ H fun xs H1 => xs.length ≤ sizeLine ∧ ∀ p, H1 p = none → Q (.ref p) (upd H1 p (.lst xs))
  | .tup es, f, W => fun σ H Q => wEs es f W σ H fun xs H1 => xs.length ≤ sizeLine ∧ ∀ p, H1 p = none → Q (.ref p) (upd H1 p (.tup xs))
  | .dict ps, f, W => fun σ H Q => if ps.isNil then (∀ p, H p = none → Q (.ref p) (upd H p (.dK []))) ∨ ∀ p, H p = none → Q (.ref p) (upd H p (.dT []))
      else ∀ p, H p = none → tPairs (wP ps f W) σ (upd H p (.dK [])) fun ps H2 => H2 p = some (.dK []) ∧ ∃ kvs : List (Key × V), ps = kvs.map (fun kv => (kV kv.1, kv.2)) ∧ kvs.length ≤ 15 ∧ Q (.ref p) (upd H2 p (.dK (mergeK [] kvs)))
  | .ix a b, f, W => fun σ H Q => wE a f W σ H fun x H1 => wE b f W σ H1 fun y H2 => qIx Γ.K Γ.w x y H2 Q
  | .sl a lo hi, f, W => fun σ H Q => wE a f W σ H fun x H1 => wO lo f W σ H1 fun l H2 => wO hi f W σ H2 fun u H3 => qSl Γ.K x l u H3 Q
  | .fld a m, f, W => fun σ H Q => wE a f W σ H fun x H1 => ∃ p C dx fs v, x = .ref p ∧ H1 p = some (.ins C dx fs) ∧ Γ.fd C m ∧ fs.lookup m = some v ∧ Q v H1
  | .call x es, f, W => fun σ H Q => ∃ sp, Γ.fn x sp ∧ wEs es f W σ H fun vs H1 => sp vs H1 Q (WE W σ)
  | .mk x es, f, W => fun σ H Q => ∃ C sp, Γ.mkc x C sp ∧ wEs es f W σ H fun vs H1 => ∀ p dx, H1 p = none → H1 dx = none → dx ≠ p →
      sp (.ref p :: vs) (upd (upd H1 dx (.own p)) p (.ins C dx [])) (fun v H2 => v = .non ∧ Q (.ref p) H2) (WE W σ)
  | .bf b es, f, W => fun σ H Q => wEs es f W σ H fun vs H1 => qF Γ.K b vs H1 Q
  | .me a m es, f, W => fun σ H Q => wE a f W σ H fun x H1 => ∃ p C dx fs sp, x = .ref p ∧ H1 p = some (.ins C dx fs) ∧ Γ.ms C m sp ∧ fs.lookup m = none ∧
      wEs es f W σ H1 fun vs H2 => sp (x :: vs) H2 Q (WE W σ)
  | .bm m a es, f, W => fun σ H Q => wE a f W σ H fun x H1 => tyV Γ.K m.T x H1 ∧ wEs es f W σ H1 fun xs H2 => qM Γ.K m x xs H2 Q
  | .items a, f, W => fun σ H Q => wE a f W σ H fun x H1 => LiI.rItemsL x H1 Q
  | .lc own g it ifs e, f, W => fun σ H Q => tLc (wI it f W) (gOf Γ.K g) (wC ifs (cond f (atS W σ) noW)) (wE e false (cond f (atS W σ) noW)) own σ H Q
def wEs : CEs → Bool → WX → TA
  | .nil, _, _ => fun _ H Q => Q [] H
  | .cons e es, f, W => fun σ H Q => wE e f W σ H fun x H1 => wEs es f W σ H1 fun xs H2 => Q (x :: xs) H2
def wP : CPs → Bool → WX → List (TE × TE)
  | .nil, _, _ => []
  | .cons k v ps, f, W => (wE k f W, wE v f W) :: wP ps f W
/-- a test -/
def wT : CT → Bool → WX → TT
  | .and a b, f, W => fun σ H Q => wT a f W σ H fun k H1 => if k = true then wT b f W σ H1 Q else Q false H1
  | .or a b, f, W => fun σ H Q => wT a f W σ H fun k H1 => if k = true then Q true H1 else wT b f W σ H1 Q
  | .nt a, f, W => fun σ H Q => wT a f W σ H fun k H1 => Q (!k) H1
  | .ifx t a b, f, W => fun σ H Q => wT t f W σ H fun k H1 => if k = true then wT a f W σ H1 Q else wT b f W σ H1 Q
  | .cmp op a b, f, W => fun σ H Q => wE a f W σ H fun x H1 => wE b f W σ H1 fun y H2 => qCmp Γ.K Γ.w op x y H2 fun z H3 => ∃ k, z = .bl k ∧ Q k H3
  | .chain op op' a b c, f, W => fun σ H Q => wE a f W σ H fun x H1 => wE b f W σ H1 fun y H2 => qCmp Γ.K Γ.w op x y H2 fun z H3 => ∃ k, z = .bl k ∧
      if k = true then wE c f W σ H3 fun u H4 => qCmp Γ.K Γ.w op' y u H4 fun v H5 => ∃ k', v = .bl k' ∧ Q k' H5 else ∃ k', V.bl false = .bl k' ∧ Q k' H3
  | .tr e, f, W => fun σ H Q => wE e f W σ H fun x H1 => ∃ k, TruV Γ.K x H1 k ∧ Q k H1
def wO : CO → Bool → WX → TO
  | .no, _, _ => fun _ H Q => Q none H
  | .some e, f, W => fun σ H Q => wE e f W σ H fun x H1 => ∃ i, x = .int i ∧ Q (some i) H1
/-- a comprehension's test -/
def wC : CC → WX → TT
  | .no, _ => fun _ H Q => Q true H
  | .some t, W => wT t false W
def wI : CI → Bool → WX → TI
  | .val e, f, W => fun σ H R => wE e f W σ H fun x H1 => ItV Γ.K x H1 R
  | .rng e, f, W => iRng1 (tCons (wE e f W) tNil)
  | .enum e, f, W => iEnum Γ.K (tCons (wE e f W) tNil)
  | .zip a b, f, W => RZ.iZipA Γ.K (tCons (wE a f W) (tCons (wE b f W) tNil))
end
def inOp : Operator → R2
  | .Add => rAdd
  | .Sub => rSub
  | _ => fun _ _ _ _ => False
mutual
def wS : CS → WX → TS
  | .expr e, W => fun D σ H => wE Γ e true W σ H fun _ H1 => D.nx σ H1
  | .ret e, W => fun D σ H => wE Γ e true W σ H D.rt
  | .retN, _ => fun D _ H => D.rt .non H
  | .set i e, W => fun D σ H => wE Γ e true W σ H fun x H1 => D.nx (σ.set i (some x)) H1
  | .unp g e, W => fun D σ H => wE Γ e true W σ H fun x H1 => gOf Γ.K g x σ H1 D.nx
  | .par2 i j a b, W => tPar i j (tCons (wE Γ a true W) (tCons (wE Γ b true W) tNil))
  | .par3 i j k a b c, W => tPar3 i j k (tCons (wE Γ a true W) (tCons (wE Γ b true W) (tCons (wE Γ c true W) tNil)))
  | .fld o m e, W => fun D σ H => wE Γ e true W σ H fun y H1 => wE Γ o true W σ H1 fun x H2 => ∃ a C dx fs, x = .ref a ∧ H2 a = some (.ins C dx fs) ∧ Γ.fd C m ∧ fs.length < 1000 ∧ D.nx σ (upd H2 a (.ins C dx (putF m y fs)))
  | .fldA o m op e, W => fun D σ H => wE Γ o true W σ H fun x H1 => ∃ a C dx fs v, x = .ref a ∧ H1 a = some (.ins C dx fs) ∧ Γ.fd C m ∧ fs.lookup m = some v ∧
      wE Γ e true W σ H1 fun y H2 => inOp op v y H2 fun z H3 => ∃ dx' fs', H3 a = some (.ins C dx' fs') ∧ fs'.length < 1000 ∧ D.nx σ (upd H3 a (.ins C dx' (putF m z fs')))
  | .ixs o i e, W => fun D σ H => wE Γ e true W σ H fun v H1 => wE Γ o true W σ H1 fun x H2 => wE Γ i true W σ H2 fun y H3 =>
      (∃ p xs k j, x = .ref p ∧ y = .int k ∧ H3 p = some (.lst xs) ∧ ixN xs.length k = some j ∧ D.nx σ (upd H3 p (.lst (xs.set j v)))) ∨ ∃ a H', x = .ref a ∧ DPut H3 a y v H' ∧ D.nx σ H'
  | .ifs t a b, W => fun D σ H => wT Γ t true W σ H fun k H1 => if k = true then wSs a W D σ H1 else wSs b W D σ H1
  | .whl t b, W => tWhile (wT Γ t true W) (wSs b W)
  | .for_ g it b, W => fun D σ H => tFor (wI Γ it true W) (gOf Γ.K g) (wSs b W) D σ H ∨ tLock (tFor (wI Γ it true W) (gOf Γ.K g) (wSs b W)) D σ H
  | .raise x es, W => fun _ σ H => ∃ C m, Γ.rs x C m ∧ wEs Γ es true W σ H fun vs H1 => ∃ v, vs = [v] ∧ ∀ d, H1 d = none → W (.ref C) (some d) σ (upd H1 d (.xd [(m, v)]))
def wSs : CSs → WX → TS
  | .nil, _ => tNext
  | .cons s ss, W => tSeq (wS s W) (wSs ss W)
end
end Dq

set_option maxHeartbeats 4000000
/-! From a def's body to the small language. -/
namespace Dq
open PySem PySem.Spec PyProof.Rows L2

structure Del where
  N : List Str
  own : List Str
  cls : List Str

def tyNames : List String := ["str", "int", "list", "tuple", "dict", "bool"]
def tyOf (x : Str) : Option String := tyNames.find? fun n => (Str.ofString n) == x
/-- no super().m -/
def baseOk : Expr → Bool
  | .Call (.Name id _) [] [] _ => !(id == ("super" : Str))
  | _ => true
def noComp : Expr → Bool
  | .ListComp .. | .SetComp .. | .DictComp .. => false
  | _ => true
def noSlice : Expr → Bool
  | .Slice .. => false
  | _ => true
def okName (x : Str) : Bool := !(x == ("__debug__" : Str)) && !(x == ("__classdict__" : Str)) && !(x == ("__name__" : Str))
def slotOf (Δ : Del) (sc : Scope) (x : Str) : Option Nat :=
  match sc.names.lookup x with
  | some .local | some .cell | some .free => Δ.N.idxOf? x
  | _ => none
/-- a name that is stored to: local, or (whole) a cell -/
def storeOf (Δ : Del) (sc : Scope) (whole : Bool) (x : Str) : Option Nat :=
  match sc.names.lookup x with
  | some .local => Δ.N.idxOf? x
  | some .cell => if whole then Δ.N.idxOf? x else none
  | _ => none
def isGl (sc : Scope) (x : Str) : Bool := sc.names.lookup x == some .globalImplicit
def stores (Δ : Del) (sc : Scope) (whole : Bool) : List Expr → Option (List Nat)
  | [] => some []
  | .Name x _ :: r => (storeOf Δ sc whole x).bind fun i => (stores Δ sc whole r).map (i :: ·)
  | _ => none
mutual
def cGn (Δ : Del) (sc : Scope) (whole : Bool) : Nat → Expr → Option CG
  | 0, _ => none
  | n + 1, e => match e with
    | .Name x _ => (storeOf Δ sc whole x).map .nm
    | .Tuple es _ _ => (cGs Δ sc whole n es).map .tup
    | _ => none
def cGs (Δ : Del) (sc : Scope) (whole : Bool) : Nat → List Expr → Option CGs
  | 0, _ => none
  | n + 1, es => match es with
    | [] => some .nil
    | .Starred .. :: _ => none
    | e :: r => (cGn Δ sc whole n e).bind fun g => (cGs Δ sc whole n r).map (.cons g)
end
def cG (Δ : Del) (sc : Scope) (whole : Bool) (e : Expr) : Option CG := cGn Δ sc whole 30 e
/-- a block's own names, with their slots -/
def ownOf (Δ : Del) (scope : Scope) : List (Str × Nat) := scope.names.filterMap fun (n, k) => if k == .local || k == .cell then (Δ.N.idxOf? n).map (n, ·) else none

mutual
def cE (Δ : Del) : Nat → Scope → Expr → Option CE
  | 0, _, _ => none
  | n + 1, sc, e => match e with
    | .Constant c _ _ => (match c with
      | .none => some .non
      | .bool b => some (.bl b)
      | .int i => some (.int i)
      | .str x => some (.str x)
      | _ => none)
    | .Name x _ => if okName x then (match slotOf Δ sc x with
        | some i => some (.var i)
        | none => if isGl sc x then (match tyOf x with
          | some t => some (.ty t)
          | none => some (.glob x)) else none) else none
    | .BinOp a op b _ => (cE Δ n sc a).bind fun a' => (cE Δ n sc b).map fun b' => .bin op a' b'
    | .UnaryOp .USub a _ => (cE Δ n sc a).map .neg
    | .UnaryOp .Not a _ => (cE Δ n sc a).map .nt
    | .BoolOp op vs _ => cB Δ n sc op vs
    | .Compare a [op] [b] _ => if behindInMarks op b then none else (cE Δ n sc a).bind fun a' => (cE Δ n sc b).map fun b' => .cmp op a' b'
    | .Compare a [op, op'] [b, c] _ => if lastMarks [op, op'] [b, c] then none else (cE Δ n sc a).bind fun a' => (cE Δ n sc b).bind fun b' => (cE Δ n sc c).map fun c' => .chain op op' a' b' c'
    | .IfExp t a b _ => (cT Δ n sc t).bind fun t' => (cE Δ n sc a).bind fun a' => (cE Δ n sc b).map fun b' => .ifx t' a' b'
    | .List es _ => (cEs Δ n sc es).map .lst
    | .Tuple es _ _ => (cEs Δ n sc es).map .tup
    | .Dict ks vs _ => if ks.length ≤ 15 then (cP Δ n sc ks vs).map .dict else none
    | .Subscript a (.Slice lo hi none _) _ => (cE Δ n sc a).bind fun a' => (cO Δ n sc lo).bind fun l' => (cO Δ n sc hi).map fun h' => .sl a' l' h'
    | .Subscript a i _ => if noSlice i then (cE Δ n sc a).bind fun a' => (cE Δ n sc i).map fun i' => .ix a' i' else none
    | .Attribute a f _ => if baseOk a then (cE Δ n sc a).map fun a' => .fld a' f else none
    | .Call (.Name x _) args [] pos => if okName x && isGl sc x then
        (if Δ.cls.contains x then (cEs Δ n sc args).map fun es => .mk x es
        else match BF.of x with
          | some b => cF Δ n sc b args
          | none => (cEs Δ n sc args).map fun es => .call x es) else none
    | .Call (.Attribute o m ap) args [] pos => if baseOk o && (ap.endLine == pos.line) && decide (args.length < 29) then
        (cE Δ n sc o).bind fun o' => (cEs Δ n sc args).bind fun es => (if Δ.own.contains m then some (.me o' m es) else (BM.of m).map fun b => .bm b o' es) else none
    | .ListComp elt [⟨tg, it, ifs, 0⟩] scope _ => if blkC Δ.N sc scope (ownOf Δ scope) then
        (cG Δ (relS scope sc) false tg).bind fun g => (cI Δ n sc tg it).bind fun i' => (cC Δ n (relS scope sc) ifs).bind fun t' => (cE Δ n (relS scope sc) elt).map fun e' => .lc ((ownOf Δ scope).map (·.2)) g i' t' e' else none
    | _ => none
def cB (Δ : Del) : Nat → Scope → BoolOp → List Expr → Option CE
  | 0, _, _, _ => none
  | n + 1, sc, op, vs => match vs with
    | [] => none
    | [e] => cE Δ n sc e
    | e :: es => (cE Δ n sc e).bind fun a => (cB Δ n sc op es).map fun b => match op with | .And => .and a b | .Or => .or a b
def cEs (Δ : Del) : Nat → Scope → List Expr → Option CEs
  | 0, _, _ => none
  | n + 1, sc, es => match es with
    | [] => some .nil
    | .Starred .. :: _ => none
    | e :: es => (cE Δ n sc e).bind fun a => (cEs Δ n sc es).map fun b => .cons a b
/-- a built-in's call -/
def cF (Δ : Del) : Nat → Scope → BF → List Expr → Option CE
  | 0, _, _, _ => none
  | n + 1, sc, b, args => match args with
    | [] => none
    | [.Call (.Attribute o "items" ap) [] [] cp] => if b == .list && baseOk o && (ap.endLine == cp.line) then (cE Δ n sc o).map .items else none
    | args => (cEs Δ n sc args).map fun es => .bf b es
def cP (Δ : Del) : Nat → Scope → List (Option Expr) → List Expr → Option CPs
  | 0, _, _, _ => none
  | n + 1, sc, ks, vs => match ks, vs with
    | [], [] => some .nil
    | some k :: ks, v :: vs => (cE Δ n sc k).bind fun k' => (cE Δ n sc v).bind fun v' => (cP Δ n sc ks vs).map fun p => .cons k' v' p
    | _, _ => none
def cT (Δ : Del) : Nat → Scope → Expr → Option CT
  | 0, _, _ => none
  | n + 1, sc, e => match e with
    | .BoolOp op vs _ => cTB Δ n sc op vs
    | .UnaryOp .Not a _ => (cT Δ n sc a).map .nt
    | .IfExp t a b _ => (cT Δ n sc t).bind fun t' => (cT Δ n sc a).bind fun a' => (cT Δ n sc b).map fun b' => .ifx t' a' b'
    | .Compare a [op] [b] _ => if behindInMarks op b then none else (cE Δ n sc a).bind fun a' => (cE Δ n sc b).map fun b' => .cmp op a' b'
    | .Compare a [op, op'] [b, c] _ => if lastMarks [op, op'] [b, c] then none else (cE Δ n sc a).bind fun a' => (cE Δ n sc b).bind fun b' => (cE Δ n sc c).map fun c' => .chain op op' a' b' c'
    | .Compare .. => none
    | e => (cE Δ n sc e).map .tr
def cTB (Δ : Del) : Nat → Scope → BoolOp → List Expr → Option CT
  | 0, _, _, _ => none
  | n + 1, sc, op, vs => match vs with
    | [] => none
    | [e] => cT Δ n sc e
    | e :: es => (cT Δ n sc e).bind fun a => (cTB Δ n sc op es).map fun b => match op with | .And => .and a b | .Or => .or a b
def cO (Δ : Del) : Nat → Scope → Option Expr → Option CO
  | 0, _, _ => none
  | n + 1, sc, o => match o with
    | none => some .no
    | some e => (cE Δ n sc e).map .some
def cC (Δ : Del) : Nat → Scope → List Expr → Option CC
  | 0, _, _ => none
  | n + 1, sc, ifs => match ifs with
    | [] => some .no
    | [e] => (cT Δ n sc e).map .some
    | _ => none
def cI (Δ : Del) : Nat → Scope → Expr → Expr → Option CI
  | 0, _, _, _ => none
  | n + 1, sc, tg, it => match it with
    | .Set .. => none
    | .Call (.Name x _) args [] _ => if x == ("range" : Str) then (match args with
          | [a] => if isGl sc x && noStar a then (cE Δ n sc a).map .rng else none
          | _ => none)
        else if x == ("enumerate" : Str) then (match args with
          | [a] => if isGl sc x && noStar a && isTup tg then (cE Δ n sc a).map .enum else none
          | _ => none)
        else if x == ("zip" : Str) then (match args with
          | [a, b] => if isGl sc x && noStar a && noStar b && isTup tg then (cE Δ n sc a).bind fun a' => (cE Δ n sc b).map fun b' => .zip a' b' else none
          | _ => none)
        else (cE Δ n sc it).map .val
    | it => (cE Δ n sc it).map .val
where
  noStar : Expr → Bool
    | .Starred .. => false
    | _ => true
  isTup : Expr → Bool
    | .Tuple .. => true
    | _ => false
end
end Dq

set_option maxHeartbeats 4000000
/-! The small language's readings are the hand layer's. -/
namespace Dq
open PySem PySem.Spec PyProof.Rows L2

structure GOk (Γ : Gam) (P : Program) (w : World) (K : PySem.W.Frag) (mg : Str → Option Value) (base : Heap) (A : Around) : Prop where
  eK : K = Γ.K
  ew : w = Γ.w
  hu : A.units + 66 < cLine
  fn : ∀ x sp, Γ.fn x sp → ∃ k f fd ps, Room k A ∧ mg x = some (.ref f) ∧ FnOk P w K mg base (L2.CX P w) k f fd ps sp ∧ PySem.W.keepIn K (.ref f) = true ∧ Binds K fd ps []
  gv : ∀ x v, Γ.gv x v → ∃ u, mg x = some u ∧ RelV v u
  ms : ∀ C m sp, Γ.ms C m sp → Cls K C ∧ ∃ k f fd ps, Room k A ∧ Meth K C m f ∧ FnOk P w K mg base (L2.CX P w) k f fd ps sp ∧ Binds K fd ps []
  mkc : ∀ x C sp, Γ.mkc x C sp → mg x = some (.ref C) ∧ ∃ k f fd ps, Room (k + 1) A ∧ Mk K C f ∧ FnOk P w K mg base (L2.CX P w) k f fd ps sp ∧ Binds K fd ps []
  fd : ∀ C m, Γ.fd C m → Cls K C ∧ NoAttr K C m
  rs : ∀ x C m, Γ.rs x C m → mg x = some (.ref C) ∧ OexC K C ∧ ∃ fI k fd ps sp, PySem.W.findIn K (.ref C) "__init__" = some (some (.ref fI)) ∧ PySem.W.typeIn K (.ref fI) = some (.type "function") ∧ Room (k + 1) A ∧
    FnOk P w K mg base (L2.CX P w) k fI fd ps sp ∧ Binds K fd ps [] ∧ ∀ a v H1 (Q : VK) E, H1 a = none → (∀ d, H1 d = none → d ≠ a → Q .non (upd (upd (upd H1 a (exo a C none)) d (exd d [(m, v)])) a (exo a C (some d)))) → sp [.ref a, v] (upd H1 a (exo a C none)) Q E
  bf : ∀ b : BF, mg b.nm = none
  ty : ∀ t ∈ tyNames, mg (Str.ofString t) = none
  it : mg "range" = none ∧ mg "enumerate" = none ∧ mg "zip" = none

abbrev GX (Γ : Gam) (X : Cx) : Prop := GOk Γ X.prog X.w X.K X.mg X.base X.A
structure Fit (Γ : Gam) (Δ : Del) (X : Cx) (sc : Scope) : Prop where
  sc : X.env.scope = sc
  N : X.N = Δ.N
  nd : X.N.Nodup
  calm : X.calm = true
  g : GX Γ X
abbrev PassX (X : Cx) (W : WX) : Prop := ∀ σ, PassesAt (L2.CX X.prog X.w) X σ (WE W σ)
structure Fl (X : Cx) (W : WX) : Prop where
  tk : Takes X W
  hs : X.stack = X.env :: X.outer
  hf : X.env.frame = some X.env.locals

section
variable {Γ : Gam} {Δ : Del} {X : Cx} {sc : Scope} {W : WX}
theorem Fit.blk (F : Fit Γ Δ X sc) (s : Shared) (H : Hp) (scope : Scope) (cl : List (Str × Addr)) (C : Addr) (fp : List Addr) (xe : Value → Shared → Prop) : Fit Γ Δ (blkE X s H scope (compEnvC scope cl C X.env) fp xe) (relS scope sc) := by
  refine ⟨?_, F.N, F.nd, F.calm, F.g⟩
  show relabel scope X.env = relS scope sc
  rw [← F.sc]
  rfl

theorem idx_get {x : Str} : ∀ {l : List Str} {i : Nat}, l.idxOf? x = some i → l[i]? = some x
  | [], i, h => by simp at h
  | y :: r, i, h => by
    rw [List.idxOf?_cons] at h
    by_cases e : (y == x) = true
    · rw [if_pos e] at h
      cases h
      simp [eq_of_beq e]
    · rw [if_neg e] at h
      obtain ⟨j, hj, rfl⟩ := Option.map_eq_some_iff.mp h
      simpa using idx_get hj
theorem okName_of {x : Str} (h : okName x = true) : (x == ("__debug__" : Str)) = false ∧ (x == ("__classdict__" : Str)) = false ∧ x ≠ "__name__" := by
  unfold okName at h
  simp only [Bool.and_eq_true, Bool.not_eq_true'] at h
  exact ⟨h.1.1, h.1.2, fun e => by rw [e] at h; exact absurd h.2 (by decide)⟩
theorem slot_ok (F : Fit Γ Δ X sc) {x : Str} {i : Nat} (h : slotOf Δ sc x = some i) : X.N[i]? = some x ∧ Vis X.env.scope x := by
  unfold slotOf at h
  rw [F.N, F.sc]
  unfold Vis
  split at h
  all_goals first
    | (rename_i e; exact ⟨idx_get h, by first | exact .inl e | exact .inr (.inl e) | exact .inr (.inr e)⟩)
    | cases h
theorem store_slot (F : Fit Γ Δ X sc) {x : Str} {i : Nat} {whole : Bool} (hw : whole = true → ∀ y, X.fn y = true) (h : storeOf Δ sc whole x = some i) : X.N[i]? = some x ∧ Loc X.env.scope x ∧ (X.fn x = true ∨ X.env.scope.names.lookup x = some .local) := by
  unfold storeOf at h
  rw [F.N, F.sc]
  unfold L2.Loc
  split at h
  · rename_i e; exact ⟨idx_get h, .inl e, .inr e⟩
  · rename_i e
    cases whole with
    | false => cases h
    | true => exact ⟨idx_get h, .inr e, .inl (hw rfl x)⟩
  · cases h
theorem isGl_ok (F : Fit Γ Δ X sc) {x : Str} (h : isGl sc x = true) : Gl X x := by
  show X.env.scope.names.lookup x = some .globalImplicit
  rw [F.sc]
  exact eq_of_beq h
theorem base_ok {o : Expr} {m : Str} {env : Env} (h : baseOk o = true) : attributeBase o m env (eval o env) = eval o env := by
  unfold attributeBase
  split
  · rename_i id _ pos
    have h' : (!(id == ("super" : Str))) = true := h
    have e : (id != ("super" : Str)) = true := h'
    simp only [e, Bool.true_or, if_true, bind_pure]
  · rfl
theorem pg_un {X : Cx} {es : List Expr} {k : Nat} {t : TGs} {n : Nat} {pos : Pos} (hc : X.calm = true) (h : PGs X es t) (hn : (assignEach es X.env).length = n) (hst : (assignEach es X.env).findIdx? (·.1) = none) : PG X (.Tuple es k pos) (gUn X.K n t) := by
  refine ⟨fun pins s σ H v u Q I r q => ?_⟩
  obtain ⟨a, xs, e1, hq, hl, q⟩ := q
  rcases hq with hq | hq
  · exact (pg_tup hc h hn hst).run pins s σ H v u Q I r ⟨a, xs, e1, hq, hl, q⟩
  · exact (pg_lst hc h hn hst).run pins s σ H v u Q I r ⟨a, xs, e1, hq, hl, q⟩
theorem pgs_of (F : Fit Γ Δ X sc) {whole : Bool} (hw : whole = true → ∀ y, X.fn y = true) : ∀ n, (∀ {tg : Expr} {g : CG}, cGn Δ sc whole n tg = some g → PG X tg (gOf Γ.K g)) ∧
    ∀ {es : List Expr} {gs : CGs}, cGs Δ sc whole n es = some gs → PGs X es (gsOf Γ.K gs) ∧ (assignEach es X.env).length = gs.len ∧ (assignEach es X.env).findIdx? (·.1) = none := by
  intro n
  induction n with
  | zero => exact ⟨fun {_ _} h => (by unfold cGn at h; cases h), fun {_ _} h => (by unfold cGs at h; cases h)⟩
  | succ n ih =>
    refine ⟨fun {tg g} h => ?_, fun {es gs} h => ?_⟩
    · unfold cGn at h
      split at h
      · obtain ⟨i, hi, rfl⟩ := Option.map_eq_some_iff.mp h
        obtain ⟨h1, h2, h3⟩ := store_slot F hw hi
        unfold gOf
        exact pg_name F.nd h1 h2 h3
      · obtain ⟨gs, hi, rfl⟩ := Option.map_eq_some_iff.mp h
        obtain ⟨k1, k2, k3⟩ := ih.2 hi
        unfold gOf
        rw [← F.g.eK] at k1 ⊢
        exact pg_un F.calm k1 k2 k3
      · cases h
    · unfold cGs at h
      split at h
      · cases h
        unfold gsOf
        exact ⟨pgs_nil, rfl, rfl⟩
      · cases h
      · rename_i e r hns
        obtain ⟨g, hg, h⟩ := Option.bind_eq_some_iff.mp h
        obtain ⟨gs, hgs, rfl⟩ := Option.map_eq_some_iff.mp h
        obtain ⟨k1, k2, k3⟩ := ih.2 hgs
        have ea : assignEach (e :: r) X.env = (false, assign e X.env) :: assignEach r X.env := by
          cases e <;> first | rfl | simp at hns
        refine ⟨?_, ?_, ?_⟩
        · unfold gsOf
          exact pgs_cons (ih.1 hg) k1 (by rw [ea]; rfl)
        · rw [ea]
          show (assignEach r X.env).length + 1 = _
          rw [k2]; rfl
        · rw [ea, List.findIdx?_cons]
          simp [k3]
theorem pg_of (F : Fit Γ Δ X sc) {whole : Bool} (hw : whole = true → ∀ y, X.fn y = true) {tg : Expr} {g : CG} (h : cG Δ sc whole tg = some g) : PG X tg (gOf Γ.K g) := (pgs_of F hw 30).1 h
end
end Dq

set_option maxHeartbeats 8000000
namespace Dq
open PySem PySem.Spec PyProof.Rows L2
section
variable {Γ : Gam} {Δ : Del} {X : Cx} {sc : Scope} {W : WX}

/-! ### iterables by their values -/
theorem pi_val {tg e : Expr} {te : TE} (he : PE X e te) : PI X tg e (fun σ H R => te σ H fun x H1 => ItV X.K x H1 R) := by
  refine ⟨fun pins s σ H R I h => ?_⟩
  refine thn (he.run pins s σ H _ I h) fun v s1 ⟨x, H1, I1, r1, q1⟩ => ?_
  rcases q1 with ⟨a, rfl, ⟨xs, hq⟩, q⟩ | ⟨a, rfl, ⟨xs, hq⟩, q⟩ | ⟨z, rfl, q⟩ | ⟨d, o, rfl, ⟨kvs, hd, q⟩ | ⟨kvs, hd, q⟩⟩
  · cases r1
    obtain ⟨its, rv, p, hz⟩ := I1.list hq
    exact wpAny_pyIter_list p.isList (pi_one (tk := s1.toks) I1 _ (turn_list a _) ⟨_, Heap.get?_push_size _ rfl, rfl, rfl⟩ q)
  · cases r1
    obtain ⟨its, rv, p, hz⟩ := I1.tuple hq
    exact wpAny_pyIter_tuple (show s1.heap.IsTuple a its.toArray from p) (pi_one (tk := s1.toks) I1 _ (turn_tuple a _) ⟨_, Heap.get?_push_size _ rfl, rfl, rfl⟩ q)
  · obtain ⟨t, rfl⟩ := r1
    cases ha : z.cps.all (· < 128)
    · exact wpAny_pyIter_wide ha (pi_one (tk := s1.toks) I1 _ (turn_str _ z t "str_iterator" (.inr rfl)) ⟨_, Heap.get?_push_size _ rfl, rfl, rfl⟩ q)
    · exact wpAny_pyIter_ascii ha (pi_one (tk := s1.toks) I1 _ (turn_str _ z t "str_ascii_iterator" (.inl rfl)) ⟨_, Heap.get?_push_size _ rfl, rfl, rfl⟩ q)
  · obtain rfl : v = Value.ref d := r1
    obtain ⟨b1, b2, b3, es, ep, vs, b4, b5, b6, b7⟩ := I1.frzK hd
    exact iter_keys b1 b2 b3 b4 (pi_one (tk := s1.toks) I1 _ (turn_keys _ b4) ⟨_, Heap.get?_push_size _ rfl, rfl, by rw [b5] <;> rfl⟩ q)
  · obtain rfl : v = Value.ref d := r1
    obtain ⟨b1, b2, b3, es, ep, b4, b5, b6⟩ := I1.frzT hd
    exact iter_keys b1 b2 b3 b4 (pi_one (tk := s1.toks) I1 _ (turn_keysT _ b4) ⟨_, Heap.get?_push_size _ rfl, rfl, by rw [b5] <;> rfl⟩ q)

/-! ### comprehensions -/
section
variable {elt tg iter : Expr} {ifs : List Expr} {scope : Scope} {own : List (Str × Nat)} {pos : Pos} {wi : TI} {g : TG} {tt : WX → TT} {te : WX → TE}
structure LcOk (X : Cx) (W : WX) (elt tg iter : Expr) (ifs : List Expr) (scope : Scope) (own : List (Str × Nat)) (wi : TI) (g : TG) (tt : WX → TT) (te : WX → TE) : Prop where
  hc : X.calm = true
  hN : X.N.Nodup
  fl : Fl X W
  hi : PI X tg iter wi
  ok : BlkOk X.N X.env.scope scope own
  hg : ∀ (s : Shared) (H : Hp) (C : Addr) (cl : List (Str × Addr)) (fp : List Addr) (xe : Value → Shared → Prop), PG (blkE X s H scope (compEnvC scope cl C X.env) fp xe) tg g
  ht : ∀ (σ : L2.St) (s : Shared) (H : Hp) (C : Addr) (cl : List (Str × Addr)) (fp : List Addr) (xe : Value → Shared → Prop), PassB X (blkE X s H scope (compEnvC scope cl C X.env) fp xe) W σ → PTs (blkE X s H scope (compEnvC scope cl C X.env) fp xe) ifs (tt (atS W σ))
  he : ∀ (σ : L2.St) (s : Shared) (H : Hp) (C : Addr) (cl : List (Str × Addr)) (fp : List Addr) (xe : Value → Shared → Prop), PassB X (blkE X s H scope (compEnvC scope cl C X.env) fp xe) W σ → PE (blkE X s H scope (compEnvC scope cl C X.env) fp xe) elt (te (atS W σ))
  hs : ∀ x, foldedSetIterable iter X.env x = pure x
theorem pe_lcX (L : LcOk X W elt tg iter ifs scope own wi g tt te) : PE X (.ListComp elt [⟨tg, iter, ifs, 0⟩] scope pos) (fun σ H Q => tLc wi g (tt (atS W σ)) (te (atS W σ)) (own.map (·.2)) σ H Q) := by
  refine ⟨fun pins s σ H Q I h => ?_⟩
  rw [eval_ListComp]
  refine lc_raw L.hc L.hN L.fl.tk L.fl.hs L.fl.hf I L.hi L.ok L.hg (L.ht σ) (L.he σ) L.hs h fun D C s' m H' I' q hn f => ?_
  exact ⟨m, hn, fun h2 sb => ⟨.ref D, H', I'.turned (t' := s'.toks) (fun b o hb e => (sb.2 b hb).trans e) f.1 f.2.1 f.2.2.2.1 f.2.2.2.2.1 f.2.2.2.2.2, rfl, q⟩⟩
/-- y = [..], on one line, y a local -/
theorem ps_setLcX {i : Nat} {y : Str} {py spos : Pos} (L : LcOk X W elt tg iter ifs scope own wi g tt te) (hy : X.N[i]? = some y) (hl : X.env.scope.names.lookup y = some .local) (hsw : swapsWith (.ListComp elt [⟨tg, iter, ifs, 0⟩] scope pos) (some (.Name y py)) spos.line X.env = pure true) :
    PS X (.Assign [.Name y py] (.ListComp elt [⟨tg, iter, ifs, 0⟩] scope pos) spos) (fun D σ H => tLc wi g (tt (atS W σ)) (te (atS W σ)) (own.map (·.2)) σ H fun x H1 => D.nx (σ.set i (some x)) H1) := by
  refine ⟨fun pins s σ H D I h => ?_⟩
  rw [exec_Assign_Name_used _ _ _ _ hsw]
  refine wpAny_bind (wpAny_standAt (wpAny_bind ?_))
  refine wpAny_bind (thn (lc_raw (pos' := firstIterPos [⟨tg, iter, ifs, 0⟩] pos) (use := some (assign (.Name y py) X.env)) (Qf := fun _ s' => SP X pins D .next s') L.hc L.hN L.fl.tk L.fl.hs L.fl.hf I L.hi L.ok L.hg (L.ht σ) (L.he σ) L.hs h fun A C s' m H' I' q hn f => ?_) fun _ s' hq => wpAny_pure (wpAny_pure hq))
  refine wpAny_assign_Name (store_ok2 (v := V.ref A) I' L.hN hy (.inl hl) rfl (fun s2 I2 ⟨a, sb, ha⟩ => ?_) (.inr hl))
  have ne : C ≠ a := ha.elim (fun z => by rw [z]; exact f.2.1) fun z e => f.2.2.2.2.1 y a z e.symm
  exact ⟨m, hn.sameBut sb ne, fun h3 sb3 => ⟨_, H', I2.turned (t' := s2.toks) (fun b o hb e => (sb3.2 b hb).trans e) f.1 f.2.1 f.2.2.2.1 f.2.2.2.2.1 f.2.2.2.2.2, q⟩⟩
end
end
end Dq

set_option maxHeartbeats 8000000
namespace Dq
open PySem PySem.Spec PyProof.Rows L2
def noSt : Expr → Bool
  | .Starred .. => false
  | _ => true
structure Snd (Γ : Gam) (Δ : Del) (n : Nat) : Prop where
  e : ∀ {sc : Scope} {e : Expr} {c : CE} (X : Cx) (W : WX) (f : Bool), cE Δ n sc e = some c → Fit Γ Δ X sc → PassX X W → (f = true → Fl X W) → PE X e (wE Γ c f W)
  b : ∀ {sc : Scope} {op : BoolOp} {vs : List Expr} {c : CE} (X : Cx) (W : WX) (f : Bool) (pos : Pos), cB Δ n sc op vs = some c → Fit Γ Δ X sc → PassX X W → (f = true → Fl X W) → PE X (.BoolOp op vs pos) (wE Γ c f W)
  es : ∀ {sc : Scope} {es : List Expr} {c : CEs} (X : Cx) (W : WX) (f : Bool), cEs Δ n sc es = some c → Fit Γ Δ X sc → PassX X W → (f = true → Fl X W) → PA X es (wEs Γ c f W) ∧ es.all noSt = true ∧ (es = [] → c = .nil)
  f : ∀ {sc : Scope} {b : BF} {args : List Expr} {c : CE} (X : Cx) (W : WX) (f : Bool) (p pos : Pos), cF Δ n sc b args = some c → isGl sc b.nm = true → Fit Γ Δ X sc → PassX X W → (f = true → Fl X W) → PE X (.Call (.Name b.nm p) args [] pos) (wE Γ c f W)
  p : ∀ {sc : Scope} {ks : List (Option Expr)} {vs : List Expr} {c : CPs} (X : Cx) (W : WX) (f : Bool) (pos : Pos), cP Δ n sc ks vs = some c → Fit Γ Δ X sc → PassX X W → (f = true → Fl X W) →
    PPs X pos ks vs (wP Γ c f W) ∧ ks.length = vs.length ∧ ks.all (·.isSome) = true ∧ (c.isNil = true → ks = [] ∧ vs = []) ∧ (c.isNil = false → ks ≠ [])
  t : ∀ {sc : Scope} {e : Expr} {c : CT} (X : Cx) (W : WX) (f : Bool), cT Δ n sc e = some c → Fit Γ Δ X sc → PassX X W → (f = true → Fl X W) → PT X e (wT Γ c f W)
  tb : ∀ {sc : Scope} {op : BoolOp} {vs : List Expr} {c : CT} (X : Cx) (W : WX) (f : Bool) (pos : Pos), cTB Δ n sc op vs = some c → Fit Γ Δ X sc → PassX X W → (f = true → Fl X W) → PW X (.BoolOp op vs pos) (wT Γ c f W)
  o : ∀ {sc : Scope} {e : Option Expr} {c : CO} (X : Cx) (W : WX) (f : Bool), cO Δ n sc e = some c → Fit Γ Δ X sc → PassX X W → (f = true → Fl X W) → PO X e (wO Γ c f W)
  c : ∀ {sc : Scope} {ifs : List Expr} {c : CC} (X : Cx) (W : WX), cC Δ n sc ifs = some c → Fit Γ Δ X sc → PassX X W → PTs X ifs (wC Γ c W)
  i : ∀ {sc : Scope} {tg it : Expr} {c : CI} (X : Cx) (W : WX) (f : Bool), cI Δ n sc tg it = some c → Fit Γ Δ X sc → PassX X W → (f = true → Fl X W) → PI X tg it (wI Γ c f W) ∧ ∀ x, foldedSetIterable it X.env x = pure x

section
variable {Γ : Gam} {Δ : Del} {n : Nat}
theorem star_cons {e : Expr} {es : List Expr} {env : Env} (h : (e :: es).all noSt = true) : starEach (e :: es) env = (false, eval e env) :: starEach es env := by
  rw [List.all_cons, Bool.and_eq_true] at h
  cases e <;> first | rfl | exact Bool.noConfusion h.1
theorem star_any (pos : Pos) {env : Env} : ∀ {es : List Expr}, es.all noSt = true → (backTo pos (starEach es env)).any (·.1) = false
  | [], _ => rfl
  | e :: es, h => by
    rw [star_cons h]
    rw [List.all_cons, Bool.and_eq_true] at h
    show (false || (backTo pos (starEach es env)).any (·.1)) = false
    rw [star_any pos h.2] <;> rfl
theorem star_few (pos : Pos) {env : Env} : ∀ {es : List Expr}, es.all noSt = true → (backTo pos (starEach es env)).all (fun x => !x.1) = true
  | [], _ => rfl
  | e :: es, h => by
    rw [star_cons h]
    rw [List.all_cons, Bool.and_eq_true] at h
    show (!false && (backTo pos (starEach es env)).all (fun x => !x.1)) = true
    rw [star_few pos h.2] <;> rfl
theorem snd_zero : Snd Γ Δ 0 := by
  constructor
  case e => intro _ _ _ _ _ _ h; unfold cE at h; cases h
  case b => intro _ _ _ _ _ _ _ _ h; unfold cB at h; cases h
  case es => intro _ _ _ _ _ _ h; unfold cEs at h; cases h
  case f => intro _ _ _ _ _ _ _ _ _ h; unfold cF at h; cases h
  case p => intro _ _ _ _ _ _ _ _ h; unfold cP at h; cases h
  case t => intro _ _ _ _ _ _ h; unfold cT at h; cases h
  case tb => intro _ _ _ _ _ _ _ _ h; unfold cTB at h; cases h
  case o => intro _ _ _ _ _ _ h; unfold cO at h; cases h
  case c => intro _ _ _ _ _ h; unfold cC at h; cases h
  case i => intro _ _ _ _ _ _ _ h; unfold cI at h; cases h

theorem plainIx {i : Expr} (h : noSlice i = true) : PlainIx i := fun o v => by
  cases i <;> first | rfl | cases h
theorem glob_ok {Γ : Gam} {X : Cx} {sc : Scope} {x : Str} {p : Pos} (F : Fit Γ Δ X sc) (ho : okName x = true) (hg : isGl sc x = true) : PE X (.Name x p) (fun _ H Q => ∃ v, Γ.gv x v ∧ Q v H) := by
  refine ⟨fun pins s σ H Q I ⟨v, hv, q⟩ => ?_⟩
  obtain ⟨u, hu, r⟩ := F.g.gv x v hv
  exact ld_glob I (isGl_ok F hg) hu ⟨v, H, I, r, q⟩ (okName_of ho).1
theorem ty_find {x : Str} {t : String} (h : tyOf x = some t) : x = Str.ofString t ∧ t ∈ tyNames := by
  unfold tyOf at h
  have h1 := List.find?_some h
  exact ⟨(eq_of_beq h1).symm, List.mem_of_find?_eq_some h⟩
theorem ty_boot : ∀ t ∈ tyNames, bootBuiltins (Str.ofString t) = some (.type t) := by decide +kernel
theorem bf_find {x : Str} {b : BF} (h : BF.of x = some b) : x = b.nm := by
  unfold BF.of at h
  have h1 := List.find?_some h
  exact (eq_of_beq h1).symm
theorem bm_find {x : Str} {b : BM} (h : BM.of x = some b) : x = b.nm := by
  unfold BM.of at h
  have h1 := List.find?_some h
  exact (eq_of_beq h1).symm
theorem bf_ok : ∀ b : BF, okName b.nm = true := fun b => by cases b <;> decide +kernel

/-- f(..), a def of the module -/
theorem call_fnX {X : Cx} {sc : Scope} {W : WX} {f : Bool} {x : Str} {p pos : Pos} {args : List Expr} {c : CEs} (F : Fit Γ Δ X sc) (hp : PassX X W) (ho : okName x = true) (hg : isGl sc x = true) (ha : PA X args (wEs Γ c f W) ∧ args.all noSt = true ∧ (args = [] → c = .nil)) :
    PE X (.Call (.Name x p) args [] pos) (wE Γ (.call x c) f W) := by
  obtain ⟨ha, hs, hn⟩ := ha
  refine ⟨fun pins s σ H Q I q => ?_⟩
  obtain ⟨sp, hfn, q⟩ := (show ∃ sp, Γ.fn x sp ∧ wEs Γ c f W σ H fun vs H1 => sp vs H1 Q (WE W σ) from q)
  obtain ⟨k, fa, fd, ps, hr, hm, Fn, hk, hb⟩ := F.g.fn x sp hfn
  refine wpAny_Call_Name_kw (ld_glob I (isGl_ok F hg) hm ?_ (okName_of ho).1)
  cases args with
  | nil =>
    cases hn rfl
    exact PySem.W.callWith_K0 I.kIn hk (run_fnS (us := []) (E := WE W) Fn hr hb (hp σ) I .nil q)
  | cons e es =>
    refine PySem.W.callWith_K (h₀ := X.base) I.ok.mod.kin hk (thn (ha.run pos pins s σ H _ I q) fun us s1 ⟨vs, H1, I1, r, q1⟩ => ⟨I1.kIn, run_fnS (E := WE W) Fn hr hb (hp σ) I1 r q1⟩) (star_cons hs) (star_any pos ?_)
    rw [List.all_cons, Bool.and_eq_true] at hs
    exact hs.2
theorem run_mkS {X : Cx} {CX : CXT} {k : Nat} {f C : Addr} {fd : FuncData} {ps : List Str} {sp : Sp} {E : L2.St → XK} {pins : List (Addr × Obj)} {σ : L2.St} {H : Hp} {s : Shared} {Q : VK} {us : List Value} {vs : List V} (M : Mk X.K C f) (Fn : FnOk X.prog X.w X.K X.mg X.base CX k f fd ps sp) (hr : Room (k + 1) X.A) (hb : Binds X.K fd ps [])
    (hx : PassesAt CX X σ (E σ)) (I : Inv X pins σ H s) (r : Vals vs us)
    (h : ∀ x dx, H x = none → H dx = none → dx ≠ x → sp (.ref x :: vs) (upd (upd H dx (.own x)) x (.ins C dx [])) (fun v H2 => v = .non ∧ Q (.ref x) H2) (E σ)) :
    wpAny (model X.prog X.w) X.A (call (.ref C) us) (EP X pins σ Q) X.xe s := by
  have q := h (s.heap.objs.size + 1) s.heap.objs.size (I.hok.fresh (Nat.le_succ _)) (I.hok.fresh (Nat.le_refl _)) (Nat.ne_of_lt (Nat.lt_succ_self _))
  have J := Inv.made (C := C) I
  have r2 : Vals (V.ref (s.heap.objs.size + 1) :: vs) (Value.ref (s.heap.objs.size + 1) :: us) := .cons rfl r
  have hl : (Value.ref (s.heap.objs.size + 1) :: us).length = ps.length := by rw [← r2.length]; exact Fn.len _ _ _ _ q
  have b := hb _ (Value.ref (s.heap.objs.size + 1) :: us) J.kIn (by rw [List.append_nil]; exact hl)
  rw [List.append_nil] at b
  refine wpAny_call (make_map (f := f) I.kIn M.makes M.init (beq_iff_eq.mp M.fn) (codeAny_mono (Fn.run _ X.stack _ _ ⟨Value.ref (s.heap.objs.size + 1) :: us, []⟩ (Value.ref (s.heap.objs.size + 1) :: us) _ _ (E σ) (hr.make C us []) (J.env0.make C us []) b r2 q) fun r s' z => ?_))
  cases r with
  | error e => exact hx pins _ _ e s' J z
  | ok fl =>
    cases fl with
    | ret u =>
      obtain ⟨v, H', I3, rv, rfl, q3⟩ := J.after z
      exact ⟨rv, ⟨V.ref (s.heap.objs.size + 1), H', I3, rfl, q3⟩⟩
    | next => exact False.elim z
    | brk => exact False.elim z
    | cont => exact False.elim z
theorem call_mkX {X : Cx} {sc : Scope} {W : WX} {f : Bool} {x : Str} {p pos : Pos} {args : List Expr} {c : CEs} (F : Fit Γ Δ X sc) (hp : PassX X W) (ho : okName x = true) (hg : isGl sc x = true) (ha : PA X args (wEs Γ c f W) ∧ args.all noSt = true ∧ (args = [] → c = .nil)) :
    PE X (.Call (.Name x p) args [] pos) (wE Γ (.mk x c) f W) := by
  obtain ⟨ha, hs, hn⟩ := ha
  refine ⟨fun pins s σ H Q I q => ?_⟩
  obtain ⟨C, sp, hfn, q⟩ := (show ∃ C sp, Γ.mkc x C sp ∧ wEs Γ c f W σ H fun vs H1 => ∀ p dx, H1 p = none → H1 dx = none → dx ≠ p → sp (.ref p :: vs) (upd (upd H1 dx (.own p)) p (.ins C dx [])) (fun v H2 => v = .non ∧ Q (.ref p) H2) (WE W σ) from q)
  obtain ⟨hm, k, fa, fd, ps, hr, M, Fn, hb⟩ := F.g.mkc x C sp hfn
  refine wpAny_Call_Name_kw (ld_glob I (isGl_ok F hg) hm ?_ (okName_of ho).1)
  cases args with
  | nil =>
    cases hn rfl
    exact PySem.W.callWith_K0 I.kIn M.kp (run_mkS (us := []) (E := WE W) M Fn hr hb (hp σ) I .nil q)
  | cons e es =>
    refine PySem.W.callWith_K (h₀ := X.base) I.ok.mod.kin M.kp (thn (ha.run pos pins s σ H _ I q) fun us s1 ⟨vs, H1, I1, r, q1⟩ => ⟨I1.kIn, run_mkS (E := WE W) M Fn hr hb (hp σ) I1 r q1⟩) (star_cons hs) (star_any pos ?_)
    rw [List.all_cons, Bool.and_eq_true] at hs
    exact hs.2
/-- the tree of a method's call -/
theorem meth_tree {o : Expr} {m : Str} {ap pos : Pos} {args : List Expr} {env : Env} (hb : baseOk o = true) (hl : (ap.endLine == pos.line) = true) (hn : args.length < 29) (hs : args.all noSt = true) :
    eval (.Call (.Attribute o m ap) args [] pos) env = (do
      let ov ← eval o env
      standAt ap.atName
      let (f, first) ← holding [ov] (getMethod ov m (plainOf o env))
      callWith pos f first (backTo pos (starEach args env)) (backToKw pos (keywordEach [] env))) := by
  show (do
    let ov ← attributeBase o m env (eval o env)
    standAt ap.atName
    methodCall o m ap pos env ov (args.length + 0) (backTo pos (starEach args env)) (backToKw pos (keywordEach [] env))) = _
  rw [base_ok hb]
  have e : ∀ ov, methodCall o m ap pos env ov (args.length + 0) (backTo pos (starEach args env)) (backToKw pos (keywordEach [] env)) = (do
      let (f, first) ← holding [ov] (getMethod ov m (plainOf o env))
      callWith pos f first (backTo pos (starEach args env)) (backToKw pos (keywordEach [] env))) := fun ov => mcall_line (by
    unfold methodCallForm
    rw [star_few pos hs]
    show (true && true && decide (args.length + 0 + 0 < 30)) = true
    rw [decide_eq_true (by omega)] <;> rfl) hl
  simp only [e]
theorem call_meX {X : Cx} {sc : Scope} {W : WX} {f : Bool} {o : Expr} {m : Str} {ap pos : Pos} {args : List Expr} {co : CE} {c : CEs} (F : Fit Γ Δ X sc) (hp : PassX X W) (hb : baseOk o = true) (hl : (ap.endLine == pos.line) = true) (hn : args.length < 29)
    (he : PE X o (wE Γ co f W)) (ha : PA X args (wEs Γ c f W) ∧ args.all noSt = true ∧ (args = [] → c = .nil)) : PE X (.Call (.Attribute o m ap) args [] pos) (wE Γ (.me co m c) f W) := by
  obtain ⟨ha, hs, hnil⟩ := ha
  refine ⟨fun pins s σ H Q I q => ?_⟩
  have q : wE Γ co f W σ H fun x H1 => ∃ p C dx fs sp, x = .ref p ∧ H1 p = some (.ins C dx fs) ∧ Γ.ms C m sp ∧ fs.lookup m = none ∧ wEs Γ c f W σ H1 fun vs H2 => sp (x :: vs) H2 Q (WE W σ) := q
  refine PySem.W.methodCall_KW (pl := plainOf o X.env) (thn (he.run pins s σ H _ I q) fun u s1 ⟨x, H1, I1, rx, a, C, dx, fs, sp, ex, ea, hms, l, q⟩ => ?_) (meth_tree hb hl hn hs)
  subst ex
  obtain rfl : u = Value.ref a := rx
  obtain ⟨cl, k, fa, fd, ps, hr, Me, Fn, hbi⟩ := F.g.ms C m sp hms
  refine getmeth_ok I1 ea cl Me l ?_
  cases args with
  | nil =>
    cases hnil rfl
    exact PySem.W.callWith_K0 (first := [.ref a]) I1.kIn Me.kp (run_fnS (us := [.ref a]) (vs := [.ref a]) (E := WE W) Fn hr hbi (hp σ) I1 (.cons rfl .nil) q)
  | cons e es =>
    refine PySem.W.callWith_K (first := [.ref a]) (h₀ := X.base) I.ok.mod.kin Me.kp (thn (ha.run pos pins s1 σ H1 _ I1 q) fun us s2 ⟨vs, H2, I2, r, q2⟩ => ⟨I2.kIn, run_fnS (us := .ref a :: us) (vs := .ref a :: vs) (E := WE W) Fn hr hbi (hp σ) I2 (.cons rfl r) q2⟩) (star_cons hs) (star_any pos ?_)
    rw [List.all_cons, Bool.and_eq_true] at hs
    exact hs.2
theorem call_bmX {X : Cx} {sc : Scope} {W : WX} {f : Bool} {o : Expr} {b : BM} {ap pos : Pos} {args : List Expr} {co : CE} {c : CEs} (F : Fit Γ Δ X sc) (hb : baseOk o = true) (hl : (ap.endLine == pos.line) = true) (hn : args.length < 29)
    (he : PE X o (wE Γ co f W)) (ha : PA X args (wEs Γ c f W) ∧ args.all noSt = true ∧ (args = [] → c = .nil)) : PE X (.Call (.Attribute o b.nm ap) args [] pos) (wE Γ (.bm b co c) f W) := by
  obtain ⟨ha, hs, hnil⟩ := ha
  obtain ⟨f1, f2, f3⟩ := b.facts
  have hM := qM_ok (X := X) b
  rw [F.g.eK] at hM
  refine ⟨fun pins s σ H Q I q => ?_⟩
  have q : wE Γ co f W σ H fun x H1 => tyV Γ.K b.T x H1 ∧ wEs Γ c f W σ H1 fun xs H2 => qM Γ.K b x xs H2 Q := q
  rw [← F.g.eK] at hM q
  cases args with
  | nil =>
    cases hnil rfl
    refine (pe_bm0 f1 f2 f3 hM he (base_ok hb) hl).run pins s σ H Q I ?_
    exact q
  | cons e es =>
    have hs2 : es.all noSt = true := by rw [List.all_cons, Bool.and_eq_true] at hs; exact hs.2
    refine (pe_bm f1 f2 f3 hM he ha (base_ok hb) ?_ hl (star_cons hs) (star_any pos hs2)).run pins s σ H Q I q
    rw [star_few pos hs]
    show (true && true && decide ((e :: es).length + 0 + 0 < 30)) = true
    rw [decide_eq_true (by omega)] <;> rfl
end
end Dq

set_option maxHeartbeats 8000000
namespace Dq
open PySem PySem.Spec PyProof.Rows L2
section
variable {Γ : Gam} {Δ : Del} {n : Nat}

theorem un_negP {X : Cx} : UnR X (unaryOp .USub) (fun x H Q => ∃ i, x = .int i ∧ Q (.int (-i)) H) := un_neg

theorem step_e (S : Snd Γ Δ n) {sc : Scope} {e : Expr} {c : CE} (X : Cx) (W : WX) (f : Bool) (h : cE Δ (n + 1) sc e = some c) (F : Fit Γ Δ X sc) (hp : PassX X W) (hf : f = true → Fl X W) : PE X e (wE Γ c f W) := by
  have room := F.g.hu
  unfold cE at h
  split at h
  -- constants
  · split at h
    · cases h; exact pe_non
    · cases h; exact pe_bl
    · cases h; exact pe_int
    · cases h; exact pe_str
    · cases h
  -- a name
  · rename_i x p
    by_cases ho : okName x = true
    · rw [if_pos ho] at h
      obtain ⟨d1, d2, d3⟩ := okName_of ho
      split at h
      · rename_i i hi
        cases h
        obtain ⟨h1, h2⟩ := slot_ok F hi
        exact pe_var h1 h2 d1 d2
      · by_cases hg : isGl sc x = true
        · rw [if_pos hg] at h
          split at h
          · rename_i t ht
            cases h
            obtain ⟨rfl, hm⟩ := ty_find ht
            exact pe_bltn (v := .ty t) (isGl_ok F hg) (F.g.ty t hm) (ty_boot t hm) rfl d3 d1
          · cases h
            exact glob_ok F ho hg
        · rw [if_neg hg] at h; cases h
    · rw [if_neg ho] at h; cases h
  -- a op b
  · rename_i a op b p
    obtain ⟨a', ha, h⟩ := Option.bind_eq_some_iff.mp h
    obtain ⟨b', hb, rfl⟩ := Option.map_eq_some_iff.mp h
    have ho := op_qBin (X := X) op
    rw [F.g.eK] at ho
    exact pe_op ho (S.e X W f ha F hp hf) (S.e X W f hb F hp hf)
  · obtain ⟨a', ha, rfl⟩ := Option.map_eq_some_iff.mp h
    exact pe_un un_negP (S.e X W f ha F hp hf)
  · obtain ⟨a', ha, rfl⟩ := Option.map_eq_some_iff.mp h
    show PE X _ (tNotT Γ.K (wE Γ a' f W))
    rw [← F.g.eK]
    exact pe_notT (S.e X W f ha F hp hf)
  · exact S.b X W f _ h F hp hf
  -- a comparison
  · rename_i a op b p
    by_cases hm : behindInMarks op b = true
    · rw [if_pos hm] at h; cases h
    · rw [if_neg hm] at h
      obtain ⟨a', ha, h⟩ := Option.bind_eq_some_iff.mp h
      obtain ⟨b', hb, rfl⟩ := Option.map_eq_some_iff.mp h
      have ho := op_qCmp (X := X) (by omega) op
      rw [F.g.eK, F.g.ew] at ho
      exact pe_cmpR ho (S.e X W f ha F hp hf) (S.e X W f hb F hp hf) (by simpa using hm)
  · rename_i a op op' b c p
    by_cases hm : lastMarks [op, op'] [b, c] = true
    · rw [if_pos hm] at h; cases h
    · rw [if_neg hm] at h
      obtain ⟨a', ha, h⟩ := Option.bind_eq_some_iff.mp h
      obtain ⟨b', hb, h⟩ := Option.bind_eq_some_iff.mp h
      obtain ⟨c', hc, rfl⟩ := Option.map_eq_some_iff.mp h
      have ho := op_qCmp (X := X) (by omega) op
      have ho' := op_qCmp (X := X) (by omega) op'
      rw [F.g.eK, F.g.ew] at ho ho'
      exact pe_chain ho ho' (S.e X W f ha F hp hf) (S.e X W f hb F hp hf) (S.e X W f hc F hp hf) (by simpa using hm)
  -- a if t else b
  · obtain ⟨t', ht, h⟩ := Option.bind_eq_some_iff.mp h
    obtain ⟨a', ha, h⟩ := Option.bind_eq_some_iff.mp h
    obtain ⟨b', hb, rfl⟩ := Option.map_eq_some_iff.mp h
    exact pe_ifExp (S.t X W f ht F hp hf) (S.e X W f ha F hp hf) (S.e X W f hb F hp hf)
  -- displays
  · obtain ⟨es', hes, rfl⟩ := Option.map_eq_some_iff.mp h
    exact pe_lst (S.es X W f hes F hp hf).1
  · obtain ⟨es', hes, rfl⟩ := Option.map_eq_some_iff.mp h
    exact pe_tup (S.es X W f hes F hp hf).1
  · rename_i ks vs p
    by_cases hl : ks.length ≤ 15
    · rw [if_pos hl] at h
      obtain ⟨ps, hps, rfl⟩ := Option.map_eq_some_iff.mp h
      obtain ⟨h1, h3, h4, h5, h6⟩ := S.p X W f p hps F hp hf
      cases hn : ps.isNil with
      | true =>
        obtain ⟨rfl, rfl⟩ := h5 hn
        refine PE.imp (PE.or pe_dnewK pe_dnewT) fun σ H Q q => ?_
        have q : (if ps.isNil = true then _ else _) := q
        rw [if_pos hn] at q
        exact q
      | false =>
        refine PE.imp (pe_disp h1 h4 h3 (h6 hn) hl) fun σ H Q q => ?_
        have q : (if ps.isNil = true then _ else _) := q
        rw [if_neg (by rw [hn]; decide)] at q
        exact q
    · rw [if_neg hl] at h; cases h
  -- subscripts
  · obtain ⟨a', ha, h⟩ := Option.bind_eq_some_iff.mp h
    obtain ⟨l', hl, h⟩ := Option.bind_eq_some_iff.mp h
    obtain ⟨u', hu, rfl⟩ := Option.map_eq_some_iff.mp h
    have ho := sl_q (X := X)
    rw [F.g.eK] at ho
    exact pe_slice ho (S.e X W f ha F hp hf) (S.o X W f hl F hp hf) (S.o X W f hu F hp hf)
  · rename_i a i p _
    by_cases hs : noSlice i = true
    · rw [if_pos hs] at h
      obtain ⟨a', ha, h⟩ := Option.bind_eq_some_iff.mp h
      obtain ⟨i', hi, rfl⟩ := Option.map_eq_some_iff.mp h
      have ho := ix_q (X := X) (by omega)
      rw [F.g.eK, F.g.ew] at ho
      exact pe_ix ho (S.e X W f ha F hp hf) (S.e X W f hi F hp hf) (plainIx hs)
    · rw [if_neg hs] at h; cases h
  -- a.f
  · rename_i a m p
    by_cases hb : baseOk a = true
    · rw [if_pos hb] at h
      obtain ⟨a', ha, rfl⟩ := Option.map_eq_some_iff.mp h
      refine ⟨fun pins s σ H Q I q => ?_⟩
      have q : wE Γ a' f W σ H fun x H1 => ∃ p C dx fs v, x = .ref p ∧ H1 p = some (.ins C dx fs) ∧ Γ.fd C m ∧ fs.lookup m = some v ∧ Q v H1 := q
      refine attr_of (base_ok hb) (thn ((S.e X W f ha F hp hf).run pins s σ H _ I q) fun u s1 ⟨x, H1, I1, rx, b, C, dx, fs, v, ex, ea, hfd, l, q1⟩ => ?_)
      subst ex
      obtain rfl : u = Value.ref b := rx
      exact getattr_ok I1 ea (F.g.fd C m hfd).1 (F.g.fd C m hfd).2 l fun u' s2 I2 ru => ⟨v, H1, I2, ru, q1⟩
    · rw [if_neg hb] at h; cases h
  -- f(..)
  · rename_i x p args pos
    by_cases hx : (okName x && isGl sc x) = true
    · rw [if_pos hx] at h
      obtain ⟨ho, hg⟩ := Bool.and_eq_true_iff.mp hx
      by_cases hc : Δ.cls.contains x = true
      · rw [if_pos hc] at h
        obtain ⟨es, hes, rfl⟩ := Option.map_eq_some_iff.mp h
        exact call_mkX F hp ho hg (S.es X W f hes F hp hf)
      · rw [if_neg hc] at h
        split at h
        · rename_i b hb
          obtain rfl := bf_find hb
          exact S.f X W f _ _ h hg F hp hf
        · obtain ⟨es, hes, rfl⟩ := Option.map_eq_some_iff.mp h
          exact call_fnX F hp ho hg (S.es X W f hes F hp hf)
    · rw [if_neg hx] at h; cases h
  -- o.m(..)
  · rename_i o m ap args pos
    by_cases hx : (baseOk o && (ap.endLine == pos.line) && decide (args.length < 29)) = true
    · rw [if_pos hx] at h
      obtain ⟨h12, h3⟩ := Bool.and_eq_true_iff.mp hx
      obtain ⟨h1, h2⟩ := Bool.and_eq_true_iff.mp h12
      obtain ⟨o', ho, h⟩ := Option.bind_eq_some_iff.mp h
      obtain ⟨es, hes, h⟩ := Option.bind_eq_some_iff.mp h
      by_cases hm : Δ.own.contains m = true
      · rw [if_pos hm] at h
        cases h
        exact call_meX F hp h1 h2 (of_decide_eq_true h3) (S.e X W f ho F hp hf) (S.es X W f hes F hp hf)
      · rw [if_neg hm] at h
        obtain ⟨b, hb, rfl⟩ := Option.map_eq_some_iff.mp h
        obtain rfl := bm_find hb
        exact call_bmX F h1 h2 (of_decide_eq_true h3) (S.e X W f ho F hp hf) (S.es X W f hes F hp hf)
    · rw [if_neg hx] at h; cases h
  -- a comprehension
  · rename_i elt tg it ifs scope pos
    by_cases hb : blkC Δ.N sc scope (ownOf Δ scope) = true
    · rw [if_pos hb] at h
      obtain ⟨g, hg, h⟩ := Option.bind_eq_some_iff.mp h
      obtain ⟨i', hi, h⟩ := Option.bind_eq_some_iff.mp h
      obtain ⟨t', ht, h⟩ := Option.bind_eq_some_iff.mp h
      obtain ⟨e', he, rfl⟩ := Option.map_eq_some_iff.mp h
      have ok : BlkOk X.N X.env.scope scope (ownOf Δ scope) := by rw [F.N, F.sc]; exact blkOk_by hb
      obtain ⟨pi, hs⟩ := S.i X W f hi F hp hf
      cases f with
      | true =>
        exact pe_lcX (tt := fun W' => wC Γ t' W') (te := fun W' => wE Γ e' false W') ⟨F.calm, F.nd, hf rfl, pi, ok, fun s H C cl fp xe => pg_of (whole := false) (F.blk s H scope cl C fp xe) (fun z => nomatch z) hg, fun σ s H C cl fp xe pb => S.c _ (atS W σ) ht (F.blk s H scope cl C fp xe) pb,
          fun σ s H C cl fp xe pb => S.e _ (atS W σ) false he (F.blk s H scope cl C fp xe) pb (fun z => nomatch z), hs⟩
      | false =>
        have pn : ∀ Y : Cx, PassX Y noW := fun Y σ pins H s e s' I c => by
          obtain ⟨_, _, _, _, _, _, _, _, _, _, _, _, z⟩ := c
          exact z.elim
        exact pe_lc F.calm F.nd pi ok (fun s H C cl fp => pg_of (whole := false) (F.blk s H scope cl C fp _) (fun z => nomatch z) hg) (fun s H C cl fp => S.c _ noW ht (F.blk s H scope cl C fp _) (pn _)) (fun s H C cl fp => S.e _ noW false he (F.blk s H scope cl C fp _) (pn _) fun z => nomatch z) hs
    · rw [if_neg hb] at h; cases h
  · cases h

theorem step_b (S : Snd Γ Δ n) {sc : Scope} {op : BoolOp} {vs : List Expr} {c : CE} (X : Cx) (W : WX) (f : Bool) (pos : Pos) (h : cB Δ (n + 1) sc op vs = some c) (F : Fit Γ Δ X sc) (hp : PassX X W) (hf : f = true → Fl X W) : PE X (.BoolOp op vs pos) (wE Γ c f W) := by
  unfold cB at h
  split at h
  · cases h
  · rename_i e
    exact pe_one (S.e X W f h F hp hf)
  · rename_i e es hne
    obtain ⟨a, ha, h⟩ := Option.bind_eq_some_iff.mp h
    obtain ⟨b, hb, rfl⟩ := Option.map_eq_some_iff.mp h
    cases es with
    | nil => exact (hne rfl).elim
    | cons e2 r =>
      cases op with
      | And =>
        show PE X _ (tAndT Γ.K (wE Γ a f W) (wE Γ b f W))
        rw [← F.g.eK]
        exact pe_andT (S.e X W f ha F hp hf) (S.b X W f pos hb F hp hf)
      | Or =>
        show PE X _ (tOrT Γ.K (wE Γ a f W) (wE Γ b f W))
        rw [← F.g.eK]
        exact pe_orT (S.e X W f ha F hp hf) (S.b X W f pos hb F hp hf)
theorem step_es (S : Snd Γ Δ n) {sc : Scope} {es : List Expr} {c : CEs} (X : Cx) (W : WX) (f : Bool) (h : cEs Δ (n + 1) sc es = some c) (F : Fit Γ Δ X sc) (hp : PassX X W) (hf : f = true → Fl X W) : PA X es (wEs Γ c f W) ∧ es.all noSt = true ∧ (es = [] → c = .nil) := by
  unfold cEs at h
  split at h
  · cases h; exact ⟨pa_nil, rfl, fun _ => rfl⟩
  · cases h
  · rename_i e es hns
    obtain ⟨a, ha, h⟩ := Option.bind_eq_some_iff.mp h
    obtain ⟨b, hb, rfl⟩ := Option.map_eq_some_iff.mp h
    obtain ⟨k1, k2, k3⟩ := S.es X W f hb F hp hf
    have hs : (e :: es).all noSt = true := by
      rw [List.all_cons, k2, Bool.and_true]
      cases e <;> first | rfl | exact (hns _ _ rfl).elim
    exact ⟨pa_cons (S.e X W f ha F hp hf) k1 (star_cons hs), hs, fun z => nomatch z⟩
theorem step_f (S : Snd Γ Δ n) {sc : Scope} {b : BF} {args : List Expr} {c : CE} (X : Cx) (W : WX) (f : Bool) (p pos : Pos) (h : cF Δ (n + 1) sc b args = some c) (hg : isGl sc b.nm = true) (F : Fit Γ Δ X sc) (hp : PassX X W) (hf : f = true → Fl X W) : PE X (.Call (.Name b.nm p) args [] pos) (wE Γ c f W) := by
  have hgl := isGl_ok F hg
  obtain ⟨d1, d2, d3⟩ := okName_of (bf_ok b)
  unfold cF at h
  split at h
  · cases h
  · rename_i o ap cp
    by_cases hx : (b == .list && baseOk o && (ap.endLine == cp.line)) = true
    · rw [if_pos hx] at h
      obtain ⟨h12, h3⟩ := Bool.and_eq_true_iff.mp hx
      obtain ⟨h1, h2⟩ := Bool.and_eq_true_iff.mp h12
      have e : b = .list := by simpa using h1
      subst e
      obtain ⟨o', ho, rfl⟩ := Option.map_eq_some_iff.mp h
      exact LiI.pe_listItems F.calm (S.e X W f ho F hp hf) hgl (F.g.bf .list) BF.list.boot (base_ok h2) h3 rfl
    · rw [if_neg hx] at h; cases h
  · rename_i hne _
    obtain ⟨es, hes, rfl⟩ := Option.map_eq_some_iff.mp h
    obtain ⟨k1, k2, k3⟩ := S.es X W f hes F hp hf
    have hc := qF_ok (X := X) F.calm b
    rw [F.g.eK] at hc
    cases args with
    | nil => exact (hne rfl).elim
    | cons e es2 =>
      have k4 : es2.all noSt = true := by rw [List.all_cons, Bool.and_eq_true] at k2; exact k2.2
      have hb := b.boot
      cases b
      case int => exact pe_callTy hc hgl (F.g.bf .int) hb k1 d3 d1 (star_cons k2) (star_any _ k4)
      case str => exact pe_callTy hc hgl (F.g.bf .str) hb k1 d3 d1 (star_cons k2) (star_any _ k4)
      case list => exact pe_callTy hc hgl (F.g.bf .list) hb k1 d3 d1 (star_cons k2) (star_any _ k4)
      case tuple => exact pe_callTy hc hgl (F.g.bf .tuple) hb k1 d3 d1 (star_cons k2) (star_any _ k4)
      case type => exact pe_callTy hc hgl (F.g.bf .type) hb k1 d3 d1 (star_cons k2) (star_any _ k4)
      case len => exact pe_callB hc hgl (F.g.bf .len) hb k1 d3 d1 (star_cons k2) (star_any _ k4)
      case isi => exact pe_callB hc hgl (F.g.bf .isi) hb k1 d3 d1 (star_cons k2) (star_any _ k4)
      case abs => exact pe_callB hc hgl (F.g.bf .abs) hb k1 d3 d1 (star_cons k2) (star_any _ k4)
      case all => exact pe_callB hc hgl (F.g.bf .all) hb k1 d3 d1 (star_cons k2) (star_any _ k4)
      case any => exact pe_callB hc hgl (F.g.bf .any) hb k1 d3 d1 (star_cons k2) (star_any _ k4)
theorem step_p (S : Snd Γ Δ n) {sc : Scope} {ks : List (Option Expr)} {vs : List Expr} {c : CPs} (X : Cx) (W : WX) (f : Bool) (pos : Pos) (h : cP Δ (n + 1) sc ks vs = some c) (F : Fit Γ Δ X sc) (hp : PassX X W) (hf : f = true → Fl X W) :
    PPs X pos ks vs (wP Γ c f W) ∧ ks.length = vs.length ∧ ks.all (·.isSome) = true ∧ (c.isNil = true → ks = [] ∧ vs = []) ∧ (c.isNil = false → ks ≠ []) := by
  unfold cP at h
  split at h
  · cases h; exact ⟨pps_nil, rfl, rfl, fun _ => ⟨rfl, rfl⟩, fun z => nomatch z⟩
  · obtain ⟨k', hk, h⟩ := Option.bind_eq_some_iff.mp h
    obtain ⟨v', hv, h⟩ := Option.bind_eq_some_iff.mp h
    obtain ⟨p', hps, rfl⟩ := Option.map_eq_some_iff.mp h
    obtain ⟨h1, h3, h4, h5, h6⟩ := S.p X W f pos hps F hp hf
    refine ⟨pps_cons (S.e X W f hk F hp hf) (S.e X W f hv F hp hf) h1, by simp [h3], ?_, fun z => (nomatch z), fun _ z => nomatch z⟩
    rw [List.all_cons, h4]
    rfl
  · cases h
theorem step_t (S : Snd Γ Δ n) {sc : Scope} {e : Expr} {c : CT} (X : Cx) (W : WX) (f : Bool) (h : cT Δ (n + 1) sc e = some c) (F : Fit Γ Δ X sc) (hp : PassX X W) (hf : f = true → Fl X W) : PT X e (wT Γ c f W) := by
  have room := F.g.hu
  unfold cT at h
  split at h
  · exact PW.pt (S.tb X W f _ h F hp hf)
  · obtain ⟨a', ha, rfl⟩ := Option.map_eq_some_iff.mp h
    exact pt_not (S.t X W f ha F hp hf)
  · obtain ⟨t', ht, h⟩ := Option.bind_eq_some_iff.mp h
    obtain ⟨a', ha, h⟩ := Option.bind_eq_some_iff.mp h
    obtain ⟨b', hb, rfl⟩ := Option.map_eq_some_iff.mp h
    have pt := S.t X W f ht F hp hf
    have pa := S.t X W f ha F hp hf
    have pb := S.t X W f hb F hp hf
    refine ⟨fun pins s σ H Q I q => ?_⟩
    rw [arm_isTrue_IfExp]
    refine wpAny_bind (thn (pt.run pins s σ H _ I q) fun d s1 ⟨H1, I1, q1⟩ => ?_)
    cases d with
    | true => exact pa.run pins s1 σ H1 Q I1 q1
    | false => exact pb.run pins s1 σ H1 Q I1 q1
  · rename_i a op b p
    by_cases hm : behindInMarks op b = true
    · rw [if_pos hm] at h; cases h
    · rw [if_neg hm] at h
      obtain ⟨a', ha, h⟩ := Option.bind_eq_some_iff.mp h
      obtain ⟨b', hb, rfl⟩ := Option.map_eq_some_iff.mp h
      have ho := op_qCmp (X := X) (by omega) op
      rw [F.g.eK, F.g.ew] at ho
      exact pt_cmpR ho (S.e X W f ha F hp hf) (S.e X W f hb F hp hf) (by simpa using hm)
  · rename_i a op op' b c p
    by_cases hm : lastMarks [op, op'] [b, c] = true
    · rw [if_pos hm] at h; cases h
    · rw [if_neg hm] at h
      obtain ⟨a', ha, h⟩ := Option.bind_eq_some_iff.mp h
      obtain ⟨b', hb, h⟩ := Option.bind_eq_some_iff.mp h
      obtain ⟨c', hc, rfl⟩ := Option.map_eq_some_iff.mp h
      have ho := op_qCmp (X := X) (by omega) op
      have ho' := op_qCmp (X := X) (by omega) op'
      rw [F.g.eK, F.g.ew] at ho ho'
      refine PT.imp (pt_chain ho ho' (S.e X W f ha F hp hf) (S.e X W f hb F hp hf) (S.e X W f hc F hp hf) (by simpa using hm)) fun σ H Q q => q
  · cases h
  · rename_i h1 h2 h3 h4 h5 h6
    obtain ⟨a', ha, rfl⟩ := Option.map_eq_some_iff.mp h
    have pa := S.e X W f ha F hp hf
    have pt := pt_truth pa fun whole => by
      cases e <;> first
        | rfl
        | exact (h1 _ _ _ rfl).elim
        | exact (h3 _ _ _ _ rfl).elim
        | exact (h6 _ _ _ _ rfl).elim
        | (rename_i op a p; cases op <;> first | rfl | exact (h2 _ _ rfl).elim)
    rw [F.g.eK] at pt
    exact pt

theorem step_tb (S : Snd Γ Δ n) {sc : Scope} {op : BoolOp} {vs : List Expr} {c : CT} (X : Cx) (W : WX) (f : Bool) (pos : Pos) (h : cTB Δ (n + 1) sc op vs = some c) (F : Fit Γ Δ X sc) (hp : PassX X W) (hf : f = true → Fl X W) : PW X (.BoolOp op vs pos) (wT Γ c f W) := by
  unfold cTB at h
  split at h
  · cases h
  · rename_i e
    cases op with
    | And => exact pw_and1 (S.t X W f h F hp hf)
    | Or => exact pw_or1 (S.t X W f h F hp hf)
  · rename_i e es hne
    obtain ⟨a, ha, h⟩ := Option.bind_eq_some_iff.mp h
    obtain ⟨b, hb, rfl⟩ := Option.map_eq_some_iff.mp h
    cases es with
    | nil => exact (hne rfl).elim
    | cons e2 r =>
      cases op with
      | And => exact pw_and (S.t X W f ha F hp hf) (S.tb X W f pos hb F hp hf)
      | Or => exact pw_or (S.t X W f ha F hp hf) (S.tb X W f pos hb F hp hf)
theorem step_o (S : Snd Γ Δ n) {sc : Scope} {e : Option Expr} {c : CO} (X : Cx) (W : WX) (f : Bool) (h : cO Δ (n + 1) sc e = some c) (F : Fit Γ Δ X sc) (hp : PassX X W) (hf : f = true → Fl X W) : PO X e (wO Γ c f W) := by
  unfold cO at h
  split at h
  · cases h; exact po_none
  · obtain ⟨a, ha, rfl⟩ := Option.map_eq_some_iff.mp h
    exact po_some (S.e X W f ha F hp hf)
theorem step_c (S : Snd Γ Δ n) {sc : Scope} {ifs : List Expr} {c : CC} (X : Cx) (W : WX) (h : cC Δ (n + 1) sc ifs = some c) (F : Fit Γ Δ X sc) (hp : PassX X W) : PTs X ifs (wC Γ c W) := by
  unfold cC at h
  split at h
  · cases h; exact pts_nil
  · obtain ⟨a, ha, rfl⟩ := Option.map_eq_some_iff.mp h
    exact pts_one (S.t X W false ha F hp fun z => nomatch z)
  · cases h
theorem fold_ok {e : Expr} {env : Env} (h : ∀ es k p, e ≠ .Set es k p) : ∀ x, foldedSetIterable e env x = pure x := fun x => by
  cases e <;> first | rfl | exact (h _ _ _ rfl).elim
theorem step_i (S : Snd Γ Δ n) {sc : Scope} {tg it : Expr} {c : CI} (X : Cx) (W : WX) (f : Bool) (h : cI Δ (n + 1) sc tg it = some c) (F : Fit Γ Δ X sc) (hp : PassX X W) (hf : f = true → Fl X W) : PI X tg it (wI Γ c f W) ∧ ∀ x, foldedSetIterable it X.env x = pure x := by
  have val : ∀ {it : Expr} {c : CI}, (cE Δ n sc it).map .val = some c → PI X tg it (wI Γ c f W) := fun {it c} h => by
    obtain ⟨a, ha, rfl⟩ := Option.map_eq_some_iff.mp h
    have z := pi_val (tg := tg) (S.e X W f ha F hp hf)
    rw [F.g.eK] at z
    exact z
  unfold cI at h
  split at h
  · cases h
  · rename_i x p args pos
    refine ⟨?_, fun _ => rfl⟩
    split at h
    · rename_i hx
      obtain rfl := eq_of_beq hx
      split at h
      · rename_i a
        split at h
        · rename_i hc
          obtain ⟨hg, hn⟩ := Bool.and_eq_true_iff.mp hc
          obtain ⟨a', ha, rfl⟩ := Option.map_eq_some_iff.mp h
          have hs : [a].all noSt = true := by cases a <;> first | rfl | exact Bool.noConfusion hn
          have pa : PA X [a] (tCons (wE Γ a' f W) tNil) := pa_cons (S.e X W f ha F hp hf) pa_nil (star_cons hs)
          exact pi_range1 (isGl_ok F hg) F.g.it.1 pa (star_cons hs)
        · cases h
      · cases h
    · split at h
      · rename_i hx
        obtain rfl := eq_of_beq hx
        split at h
        · rename_i a
          split at h
          · rename_i hc
            obtain ⟨hc, ht⟩ := Bool.and_eq_true_iff.mp hc
            obtain ⟨hg, hn⟩ := Bool.and_eq_true_iff.mp hc
            obtain ⟨a', ha, rfl⟩ := Option.map_eq_some_iff.mp h
            have hs : [a].all noSt = true := by cases a <;> first | rfl | exact Bool.noConfusion hn
            have pa : PA X [a] (tCons (wE Γ a' f W) tNil) := pa_cons (S.e X W f ha F hp hf) pa_nil (star_cons hs)
            cases tg <;> first | exact Bool.noConfusion ht | skip
            show PI X _ _ (iEnum Γ.K (tCons (wE Γ a' f W) tNil))
            rw [← F.g.eK]
            exact pi_enum (isGl_ok F hg) F.g.it.2.1 pa (star_cons hs)
          · cases h
        · cases h
      · split at h
        · rename_i hx
          obtain rfl := eq_of_beq hx
          split at h
          · rename_i a b
            split at h
            · rename_i hc
              obtain ⟨hc, ht⟩ := Bool.and_eq_true_iff.mp hc
              obtain ⟨hc, hn2⟩ := Bool.and_eq_true_iff.mp hc
              obtain ⟨hg, hn⟩ := Bool.and_eq_true_iff.mp hc
              obtain ⟨a', ha, h⟩ := Option.bind_eq_some_iff.mp h
              obtain ⟨b', hb, rfl⟩ := Option.map_eq_some_iff.mp h
              have hs2 : [b].all noSt = true := by cases b <;> first | rfl | exact Bool.noConfusion hn2
              have hs : [a, b].all noSt = true := by cases a <;> first | exact hs2 | exact Bool.noConfusion hn
              have pa : PA X [a, b] (tCons (wE Γ a' f W) (tCons (wE Γ b' f W) tNil)) := pa_cons (S.e X W f ha F hp hf) (pa_cons (S.e X W f hb F hp hf) pa_nil (star_cons hs2)) (star_cons hs)
              cases tg <;> first | exact Bool.noConfusion ht | skip
              show PI X _ _ (RZ.iZipA Γ.K (tCons (wE Γ a' f W) (tCons (wE Γ b' f W) tNil)))
              rw [← F.g.eK]
              exact RZ.pi_zipA (isGl_ok F hg) F.g.it.2.2 pa (star_cons hs) (star_any _ hs2)
            · cases h
          · cases h
        · exact val h
  · rename_i h1 h2
    exact ⟨val h, fold_ok fun es k p e => h1 es k p e⟩

theorem snd_all : ∀ n, Snd Γ Δ n
  | 0 => snd_zero
  | n + 1 => ⟨fun X W f h => step_e (snd_all n) X W f h, fun X W f p h => step_b (snd_all n) X W f p h, fun X W f h => step_es (snd_all n) X W f h, fun X W f p q h => step_f (snd_all n) X W f p q h, fun X W f p h => step_p (snd_all n) X W f p h,
    fun X W f h => step_t (snd_all n) X W f h, fun X W f p h => step_tb (snd_all n) X W f p h, fun X W f h => step_o (snd_all n) X W f h, fun X W h => step_c (snd_all n) X W h, fun X W f h => step_i (snd_all n) X W f h⟩
end
end Dq

set_option maxHeartbeats 8000000
namespace Dq
open PySem PySem.Spec PyProof.Rows L2

/-- the names that a tuple's stores swap (none: they are not swapped; the outer none: the model does not say) -/
def swapM (sc : Scope) (ts vs : List Expr) : Option (Option (List Str)) :=
  if (!(ts.length == 2 || ts.length == 3) || vs.length != ts.length || sc.kind != .function) = true then some none else
  if (vs.any fun | .Starred .. => true | _ => false) = true then some none else
  let names := ts.filterMap fun
    | .Name id pos => if sc.names.lookup id == some .local && pos.line == (ts.head?.map (·.pos.line)).getD 0 then some id else none
    | _ => none
  if (names.length != ts.length || names.eraseDups.length != names.length) = true then some none else
  if vs.all (foldedForSure 8) = true then some none else
  if vs.all (constantsAlone 8) = true then none else some (some names)
theorem swapM_ok {ts vs : List Expr} {env : Env} {r : Option (List Str)} {k k2 : Nat} {p p2 : Pos} (hk : env.scope.kind = .function) (h : swapM env.scope ts vs = some r) : swappedStores [.Tuple ts k p] (.Tuple vs k2 p2) env = pure r := by
  have hb : env.blockKind = .function := by unfold Env.blockKind; rw [hk]; rfl
  unfold swapM at h
  rw [hk] at h
  unfold swappedStores
  simp only [hb, pure_bind]
  split at h
  · rename_i c
    cases h
    rw [if_pos c]
  rename_i c
  rw [if_neg c]
  split at h
  · rename_i c
    cases h
    exact if_pos c
  rename_i c
  refine (if_neg c).trans ?_
  dsimp only at h ⊢
  split at h
  · rename_i c
    cases h
    exact if_pos c
  rename_i c
  refine (if_neg c).trans ?_
  split at h
  · rename_i c
    cases h
    exact if_pos c
  rename_i c
  refine (if_neg c).trans ?_
  split at h
  · cases h
  rename_i c
  cases h
  refine (if_neg c).trans ?_
  rfl

def lineOk (sc scope : Scope) (y : Str) (py lp : Pos) : Bool := sc.names.lookup y == some .local && (py.line == lp.line) && !(scope.names.any fun (n, k) => n == y && (k == .local || k == .cell))
def cPar (Δ : Del) (sc : Scope) (x y : Str) : Option (Nat × Nat) := (storeOf Δ sc false x).bind fun i => (storeOf Δ sc false y).bind fun j => if i = j then none else some (i, j)
def cPar3 (Δ : Del) (sc : Scope) (x y z : Str) : Option (Nat × Nat × Nat) := (storeOf Δ sc false x).bind fun i => (storeOf Δ sc false y).bind fun j => (storeOf Δ sc false z).bind fun k => if i = j ∨ i = k ∨ j = k then none else some (i, j, k)
mutual
def cS (Δ : Del) : Nat → Scope → Stmt → Option CS
  | 0, _, _ => none
  | n + 1, sc, s => match s with
    | .Expr e _ => if noComp e then (cE Δ n sc e).map .expr else none
    | .Return (some e) _ => (cE Δ n sc e).map .ret
    | .Return none _ => some .retN
    | .Assign [.Name x px] e pos => (storeOf Δ sc true x).bind fun i => match e with
      | .ListComp elt gs scope lp => if lineOk sc scope x px lp then (cE Δ n sc (.ListComp elt gs scope lp)).map (.set i) else none
      | e => if noComp e then (cE Δ n sc e).map (.set i) else none
    | .Assign [.Tuple ts k p] e _ => (match e with
      | .Tuple vs _ _ => (swapM sc ts vs).bind fun r => match r with
        | none => (cG Δ sc true (.Tuple ts k p)).bind fun g => (cE Δ n sc e).map (.unp g)
        | some ns => (match ts, vs with
          | [.Name x _, .Name y _], [a, b] => if ns = [x, y] then (cPar Δ sc x y).bind fun ij => (cE Δ n sc a).bind fun a' => (cE Δ n sc b).bind fun b' => if noSt a && noSt b then some (.par2 ij.1 ij.2 a' b') else none else none
          | [.Name x _, .Name y _, .Name z _], [a, b, c] => if ns = [x, y, z] then (cPar3 Δ sc x y z).bind fun ij => (cE Δ n sc a).bind fun a' => (cE Δ n sc b).bind fun b' => (cE Δ n sc c).bind fun c' => if noSt a && noSt b && noSt c then some (.par3 ij.1 ij.2.1 ij.2.2 a' b' c') else none else none
          | _, _ => none)
      | e => if noComp e then (cG Δ sc true (.Tuple ts k p)).bind fun g => (cE Δ n sc e).map (.unp g) else none)
    | .Assign [.Attribute o f _] e _ => (cE Δ n sc e).bind fun e' => (cE Δ n sc o).map fun o' => .fld o' f e'
    | .Assign [.Subscript o i _] e _ => if noSlice i && noComp e then (cE Δ n sc e).bind fun e' => (cE Δ n sc o).bind fun o' => (cE Δ n sc i).map fun i' => .ixs o' i' e' else none
    | .AugAssign (.Attribute o f _) op e _ => (cE Δ n sc o).bind fun o' => (cE Δ n sc e).map fun e' => .fldA o' f op e'
    | .If t a b _ => (cT Δ n sc t).bind fun t' => (cSs Δ n sc a).bind fun a' => (cSs Δ n sc b).map fun b' => .ifs t' a' b'
    | .While t b [] _ => (cT Δ n sc t).bind fun t' => (cSs Δ n sc b).map fun b' => .whl t' b'
    | .For tg it b [] _ => (cG Δ sc true tg).bind fun g => (cI Δ n sc tg it).bind fun i' => (cSs Δ n sc b).map fun b' => .for_ g i' b'
    | .Raise (some (.Call (.Name x _) args [] _)) none _ => if okName x && isGl sc x then (cEs Δ n sc args).bind fun es => (match args with | [] => none | _ => some (.raise x es)) else none
    | _ => none
def cSs (Δ : Del) : Nat → Scope → List Stmt → Option CSs
  | 0, _, _ => none
  | n + 1, sc, ss => match ss with
    | [] => some .nil
    | s :: ss => (cS Δ n sc s).bind fun a => (cSs Δ n sc ss).map fun b => .cons a b
end
end Dq

set_option maxHeartbeats 8000000
namespace Dq
open PySem PySem.Spec PyProof.Rows L2
/-- what a def's body may lean on -/
structure FS (Γ : Gam) (Δ : Del) (X : Cx) (sc : Scope) (W : WX) : Prop where
  F : Fit Γ Δ X sc
  L : Fl X W
  own : PassesOwn (model X.prog X.w) X.A X.env X.xe
  fn : ∀ y, X.fn y = true
  kd : sc.kind = .function
section
variable {Γ : Gam} {Δ : Del} {X : Cx} {sc : Scope} {W : WX}
theorem FS.px (S : FS Γ Δ X sc W) : PassX X W := passAt S.L.tk
theorem FS.kdx (S : FS Γ Δ X sc W) : X.env.scope.kind = .function := by rw [S.F.sc]; exact S.kd
theorem FS.eok (S : FS Γ Δ X sc W) {n : Nat} {e : Expr} {c : CE} (h : cE Δ n sc e = some c) : PE X e (wE Γ c true W) := (snd_all n).e X W true h S.F S.px (fun _ => S.L)
theorem FS.tok (S : FS Γ Δ X sc W) {n : Nat} {e : Expr} {c : CT} (h : cT Δ n sc e = some c) : PT X e (wT Γ c true W) := (snd_all n).t X W true h S.F S.px (fun _ => S.L)
theorem FS.esok (S : FS Γ Δ X sc W) {n : Nat} {e : List Expr} {c : CEs} (h : cEs Δ n sc e = some c) : PA X e (wEs Γ c true W) ∧ e.all noSt = true ∧ (e = [] → c = .nil) := (snd_all n).es X W true h S.F S.px (fun _ => S.L)
theorem FS.iok (S : FS Γ Δ X sc W) {n : Nat} {tg e : Expr} {c : CI} (h : cI Δ n sc tg e = some c) : PI X tg e (wI Γ c true W) ∧ ∀ x, foldedSetIterable e X.env x = pure x := (snd_all n).i X W true h S.F S.px (fun _ => S.L)
theorem sw_none {e : Expr} {t : Option Expr} {l : Nat} {env : Env} (h : noComp e = true) : swapsWith e t l env = pure false := by
  cases e <;> first | rfl | cases h
theorem sws_none {e t : Expr} {l : Nat} {env : Env} (h : noComp e = true) : swapsWithSole [t] e l env = pure false := sw_none h
theorem sub_plain {o i : Expr} {pos : Pos} {env : Env} (h : noSlice i = true) : ∀ v, assign (.Subscript o i pos) env v = (do
      let w ← holding [v] (eval o env)
      let k ← holding [v, w] (eval i env)
      standAt pos
      holding [v, w, k] (setItem w k v)
      release [v, w, k] []) := fun v => by
  cases i <;> first | rfl | (exfalso; exact Bool.noConfusion h)
theorem pa_post {X : Cx} {es : List Expr} {t : TA} {σ0 : L2.St} {H0 : Hp} {P : List V → Hp → Prop} (h : PA X es t) (q : t σ0 H0 P) : PA X es (fun σ H Q => σ = σ0 ∧ H = H0 ∧ ∀ vs H1, P vs H1 → Q vs H1) := by
  refine ⟨fun pos pins s σ H Q I z => ?_⟩
  obtain ⟨rfl, rfl, z⟩ := z
  exact thn (h.run pos pins s σ H P I q) fun us s1 ⟨vs, H1, I1, r, p⟩ => ⟨vs, H1, I1, r, z _ _ p⟩
theorem sw_attr {e o : Expr} {f : Str} {p : Pos} {l : Nat} {env : Env} : swapsWith e (some (.Attribute o f p)) l env = pure false := by
  cases e <;> rfl
theorem swst_none {e : Expr} {ts : List Expr} {k : Nat} {p : Pos} {env : Env} (h : ∀ vs k2 p2, e ≠ .Tuple vs k2 p2) : swappedStores [.Tuple ts k p] e env = pure none := by
  cases e <;> first | rfl | exact absurd rfl (h _ _ _)
theorem PSet.or {t u : TSet} (h1 : PSet X t) (h2 : PSet X u) : PSet X (fun o i v H Q => t o i v H Q ∨ u o i v H Q) := fun pins s σ H o i v ov iv w Q I a b c h => h.elim (h1 pins s σ H o i v ov iv w Q I a b c) (h2 pins s σ H o i v ov iv w Q I a b c)
theorem PS.imp' {st : Stmt} {t u : TS} (h : PS X st t) (k : ∀ D σ H, u D σ H → t D σ H) : PS X st u := ⟨fun pins s σ H D I q => h.run pins s σ H D I (k _ _ _ q)⟩
theorem PS.or {st : Stmt} {t u : TS} (h1 : PS X st t) (h2 : PS X st u) : PS X st (fun D σ H => t D σ H ∨ u D σ H) := ⟨fun pins s σ H D I q => q.elim (h1.run pins s σ H D I) (h2.run pins s σ H D I)⟩
theorem in_op {op : Operator} : L2.InOp X op (inOp op) := by
  cases op
  case Add => exact in_add
  case Sub => exact in_sub
  all_goals exact fun _ _ _ _ _ _ _ _ _ _ _ _ z => z.elim
theorem starE {e : Expr} {es : List Expr} {env : Env} (h : noSt e = true) : starEach (e :: es) env = (false, eval e env) :: starEach es env := by
  cases e <;> first | rfl | cases h
theorem st_loc {Δ : Del} {sc : Scope} (F : Fit Γ Δ X sc) {x : Str} {i : Nat} (h : storeOf Δ sc false x = some i) : X.N[i]? = some x ∧ X.env.scope.names.lookup x = some .local := by
  obtain ⟨h1, h2, h3⟩ := store_slot F (whole := false) (fun z => nomatch z) h
  refine ⟨h1, ?_⟩
  unfold storeOf at h
  split at h
  · rename_i e; rw [F.sc]; exact e
  · cases h
  · cases h
end
structure SndS (Γ : Gam) (Δ : Del) (n : Nat) : Prop where
  s : ∀ {sc : Scope} {st : Stmt} {c : CS} (X : Cx) (W : WX), cS Δ n sc st = some c → FS Γ Δ X sc W → PS X st (wS Γ c W)
  ss : ∀ {sc : Scope} {st : List Stmt} {c : CSs} (X : Cx) (W : WX), cSs Δ n sc st = some c → FS Γ Δ X sc W → PSs X st (wSs Γ c W)
section
variable {Γ : Gam} {Δ : Del}
theorem snds_zero : SndS Γ Δ 0 := ⟨fun {_ _ _} _ _ h => (by unfold cS at h; cases h), fun {_ _ _} _ _ h => (by unfold cSs at h; cases h)⟩
theorem step_ss {n : Nat} (R : SndS Γ Δ n) {sc : Scope} {st : List Stmt} {c : CSs} {X : Cx} {W : WX} (h : cSs Δ (n + 1) sc st = some c) (S : FS Γ Δ X sc W) : PSs X st (wSs Γ c W) := by
  unfold cSs at h
  split at h
  · cases h
    unfold wSs
    exact pss_nil
  · obtain ⟨a, ha, h⟩ := Option.bind_eq_some_iff.mp h
    obtain ⟨b, hb, rfl⟩ := Option.map_eq_some_iff.mp h
    unfold wSs
    exact pss_cons (R.s X W ha S) (R.ss X W hb S)
theorem set_lc {n : Nat} {sc scope : Scope} {elt : Expr} {gs : List Comprehension} {lp px pos : Pos} {c : CE} {x : Str} {i : Nat} {X : Cx} {W : WX} (h : cE Δ n sc (.ListComp elt gs scope lp) = some c) (hi : storeOf Δ sc true x = some i) (hl : lineOk sc scope x px lp = true) (S : FS Γ Δ X sc W) :
    PS X (.Assign [.Name x px] (.ListComp elt gs scope lp) pos) (wS Γ (.set i c) W) := by
  unfold lineOk at hl
  simp only [Bool.and_eq_true, Bool.not_eq_true'] at hl
  obtain ⟨⟨l1, l2⟩, l3⟩ := hl
  have l1 := eq_of_beq l1
  cases n with
  | zero => unfold cE at h; cases h
  | succ n =>
    obtain ⟨k1, k2, k3⟩ := store_slot S.F (whole := true) (fun _ => S.fn) hi
    unfold cE at h
    split at h
    all_goals first | (rename_i e; cases e; done) | skip
    · rename_i elt' tg it ifs scope' pos' e
      cases e
      by_cases hb : blkC Δ.N sc scope (ownOf Δ scope) = true
      · rw [if_pos hb] at h
        obtain ⟨g, hg, h⟩ := Option.bind_eq_some_iff.mp h
        obtain ⟨i', hi', h⟩ := Option.bind_eq_some_iff.mp h
        obtain ⟨t', ht, h⟩ := Option.bind_eq_some_iff.mp h
        obtain ⟨e', he, rfl⟩ := Option.map_eq_some_iff.mp h
        have ok : BlkOk X.N X.env.scope scope (ownOf Δ scope) := by rw [S.F.N, S.F.sc]; exact blkOk_by hb
        obtain ⟨pi, hs⟩ := S.iok hi'
        exact ps_setLcX (tt := fun W' => wC Γ t' W') (te := fun W' => wE Γ e' false W') ⟨S.F.calm, S.F.nd, S.L, pi, ok, fun s H C cl fp xe => pg_of (whole := false) (S.F.blk s H scope cl C fp xe) (fun z => nomatch z) hg, fun σ s H C cl fp xe pb => (snd_all n).c _ (atS W σ) ht (S.F.blk s H scope cl C fp xe) pb,
          fun σ s H C cl fp xe pb => (snd_all n).e _ (atS W σ) false he (S.F.blk s H scope cl C fp xe) pb (fun z => nomatch z), hs⟩ k1 (by rw [S.F.sc]; exact l1) (sw_true S.kdx (by rw [S.F.sc]; exact l1) l2 l3)
      · rw [if_neg hb] at h; cases h
    · cases h
theorem step_s {n : Nat} (R : SndS Γ Δ n) {sc : Scope} {st : Stmt} {c : CS} {X : Cx} {W : WX} (h : cS Δ (n + 1) sc st = some c) (S : FS Γ Δ X sc W) : PS X st (wS Γ c W) := by
  unfold cS at h
  split at h
  · split at h
    · rename_i hc
      obtain ⟨a, ha, rfl⟩ := Option.map_eq_some_iff.mp h
      exact PS.imp' (ps_expr (S.eok ha) (sw_none hc)) fun D σ H q => by unfold wS at q; exact q
    · cases h
  · obtain ⟨a, ha, rfl⟩ := Option.map_eq_some_iff.mp h
    exact PS.imp' (ps_ret (S.eok ha)) fun D σ H q => by unfold wS at q; exact q
  · cases h
    exact PS.imp' ps_retN fun D σ H q => by unfold wS at q; exact q
  -- name = ..
  · obtain ⟨i, hi, h⟩ := Option.bind_eq_some_iff.mp h
    split at h
    · split at h
      · rename_i hl
        obtain ⟨a, ha, rfl⟩ := Option.map_eq_some_iff.mp h
        exact set_lc ha hi hl S
      · cases h
    · split at h
      · rename_i hc
        obtain ⟨a, ha, rfl⟩ := Option.map_eq_some_iff.mp h
        obtain ⟨k1, k2, k3⟩ := store_slot S.F (whole := true) (fun _ => S.fn) hi
        exact PS.imp' (ps_set S.F.nd k1 k2 (S.eok ha) (sw_none hc) k3) fun D σ H q => by unfold wS at q; exact q
      · cases h
  -- a, b = ..
  · rename_i ts k p e pos
    split at h
    · rename_i vs k2 p2
      obtain ⟨r, hr, h⟩ := Option.bind_eq_some_iff.mp h
      have hr := swapM_ok (k := k) (k2 := k2) (p := p) (p2 := p2) S.kdx (by rw [S.F.sc]; exact hr)
      split at h
      · obtain ⟨g, hg, h⟩ := Option.bind_eq_some_iff.mp h
        obtain ⟨a, ha, rfl⟩ := Option.map_eq_some_iff.mp h
        exact PS.imp' (ps_asg (S.eok ha) (pg_of S.F (whole := true) (fun _ => S.fn) hg) (sws_none rfl) hr) fun D σ H q => by unfold wS at q; exact q
      · split at h
        · rename_i x px y py a b
          split at h
          · rename_i hns
            subst hns
            obtain ⟨⟨i, j⟩, hp, h⟩ := Option.bind_eq_some_iff.mp h
            obtain ⟨a', ha, h⟩ := Option.bind_eq_some_iff.mp h
            obtain ⟨b', hb, h⟩ := Option.bind_eq_some_iff.mp h
            split at h
            · rename_i hs
              rw [Bool.and_eq_true] at hs
              cases h
              unfold cPar at hp
              obtain ⟨i', hi, hp⟩ := Option.bind_eq_some_iff.mp hp
              obtain ⟨j', hj, hp⟩ := Option.bind_eq_some_iff.mp hp
              split at hp
              · cases hp
              rename_i hij
              cases hp
              obtain ⟨i1, i2⟩ := st_loc S.F hi
              obtain ⟨j1, j2⟩ := st_loc S.F hj
              refine PS.imp' (ps_par S.F.calm S.F.nd i1 j1 hij i2 j2 (pa_cons (S.eok ha) (pa_cons (S.eok hb) pa_nil ?_) ?_) hr) fun D σ H q => by unfold wS at q; exact q
              all_goals exact starE (by first | exact hs.1 | exact hs.2)
            · cases h
          · cases h
        · rename_i x px y py z pz a b c
          split at h
          · rename_i hns
            subst hns
            obtain ⟨⟨i, j, k⟩, hp, h⟩ := Option.bind_eq_some_iff.mp h
            obtain ⟨a', ha, h⟩ := Option.bind_eq_some_iff.mp h
            obtain ⟨b', hb, h⟩ := Option.bind_eq_some_iff.mp h
            obtain ⟨c', hc, h⟩ := Option.bind_eq_some_iff.mp h
            split at h
            · rename_i hs
              rw [Bool.and_eq_true, Bool.and_eq_true] at hs
              cases h
              unfold cPar3 at hp
              obtain ⟨i', hi, hp⟩ := Option.bind_eq_some_iff.mp hp
              obtain ⟨j', hj, hp⟩ := Option.bind_eq_some_iff.mp hp
              obtain ⟨k', hk, hp⟩ := Option.bind_eq_some_iff.mp hp
              split at hp
              · cases hp
              rename_i hij
              cases hp
              obtain ⟨i1, i2⟩ := st_loc S.F hi
              obtain ⟨j1, j2⟩ := st_loc S.F hj
              obtain ⟨k1, k2⟩ := st_loc S.F hk
              refine PS.imp' (ps_par3 S.F.calm S.F.nd i1 j1 k1 (fun z => hij (.inl z)) (fun z => hij (.inr (.inl z))) (fun z => hij (.inr (.inr z))) i2 j2 k2 (pa_cons (S.eok ha) (pa_cons (S.eok hb) (pa_cons (S.eok hc) pa_nil ?_) ?_) ?_) hr) fun D σ H q => by unfold wS at q; exact q
              all_goals exact starE (by first | exact hs.1.1 | exact hs.1.2 | exact hs.2)
            · cases h
          · cases h
        · cases h
    · split at h
      · rename_i hne hc
        obtain ⟨g, hg, h⟩ := Option.bind_eq_some_iff.mp h
        obtain ⟨a, ha, rfl⟩ := Option.map_eq_some_iff.mp h
        exact PS.imp' (ps_asg (S.eok ha) (pg_of S.F (whole := true) (fun _ => S.fn) hg) (sws_none hc) (swst_none hne)) fun D σ H q => by unfold wS at q; exact q
      · cases h
  -- o.f = ..
  · obtain ⟨e', he, h⟩ := Option.bind_eq_some_iff.mp h
    obtain ⟨o', ho, rfl⟩ := Option.map_eq_some_iff.mp h
    refine ⟨fun pins s σ H D I q => ?_⟩
    unfold wS at q
    refine plainObj_wpAny_Assign_Attribute (thn ((S.eok he).run pins s σ H _ I q) fun u s1 ⟨y, H1, I1, ry, q1⟩ => thn ((S.eok ho).run pins s1 σ H1 _ I1 q1) fun ov s2 ⟨x, H2, I2, rx, a, C, dx, fs, ex, ea, hfd, l, q2⟩ => ?_) sw_attr
    subst ex
    obtain rfl : ov = Value.ref a := rx
    obtain ⟨f1, f2⟩ := S.F.g.fd _ _ hfd
    exact setattr_ok I2 ea f1 f2 l ry fun s3 I3 => ⟨σ, _, I3, q2⟩
  -- o[i] = ..
  · rename_i o i p1 e p2
    split at h
    · rename_i hc
      rw [Bool.and_eq_true] at hc
      obtain ⟨e', he, h⟩ := Option.bind_eq_some_iff.mp h
      obtain ⟨o', ho, h⟩ := Option.bind_eq_some_iff.mp h
      obtain ⟨i', hi, rfl⟩ := Option.map_eq_some_iff.mp h
      have hu := S.F.g.hu
      refine PS.imp' (ps_asg (S.eok he) (pg_sub (S.eok ho) (S.eok hi) (PSet.or set_list (set_dict (by omega))) ?_) (sws_none hc.2) ?_) fun D σ H q => ?_
      · exact sub_plain hc.1
      · cases e <;> rfl
      · unfold wS at q
        exact q
    · cases h
  -- o.f op= ..
  · obtain ⟨o', ho, h⟩ := Option.bind_eq_some_iff.mp h
    obtain ⟨e', he, rfl⟩ := Option.map_eq_some_iff.mp h
    refine ⟨fun pins s σ H D I q => ?_⟩
    unfold wS at q
    refine wpAny_AugAssign_AttributeAny (thn ((S.eok ho).run pins s σ H _ I q) fun ov s1 ⟨x, H1, I1, rx, a, C, dx, fs, v, ex, ea, hfd, l, q1⟩ => ?_)
    subst ex
    obtain rfl : ov = Value.ref a := rx
    obtain ⟨f1, f2⟩ := S.F.g.fd _ _ hfd
    refine getattr_ok I1 ea f1 f2 l fun u s2 I2 ru => thn ((S.eok he).run pins s2 σ H1 _ I2 q1) fun w3 s3 ⟨y, H2, I3, ry, q3⟩ => thn (in_op pins s3 σ H2 v y u w3 _ I3 ru ry q3) fun w4 s4 ⟨z, H3, I4, rz, dx', fs', ea', l', q4⟩ => ?_
    exact setattr_ok I4 ea' f1 f2 l' rz fun s5 I5 => ⟨σ, _, I5, q4⟩
  -- if
  · obtain ⟨t', ht, h⟩ := Option.bind_eq_some_iff.mp h
    obtain ⟨a', ha, h⟩ := Option.bind_eq_some_iff.mp h
    obtain ⟨b', hb, rfl⟩ := Option.map_eq_some_iff.mp h
    refine PS.imp' (ps_if (S.tok ht) (R.ss X W ha S) (R.ss X W hb S)) fun D σ H q => ?_
    unfold wS at q
    exact q
  -- while
  · obtain ⟨t', ht, h⟩ := Option.bind_eq_some_iff.mp h
    obtain ⟨b', hb, rfl⟩ := Option.map_eq_some_iff.mp h
    refine PS.imp' (ps_while S.own (S.tok ht) (R.ss X W hb S)) fun D σ H q => ?_
    unfold wS at q
    exact q
  -- for
  · obtain ⟨g, hg, h⟩ := Option.bind_eq_some_iff.mp h
    obtain ⟨i', hi, h⟩ := Option.bind_eq_some_iff.mp h
    obtain ⟨b', hb, rfl⟩ := Option.map_eq_some_iff.mp h
    obtain ⟨pi, hs⟩ := S.iok hi
    have fo := fun p => ps_for (pos := p) S.own S.F.calm pi (pg_of S.F (whole := true) (fun _ => S.fn) hg) (R.ss X W hb S) hs
    refine PS.imp' (PS.or (fo _) (ps_lock (fo _))) fun D σ H q => ?_
    unfold wS at q
    exact q
  -- raise
  · rename_i x p args p2 pos
    split at h
    · rename_i hx
      rw [Bool.and_eq_true] at hx
      obtain ⟨es, hes, h⟩ := Option.bind_eq_some_iff.mp h
      split at h
      · cases h
      · rename_i hne
        cases h
        obtain ⟨pa, ps, _⟩ := S.esok hes
        cases args with
        | nil => exact (hne rfl).elim
        | cons e r =>
          refine ⟨fun pins s σ H D I q => ?_⟩
          unfold wS at q
          obtain ⟨C, m, hrs, q⟩ := q
          obtain ⟨hm, T, fI, k, fd, pz, sp, iC, tI, hr, Fn, hb, hsp⟩ := S.F.g.rs _ _ _ hrs
          have ps2 : r.all noSt = true := by rw [List.all_cons, Bool.and_eq_true] at ps; exact ps.2
          refine (ps_raise S.F.calm S.L.tk (pmk_oex (dvs := []) T iC tI Fn hr hb .nil ?_ (isGl_ok S.F hx.2) hm (pa_post pa q) (okName_of hx.1).1 (star_cons ps) (star_any _ ps2))).run pins s σ H D I ?_
          · exact fun _ _ _ _ e s' J c => S.L.tk e s' (XE.of_call J (fun _ _ _ z => z.elim) c)
          · refine ⟨rfl, rfl, fun vs H1 hv => ?_⟩
            obtain ⟨v, rfl, hv⟩ := hv
            refine ⟨by show 1 ≤ 1000; omega, fun a na => hsp a v H1 _ _ na fun d nd hda => ⟨rfl, d, [(m, v)], upd_same .., ?_, nd, ?_⟩⟩
            · rw [upd_ne hda, upd_same]
            · have := hv d nd
              refine Eq.mp (congrArg (W (.ref C) (some d) σ) ?_) this
              funext b
              by_cases hb : b = d
              · subst hb
                rw [upd_same, upd_same]
              · rw [upd_ne hb, upd_ne hb]
                by_cases hba : b = a
                · subst hba
                  rw [del_same, na]
                · rw [del_ne hba, upd_ne hba, upd_ne hb, upd_ne hba]
    · cases h
  · cases h
theorem snds_all : ∀ n, SndS Γ Δ n
  | 0 => snds_zero
  | n + 1 => ⟨fun {_ _ _} _ _ h S => step_s (snds_all n) h S, fun {_ _ _} _ _ h S => step_ss (snds_all n) h S⟩
end
end Dq

set_option maxHeartbeats 8000000
/-! A def by its small-language body; what is known of the program, by lists. -/
namespace Dq
open PySem PySem.Spec PyProof.Rows L2

section
variable {Γ : Gam} {Δ : Del} {P : Program} {w : World} {K : PySem.W.Frag} {mg : Str → Option Value} {base : Heap}
/-- a def keeps what its small-language body reads -/
theorem def_ok {x qual : Str} {params : Arguments} {body : List Stmt} {scope : Scope} {kws : List (Str × V)} {f : Addr} {fd : FuncData} {ps : List Str} {k : Nat} {sp : Sp} {ir : CSs} (F : FunD K x qual params body scope [] kws f fd) (S : FnScope Δ.N ps scope)
    (hir : cSs Δ 60 scope body = some ir) (g : ∀ A, Room k A → GOk Γ P w K mg base A) (len : ∀ vs H Q E, sp vs H Q E → vs.length = ps.length)
    (h : ∀ vs H Q E, sp vs H Q E → wSs Γ ir (fun cls d _ H => E cls d H) { nx := fun _ H' => Q .non H', rt := Q } (start Δ.N vs) H) : FnOk P w K mg base (L2.CX P w) (k + 1) f fd ps sp := by
  refine F.ok S len fun cdv A outer s H vs Q E hr q => ⟨_, ?_, h vs H Q E q⟩
  refine (snds_all 60).ss _ (fun cls d _ H => E cls d H) hir ⟨⟨rfl, rfl, S.nd, rfl, g _ hr⟩, ⟨L2.takes_of rfl rfl rfl rfl, rfl, rfl⟩, passes_of rfl, fun _ => rfl, S.kind⟩
/-- the same, of a context (a body that is taken apart by hand) -/
theorem def_fs {x qual : Str} {params : Arguments} {body : List Stmt} {scope : Scope} {kws : List (Str × V)} {f : Addr} {fd : FuncData} {ps : List Str} {k : Nat} {sp : Sp} (F : FunD K x qual params body scope [] kws f fd) (S : FnScope Δ.N ps scope)
    (g : ∀ A, Room k A → GOk Γ P w K mg base A) (len : ∀ vs H Q E, sp vs H Q E → vs.length = ps.length)
    (h : ∀ (X : Cx) (vs : List V) (H : Hp) (Q : VK) (E : XK), FS Γ Δ X scope (fun cls d _ H => E cls d H) → X.ex = [] → X.prog = P → X.w = w → X.K = K → X.mg = mg → X.base = base → sp vs H Q E →
      ∃ t, PSs X body t ∧ t { nx := fun _ H' => Q .non H', rt := Q } (start Δ.N vs) H) : FnOk P w K mg base (L2.CX P w) (k + 1) f fd ps sp := by
  refine F.ok S len fun cdv A outer s H vs Q E hr q => ?_
  exact h _ vs H Q E ⟨⟨rfl, rfl, S.nd, rfl, g _ hr⟩, ⟨L2.takes_of rfl rfl rfl rfl, rfl, rfl⟩, passes_of rfl, fun _ => rfl, S.kind⟩ rfl rfl rfl rfl rfl rfl q
end

/-- what is known, by lists -/
def gam (K : PySem.W.Frag) (w : World) (fns : List (Str × Sp)) (gvs : List (Str × V)) (mss : List (Addr × Str × Sp)) (mks : List (Str × Addr × Sp)) (fds : List (Addr × Str)) (rss : List (Str × Addr × Str)) : Gam :=
  ⟨K, w, fun x sp => (x, sp) ∈ fns, fun x v => (x, v) ∈ gvs, fun C m sp => (C, m, sp) ∈ mss, fun x C sp => (x, C, sp) ∈ mks, fun C m => (C, m) ∈ fds, fun x C m => (x, C, m) ∈ rss⟩
/-- a def that is known to keep sp -/
def KnF (P : Program) (w : World) (K : PySem.W.Frag) (mg : Str → Option Value) (base : Heap) (k : Nat) (x : Str) (sp : Sp) : Prop := ∃ f fd ps, mg x = some (.ref f) ∧ FnOk P w K mg base (L2.CX P w) k f fd ps sp ∧ PySem.W.keepIn K (.ref f) = true ∧ Binds K fd ps []
def KnM (P : Program) (w : World) (K : PySem.W.Frag) (mg : Str → Option Value) (base : Heap) (k : Nat) (C : Addr) (m : Str) (sp : Sp) : Prop := Cls K C ∧ ∃ f fd ps, Meth K C m f ∧ FnOk P w K mg base (L2.CX P w) k f fd ps sp ∧ Binds K fd ps []
def KnC (P : Program) (w : World) (K : PySem.W.Frag) (mg : Str → Option Value) (base : Heap) (k : Nat) (x : Str) (C : Addr) (sp : Sp) : Prop := mg x = some (.ref C) ∧ ∃ f fd ps, Mk K C f ∧ FnOk P w K mg base (L2.CX P w) k f fd ps sp ∧ Binds K fd ps []
def KnR (P : Program) (w : World) (K : PySem.W.Frag) (mg : Str → Option Value) (base : Heap) (k : Nat) (x : Str) (C : Addr) (m : Str) : Prop := mg x = some (.ref C) ∧ OexC K C ∧ ∃ fI fd ps sp, PySem.W.findIn K (.ref C) "__init__" = some (some (.ref fI)) ∧ PySem.W.typeIn K (.ref fI) = some (.type "function") ∧
    FnOk P w K mg base (L2.CX P w) k fI fd ps sp ∧ Binds K fd ps [] ∧ ∀ a v H1 (Q : VK) E, H1 a = none → (∀ d, H1 d = none → d ≠ a → Q .non (upd (upd (upd H1 a (exo a C none)) d (exd d [(m, v)])) a (exo a C (some d)))) → sp [.ref a, v] (upd H1 a (exo a C none)) Q E
theorem KnF.mono {P : Program} {w : World} {K : PySem.W.Frag} {mg : Str → Option Value} {base : Heap} {j k : Nat} {x : Str} {sp : Sp} (h : KnF P w K mg base j x sp) (hk : j ≤ k) : KnF P w K mg base k x sp := by
  obtain ⟨f, fd, ps, a, b, c, d⟩ := h
  exact ⟨f, fd, ps, a, b.mono hk, c, d⟩
theorem KnM.mono {P : Program} {w : World} {K : PySem.W.Frag} {mg : Str → Option Value} {base : Heap} {j k : Nat} {C : Addr} {m : Str} {sp : Sp} (h : KnM P w K mg base j C m sp) (hk : j ≤ k) : KnM P w K mg base k C m sp := by
  obtain ⟨cl, f, fd, ps, a, b, c⟩ := h
  exact ⟨cl, f, fd, ps, a, b.mono hk, c⟩
/-- what does not change from def to def -/
structure Sta (K : PySem.W.Frag) (mg : Str → Option Value) : Prop where
  bf : ∀ b : BF, mg b.nm = none
  ty : ∀ t ∈ tyNames, mg (Str.ofString t) = none
  it : mg "range" = none ∧ mg "enumerate" = none ∧ mg "zip" = none
theorem gam_ok {P : Program} {w : World} {K : PySem.W.Frag} {mg : Str → Option Value} {base : Heap} {k : Nat} {fns : List (Str × Sp)} {gvs : List (Str × V)} {mss : List (Addr × Str × Sp)} {mks : List (Str × Addr × Sp)} {fds : List (Addr × Str)} {rss : List (Str × Addr × Str)} (St : Sta K mg)
    (h1 : ∀ q ∈ fns, KnF P w K mg base (k + 1) q.1 q.2) (h2 : ∀ q ∈ gvs, ∃ u, mg q.1 = some u ∧ RelV q.2 u) (h3 : ∀ q ∈ mss, KnM P w K mg base (k + 1) q.1 q.2.1 q.2.2) (h4 : ∀ q ∈ mks, KnC P w K mg base k q.1 q.2.1 q.2.2)
    (h5 : ∀ q ∈ fds, Cls K q.1 ∧ NoAttr K q.1 q.2) (h6 : ∀ q ∈ rss, KnR P w K mg base k q.1 q.2.1 q.2.2) : ∀ A, Room (k + 1) A → GOk (gam K w fns gvs mss mks fds rss) P w K mg base A := fun A hr => {
  eK := rfl
  ew := rfl
  hu := by have := hr.un; omega
  fn := fun x sp q => by
    obtain ⟨f, fd, ps, a, b, c, d⟩ := h1 _ q
    exact ⟨k + 1, f, fd, ps, hr, a, b, c, d⟩
  gv := fun x v q => h2 _ q
  ms := fun C m sp q => by
    obtain ⟨cl, f, fd, ps, a, b, c⟩ := h3 _ q
    exact ⟨cl, k + 1, f, fd, ps, hr, a, b, c⟩
  mkc := fun x C sp q => by
    obtain ⟨cl, f, fd, ps, a, b, c⟩ := h4 _ q
    exact ⟨cl, k, f, fd, ps, hr, a, b, c⟩
  fd := fun C m q => h5 _ q
  rs := fun x C m q => by
    obtain ⟨a, b, fI, fd, ps, sp, c, d, e, f, g⟩ := h6 _ q
    exact ⟨a, b, fI, k, fd, ps, sp, c, d, hr, e, f, g⟩
  bf := St.bf
  ty := St.ty
  it := St.it }
end Dq

set_option maxHeartbeats 2000000
/-! Steps by values: what one meets in a small-language body. -/
namespace Dq
open PySem PySem.Spec PyProof.Rows L2
section
variable {K : PySem.W.Frag} {w : World} {H : Hp} {Q : VK} {a b : Addr} {xs ys : List V} {i j : Int} {n : Nat} {x y v : V}
/-! ### built-in functions -/
theorem len_l (h : SqL K H a xs) (q : Q (.int xs.length) H) : qF K .len [.ref a] H Q := .inl ⟨_, _, rfl, .inl ⟨_, h, rfl⟩, q⟩
theorem len_lst (h : H a = some (.lst xs)) (q : Q (.int xs.length) H) : qF K .len [.ref a] H Q := len_l (.inl (.inl h)) q
theorem len_t (h : SqT K H a xs) (q : Q (.int xs.length) H) : qF K .len [.ref a] H Q := .inl ⟨_, _, rfl, .inr ⟨_, h, rfl⟩, q⟩
theorem len_s {z : Str} (h : z.length ≤ sizeLine) (q : Q (.int z.length) H) : qF K .len [.str z] H Q := .inl ⟨_, _, rfl, ⟨h, rfl⟩, q⟩
theorem abs_i (q : Q (.int (if i < 0 then -i else i)) H) : qF K .abs [.int i] H Q := ⟨i, rfl, q⟩
theorem int_i (q : Q (.int i) H) : qF K .int [.int i] H Q := .inl (.inl ⟨i, rfl, q⟩)
theorem int_s {z : Str} (h : PySem.intText? z = some i) (hl : z.length ≤ 640) (q : Q (.int i) H) : qF K .int [.str z] H Q := .inr ⟨z, i, rfl, h, hl, q⟩
theorem str_i (h : i.natAbs.log2 < 1920) (q : Q (.str (toString i)) H) : qF K .str [.int i] H Q := .inl ⟨i, rfl, h, q⟩
theorem str_s {z : Str} (q : Q (.str z) H) : qF K .str [.str z] H Q := .inr ⟨z, rfl, q⟩
theorem all_bs {bs : List Bool} (h : H a = some (.lst (bs.map V.bl))) (q : Q (.bl (bs.all id)) H) : qF K .all [.ref a] H Q := ⟨a, bs, rfl, .inl (.inl h), q⟩
theorem list_l (h : SqL K H a xs) (q : ∀ l, H l = none → Q (.ref l) (upd H l (.lst xs))) : qF K .list [.ref a] H Q := .inl ⟨a, xs, rfl, .inl h, q⟩
theorem list_t (h : SqT K H a xs) (q : ∀ l, H l = none → Q (.ref l) (upd H l (.lst xs))) : qF K .list [.ref a] H Q := .inl ⟨a, xs, rfl, .inr h, q⟩
theorem tuple_l (h : SqL K H a xs) (q : ∀ l, H l = none → Q (.ref l) (upd H l (.tup xs))) : qF K .tuple [.ref a] H Q := ⟨a, xs, rfl, .inl ⟨h, q⟩⟩
/-! ### comparisons -/
theorem lt_i (q : Q (.bl (decide (i < j))) H) : qCmp K w .Lt (.int i) (.int j) H Q := ⟨i, j, rfl, rfl, q⟩
theorem le_i (q : Q (.bl (decide (i ≤ j))) H) : qCmp K w .LtE (.int i) (.int j) H Q := ⟨i, j, rfl, rfl, q⟩
theorem gt_i (q : Q (.bl (decide (j < i))) H) : qCmp K w .Gt (.int i) (.int j) H Q := ⟨i, j, rfl, rfl, q⟩
theorem ge_i (q : Q (.bl (decide (j ≤ i))) H) : qCmp K w .GtE (.int i) (.int j) H Q := ⟨i, j, rfl, rfl, q⟩
theorem eq_v (h : scal x y = true) (q : Q (.bl (decide (x = y))) H) : qCmp K w .Eq x y H Q := .inl ⟨h, q⟩
theorem ne_v (h : scal x y = true) (q : Q (.bl (!decide (x = y))) H) : qCmp K w .NotEq x y H Q := .inl ⟨h, q⟩
theorem eq_i (q : Q (.bl (decide (i = j))) H) : qCmp K w .Eq (.int i) (.int j) H Q := .inl ⟨rfl, by simpa using q⟩
theorem ne_i (q : Q (.bl (!decide (i = j))) H) : qCmp K w .NotEq (.int i) (.int j) H Q := .inl ⟨rfl, by simpa using q⟩
theorem eq_s {z z' : Str} (q : Q (.bl (decide (z = z'))) H) : qCmp K w .Eq (.str z) (.str z') H Q := .inl ⟨rfl, by simpa using q⟩
theorem ne_s {z z' : Str} (q : Q (.bl (!decide (z = z'))) H) : qCmp K w .NotEq (.str z) (.str z') H Q := .inl ⟨rfl, by simpa using q⟩
theorem eq_b {z z' : Bool} (q : Q (.bl (decide (z = z'))) H) : qCmp K w .Eq (.bl z) (.bl z') H Q := .inl ⟨rfl, by simpa using q⟩
theorem ne_b {z z' : Bool} (q : Q (.bl (!decide (z = z'))) H) : qCmp K w .NotEq (.bl z) (.bl z') H Q := .inl ⟨rfl, by simpa using q⟩
theorem ne_d {d e : PyData} (hx : Dp K H x d) (hy : Dp K H y e) (sd : SeqAt.shaped d = true) (se : SeqAt.shaped e = true) (q : Q (.bl (!PyData.eqv d e)) H) : qCmp K w .NotEq x y H Q := .inr ⟨d, e, hx, hy, sd, se, q⟩
theorem eq_d {d e : PyData} (hx : Dp K H x d) (hy : Dp K H y e) (sd : SeqAt.shaped d = true) (se : SeqAt.shaped e = true) (q : Q (.bl (PyData.eqv d e)) H) : qCmp K w .Eq x y H Q := .inr ⟨d, e, hx, hy, sd, se, q⟩
theorem is_n (q : Q (.bl (decide (x = .non))) H) : qCmp K w .Is x .non H Q := .inl ⟨rfl, q⟩
theorem isnt_n (q : Q (.bl (!decide (x = .non))) H) : qCmp K w .IsNot x .non H Q := .inl ⟨rfl, q⟩
theorem isnt_t {m k : String} (q : Q (.bl (!decide (m = k))) H) : qCmp K w .IsNot (.ty m) (.ty k) H Q := .inr ⟨m, k, rfl, rfl, q⟩
theorem in_ (c : Bool) (h : InV K w x y H c) (q : Q (.bl c) H) : qCmp K w .In x y H Q := ⟨c, h, q⟩
theorem nin_ (c : Bool) (h : InV K w x y H c) (q : Q (.bl (!c)) H) : qCmp K w .NotIn x y H Q := ⟨c, h, q⟩
theorem inV_l (h : SqL K H a xs) (fx : flatV x = true) (fs : xs.all flatV = true) : InV K w x (.ref a) H (inV x xs) := .inl ⟨a, xs, rfl, .inl h, fx, fs, rfl⟩
theorem inV_t (h : SqT K H a xs) (fx : flatV x = true) (fs : xs.all flatV = true) : InV K w x (.ref a) H (inV x xs) := .inl ⟨a, xs, rfl, .inr h, fx, fs, rfl⟩
theorem inV_s {c : Nat} {z : Str} : InV K w (.str ⟨#[c]⟩) (.str z) H (decide (c ∈ z.cps.toList)) := .inr (.inl ⟨c, z, rfl, rfl, rfl⟩)
theorem inV_d {kvs : List (Key × V)} {k : Key} (h : H a = some (.dK kvs)) : InV K w (kV k) (.ref a) H (valV kvs k).isSome := .inr (.inr (.inl ⟨a, _, rfl, DGet.k h, rfl⟩))
/-- x in a row of texts -/
theorem inV_strs {z : Str} {zs : List Str} : inV (.str z) (zs.map V.str) = zs.contains z := by
  induction zs with
  | nil => rfl
  | cons c r ih =>
    rw [List.map_cons]
    show (eqV (.str c) (.str z) || inV (.str z) (r.map V.str)) = _
    rw [ih, List.contains_cons]
    show ((c == z) || _) = ((z == c) || _)
    rw [Bool.beq_comm]
theorem flat_strs {zs : List Str} : (zs.map V.str).all flatV = true := by
  simp [List.all_map, flatV]
/-! ### subscripts -/
theorem ix_l (h : SqL K H a xs) (g : atI xs i = some v) (q : Q v H) : qIx K w (.ref a) (.int i) H Q := .inl ⟨a, xs, i, v, rfl, rfl, h, g, q⟩
theorem ix_ln (h : H a = some (.lst xs)) (g : xs[n]? = some v) (q : Q v H) : qIx K w (.ref a) (.int (n : Nat)) H Q := ix_l (.inl (.inl h)) (atI_nat g) q
theorem ix_t (h : SqT K H a xs) (g : atI xs i = some v) (q : Q v H) : qIx K w (.ref a) (.int i) H Q := .inr (.inl ⟨a, xs, i, v, rfl, rfl, h, g, q⟩)
theorem ix_tn (h : H a = some (.tup xs)) (g : xs[n]? = some v) (q : Q v H) : qIx K w (.ref a) (.int (n : Nat)) H Q := ix_t (.inl (.inl h)) (atI_nat g) q
theorem ix_s {z : Str} {c : Nat} (hl : z.length ≤ sizeLine) (g : atI z.cps.toList i = some c) (q : Q (.str ⟨#[c]⟩) H) : qIx K w (.str z) (.int i) H Q := .inr (.inr (.inl ⟨z, i, c, rfl, rfl, hl, g, q⟩))
theorem ix_d {kvs : List (Key × V)} {k : Key} (h : H a = some (.dK kvs)) (g : valV kvs k = some v) (q : Q v H) : qIx K w (.ref a) (kV k) H Q := .inr (.inr (.inr (.inl ⟨a, v, rfl, by rw [← g]; exact DGet.k h, q⟩)))
theorem ix_k {z : Str} (h : KDct K w a z v) (q : Q v H) : qIx K w (.ref a) (.str z) H Q := .inr (.inr (.inr (.inr ⟨a, z, v, rfl, rfl, h, q⟩)))
theorem sl_l {lo hi : Option Int} (h : SqL K H a xs) (q : ∀ p, H p = none → Q (.ref p) (upd H p (.lst (cutV xs lo hi)))) : qSl K (.ref a) lo hi H Q := .inl ⟨a, xs, rfl, h, q⟩
theorem sl_s {z : Str} {lo hi : Option Int} (hl : z.length ≤ sizeLine) (q : Q (.str (Txt.slice z lo hi)) H) : qSl K (.str z) lo hi H Q := .inr (.inr ⟨z, rfl, hl, q⟩)
/-! ### operators -/
theorem add_i (q : Q (.int (i + j)) H) : qBin K .Add (.int i) (.int j) H Q := .inl ⟨i, j, rfl, rfl, q⟩
theorem add_s {z z' : Str} (hl : z.length + z'.length ≤ sizeLine) (q : Q (.str (z ++ z')) H) : qBin K .Add (.str z) (.str z') H Q := .inr (.inl ⟨z, z', rfl, rfl, hl, q⟩)
theorem add_l (h : H a = some (.lst xs)) (h' : H b = some (.lst ys)) (hl : xs.length + ys.length ≤ sizeLine) (q : ∀ p, H p = none → Q (.ref p) (upd H p (.lst (xs ++ ys)))) : qBin K .Add (.ref a) (.ref b) H Q := .inr (.inr (.inl ⟨a, b, xs, ys, rfl, rfl, h, h', hl, q⟩))
theorem sub_i (q : Q (.int (i - j)) H) : qBin K .Sub (.int i) (.int j) H Q := ⟨i, j, rfl, rfl, q⟩
theorem mul_i (h : CMul i j) (q : Q (.int (i * j)) H) : qBin K .Mult (.int i) (.int j) H Q := .inl ⟨i, j, rfl, rfl, h, q⟩
theorem mod_i (h : 0 < j) (q : Q (.int (i % j)) H) : qBin K .Mod (.int i) (.int j) H Q := ⟨i, j, rfl, rfl, h, q⟩
theorem div_i (h : CDiv i j) (q : Q (.int (i / j)) H) : qBin K .FloorDiv (.int i) (.int j) H Q := ⟨i, j, rfl, rfl, h, q⟩
theorem pow_i (h : CPow i j) (q : Q (.int (i ^ j.toNat)) H) : qBin K .Pow (.int i) (.int j) H Q := ⟨i, j, rfl, rfl, h, q⟩
/-! ### methods -/
theorem app_ (h : H a = some (.lst xs)) (hl : xs.length < sizeLine) (q : Q .non (upd H a (.lst (xs ++ [x])))) : qM K .append (.ref a) [x] H Q := ⟨a, xs, x, rfl, rfl, h, hl, q⟩
theorem ext_ (h : H a = some (.lst xs)) (h' : H b = some (.lst ys)) (hl : xs.length + ys.length ≤ sizeLine) (q : Q .non (upd H a (.lst (xs ++ ys)))) : qM K .extend (.ref a) [.ref b] H Q := ⟨a, b, xs, ys, rfl, rfl, h, h', hl, q⟩
theorem pop0_ {r : List V} (h : H a = some (.lst (x :: r))) (q : Q x (upd H a (.lst r))) : qM K .pop (.ref a) [.int 0] H Q :=
  .inr ⟨a, x :: r, 0, 0, x, rfl, rfl, h, by decide, by decide, by simp [seqIndex?], rfl, q⟩
theorem tyl (h : H a = some (.lst xs)) : tyV K "list" (.ref a) H := .inl ⟨rfl, xs, .inl (.inl h)⟩
/-! ### tests -/
theorem tru_b {k : Bool} {R : Bool → Hp → Prop} (q : R k H) : ∃ k', TruV K (.bl k) H k' ∧ R k' H := ⟨k, rfl, q⟩
theorem tru_i {R : Bool → Hp → Prop} (q : R (i != 0) H) : ∃ k', TruV K (.int i) H k' ∧ R k' H := ⟨_, rfl, q⟩
theorem tru_s {z : Str} {R : Bool → Hp → Prop} (h : z.length ≤ sizeLine) (q : R ((z.length : Int) != 0) H) : ∃ k', TruV K (.str z) H k' ∧ R k' H := ⟨_, ⟨h, rfl⟩, q⟩
theorem tru_l {R : Bool → Hp → Prop} (h : SqL K H a xs) (q : R (!xs.isEmpty) H) : ∃ k', TruV K (.ref a) H k' ∧ R k' H := ⟨_, .inl ⟨_, h, rfl⟩, q⟩
/-! ### heaps -/
/-- all that stands at the allowed addresses stays -/
def Keep (ok : Addr → Prop) (H H' : Hp) : Prop := ∀ a, ok a → ∀ o, H a = some o → H' a = some o
theorem Keep.rfl' {ok : Addr → Prop} {H : Hp} : Keep ok H H := fun _ _ _ e => e
theorem Keep.trans {ok : Addr → Prop} {H H1 H2 : Hp} (h : Keep ok H H1) (h' : Keep ok H1 H2) : Keep ok H H2 := fun a k o e => h' a k o (h a k o e)
theorem Keep.new {ok : Addr → Prop} {H : Hp} {p : Addr} {o : HO} (h : H p = none) : Keep ok H (upd H p o) := fun a _ u e => by
  rw [upd_ne (fun z => by rw [z, h] at e; cases e)]; exact e
theorem Keep.wr {ok : Addr → Prop} {H : Hp} {p : Addr} {o : HO} (h : ¬ ok p) : Keep ok H (upd H p o) := fun a k u e => by
  rw [upd_ne (fun z => h (by rw [← z]; exact k))]; exact e
theorem Keep.imp {ok ok' : Addr → Prop} {H H' : Hp} (h : Keep ok H H') (k : ∀ a, ok' a → ok a) : Keep ok' H H' := fun a z => h a (k a z)
end
section
variable {Γ : Gam} {W : WX} {D : Ends} {σ : L2.St} {H : Hp}
/-- a statement, then the rest: P stands between -/
theorem seqP {s : CS} {ss : CSs} (P : L2.St → Hp → Prop) (h1 : ∀ N : L2.St → Hp → Prop, (∀ σ' H', P σ' H' → N σ' H') → wS Γ s W { D with nx := N } σ H) (h2 : ∀ σ' H', P σ' H' → wSs Γ ss W D σ' H') : wSs Γ (.cons s ss) W D σ H := by
  unfold wSs
  exact h1 _ h2
theorem seq1 {s : CS} {ss : CSs} (h : wS Γ s W { D with nx := wSs Γ ss W D } σ H) : wSs Γ (.cons s ss) W D σ H := by
  unfold wSs
  exact h
theorem exP {e : CE} {f : Bool} {Q : VK} (P : V → Hp → Prop) (h1 : ∀ N : VK, (∀ v H', P v H' → N v H') → Dq.wE Γ e f W σ H N) (h2 : ∀ v H', P v H' → Q v H') : Dq.wE Γ e f W σ H Q := h1 Q h2
theorem ifP {t : CT} {a b : CSs} (P : Bool → Hp → Prop) (h1 : ∀ N : Bool → Hp → Prop, (∀ k H', P k H' → N k H') → Dq.wT Γ t true W σ H N) (h2 : ∀ H', P true H' → wSs Γ a W D σ H') (h3 : ∀ H', P false H' → wSs Γ b W D σ H') : wS Γ (.ifs t a b) W D σ H := by
  unfold wS
  refine h1 _ fun k H' p => ?_
  cases k
  · rw [if_neg (by decide)]; exact h3 H' p
  · rw [if_pos rfl]; exact h2 H' p
/-- while: an invariant with a measure; T: what the test leaves -/
theorem whP {t : CT} {b : CSs} (I : Nat → L2.St → Hp → Prop) (T : Nat → L2.St → Hp → Bool → Hp → Prop) (m : Nat) (h0 : I m σ H) (ht : ∀ m σ H, I m σ H → ∀ N : Bool → Hp → Prop, (∀ k H1, T m σ H k H1 → N k H1) → Dq.wT Γ t true W σ H N)
    (hb : ∀ m σ H H1, I m σ H → T m σ H true H1 → wSs Γ b W { D with nx := fun σ' H' => ∃ m', m' < m ∧ I m' σ' H', ct := fun σ' H' => ∃ m', m' < m ∧ I m' σ' H', bk := D.nx } σ H1)
    (hd : ∀ m σ H H1, I m σ H → T m σ H false H1 → D.nx σ H1) : wS Γ (.whl t b) W D σ H := by
  unfold wS
  refine ⟨I, ⟨m, h0⟩, fun m σ H i => ht m σ H i _ fun k H1 p => ?_⟩
  cases k
  · rw [if_neg (by decide)]; exact hd m σ H H1 i p
  · rw [if_pos rfl]; exact ⟨_, fun σ' H' z => z, hb m σ H H1 i p⟩
end
/-! ### walks -/
section
variable {K : PySem.W.Frag} {g : TG} {tb : TS} {D : Ends} {σ : L2.St} {H : Hp} {a : Addr} {xs : List V}
/-- what a for asks of its walker -/
def ForR (J : It) (g : TG) (tb : TS) (D : Ends) (σ : L2.St) (H : Hp) : Prop := ∃ W : Nat → Nat → L2.St → Hp → Prop, (∃ m, W 0 m σ H) ∧ ∀ i m σ H, W i m σ H →
  (J.stop i H ∧ D.nx σ H) ∨ (J.go i H ∧ ∃ N : L2.St → Hp → Prop, (∀ σ' H', N σ' H' → ∃ m', m' < m ∧ W (i + 1) m' σ' H') ∧ ∀ x H', J.yld i H x H' → g x σ H' fun σ2 H2 => tb { D with nx := N, ct := N, bk := D.nx } σ2 H2)
theorem for_of {J : It} {n : Nat} (I : Nat → L2.St → Hp → Prop) (h0 : I 0 σ H) (hgo : ∀ i σ H, i < n → I i σ H → J.go i H) (hst : ∀ σ H, I n σ H → J.stop n H) (hd : ∀ σ H, I n σ H → D.nx σ H)
    (hs : ∀ i σ H x H', i < n → I i σ H → J.yld i H x H' → g x σ H' fun σ2 H2 => tb { D with nx := I (i + 1), ct := I (i + 1), bk := D.nx } σ2 H2) : ForR J g tb D σ H := by
  refine ⟨fun i m σ H => m = n - i ∧ i ≤ n ∧ I i σ H, ⟨n, by simp, Nat.zero_le _, h0⟩, ?_⟩
  rintro i m σ H ⟨rfl, hi, p⟩
  by_cases hlt : i < n
  · exact .inr ⟨hgo i σ H hlt p, I (i + 1), fun σ' H' p' => ⟨n - (i + 1), by omega, rfl, hlt, p'⟩, fun x H' y => hs i σ H x H' hlt p y⟩
  · have e : i = n := by omega
    subst e
    exact .inl ⟨hst σ H p, hd σ H p⟩
theorem for_l (I : Nat → L2.St → Hp → Prop) (h0 : I 0 σ H) (hr : ∀ i σ H, I i σ H → SqL K H a xs) (hd : ∀ σ H, I xs.length σ H → D.nx σ H)
    (hs : ∀ i σ H x, xs[i]? = some x → I i σ H → g x σ H fun σ2 H2 => tb { D with nx := I (i + 1), ct := I (i + 1), bk := D.nx } σ2 H2) : ForR (Itl K a) g tb D σ H := by
  refine for_of (n := xs.length) I h0 (fun i σ H hi p => ⟨xs, xs[i], hr i σ H p, List.getElem?_eq_getElem hi⟩) (fun σ H p => ⟨xs, hr _ σ H p, Nat.le_refl _⟩) hd fun i σ H x H' hi p y => ?_
  obtain ⟨rfl, y⟩ := y
  exact hs i σ _ x (y xs (hr i σ _ p)) p
theorem for_t (I : Nat → L2.St → Hp → Prop) (h0 : I 0 σ H) (hr : ∀ i σ H, I i σ H → SqT K H a xs) (hd : ∀ σ H, I xs.length σ H → D.nx σ H)
    (hs : ∀ i σ H x, xs[i]? = some x → I i σ H → g x σ H fun σ2 H2 => tb { D with nx := I (i + 1), ct := I (i + 1), bk := D.nx } σ2 H2) : ForR (Itt K a) g tb D σ H := by
  refine for_of (n := xs.length) I h0 (fun i σ H hi p => ⟨xs, xs[i], hr i σ H p, List.getElem?_eq_getElem hi⟩) (fun σ H p => ⟨xs, hr _ σ H p, Nat.le_refl _⟩) hd fun i σ H x H' hi p y => ?_
  obtain ⟨rfl, y⟩ := y
  exact hs i σ _ x (y xs (hr i σ _ p)) p
theorem for_r {lo : Int} {n : Nat} (I : Nat → L2.St → Hp → Prop) (h0 : I 0 σ H) (hd : ∀ σ H, I n σ H → D.nx σ H)
    (hs : ∀ i σ H, i < n → I i σ H → g (.int (lo + (i : Nat))) σ H fun σ2 H2 => tb { D with nx := I (i + 1), ct := I (i + 1), bk := D.nx } σ2 H2) : ForR (Itr lo n) g tb D σ H := by
  refine for_of (n := n) I h0 (fun i σ H hi p => hi) (fun σ H p => Nat.le_refl n) hd fun i σ H x H' hi p y => ?_
  obtain ⟨rfl, rfl⟩ := y
  exact hs i σ _ hi p
theorem for_z {b : Addr} {ys : List V} (hl : xs.length = ys.length) (I : Nat → L2.St → Hp → Prop) (h0 : I 0 σ H) (hr : ∀ i σ H, I i σ H → SqL K H a xs ∧ SqL K H b ys) (hd : ∀ σ H, I xs.length σ H → D.nx σ H)
    (hs : ∀ i σ H x y T, xs[i]? = some x → ys[i]? = some y → I i σ H → H T = none → g (.ref T) σ (upd H T (.tup [x, y])) fun σ2 H2 => tb { D with nx := I (i + 1), ct := I (i + 1), bk := D.nx } σ2 H2) : ForR (Itz K a b) g tb D σ H := by
  refine for_of (n := xs.length) I h0 (fun i σ H hi p => ⟨xs, ys, xs[i], ys[i], (hr i σ H p).1, (hr i σ H p).2, List.getElem?_eq_getElem hi, List.getElem?_eq_getElem (by omega)⟩) (fun σ H p => ⟨xs, ys, (hr _ σ H p).1, (hr _ σ H p).2, .inl (Nat.le_refl _)⟩) hd fun i σ H x H' hi p y => ?_
  obtain ⟨T, x, y, rfl, hT, rfl, h1, h2⟩ := y
  exact hs i σ H x y T (h1 xs (hr i σ H p).1) (h2 ys (hr i σ H p).2) p hT
theorem for_zt {b : Addr} {ys : List V} (hl : xs.length = ys.length) (I : Nat → L2.St → Hp → Prop) (h0 : I 0 σ H) (hr : ∀ i σ H, I i σ H → SqT K H a xs ∧ SqT K H b ys) (hd : ∀ σ H, I xs.length σ H → D.nx σ H)
    (hs : ∀ i σ H x y T, xs[i]? = some x → ys[i]? = some y → I i σ H → H T = none → g (.ref T) σ (upd H T (.tup [x, y])) fun σ2 H2 => tb { D with nx := I (i + 1), ct := I (i + 1), bk := D.nx } σ2 H2) : ForR (RZ.ItzT K a b) g tb D σ H := by
  refine for_of (n := xs.length) I h0 (fun i σ H hi p => ⟨xs, ys, xs[i], ys[i], (hr i σ H p).1, (hr i σ H p).2, List.getElem?_eq_getElem hi, List.getElem?_eq_getElem (by omega)⟩) (fun σ H p => ⟨xs, ys, (hr _ σ H p).1, (hr _ σ H p).2, .inl (Nat.le_refl _)⟩) hd fun i σ H x H' hi p y => ?_
  obtain ⟨T, x, y, rfl, hT, rfl, h1, h2⟩ := y
  exact hs i σ H x y T (h1 xs (hr i σ H p).1) (h2 ys (hr i σ H p).2) p hT
theorem for_d {d : Addr} {o : Obj} {kvs : List (Key × V)} (I : Nat → L2.St → Hp → Prop) (h0 : I 0 σ H) (hr : ∀ i σ H, I i σ H → H d = some (.frz o (.dK kvs))) (hd : ∀ σ H, I kvs.length σ H → D.nx σ H)
    (hs : ∀ i σ H k v, kvs[i]? = some (k, v) → I i σ H → g (kV k) σ H fun σ2 H2 => tb { D with nx := I (i + 1), ct := I (i + 1), bk := D.nx } σ2 H2) : ForR (Itk d o kvs) g tb D σ H := by
  refine for_of (n := kvs.length) I h0 (fun i σ H hi p => ⟨hr i σ H p, hi⟩) (fun σ H p => ⟨hr _ σ H p, Nat.le_refl _⟩) hd fun i σ H x H' hi p y => ?_
  obtain ⟨rfl, k, v, e, rfl⟩ := y
  exact hs i σ _ k v e p
end
section
variable {K : PySem.W.Frag} {g : TG} {tt : TT} {te : TE} {vs : List Nat} {σ : L2.St} {H : Hp} {a : Addr} {xs : List V} {Q : VK}
/-- what a comprehension asks of its walker, the new list at D -/
def LcR (J : It) (g : TG) (tt : TT) (te : TE) (vs : List Nat) (σ : L2.St) (Q : VK) (D : Addr) (H1 : Hp) : Prop := ∃ W : Nat → Nat → Hp → Prop, (∃ m, W 0 m (upd H1 D (.lst []))) ∧ ∀ i m H, W i m H →
  (J.stop i H ∧ Q (.ref D) H) ∨ (J.go i H ∧ ∃ Nx : Hp → Prop, (∀ H', Nx H' → ∃ m', m' < m ∧ W (i + 1) m' H') ∧ ∀ x H', J.yld i H x H' → g x (wipe σ vs) H' fun σ2 H2 => wipe σ2 vs = wipe σ vs ∧ tt σ2 H2 fun b H3 =>
    if b = true then te σ2 H3 fun y H4 => ∃ acc, H4 D = some (.lst acc) ∧ acc.length < sizeLine ∧ Nx (upd H4 D (.lst (acc ++ [y]))) else Nx H3)
theorem lc_of {J : It} {n : Nat} {D : Addr} (I : Nat → Hp → Prop) (h0 : I 0 (upd H D (.lst []))) (hgo : ∀ i H, i < n → I i H → J.go i H) (hst : ∀ H, I n H → J.stop n H) (hd : ∀ H, I n H → Q (.ref D) H)
    (hs : ∀ i H x H', i < n → I i H → J.yld i H x H' → g x (wipe σ vs) H' fun σ2 H2 => wipe σ2 vs = wipe σ vs ∧ tt σ2 H2 fun b H3 =>
      if b = true then te σ2 H3 fun y H4 => ∃ acc, H4 D = some (.lst acc) ∧ acc.length < sizeLine ∧ I (i + 1) (upd H4 D (.lst (acc ++ [y]))) else I (i + 1) H3) : LcR J g tt te vs σ Q D H := by
  refine ⟨fun i m H => m = n - i ∧ i ≤ n ∧ I i H, ⟨n, by simp, Nat.zero_le _, h0⟩, ?_⟩
  rintro i m H ⟨rfl, hi, p⟩
  by_cases hlt : i < n
  · exact .inr ⟨hgo i H hlt p, I (i + 1), fun H' p' => ⟨n - (i + 1), by omega, rfl, hlt, p'⟩, fun x H' y => hs i H x H' hlt p y⟩
  · have e : i = n := by omega
    subst e
    exact .inl ⟨hst H p, hd H p⟩
theorem lc_l {D : Addr} (I : Nat → Hp → Prop) (h0 : I 0 (upd H D (.lst []))) (hr : ∀ i H, I i H → SqL K H a xs) (hd : ∀ H, I xs.length H → Q (.ref D) H)
    (hs : ∀ i H x, xs[i]? = some x → I i H → g x (wipe σ vs) H fun σ2 H2 => wipe σ2 vs = wipe σ vs ∧ tt σ2 H2 fun b H3 =>
      if b = true then te σ2 H3 fun y H4 => ∃ acc, H4 D = some (.lst acc) ∧ acc.length < sizeLine ∧ I (i + 1) (upd H4 D (.lst (acc ++ [y]))) else I (i + 1) H3) : LcR (Itl K a) g tt te vs σ Q D H := by
  refine lc_of (n := xs.length) I h0 (fun i H hi p => ⟨xs, xs[i], hr i H p, List.getElem?_eq_getElem hi⟩) (fun H p => ⟨xs, hr _ H p, Nat.le_refl _⟩) hd fun i H x H' hi p y => ?_
  obtain ⟨rfl, y⟩ := y
  exact hs i _ x (y xs (hr i _ p)) p
theorem lc_t {D : Addr} (I : Nat → Hp → Prop) (h0 : I 0 (upd H D (.lst []))) (hr : ∀ i H, I i H → SqT K H a xs) (hd : ∀ H, I xs.length H → Q (.ref D) H)
    (hs : ∀ i H x, xs[i]? = some x → I i H → g x (wipe σ vs) H fun σ2 H2 => wipe σ2 vs = wipe σ vs ∧ tt σ2 H2 fun b H3 =>
      if b = true then te σ2 H3 fun y H4 => ∃ acc, H4 D = some (.lst acc) ∧ acc.length < sizeLine ∧ I (i + 1) (upd H4 D (.lst (acc ++ [y]))) else I (i + 1) H3) : LcR (Itt K a) g tt te vs σ Q D H := by
  refine lc_of (n := xs.length) I h0 (fun i H hi p => ⟨xs, xs[i], hr i H p, List.getElem?_eq_getElem hi⟩) (fun H p => ⟨xs, hr _ H p, Nat.le_refl _⟩) hd fun i H x H' hi p y => ?_
  obtain ⟨rfl, y⟩ := y
  exact hs i _ x (y xs (hr i _ p)) p
theorem lc_s {D : Addr} {z : Str} (I : Nat → Hp → Prop) (h0 : I 0 (upd H D (.lst []))) (hd : ∀ H, I z.cps.size H → Q (.ref D) H)
    (hs : ∀ i H c, z.cps[i]? = some c → I i H → g (.str ⟨#[c]⟩) (wipe σ vs) H fun σ2 H2 => wipe σ2 vs = wipe σ vs ∧ tt σ2 H2 fun b H3 =>
      if b = true then te σ2 H3 fun y H4 => ∃ acc, H4 D = some (.lst acc) ∧ acc.length < sizeLine ∧ I (i + 1) (upd H4 D (.lst (acc ++ [y]))) else I (i + 1) H3) : LcR (Its z) g tt te vs σ Q D H := by
  refine lc_of (n := z.cps.size) I h0 (fun i H hi p => hi) (fun H p => Nat.le_refl _) hd fun i H x H' hi p y => ?_
  obtain ⟨rfl, c, e, rfl⟩ := y
  exact hs i _ c e p
theorem lc_r {D : Addr} {lo : Int} {n : Nat} (I : Nat → Hp → Prop) (h0 : I 0 (upd H D (.lst []))) (hd : ∀ H, I n H → Q (.ref D) H)
    (hs : ∀ i H, i < n → I i H → g (.int (lo + (i : Nat))) (wipe σ vs) H fun σ2 H2 => wipe σ2 vs = wipe σ vs ∧ tt σ2 H2 fun b H3 =>
      if b = true then te σ2 H3 fun y H4 => ∃ acc, H4 D = some (.lst acc) ∧ acc.length < sizeLine ∧ I (i + 1) (upd H4 D (.lst (acc ++ [y]))) else I (i + 1) H3) : LcR (Itr lo n) g tt te vs σ Q D H := by
  refine lc_of (n := n) I h0 (fun i H hi p => hi) (fun H p => Nat.le_refl n) hd fun i H x H' hi p y => ?_
  obtain ⟨rfl, rfl⟩ := y
  exact hs i _ hi p
theorem lc_e {D : Addr} (I : Nat → Hp → Prop) (h0 : I 0 (upd H D (.lst []))) (hr : ∀ i H, I i H → SqL K H a xs) (hd : ∀ H, I xs.length H → Q (.ref D) H)
    (hs : ∀ i H x T, xs[i]? = some x → I i H → H T = none → g (.ref T) (wipe σ vs) (upd H T (.tup [.int (i : Nat), x])) fun σ2 H2 => wipe σ2 vs = wipe σ vs ∧ tt σ2 H2 fun b H3 =>
      if b = true then te σ2 H3 fun y H4 => ∃ acc, H4 D = some (.lst acc) ∧ acc.length < sizeLine ∧ I (i + 1) (upd H4 D (.lst (acc ++ [y]))) else I (i + 1) H3) : LcR (Ite K a) g tt te vs σ Q D H := by
  refine lc_of (n := xs.length) I h0 (fun i H hi p => ⟨xs, xs[i], hr i H p, List.getElem?_eq_getElem hi⟩) (fun H p => ⟨xs, hr _ H p, Nat.le_refl _⟩) hd fun i H x H' hi p y => ?_
  obtain ⟨T, x, rfl, hT, rfl, h1⟩ := y
  exact hs i H x T (h1 xs (hr i H p)) p hT
theorem lc_z {D b : Addr} {ys : List V} (hl : xs.length = ys.length) (I : Nat → Hp → Prop) (h0 : I 0 (upd H D (.lst []))) (hr : ∀ i H, I i H → SqL K H a xs ∧ SqL K H b ys) (hd : ∀ H, I xs.length H → Q (.ref D) H)
    (hs : ∀ i H x y T, xs[i]? = some x → ys[i]? = some y → I i H → H T = none → g (.ref T) (wipe σ vs) (upd H T (.tup [x, y])) fun σ2 H2 => wipe σ2 vs = wipe σ vs ∧ tt σ2 H2 fun b H3 =>
      if b = true then te σ2 H3 fun y H4 => ∃ acc, H4 D = some (.lst acc) ∧ acc.length < sizeLine ∧ I (i + 1) (upd H4 D (.lst (acc ++ [y]))) else I (i + 1) H3) : LcR (Itz K a b) g tt te vs σ Q D H := by
  refine lc_of (n := xs.length) I h0 (fun i H hi p => ⟨xs, ys, xs[i], ys[i], (hr i H p).1, (hr i H p).2, List.getElem?_eq_getElem hi, List.getElem?_eq_getElem (by omega)⟩) (fun H p => ⟨xs, ys, (hr _ H p).1, (hr _ H p).2, .inl (Nat.le_refl _)⟩) hd fun i H x H' hi p y => ?_
  obtain ⟨T, x, y, rfl, hT, rfl, h1, h2⟩ := y
  exact hs i H x y T (h1 xs (hr i H p).1) (h2 ys (hr i H p).2) p hT
theorem lc_zt {D b : Addr} {ys : List V} (hl : xs.length = ys.length) (I : Nat → Hp → Prop) (h0 : I 0 (upd H D (.lst []))) (hr : ∀ i H, I i H → SqT K H a xs ∧ SqT K H b ys) (hd : ∀ H, I xs.length H → Q (.ref D) H)
    (hs : ∀ i H x y T, xs[i]? = some x → ys[i]? = some y → I i H → H T = none → g (.ref T) (wipe σ vs) (upd H T (.tup [x, y])) fun σ2 H2 => wipe σ2 vs = wipe σ vs ∧ tt σ2 H2 fun b H3 =>
      if b = true then te σ2 H3 fun y H4 => ∃ acc, H4 D = some (.lst acc) ∧ acc.length < sizeLine ∧ I (i + 1) (upd H4 D (.lst (acc ++ [y]))) else I (i + 1) H3) : LcR (RZ.ItzT K a b) g tt te vs σ Q D H := by
  refine lc_of (n := xs.length) I h0 (fun i H hi p => ⟨xs, ys, xs[i], ys[i], (hr i H p).1, (hr i H p).2, List.getElem?_eq_getElem hi, List.getElem?_eq_getElem (by omega)⟩) (fun H p => ⟨xs, ys, (hr _ H p).1, (hr _ H p).2, .inl (Nat.le_refl _)⟩) hd fun i H x H' hi p y => ?_
  obtain ⟨T, x, y, rfl, hT, rfl, h1, h2⟩ := y
  exact hs i H x y T (h1 xs (hr i H p).1) (h2 ys (hr i H p).2) p hT
end
section
variable {K : PySem.W.Frag} {H : Hp} {R : It → Hp → Prop} {a : Addr} {xs : List V}
theorem itv_l (h : SqL K H a xs) (q : R (Itl K a) H) : ItV K (.ref a) H R := .inl ⟨a, rfl, ⟨xs, h⟩, q⟩
theorem itv_t (h : SqT K H a xs) (q : R (Itt K a) H) : ItV K (.ref a) H R := .inr (.inl ⟨a, rfl, ⟨xs, h⟩, q⟩)
theorem itv_s {z : Str} (q : R (Its z) H) : ItV K (.str z) H R := .inr (.inr (.inl ⟨z, rfl, q⟩))
theorem itv_d {o : Obj} {kvs : List (Key × V)} (h : H a = some (.frz o (.dK kvs))) (q : R (Itk a o kvs) H) : ItV K (.ref a) H R := .inr (.inr (.inr ⟨a, o, rfl, .inl ⟨kvs, h, q⟩⟩))
end
end Dq

set_option maxHeartbeats 2000000
/-! Data in the heap. -/
namespace Dq
open PySem PySem.Spec PyProof.Rows L2
theorem tLc_eq {wi : TI} {g : TG} {tt : TT} {te : TE} {vs : List Nat} {σ : L2.St} {H : Hp} {Q : VK} : tLc wi g tt te vs σ H Q = wi σ H fun J H1 => ∀ D, H1 D = none → LcR J g tt te vs σ Q D H1 := rfl
theorem tFor_eq {wi : TI} {g : TG} {tb : TS} {D : Ends} {σ : L2.St} {H : Hp} : tFor wi g tb D σ H = wi σ H fun J H1 => ForR J g tb D σ H1 := rfl
theorem ifT {k : Bool} {a b : Prop} {d : Decidable (k = true)} (h : k = true) (x : a) : @ite Prop (k = true) d a b := by rw [if_pos h]; exact x
theorem ifF {k : Bool} {a b : Prop} {d : Decidable (k = true)} (h : k = false) (x : b) : @ite Prop (k = true) d a b := by rw [if_neg (by rw [h]; decide)]; exact x
/-- data: flat values, lists, tuples, dicts with text keys -/
inductive DD where | at (v : V) | lst (ds : List DD) | tup (ds : List DD) | dic (ks : List (Str × DD))
mutual
/-- v is d, laid at addresses that were free in H0 -/
def Rep (H0 H : Hp) : DD → V → Prop
  | .at x, v => v = x ∧ flatV x = true
  | .lst ds, v => ∃ a xs, v = .ref a ∧ H0 a = none ∧ H a = some (.lst xs) ∧ RepL H0 H ds xs
  | .tup ds, v => ∃ a xs, v = .ref a ∧ H0 a = none ∧ H a = some (.tup xs) ∧ RepL H0 H ds xs
  | .dic ks, v => ∃ a ys, v = .ref a ∧ H0 a = none ∧ H a = some (.dK ys) ∧ RepD H0 H ks ys
def RepL (H0 H : Hp) : List DD → List V → Prop
  | [], vs => vs = []
  | d :: ds, vs => ∃ x r, vs = x :: r ∧ Rep H0 H d x ∧ RepL H0 H ds r
def RepD (H0 H : Hp) : List (Str × DD) → List (Key × V) → Prop
  | [], vs => vs = []
  | (k, d) :: ds, vs => ∃ x r, vs = (.inr k, x) :: r ∧ Rep H0 H d x ∧ RepD H0 H ds r
end
/-- all stays, but what is at bad may change -/
def Ex (bad : List Addr) (H H' : Hp) : Prop := ∀ a o, H a = some o → ∃ o', H' a = some o' ∧ (a ∉ bad → o' = o)
theorem Ex.refl {bad : List Addr} {H : Hp} : Ex bad H H := fun a o e => ⟨o, e, fun _ => rfl⟩
theorem Ex.trans {bad : List Addr} {H H1 H2 : Hp} (h : Ex bad H H1) (h' : Ex bad H1 H2) : Ex bad H H2 := fun a o e => by
  obtain ⟨o1, e1, k1⟩ := h a o e
  obtain ⟨o2, e2, k2⟩ := h' a o1 e1
  exact ⟨o2, e2, fun z => (k2 z).trans (k1 z)⟩
theorem Ex.imp {bad bad' : List Addr} {H H1 : Hp} (h : Ex bad H H1) (k : ∀ a ∈ bad, a ∈ bad') : Ex bad' H H1 := fun a o e => by
  obtain ⟨o1, e1, k1⟩ := h a o e
  exact ⟨o1, e1, fun z => k1 fun y => z (k a y)⟩
theorem Ex.nil {bad : List Addr} {H H1 : Hp} (h : Ex [] H H1) : Ex bad H H1 := h.imp fun _ z => nomatch z
theorem Ex.new {bad : List Addr} {H : Hp} {p : Addr} {o : HO} (h : H p = none) : Ex bad H (upd H p o) := fun a u e => ⟨u, by rw [upd_ne (fun z => by rw [z, h] at e; cases e)]; exact e, fun _ => rfl⟩
theorem Ex.wr {bad : List Addr} {H : Hp} {p : Addr} {o : HO} (h : p ∈ bad) : Ex bad H (upd H p o) := fun a u e => by
  by_cases hp : a = p
  · subst hp; exact ⟨o, upd_same, fun z => absurd h z⟩
  · exact ⟨u, by rw [upd_ne hp]; exact e, fun _ => rfl⟩
/-- what changes was new -/
theorem Ex.drop {bad bad' : List Addr} {H H1 : Hp} (h : Ex bad H H1) (k : ∀ a ∈ bad, a ∈ bad' ∨ H a = none) : Ex bad' H H1 := fun a o e => by
  obtain ⟨o1, e1, k1⟩ := h a o e
  refine ⟨o1, e1, fun z => k1 fun y => ?_⟩
  rcases k a y with q | q
  · exact z q
  · rw [e] at q; cases q
theorem Ex.get {bad : List Addr} {H H1 : Hp} (h : Ex bad H H1) {a : Addr} {o : HO} (e : H a = some o) (k : a ∉ bad) : H1 a = some o := by
  obtain ⟨o1, e1, k1⟩ := h a o e
  rw [← k1 k]; exact e1
theorem Ex.dom {bad : List Addr} {H H1 : Hp} (h : Ex bad H H1) {a : Addr} (e : H1 a = none) : H a = none := by
  cases q : H a with
  | none => rfl
  | some o =>
    obtain ⟨o1, e1, _⟩ := h a o q
    rw [e] at e1; cases e1
theorem Ex.ne {bad : List Addr} {H H1 : Hp} (h : Ex bad H H1) {a b : Addr} (e : H1 a = none) {o : HO} (eb : H b = some o) : a ≠ b := fun z => by
  have := h.dom e
  rw [z, eb] at this; cases this
mutual
theorem Rep.keep {H0 H H' : Hp} (k : ∀ a o, H0 a = none → H a = some o → H' a = some o) : ∀ {d : DD} {v : V}, Rep H0 H d v → Rep H0 H' d v
  | .at x, v, h => by unfold Rep at h ⊢; exact h
  | .lst ds, v, h => by unfold Rep at h ⊢; obtain ⟨a, xs, e, n, q, r⟩ := h; exact ⟨a, xs, e, n, k a _ n q, RepL.keep k r⟩
  | .tup ds, v, h => by unfold Rep at h ⊢; obtain ⟨a, xs, e, n, q, r⟩ := h; exact ⟨a, xs, e, n, k a _ n q, RepL.keep k r⟩
  | .dic ks, v, h => by unfold Rep at h ⊢; obtain ⟨a, xs, e, n, q, r⟩ := h; exact ⟨a, xs, e, n, k a _ n q, RepD.keep k r⟩
theorem RepL.keep {H0 H H' : Hp} (k : ∀ a o, H0 a = none → H a = some o → H' a = some o) : ∀ {ds : List DD} {vs : List V}, RepL H0 H ds vs → RepL H0 H' ds vs
  | [], vs, h => by unfold RepL at h ⊢; exact h
  | d :: ds, vs, h => by unfold RepL at h ⊢; obtain ⟨x, r, e, h1, h2⟩ := h; exact ⟨x, r, e, Rep.keep k h1, RepL.keep k h2⟩
theorem RepD.keep {H0 H H' : Hp} (k : ∀ a o, H0 a = none → H a = some o → H' a = some o) : ∀ {ds : List (Str × DD)} {vs : List (Key × V)}, RepD H0 H ds vs → RepD H0 H' ds vs
  | [], vs, h => by unfold RepD at h ⊢; exact h
  | (q, d) :: ds, vs, h => by unfold RepD at h ⊢; obtain ⟨x, r, e, h1, h2⟩ := h; exact ⟨x, r, e, Rep.keep k h1, RepD.keep k h2⟩
end
mutual
theorem Rep.base {H0 H1 H : Hp} (k : ∀ a, H1 a = none → H0 a = none) : ∀ {d : DD} {v : V}, Rep H1 H d v → Rep H0 H d v
  | .at x, v, h => by unfold Rep at h ⊢; exact h
  | .lst ds, v, h => by unfold Rep at h ⊢; obtain ⟨a, xs, e, n, q, r⟩ := h; exact ⟨a, xs, e, k a n, q, RepL.base k r⟩
  | .tup ds, v, h => by unfold Rep at h ⊢; obtain ⟨a, xs, e, n, q, r⟩ := h; exact ⟨a, xs, e, k a n, q, RepL.base k r⟩
  | .dic ks, v, h => by unfold Rep at h ⊢; obtain ⟨a, xs, e, n, q, r⟩ := h; exact ⟨a, xs, e, k a n, q, RepD.base k r⟩
theorem RepL.base {H0 H1 H : Hp} (k : ∀ a, H1 a = none → H0 a = none) : ∀ {ds : List DD} {vs : List V}, RepL H1 H ds vs → RepL H0 H ds vs
  | [], vs, h => by unfold RepL at h ⊢; exact h
  | d :: ds, vs, h => by unfold RepL at h ⊢; obtain ⟨x, r, e, h1, h2⟩ := h; exact ⟨x, r, e, Rep.base k h1, RepL.base k h2⟩
theorem RepD.base {H0 H1 H : Hp} (k : ∀ a, H1 a = none → H0 a = none) : ∀ {ds : List (Str × DD)} {vs : List (Key × V)}, RepD H1 H ds vs → RepD H0 H ds vs
  | [], vs, h => by unfold RepD at h ⊢; exact h
  | (q, d) :: ds, vs, h => by unfold RepD at h ⊢; obtain ⟨x, r, e, h1, h2⟩ := h; exact ⟨x, r, e, Rep.base k h1, RepD.base k h2⟩
end
theorem Rep.ex {H0 H H' : Hp} {bad : List Addr} {d : DD} {v : V} (h : Rep H0 H d v) (x : Ex bad H H') (k : ∀ a ∈ bad, H0 a ≠ none) : Rep H0 H' d v := h.keep fun a o n e => x.get e fun z => k a z n
theorem RepL.ex {H0 H H' : Hp} {bad : List Addr} {d : List DD} {v : List V} (h : RepL H0 H d v) (x : Ex bad H H') (k : ∀ a ∈ bad, H0 a ≠ none) : RepL H0 H' d v := h.keep fun a o n e => x.get e fun z => k a z n
theorem RepD.ex {H0 H H' : Hp} {bad : List Addr} {d : List (Str × DD)} {v : List (Key × V)} (h : RepD H0 H d v) (x : Ex bad H H') (k : ∀ a ∈ bad, H0 a ≠ none) : RepD H0 H' d v := h.keep fun a o n e => x.get e fun z => k a z n
theorem RepL.nil {H0 H : Hp} : RepL H0 H [] [] := by unfold RepL; rfl
theorem RepL.cons {H0 H : Hp} {d : DD} {ds : List DD} {v : V} {vs : List V} (h : Rep H0 H d v) (h' : RepL H0 H ds vs) : RepL H0 H (d :: ds) (v :: vs) := by unfold RepL; exact ⟨v, vs, rfl, h, h'⟩
theorem RepD.nil {H0 H : Hp} : RepD H0 H [] [] := by unfold RepD; rfl
theorem RepD.cons {H0 H : Hp} {k : Str} {d : DD} {ds : List (Str × DD)} {v : V} {vs : List (Key × V)} (h : Rep H0 H d v) (h' : RepD H0 H ds vs) : RepD H0 H ((k, d) :: ds) ((.inr k, v) :: vs) := by unfold RepD; exact ⟨v, vs, rfl, h, h'⟩
theorem Rep.flat {H0 H : Hp} {v : V} (h : flatV v = true) : Rep H0 H (.at v) v := by unfold Rep; exact ⟨rfl, h⟩
theorem RepL.app {H0 H : Hp} : ∀ {ds es : List DD} {vs us : List V}, RepL H0 H ds vs → RepL H0 H es us → RepL H0 H (ds ++ es) (vs ++ us)
  | [], es, vs, us, h, h' => by unfold RepL at h; subst h; exact h'
  | d :: ds, es, vs, us, h, h' => by
    unfold RepL at h
    obtain ⟨x, r, rfl, h1, h2⟩ := h
    exact RepL.cons h1 (RepL.app h2 h')
theorem RepL.len {H0 H : Hp} : ∀ {ds : List DD} {vs : List V}, RepL H0 H ds vs → vs.length = ds.length
  | [], vs, h => by unfold RepL at h; subst h; rfl
  | d :: ds, vs, h => by
    unfold RepL at h
    obtain ⟨x, r, rfl, h1, h2⟩ := h
    rw [List.length_cons, List.length_cons, h2.len]
theorem RepD.len {H0 H : Hp} : ∀ {ds : List (Str × DD)} {vs : List (Key × V)}, RepD H0 H ds vs → vs.length = ds.length
  | [], vs, h => by unfold RepD at h; subst h; rfl
  | (k, d) :: ds, vs, h => by
    unfold RepD at h
    obtain ⟨x, r, rfl, h1, h2⟩ := h
    rw [List.length_cons, List.length_cons, h2.len]
theorem RepL.get {H0 H : Hp} : ∀ {ds : List DD} {vs : List V} {i : Nat} {v : V}, RepL H0 H ds vs → vs[i]? = some v → ∃ d, ds[i]? = some d ∧ Rep H0 H d v
  | [], vs, i, v, h, e => by unfold RepL at h; subst h; simp at e
  | d :: ds, vs, i, v, h, e => by
    unfold RepL at h
    obtain ⟨x, r, rfl, h1, h2⟩ := h
    cases i with
    | zero => cases e; exact ⟨d, rfl, h1⟩
    | succ i => exact h2.get e
theorem RepL.at {H0 H : Hp} : ∀ {ds : List DD} {vs : List V} {i : Nat} {d : DD}, RepL H0 H ds vs → ds[i]? = some d → ∃ v, vs[i]? = some v ∧ Rep H0 H d v
  | [], vs, i, v, h, e => by simp at e
  | d :: ds, vs, i, v, h, e => by
    unfold RepL at h
    obtain ⟨x, r, rfl, h1, h2⟩ := h
    cases i with
    | zero => cases e; exact ⟨x, rfl, h1⟩
    | succ i => exact h2.at e
/-- flat values -/
theorem RepL.flats {H0 H : Hp} : ∀ {vs : List V}, vs.all flatV = true → RepL H0 H (vs.map .at) vs
  | [], _ => RepL.nil
  | v :: vs, h => by
    rw [List.all_cons, Bool.and_eq_true] at h
    exact RepL.cons (.flat h.1) (RepL.flats h.2)
theorem Rep.newL {H0 H : Hp} {p : Addr} {ds : List DD} {xs : List V} (h : H p = none) (x : ∀ a, H a = none → H0 a = none) (r : RepL H0 H ds xs) : Rep H0 (upd H p (.lst xs)) (.lst ds) (.ref p) := by
  unfold Rep
  exact ⟨p, xs, rfl, x p h, upd_same, r.ex (bad := []) (Ex.new h) fun _ z => nomatch z⟩
theorem Rep.newT {H0 H : Hp} {p : Addr} {ds : List DD} {xs : List V} (h : H p = none) (x : ∀ a, H a = none → H0 a = none) (r : RepL H0 H ds xs) : Rep H0 (upd H p (.tup xs)) (.tup ds) (.ref p) := by
  unfold Rep
  exact ⟨p, xs, rfl, x p h, upd_same, r.ex (bad := []) (Ex.new h) fun _ z => nomatch z⟩
/-- a key of the dict as laid -/
theorem RepD.key {H0 H : Hp} {k : Str} : ∀ {ds : List (Str × DD)} {vs : List (Key × V)}, RepD H0 H ds vs → (valV vs (.inr k)).isSome = ds.any (fun q => decide (q.1 = k))
  | [], vs, h => by unfold RepD at h; subst h; rfl
  | (q, d) :: ds, vs, h => by
    unfold RepD at h
    obtain ⟨x, r, rfl, h1, h2⟩ := h
    rw [List.any_cons]
    by_cases e : q = k
    · subst e
      rw [valV_pos rfl]; simp
    · rw [valV_neg (fun z => e (Sum.inr.inj z)), h2.key]; simp [e]
/-- a new key at the end -/
theorem RepD.put {H0 H : Hp} {k : Str} {d : DD} {v : V} {ds : List (Str × DD)} {vs : List (Key × V)} (h : RepD H0 H ds vs) (hd : Rep H0 H d v) (hk : ds.any (fun q => decide (q.1 = k)) = false) : RepD H0 H (ds ++ [(k, d)]) (putK vs (.inr k) v) := by
  have e : (vs.any fun kv => decide (kv.1 = (.inr k : Key))) = false := by
    have key := h.key (k := k)
    rw [hk] at key
    unfold valV at key
    cases q : vs.find? (fun kv => decide (kv.1 = (.inr k : Key))) with
    | some a => rw [q] at key; cases key
    | none =>
      have := List.find?_eq_none.mp q
      simpa using this
  unfold putK
  rw [if_neg (by rw [e]; decide)]
  clear e hk
  induction ds generalizing vs with
  | nil => unfold RepD at h; subst h; exact RepD.cons hd RepD.nil
  | cons p ds ih =>
    obtain ⟨q, c⟩ := p
    unfold RepD at h
    obtain ⟨x, r, rfl, h1, h2⟩ := h
    exact RepD.cons h1 (ih h2)
end Dq

set_option maxHeartbeats 2000000
/-! A comprehension of two clauses, of pieces in the small language. -/
namespace Dq
open PySem PySem.Spec PyProof.Rows L2
section
variable {Γ : Gam} {Δ : Del} {X : Cx} {sc : Scope} {W : WX}
theorem pass_no (Y : Cx) : PassX Y noW := fun σ pins H s e s' I c => by
  obtain ⟨_, _, _, _, _, _, _, _, _, _, _, _, z⟩ := c
  exact z.elim
/-- slots of a target's names -/
def sto (Δ : Del) (sc : Scope) : Expr → Option (List Nat)
  | .Name x _ => (storeOf Δ sc false x).map fun i => [i]
  | _ => none
/-- what such a comprehension is made of -/
structure L2c where
  g : CG
  it : CI
  ifs : CC
  g1 : CG
  it1 : CI
  ifs1 : CC
  e : CE
  own : List Nat
  vs1 : List Nat
def cL2 (Δ : Del) (n : Nat) (sc : Scope) : Expr → Option L2c
  | .ListComp elt [⟨tg, it, ifs, 0⟩, ⟨tg1, it1, ifs1, 0⟩] scope _ =>
    if blkC Δ.N sc scope (ownOf Δ scope) then
      (cG Δ (relS scope sc) false tg).bind fun g => (cI Δ n sc tg it).bind fun i => (cC Δ n (relS scope sc) ifs).bind fun t =>
      (cG Δ (relS scope sc) false tg1).bind fun g1 => (cI Δ n (relS scope sc) tg1 it1).bind fun i1 => (cC Δ n (relS scope sc) ifs1).bind fun t1 =>
      (cE Δ n (relS scope sc) elt).bind fun e => (sto Δ (relS scope sc) tg1).bind fun vs1 =>
      if vs1.all (fun i => ((ownOf Δ scope).map (·.2)).contains i) then some ⟨g, i, t, g1, i1, t1, e, (ownOf Δ scope).map (·.2), vs1⟩ else none
    else none
  | _ => none
def wL2 (Γ : Gam) (c : L2c) (f : Bool) (W : WX) : TE := tLc2 (wI Γ c.it f W) (gOf Γ.K c.g) (wC Γ c.ifs noW) (wI Γ c.it1 false noW) (gOf Γ.K c.g1) (wC Γ c.ifs1 noW) (wE Γ c.e false noW) c.own c.vs1
theorem fold_plain {it : Expr} {n : Nat} {tg : Expr} {i : CI} (h : cI Δ n sc tg it = some i) : ∀ env x, foldedSetIterable it env x = pure x := by
  intro env x
  cases n with
  | zero => unfold cI at h; cases h
  | succ n =>
    cases it <;> first | rfl | (unfold cI at h; cases h)
theorem l2_ok {n : Nat} {ex : Expr} {c : L2c} {f : Bool} (h : cL2 Δ n sc ex = some c) (F : Fit Γ Δ X sc) (hp : PassX X W) (hf : f = true → Fl X W) : PE X ex (wL2 Γ c f W) := by
  unfold cL2 at h
  split at h
  · rename_i elt tg it ifs tg1 it1 ifs1 scope pos
    split at h
    · rename_i hb
      obtain ⟨g, hg, h⟩ := Option.bind_eq_some_iff.mp h
      obtain ⟨i, hi, h⟩ := Option.bind_eq_some_iff.mp h
      obtain ⟨t, ht, h⟩ := Option.bind_eq_some_iff.mp h
      obtain ⟨g1, hg1, h⟩ := Option.bind_eq_some_iff.mp h
      obtain ⟨i1, hi1, h⟩ := Option.bind_eq_some_iff.mp h
      obtain ⟨t1, ht1, h⟩ := Option.bind_eq_some_iff.mp h
      obtain ⟨e, he, h⟩ := Option.bind_eq_some_iff.mp h
      obtain ⟨vs1, hv, h⟩ := Option.bind_eq_some_iff.mp h
      split at h
      · rename_i hall
        cases h
        have ok : BlkOk X.N X.env.scope scope (ownOf Δ scope) := by rw [F.N, F.sc]; exact blkOk_by hb
        obtain ⟨pi, hs⟩ := (snd_all n).i X W f hi F hp hf
        have no : ∀ {a : Prop}, false = true → a := fun z => nomatch z
        refine pe_lc2 F.calm F.nd pi ok (fun j hj => ?_) (fun s H C cl fp => pg_of (whole := false) (F.blk s H scope cl C fp _) (fun z => nomatch z) hg) (fun s H C cl fp => (snd_all n).c _ noW ht (F.blk s H scope cl C fp _) (pass_no _))
          (fun s H C cl fp => ((snd_all n).i _ noW false hi1 (F.blk s H scope cl C fp _) (pass_no _) fun z => nomatch z).1) (fun s H C cl fp => pg_of (whole := false) (F.blk s H scope cl C fp _) (fun z => nomatch z) hg1)
          (fun s H C cl fp => (snd_all n).c _ noW ht1 (F.blk s H scope cl C fp _) (pass_no _)) (fun s H C cl fp => (snd_all n).e _ noW false he (F.blk s H scope cl C fp _) (pass_no _) fun z => nomatch z) hs (fold_plain hi1)
        have := List.all_eq_true.mp hall j hj
        exact List.contains_iff_mem.mp this
      · cases h
    · cases h
  · cases h
/-- o.f = [..] -/
theorem fld_l2 {n : Nat} {o ex : Expr} {f : Str} {p p' : Pos} {c : L2c} {co : CE} (h : cL2 Δ n sc ex = some c) (ho : cE Δ n sc o = some co) (S : FS Γ Δ X sc W) (hsw : swapsWith ex (some (.Attribute o f p)) p'.line X.env = pure false) : PS X (.Assign [.Attribute o f p] ex p') (sFld X.K (wE Γ co true W) (wL2 Γ c true W) f) :=
  ps_fld (S.eok ho) (l2_ok h S.F S.px fun _ => S.L) hsw
end
end Dq

set_option maxHeartbeats 2000000
/-! Lambdas handed to a def that tells what came of them; keyword calls; statements that hold these. -/
namespace Dq
open PySem PySem.Spec PyProof.Rows L2 LamX
/-! ### a def's body, with its code object in sight -/
theorem def_fsC {Γ : Gam} {Δ : Del} {P : Program} {w : World} {K : PySem.W.Frag} {mg : Str → Option Value} {base : Heap} {x qual : Str} {params : Arguments} {body : List Stmt} {scope : Scope} {kws : List (Str × V)} {f : Addr} {fd : FuncData} {ps : List Str} {k : Nat} {sp : Sp} (F : FunD K x qual params body scope [] kws f fd) (S : FnScope Δ.N ps scope)
    (g : ∀ A, Room k A → GOk Γ P w K mg base A) (len : ∀ vs H Q E, sp vs H Q E → vs.length = ps.length)
    (h : ∀ (X : Cx) (vs : List V) (H : Hp) (Q : VK) (E : XK), FS Γ Δ X scope (fun cls d _ H => E cls d H) → X.ex = [] → X.prog = P → X.w = w → X.K = K → X.mg = mg → X.base = base → X.env.code = fd.code → X.env.qual = qual ++ ".<locals>." → Room k X.A → sp vs H Q E →
      ∃ t, PSs X body t ∧ t { nx := fun _ H' => Q .non H', rt := Q } (start Δ.N vs) H) : FnOk P w K mg base (L2.CX P w) (k + 1) f fd ps sp := by
  obtain ⟨oc, od, dV, kV, doc, pm, an, cdv, ct, osl, rfl, lk, hcd, _, _⟩ := F.ex
  refine fn_of lk hcd S len fun A outer s H vs Q E hr q => ?_
  exact h _ vs H Q E ⟨⟨rfl, rfl, S.nd, rfl, g _ hr⟩, ⟨L2.takes_of rfl rfl rfl rfl, rfl, rfl⟩, passes_of rfl, fun _ => rfl, S.kind⟩ rfl rfl rfl rfl rfl rfl rfl rfl hr q
/-! ### f(k = v), nothing by position -/
section
variable {X : Cx} {CX : CXT} {k : Nat} {f : Addr} {fd : FuncData} {ps ks : List Str} {sp : Sp} {E : XK} {x : Str} {p pos : Pos} {kws : List Keyword} {tk : TA} {g : List Value → List Value → List Value} {gV : List V → List V → List V}
theorem pe_kw0 (F : FnOk X.prog X.w X.K X.mg X.base CX k f fd ps sp) (hr : Room k X.A) (hg : Gl X x) (hm : X.mg x = some (.ref f)) (hk : PySem.W.keepIn X.K (.ref f) = true) (hb : KBinds X.K fd ps ks g gV) (hx : Passes CX X E)
    (hkw : PK X kws tk) (hall : (backToKw pos (keywordEach kws X.env)).all (·.1.isSome) = true) (hks : (backToKw pos (keywordEach kws X.env)).filterMap (·.1) = ks) (hdb : (x == ("__debug__" : Str)) = false)
    (hpl : ((backTo pos (starEach [] X.env)).any (·.1) || (backToKw pos (keywordEach kws X.env)).any (·.1.isNone)) = false) : PE X (.Call (.Name x p) [] kws pos) (fun σ H Q => tk σ H fun zs H2 => sp (gV [] zs) H2 Q E) := by
  refine ⟨fun pins s σ H Q I h => ?_⟩
  refine wpAny_Call_Name_kw (ld_glob I hg hm ?_ hdb)
  refine PySem.W.callWith_KW0 (h₀ := X.base) I.ok.mod.kin hk hall ?_ hpl
  refine thn (hkw.run pos pins s σ H _ I h) fun ws s2 ⟨zs, H2, I2, rz, q2⟩ => ⟨I2.kIn, ?_⟩
  rw [hks]
  exact run_fnk F hr hb hx I2 .nil rz q2
end
/-- a def that takes its one parameter by its name, too -/
def KwF (P : Program) (w : World) (K : PySem.W.Frag) (mg : Str → Option Value) (base : Heap) (k : Nat) (x kn : Str) (sp : Sp) : Prop := ∃ f fd, mg x = some (.ref f) ∧ FnOk P w K mg base (L2.CX P w) k f fd [kn] sp ∧ PySem.W.keepIn K (.ref f) = true ∧ KBinds K fd [kn] [kn] (fun us ws => us ++ ws) (fun vs zs => vs ++ zs)
/-! ### a lambda's body -/
inductive LB where | e (c : CE) | kw (x kn : Str) (c : CE)
def cLB (Δ : Del) (n : Nat) (sc : Scope) : Expr → Option LB
  | .Call (.Name x _) [] [⟨some kn, e, _⟩] _ => if okName x && isGl sc x then (cE Δ n sc e).map (.kw x kn) else none
  | e => (cE Δ n sc e).map .e
def wLB (Γ : Gam) (kwk : Str → Str → Sp → Prop) : LB → XK → TE
  | .e c => fun E => wE Γ c false (fun cls d _ H => E cls d H)
  | .kw x kn c => fun E σ H Q => ∃ sp, kwk x kn sp ∧ wE Γ c false (fun cls d _ H => E cls d H) σ H fun v H1 => sp [v] H1 Q E
/-- what is told of a def x that calls what it is handed -/
def MetK (X : Cx) (x : Str) (T : List (Addr × Str)) (TT : (XK → Hp → VK → Prop) → Hp → VK → Prop) (k : Nat) : Prop :=
  ∃ (a : Str) (g c P : Addr) (pg : Arguments) (bg : List Stmt) (sg : Scope) (dV kV doc pm cdv ct oc : Value) (an od : Option Addr) (osl : Array (Option Value)) (Ng : List Str),
    X.mg x = some (.ref g) ∧ PySem.W.keepIn X.K (.ref g) = true ∧ X.K.lookup g = some ⟨oc, od, .func (PySem.W.fnOf x x pg bg sg dV kV doc pm an cdv ct), osl⟩ ∧ PySem.W.codeIn X.K cdv x = true ∧ L2.Binds X.K (PySem.W.fnOf x x pg bg sg dV kV doc pm an cdv ct) [a] [] ∧
    FnScope Ng [a] sg ∧ Ng[0]? = some a ∧ Vis sg a ∧ GivesTo X Ng x sg g cdv bg a (X.env.qual ++ "<lambda>") TT ∧ TabB X.base X.mg c P ∧ X.env.code = .ref c ∧ (P, X.env.qual ++ "<lambda>") ∈ T ∧ (∀ p ∈ T, p.1 = P → p.2 = X.env.qual ++ "<lambda>") ∧ Room (k + 2) X.A ∧ (a == ("__debug__" : Str)) = false ∧ (a == ("__classdict__" : Str)) = false
/-- what the statements below lean on -/
structure LOk (Γ : Gam) (Δ : Del) (X : Cx) (sc : Scope) (x : Str) (kwk : Str → Str → Sp → Prop) (T : List (Addr × Str)) (TT : (XK → Hp → VK → Prop) → Hp → VK → Prop) (k : Nat) : Prop where
  F : Fit Γ Δ X sc
  m : MetK X x T TT k
  g : ∀ A, Room k A → GOk Γ X.prog X.w X.K X.mg X.base A
  kw : ∀ y kn sp, kwk y kn sp → KwF X.prog X.w X.K X.mg X.base k y kn sp
def emptyArgs : Arguments → Bool
  | ⟨[], [], none, [], [], none, []⟩ => true
  | _ => false
def cLam (Δ : Del) (n : Nat) (sc : Scope) (x : Str) : Expr → Option LB
  | .Call (.Name y _) [.Lambda params body scope _] [] _ => if (y == x && okName x) && (isGl sc x && (lamSB sc scope && emptyArgs params)) then cLB Δ n scope body else none
  | _ => none
section
variable {Γ : Gam} {Δ : Del} {X : Cx} {sc : Scope} {x : Str} {kwk : Str → Str → Sp → Prop} {T : List (Addr × Str)} {TT : (XK → Hp → VK → Prop) → Hp → VK → Prop} {k : Nat}
theorem lb_ok {n : Nat} {e : Expr} {c : LB} (h : cLB Δ n sc e = some c) (F : Fit Γ Δ X sc) (kw : ∀ y kn sp, kwk y kn sp → KwF X.prog X.w X.K X.mg X.base k y kn sp) (hr : Room k X.A) {E : XK} (tk : Takes X (fun cls d _ H => E cls d H)) : PE X e (wLB Γ kwk c E) := by
  have px : PassX X (fun cls d _ H => E cls d H) := passAt tk
  unfold cLB at h
  split at h
  · rename_i y p kn e' kp pos
    split at h
    · rename_i hx
      obtain ⟨hx1, hx2⟩ := Bool.and_eq_true_iff.mp hx
      obtain ⟨c', hc, rfl⟩ := Option.map_eq_some_iff.mp h
      refine ⟨fun pins s σ H Q I ⟨sp, hsp, q⟩ => ?_⟩
      obtain ⟨f, fd, hm, Fn, hk, hb⟩ := kw y kn sp hsp
      refine (pe_kw0 (tk := tCons (wE Γ c' false (fun cls d _ H => E cls d H)) tNil) (gV := fun vs zs => vs ++ zs) (E := E) Fn hr (isGl_ok F hx2) hm hk hb ?_ (pk_cons ((snd_all n).e X _ false hc F px fun z => nomatch z) pk_nil) rfl rfl (okName_of hx1).1 rfl).run pins s σ H Q I q
      exact fun pins σ H s e s' I z => passes_call tk (fun _ _ _ _ h => h) pins σ H s e s' I z
    · cases h
  · obtain ⟨c', hc, rfl⟩ := Option.map_eq_some_iff.mp h
    exact (snd_all n).e X _ false hc F px fun z => nomatch z
theorem lam_ok {n : Nat} {e : Expr} {c : LB} (h : cLam Δ n sc x e = some c) (L : LOk Γ Δ X sc x kwk T TT k) : PE X e (tLam T TT (wLB Γ kwk c)) := by
  unfold cLam at h
  split at h
  · rename_i y p params body scope lpos pos
    split at h
    · rename_i hx
      simp only [Bool.and_eq_true] at hx
      obtain ⟨⟨h1, h2⟩, h3, h4, h5⟩ := hx
      obtain rfl : y = x := eq_of_beq h1
      obtain ⟨a, g, cc, P, pg, bg, sg, dV, kV, doc, pm, cdv, ct, oc, an, od, osl, Ng, m1, m2, m3, m4, m5, m6, m7, m8, m9, m10, m11, m12, m13, m14, m15, m16⟩ := L.m
      obtain ⟨po, ar, va, ko, kd, kw', df⟩ := params
      have ep : po = [] ∧ ar = [] ∧ va = none ∧ ko = [] ∧ kd = [] ∧ kw' = none ∧ df = [] := by
        unfold emptyArgs at h5
        split at h5
        · rename_i e0; injection e0 with a1 a2 a3 a4 a5 a6 a7; exact ⟨a1, a2, a3, a4, a5, a6, a7⟩
        · cases h5
      obtain ⟨rfl, rfl, rfl, rfl, rfl, rfl, rfl⟩ := ep
      have Ls : LamS X.env.scope scope := by rw [L.F.sc]; exact lamS_by h4
      refine pe_lamcall (isGl_ok L.F h3) m1 m2 m3 m4 m5 m6 m7 m8 m9 m10 m11 m12 m13 m14 Ls rfl (fun q cl pm cv ctv => rfl) (fun A outer s H E f c' hr => ?_) (okName_of h2).1 m15 m16
      exact lb_ok (X := lamCx X A outer s H E scope f c') h ⟨rfl, L.F.N, L.F.nd, rfl, L.g _ hr⟩ L.kw hr (L2.takes_of rfl rfl rfl rfl)
    · cases h
  · cases h
end
end Dq

set_option maxHeartbeats 2000000
namespace Dq
open PySem PySem.Spec PyProof.Rows L2 LamX
/-! ### try: return (told, a()) / except C as n: return (mark, n.f) -/
def TTm (CS : Addr) (f told mark : Str) : (XK → Hp → VK → Prop) → Hp → VK → Prop := fun tl H Q =>
  tl (fun cls d H' => cls = .ref CS ∧ ∃ (dd : Addr) (v : V), d = some dd ∧ H' dd = some (.xd [(f, v)]) ∧ ∀ p, H' p = none → Q (.ref p) (upd H' p (.tup [.str mark, v]))) H
    (fun v H' => [V.str told, v].length ≤ sizeLine ∧ ∀ p, H' p = none → Q (.ref p) (upd H' p (.tup [.str told, v])))
theorem Takes.len {X : Cx} {W : WX} (t : Takes X W) : Takes X (fun cls d σ H => σ.length = X.N.length → W cls d σ H) := fun u s' ⟨a, B, sI, pins, σ, H, cls, d, e, I, nb, up, sky, na, os, ag, z⟩ =>
  t u s' ⟨a, B, sI, pins, σ, H, cls, d, e, I, nb, up, sky, na, os, ag, z I.len⟩
section
variable {X : Cx}
theorem met_gives {x a e n q told mark f : Str} {sg : Scope} {g CS : Addr} {cdg : Value} {j j2 k1 k2 : Nat} {p1 p2 p3 p4 p5 p6 p7 p8 p9 p10 p11 p12 p13 : Pos} (hge : sg.names.lookup e = some .globalImplicit) (hme : X.mg e = some (.ref CS)) (hde : (e == ("__debug__" : Str)) = false)
    (hnn : [a, n].Nodup) (hn : sg.names.lookup n = some .local) (hdn : (n == ("__debug__" : Str)) = false) (hcn : (n == ("__classdict__" : Str)) = false) (T : XfC X.K CS) (hno : PySem.W.findIn X.K (.ref CS) f = some none) (one : PySem.W.exmOne X.K (.ref CS) (.ref CS) = some true) :
    GivesTo X [a, n] x sg g cdg [.Try [.Return (some (.Tuple [.Constant (.str told) j p9, .Call (.Name a p1) [] [] p2] k1 p10)) p3] [.ExceptHandler (some (.Name e p4)) (some n) [.Return (some (.Tuple [.Constant (.str mark) j2 p5, .Attribute (.Name n p11) f p12] k2 p13)) p6] p7] [] [] p8] a q (TTm CS f told mark) := by
  intro fn c' s H Q tl act hc h
  have hsz : 2 ≤ sizeLine := by rw [sizeLine_eq]; omega
  have hgl : Gl (cxOf C8.CX0 X.prog X.w X.K X.mg X.base [a, n] x sg g cdg X.A X.stack s H C8.E0).nox e := hge
  refine ⟨_, pss_one (ps_try_as (X := (cxOf C8.CX0 X.prog X.w X.K X.mg X.base [a, n] x sg g cdg X.A X.stack s H C8.E0).nox) (i := 1) (c := .ref CS) (Wout := fun _ _ _ _ => False)
      (tb := fun W D σ H => ∃ Ech : XK, (∀ cls d σ' H', Ech cls d H' → σ'.length = 2 → W cls d σ' H') ∧ σ[0]? = some (some (.ref fn)) ∧ H c' = some (CodeO c' q) ∧ tl Ech H fun v H1 => [V.str told, v].length ≤ sizeLine ∧ ∀ p, H1 p = none → D.rt (.ref p) (upd H1 p (.tup [.str told, v])))
      rfl rfl hnn rfl hn ⟨hgl, hde, .inl hme⟩ L2.takes0 (fun W pn xe tk _ => ?_) (fun a oe cls d pn hz hf => pss_one (ps_ret (pe_tup (pa_cons pe_str (pa_cons (pe_xf T hno hz hf (pe_var (i := 1) rfl (.inl hn) hdn hcn)) pa_nil)))))), ?_⟩
  · refine ⟨fun pins s' σ H' D I h' => ?_⟩
    obtain ⟨Ech, hW, h1, h2, h3⟩ := h'
    have hp := act _ pn xe Ech p1 p2 (Takes.len tk) hW
    exact (pss_one (ps_ret (pos := p3) (pe_tup (pa_cons pe_str (pa_cons hp pa_nil))))).run pins s' σ H' D I ⟨h1, h2, h3⟩
  · refine ⟨_, ?_, rfl, hc, h⟩
    rintro cls d σ' H' ⟨rfl, dd, v, rfl, e1, e2⟩ hl
    refine ⟨true, one, fun _ b nb => ?_, fun z => nomatch z⟩
    refine ⟨_, List.getElem?_set_self (by rw [hl]; decide), rfl, rfl, dd, _, v, rfl, e1, by simp [List.lookup], hsz, e2⟩
end
/-! ### statements that hold such calls -/
mutual
inductive XS where
  | d (s : CS)
  /-- i = [x(lambda: ..), ..] -/
  | lams (i : Nat) (bs : List LB)
  /-- v.append(x(lambda: ..)) -/
  | app (v : CE) (b : LB)
  /-- return x2 (x(lambda), e) and the like are not met -/
  | for_ (g : CG) (it : CI) (b : XSs)
  | ifs (t : CT) (a b : XSs)
inductive XSs where | nil | cons (s : XS) (ss : XSs)
end
def cLams (Δ : Del) (n : Nat) (sc : Scope) (x : Str) : List Expr → Option (List LB)
  | [] => some []
  | e :: es => (cLam Δ n sc x e).bind fun b => (cLams Δ n sc x es).map (b :: ·)
mutual
def cX (Δ : Del) (x : Str) : Nat → Scope → Stmt → Option XS
  | 0, _, _ => none
  | n + 1, sc, s => match cS Δ 60 sc s with
    | some c => some (.d c)
    | none => match s with
      | .Assign [.Name y _] (.List es _) _ => (storeOf Δ sc true y).bind fun i => (cLams Δ 60 sc x es).map (.lams i)
      | .Expr (.Call (.Attribute o "append" ap) [e] [] pos) _ => if baseOk o && (ap.endLine == pos.line) then (cE Δ 60 sc o).bind fun o' => (cLam Δ 60 sc x e).map (.app o') else none
      | .For tg it b [] _ => (cG Δ sc true tg).bind fun g => (cI Δ 60 sc tg it).bind fun i => (cXs Δ x n sc b).map (.for_ g i)
      | .If t a b _ => (cT Δ 60 sc t).bind fun t' => (cXs Δ x n sc a).bind fun a' => (cXs Δ x n sc b).map (.ifs t' a')
      | _ => none
def cXs (Δ : Del) (x : Str) : Nat → Scope → List Stmt → Option XSs
  | 0, _, _ => none
  | n + 1, sc, ss => match ss with
    | [] => some .nil
    | s :: ss => (cX Δ x n sc s).bind fun a => (cXs Δ x n sc ss).map fun b => .cons a b
end
section
variable (Γ : Gam) (kwk : Str → Str → Sp → Prop) (T : List (Addr × Str)) (TT : (XK → Hp → VK → Prop) → Hp → VK → Prop)
def wLams : List LB → TA
  | [] => fun _ H Q => Q [] H
  | b :: bs => fun σ H Q => tLam T TT (wLB Γ kwk b) σ H fun v H1 => wLams bs σ H1 fun vs H2 => Q (v :: vs) H2
mutual
def wX : XS → WX → TS
  | .d s, W => wS Γ s W
  | .lams i bs, _ => fun D σ H => wLams Γ kwk T TT bs σ H fun xs H1 => xs.length ≤ sizeLine ∧ ∀ p, H1 p = none → D.nx (σ.set i (some (.ref p))) (upd H1 p (.lst xs))
  | .app o b, W => fun D σ H => wE Γ o true W σ H fun x H1 => tyV Γ.K "list" x H1 ∧ tLam T TT (wLB Γ kwk b) σ H1 fun v H2 => rAppend x [v] H2 fun _ H3 => D.nx σ H3
  | .for_ g it b, W => fun D σ H => tFor (wI Γ it true W) (gOf Γ.K g) (wXs b W) D σ H
  | .ifs t a b, W => fun D σ H => wT Γ t true W σ H fun k H1 => if k = true then wXs a W D σ H1 else wXs b W D σ H1
def wXs : XSs → WX → TS
  | .nil, _ => tNext
  | .cons s ss, W => tSeq (wX s W) (wXs ss W)
end
end
section
variable {Γ : Gam} {Δ : Del} {X : Cx} {sc : Scope} {W : WX} {x : Str} {kwk : Str → Str → Sp → Prop} {T : List (Addr × Str)} {TT : (XK → Hp → VK → Prop) → Hp → VK → Prop} {k : Nat}
theorem lam_noSt {n : Nat} {e : Expr} {b : LB} (h : cLam Δ n sc x e = some b) : noSt e = true := by
  cases e <;> first | rfl | (unfold cLam at h; cases h)
theorem lams_ok {n : Nat} (L : LOk Γ Δ X sc x kwk T TT k) : ∀ {es : List Expr} {bs : List LB}, cLams Δ n sc x es = some bs → PA X es (wLams Γ kwk T TT bs)
  | [], bs, h => by
    unfold cLams at h
    cases h
    exact pa_nil
  | e :: es, bs, h => by
    unfold cLams at h
    obtain ⟨b, hb, h⟩ := Option.bind_eq_some_iff.mp h
    obtain ⟨r, hr, rfl⟩ := Option.map_eq_some_iff.mp h
    exact pa_cons (lam_ok hb L) (lams_ok L hr) (starE (lam_noSt hb))
structure SndX (Γ : Gam) (Δ : Del) (x : Str) (kwk : Str → Str → Sp → Prop) (T : List (Addr × Str)) (TT : (XK → Hp → VK → Prop) → Hp → VK → Prop) (k n : Nat) : Prop where
  s : ∀ {sc : Scope} {st : Stmt} {c : XS} (X : Cx) (W : WX), cX Δ x n sc st = some c → FS Γ Δ X sc W → LOk Γ Δ X sc x kwk T TT k → PS X st (wX Γ kwk T TT c W)
  ss : ∀ {sc : Scope} {st : List Stmt} {c : XSs} (X : Cx) (W : WX), cXs Δ x n sc st = some c → FS Γ Δ X sc W → LOk Γ Δ X sc x kwk T TT k → PSs X st (wXs Γ kwk T TT c W)
theorem xstep_ss {n : Nat} (R : SndX Γ Δ x kwk T TT k n) {st : List Stmt} {c : XSs} (h : cXs Δ x (n + 1) sc st = some c) (S : FS Γ Δ X sc W) (L : LOk Γ Δ X sc x kwk T TT k) : PSs X st (wXs Γ kwk T TT c W) := by
  unfold cXs at h
  split at h
  · cases h
    unfold wXs
    exact pss_nil
  · obtain ⟨a, ha, h⟩ := Option.bind_eq_some_iff.mp h
    obtain ⟨b, hb, rfl⟩ := Option.map_eq_some_iff.mp h
    unfold wXs
    exact pss_cons (R.s X W ha S L) (R.ss X W hb S L)
theorem xstep_s {n : Nat} (R : SndX Γ Δ x kwk T TT k n) {st : Stmt} {c : XS} (h : cX Δ x (n + 1) sc st = some c) (S : FS Γ Δ X sc W) (L : LOk Γ Δ X sc x kwk T TT k) : PS X st (wX Γ kwk T TT c W) := by
  unfold cX at h
  split at h
  · rename_i c' hc
    cases h
    unfold wX
    exact (snds_all 60).s X W hc S
  · split at h
    · obtain ⟨i, hi, h⟩ := Option.bind_eq_some_iff.mp h
      obtain ⟨bs, hb, rfl⟩ := Option.map_eq_some_iff.mp h
      obtain ⟨h1, h2, h3⟩ := store_slot S.F (whole := true) (fun _ => S.fn) hi
      unfold wX
      exact ps_set S.F.nd h1 h2 (pe_lst (lams_ok L hb)) (sw_none rfl) h3
    · rename_i o ap e pos p2 hno
      split at h
      · rename_i hx
        obtain ⟨hx1, hx2⟩ := Bool.and_eq_true_iff.mp hx
        obtain ⟨o', ho, h⟩ := Option.bind_eq_some_iff.mp h
        obtain ⟨b, hb, rfl⟩ := Option.map_eq_some_iff.mp h
        have st := starE (env := X.env) (es := []) (lam_noSt hb)
        have few : ((backTo pos (starEach [e] X.env)).all (fun x => !x.1) && (backToKw pos (keywordEach [] X.env)).all (fun x => x.1.isSome) && decide (([e] : List Expr).length + ([] : List Keyword).length + (if ([] : List Keyword).isEmpty then 0 else 1) < 30)) = true := by
          rw [st]; rfl
        have pe := pe_bm (apos := ap) (cpos := pos) PySem.F.plainAttrs_list PySem.F.slot_list_append PySem.F.type_list_append mt_append (S.eok ho) (pa_cons (lam_ok hb L) pa_nil st) (base_ok hx1) few hx2 st rfl
        refine PS.imp' (ps_expr pe) fun D σ H q => ?_
        unfold wX at q
        rw [← S.F.g.eK] at q
        exact q
      · cases h
    · obtain ⟨g, hg, h⟩ := Option.bind_eq_some_iff.mp h
      obtain ⟨i, hi, h⟩ := Option.bind_eq_some_iff.mp h
      obtain ⟨b, hb, rfl⟩ := Option.map_eq_some_iff.mp h
      obtain ⟨pi, hs⟩ := S.iok hi
      unfold wX
      exact ps_for S.own S.F.calm pi (pg_of S.F (whole := true) (fun _ => S.fn) hg) (R.ss X W hb S L) hs
    · obtain ⟨t, ht, h⟩ := Option.bind_eq_some_iff.mp h
      obtain ⟨a, ha, h⟩ := Option.bind_eq_some_iff.mp h
      obtain ⟨b, hb, rfl⟩ := Option.map_eq_some_iff.mp h
      unfold wX
      exact ps_if (S.tok ht) (R.ss X W ha S L) (R.ss X W hb S L)
    · cases h
theorem sndx_all : ∀ n, SndX Γ Δ x kwk T TT k n
  | 0 => ⟨fun {_ _ _} _ _ h => (by unfold cX at h; cases h), fun {_ _ _} _ _ h => (by unfold cXs at h; cases h)⟩
  | n + 1 => ⟨fun X W h S L => xstep_s (sndx_all n) h S L, fun X W h S L => xstep_ss (sndx_all n) h S L⟩
end
end Dq

set_option maxHeartbeats 0
namespace Hk64
open PySem PySem.Spec PyProof.Rows L2
def top (i : Nat) : Stmt := PySem.Challenge.pw_hotrows_k64_whole_texts_of_codes_read.main.body.getD i (.Pass ⟨0, 0, 0, 0⟩)
def topM (i j : Nat) : Stmt := inClass (top i) j

abbrev s__wall : Stmt := top 0
def d__wall : He.DefD := ⟨("_wall", none), "_wall", "_wall", defArgs s__wall, defBody s__wall, defScope s__wall, [], []⟩
abbrev s_is_name : Stmt := top 8
def d_is_name : He.DefD := ⟨("is_name", none), "is_name", "is_name", defArgs s_is_name, defBody s_is_name, defScope s_is_name, [], []⟩
abbrev s_is_digits : Stmt := top 16
def d_is_digits : He.DefD := ⟨("is_digits", none), "is_digits", "is_digits", defArgs s_is_digits, defBody s_is_digits, defScope s_is_digits, [], []⟩
abbrev s_whole_of : Stmt := top 17
def d_whole_of : He.DefD := ⟨("whole_of", none), "whole_of", "whole_of", defArgs s_whole_of, defBody s_whole_of, defScope s_whole_of, [], []⟩
abbrev s_take_part : Stmt := top 20
def d_take_part : He.DefD := ⟨("take_part", none), "take_part", "take_part", defArgs s_take_part, defBody s_take_part, defScope s_take_part, [], []⟩
abbrev s_take_names : Stmt := top 21
def d_take_names : He.DefD := ⟨("take_names", none), "take_names", "take_names", defArgs s_take_names, defBody s_take_names, defScope s_take_names, [], []⟩
abbrev s_take_rows : Stmt := top 22
def d_take_rows : He.DefD := ⟨("take_rows", none), "take_rows", "take_rows", defArgs s_take_rows, defBody s_take_rows, defScope s_take_rows, [], []⟩
abbrev s_read_codes : Stmt := top 23
def d_read_codes : He.DefD := ⟨("read_codes", none), "read_codes", "read_codes", defArgs s_read_codes, defBody s_read_codes, defScope s_read_codes, [], []⟩
abbrev s__law_stream : Stmt := top 25
def d__law_stream : He.DefD := ⟨("_law_stream", none), "_law_stream", "_law_stream", defArgs s__law_stream, defBody s__law_stream, defScope s__law_stream, [], []⟩
abbrev s__law_draw : Stmt := top 26
def d__law_draw : He.DefD := ⟨("_law_draw", none), "_law_draw", "_law_draw", defArgs s__law_draw, defBody s__law_draw, defScope s__law_draw, [], []⟩
abbrev s__law_pick : Stmt := top 27
def d__law_pick : He.DefD := ⟨("_law_pick", none), "_law_pick", "_law_pick", defArgs s__law_pick, defBody s__law_pick, defScope s__law_pick, [], []⟩
abbrev s__law_same : Stmt := top 28
def d__law_same : He.DefD := ⟨("_law_same", none), "_law_same", "_law_same", defArgs s__law_same, defBody s__law_same, defScope s__law_same, [], []⟩
abbrev s__law_w_number : Stmt := top 29
def d__law_w_number : He.DefD := ⟨("_law_w_number", none), "_law_w_number", "_law_w_number", defArgs s__law_w_number, defBody s__law_w_number, defScope s__law_w_number, [], []⟩
abbrev s__law_w_listed : Stmt := top 30
def d__law_w_listed : He.DefD := ⟨("_law_w_listed", none), "_law_w_listed", "_law_w_listed", defArgs s__law_w_listed, defBody s__law_w_listed, defScope s__law_w_listed, [], []⟩
abbrev s__law_w_index : Stmt := top 31
def d__law_w_index : He.DefD := ⟨("_law_w_index", none), "_law_w_index", "_law_w_index", defArgs s__law_w_index, defBody s__law_w_index, defScope s__law_w_index, [], []⟩
abbrev s__law_w_rows : Stmt := top 32
def d__law_w_rows : He.DefD := ⟨("_law_w_rows", none), "_law_w_rows", "_law_w_rows", defArgs s__law_w_rows, defBody s__law_w_rows, defScope s__law_w_rows, [], []⟩
abbrev s__law_w_placed : Stmt := top 33
def d__law_w_placed : He.DefD := ⟨("_law_w_placed", none), "_law_w_placed", "_law_w_placed", defArgs s__law_w_placed, defBody s__law_w_placed, defScope s__law_w_placed, [], []⟩
abbrev s__law_w_codes : Stmt := top 34
def d__law_w_codes : He.DefD := ⟨("_law_w_codes", none), "_law_w_codes", "_law_w_codes", defArgs s__law_w_codes, defBody s__law_w_codes, defScope s__law_w_codes, [], []⟩
abbrev s__law_b_is_name : Stmt := top 35
def d__law_b_is_name : He.DefD := ⟨("_law_b_is_name", none), "_law_b_is_name", "_law_b_is_name", defArgs s__law_b_is_name, defBody s__law_b_is_name, defScope s__law_b_is_name, [], []⟩
abbrev s__law_x_shapes : Stmt := top 36
def d__law_x_shapes : He.DefD := ⟨("_law_x_shapes", none), "_law_x_shapes", "_law_x_shapes", defArgs s__law_x_shapes, defBody s__law_x_shapes, defScope s__law_x_shapes, [], []⟩
abbrev s__law_x_is_digits : Stmt := top 37
def d__law_x_is_digits : He.DefD := ⟨("_law_x_is_digits", none), "_law_x_is_digits", "_law_x_is_digits", defArgs s__law_x_is_digits, defBody s__law_x_is_digits, defScope s__law_x_is_digits, [], []⟩
abbrev s__law_x_number : Stmt := top 38
def d__law_x_number : He.DefD := ⟨("_law_x_number", none), "_law_x_number", "_law_x_number", defArgs s__law_x_number, defBody s__law_x_number, defScope s__law_x_number, [], []⟩
abbrev s__law_x_integer : Stmt := top 39
def d__law_x_integer : He.DefD := ⟨("_law_x_integer", none), "_law_x_integer", "_law_x_integer", defArgs s__law_x_integer, defBody s__law_x_integer, defScope s__law_x_integer, [], []⟩
abbrev s__law_x_at : Stmt := top 40
def d__law_x_at : He.DefD := ⟨("_law_x_at", none), "_law_x_at", "_law_x_at", defArgs s__law_x_at, defBody s__law_x_at, defScope s__law_x_at, [], []⟩
abbrev s__law_x_changed : Stmt := top 41
def d__law_x_changed : He.DefD := ⟨("_law_x_changed", none), "_law_x_changed", "_law_x_changed", defArgs s__law_x_changed, defBody s__law_x_changed, defScope s__law_x_changed, [], []⟩
abbrev s__law_x_code_marks : Stmt := top 42
def d__law_x_code_marks : He.DefD := ⟨("_law_x_code_marks", none), "_law_x_code_marks", "_law_x_code_marks", defArgs s__law_x_code_marks, defBody s__law_x_code_marks, defScope s__law_x_code_marks, [], []⟩
abbrev s__law_x_take : Stmt := top 43
def d__law_x_take : He.DefD := ⟨("_law_x_take", none), "_law_x_take", "_law_x_take", defArgs s__law_x_take, defBody s__law_x_take, defScope s__law_x_take, [], []⟩
abbrev s__law_x_next : Stmt := top 44
def d__law_x_next : He.DefD := ⟨("_law_x_next", none), "_law_x_next", "_law_x_next", defArgs s__law_x_next, defBody s__law_x_next, defScope s__law_x_next, [], []⟩
abbrev s__law_x_told : Stmt := top 45
def d__law_x_told : He.DefD := ⟨("_law_x_told", none), "_law_x_told", "_law_x_told", defArgs s__law_x_told, defBody s__law_x_told, defScope s__law_x_told, [], []⟩
abbrev s__law_x_count : Stmt := top 46
def d__law_x_count : He.DefD := ⟨("_law_x_count", none), "_law_x_count", "_law_x_count", defArgs s__law_x_count, defBody s__law_x_count, defScope s__law_x_count, [], []⟩
abbrev s__law_met : Stmt := top 47
def d__law_met : He.DefD := ⟨("_law_met", none), "_law_met", "_law_met", defArgs s__law_met, defBody s__law_met, defScope s__law_met, [], []⟩
abbrev s__law_part : Stmt := top 48
def d__law_part : He.DefD := ⟨("_law_part", none), "_law_part", "_law_part", defArgs s__law_part, defBody s__law_part, defScope s__law_part, [], []⟩
abbrev s__law_due : Stmt := top 49
def d__law_due : He.DefD := ⟨("_law_due", none), "_law_due", "_law_due", defArgs s__law_due, defBody s__law_due, defScope s__law_due, [], []⟩
abbrev s_law : Stmt := top 50
def d_law : He.DefD := ⟨("law", none), "law", "law", defArgs s_law, defBody s_law, defScope s_law, [], []⟩
abbrev s_BadMark_init : Stmt := topM 11 0
def d_BadMark_init : He.DefD := ⟨("BadMark", some "__init__"), "__init__", "BadMark.__init__", defArgs s_BadMark_init, defBody s_BadMark_init, defScope s_BadMark_init, [], []⟩
abbrev s_LineMarks_init : Stmt := topM 18 0
def d_LineMarks_init : He.DefD := ⟨("LineMarks", some "__init__"), "__init__", "LineMarks.__init__", defArgs s_LineMarks_init, defBody s_LineMarks_init, defScope s_LineMarks_init, [], []⟩
abbrev s_LineMarks_mark : Stmt := topM 18 1
def d_LineMarks_mark : He.DefD := ⟨("LineMarks", some "mark"), "mark", "LineMarks.mark", defArgs s_LineMarks_mark, defBody s_LineMarks_mark, defScope s_LineMarks_mark, [], []⟩
abbrev s_LineMarks_take : Stmt := topM 18 2
def d_LineMarks_take : He.DefD := ⟨("LineMarks", some "take"), "take", "LineMarks.take", defArgs s_LineMarks_take, defBody s_LineMarks_take, defScope s_LineMarks_take, [], []⟩
abbrev s_LineMarks_take_mark : Stmt := topM 18 3
def d_LineMarks_take_mark : He.DefD := ⟨("LineMarks", some "take_mark"), "take_mark", "LineMarks.take_mark", defArgs s_LineMarks_take_mark, defBody s_LineMarks_take_mark, defScope s_LineMarks_take_mark, [], []⟩
abbrev s_LineMarks_number : Stmt := topM 18 4
def d_LineMarks_number : He.DefD := ⟨("LineMarks", some "number"), "number", "LineMarks.number", defArgs s_LineMarks_number, defBody s_LineMarks_number, defScope s_LineMarks_number, [], []⟩
abbrev s_LineMarks_integer : Stmt := topM 18 5
def d_LineMarks_integer : He.DefD := ⟨("LineMarks", some "integer"), "integer", "LineMarks.integer", defArgs s_LineMarks_integer, defBody s_LineMarks_integer, defScope s_LineMarks_integer, [], []⟩
abbrev s_LineMarks_name : Stmt := topM 18 6
def d_LineMarks_name : He.DefD := ⟨("LineMarks", some "name"), "name", "LineMarks.name", defArgs s_LineMarks_name, defBody s_LineMarks_name, defScope s_LineMarks_name, [], []⟩
abbrev s_LineMarks_end : Stmt := topM 18 7
def d_LineMarks_end : He.DefD := ⟨("LineMarks", some "end"), "end", "LineMarks.end", defArgs s_LineMarks_end, defBody s_LineMarks_end, defScope s_LineMarks_end, [], []⟩
def fn : List He.DefD := [d__wall, d_is_name, d_is_digits, d_whole_of, d_take_part, d_take_names, d_take_rows, d_read_codes, d__law_stream, d__law_draw, d__law_pick, d__law_same, d__law_w_number, d__law_w_listed, d__law_w_index, d__law_w_rows, d__law_w_placed, d__law_w_codes, d__law_b_is_name, d__law_x_shapes, d__law_x_is_digits, d__law_x_number, d__law_x_integer, d__law_x_at, d__law_x_changed, d__law_x_code_marks, d__law_x_take, d__law_x_next, d__law_x_told, d__law_x_count, d__law_met, d__law_part, d__law_due, d_law, d_BadMark_init, d_LineMarks_init, d_LineMarks_mark, d_LineMarks_take, d_LineMarks_take_mark, d_LineMarks_number, d_LineMarks_integer, d_LineMarks_name, d_LineMarks_end]
def fa : List He.Fa := [.glo "_wall", .glo "is_name", .glo "is_digits", .glo "whole_of", .glo "take_part", .glo "take_names", .glo "take_rows", .glo "read_codes", .glo "_law_stream", .glo "_law_draw", .glo "_law_pick", .glo "_law_same", .glo "_law_w_number", .glo "_law_w_listed", .glo "_law_w_index", .glo "_law_w_rows", .glo "_law_w_placed", .glo "_law_w_codes", .glo "_law_b_is_name", .glo "_law_x_shapes", .glo "_law_x_is_digits", .glo "_law_x_number", .glo "_law_x_integer", .glo "_law_x_at", .glo "_law_x_changed", .glo "_law_x_code_marks", .glo "_law_x_take", .glo "_law_x_next", .glo "_law_x_told", .glo "_law_x_count", .glo "_law_met", .glo "_law_part", .glo "_law_due", .glo "law", .glo "RowError", .glo "BadMark", .glo "LineMarks", .free "ValueError", .free "abs", .free "all", .free "bool", .free "dict", .free "enumerate", .free "int", .free "isinstance", .free "len", .free "list", .free "range", .free "str", .free "tuple", .free "type", .free "zip"]
abbrev R : PySem.W.OpenRow := PySem.W.OpenLaw.row PySem.Challenge.rw_hotrows_k64_whole_texts_of_codes_read
def loose : List PySem.Str := (["BadMark", "DIGITS", "FIGURES", "GREATEST", "LEAST", "LETTERS", "LineMarks", "RowError", "SHAPES", "TWOS", "WORDS", "_law_b_is_name", "_law_draw", "_law_due", "_law_met", "_law_part", "_law_pick", "_law_same", "_law_stream", "_law_w_codes", "_law_w_index", "_law_w_listed", "_law_w_number", "_law_w_placed", "_law_w_rows", "_law_x_at", "_law_x_changed", "_law_x_code_marks", "_law_x_count", "_law_x_integer"] : List PySem.Str) ++ (["_law_x_is_digits", "_law_x_next", "_law_x_number", "_law_x_shapes", "_law_x_take", "_law_x_told", "_wall", "is_digits", "is_name", "read_codes", "take_names", "take_part", "take_rows", "whole_of"] : List PySem.Str)
abbrev hk : PySem.W.Hook := He.hookX 6 fa fn [] [] (fun _ => true)
def ob (s : PySem.W.SharedT) : He.AlX := He.obsX 6 fa fn [] [] (fun _ => true) (HandSHeadRun.getT s)
theorem ob_eq (s : PySem.W.SharedT) : ob s = hk.obs s.abs := He.obsX_eq (HandSHeadRun.getT_eq s)

def own : List PySem.Str := ["end", "integer", "mark", "name", "number", "take", "take_mark"]
def cls : List PySem.Str := ["RowError", "BadMark", "LineMarks"]
def l__wall : Dq.Del := ⟨["k"], own, cls⟩
def p__wall : List PySem.Str := ["k"]
def l_is_name : Dq.Del := ⟨["thing", "sign"], own, cls⟩
def p_is_name : List PySem.Str := ["thing"]
def l_BadMark_init : Dq.Del := ⟨["self", "index"], own, cls⟩
def p_BadMark_init : List PySem.Str := ["self", "index"]
def l_is_digits : Dq.Del := ⟨["mark", "sign"], own, cls⟩
def p_is_digits : List PySem.Str := ["mark"]
def l_whole_of : Dq.Del := ⟨["mark", "left", "found", "head"], own, cls⟩
def p_whole_of : List PySem.Str := ["mark"]
def l_LineMarks_init : Dq.Del := ⟨["self", "text", "line", "mark"], own, cls⟩
def p_LineMarks_init : List PySem.Str := ["self", "text"]
def l_LineMarks_mark : Dq.Del := ⟨["self"], own, cls⟩
def p_LineMarks_mark : List PySem.Str := ["self"]
def l_LineMarks_take : Dq.Del := ⟨["self", "is_right", "found"], own, cls⟩
def p_LineMarks_take : List PySem.Str := ["self", "is_right"]
def l_LineMarks_take_mark : Dq.Del := ⟨["self", "mark"], own, cls⟩
def p_LineMarks_take_mark : List PySem.Str := ["self", "mark"]
def l_LineMarks_number : Dq.Del := ⟨["self", "least", "below", "mark", "is_right"], own, cls⟩
def p_LineMarks_number : List PySem.Str := ["self", "least", "below"]
def l_LineMarks_integer : Dq.Del := ⟨["self", "mark", "is_right"], own, cls⟩
def p_LineMarks_integer : List PySem.Str := ["self"]
def l_LineMarks_name : Dq.Del := ⟨["self", "known"], own, cls⟩
def p_LineMarks_name : List PySem.Str := ["self", "known"]
def l_LineMarks_end : Dq.Del := ⟨["self"], own, cls⟩
def p_LineMarks_end : List PySem.Str := ["self"]
def l_take_part : Dq.Del := ⟨["marks", "sort"], own, cls⟩
def p_take_part : List PySem.Str := ["marks", "sort"]
def l_take_names : Dq.Del := ⟨["marks", "params", "found"], own, cls⟩
def p_take_names : List PySem.Str := ["marks", "params"]
def l_take_rows : Dq.Del := ⟨["marks", "rows", "places", "line", "word", "sort"], own, cls⟩
def p_take_rows : List PySem.Str := ["marks"]
def l_read_codes : Dq.Del := ⟨["text", "marks", "found", "name", "params", "names", "rows", "places"], own, cls⟩
def p_read_codes : List PySem.Str := ["text"]
def l__law_stream : Dq.Del := ⟨["script"], own, cls⟩
def p__law_stream : List PySem.Str := ["script"]
def l__law_draw : Dq.Del := ⟨["stream", "many", "mixed", "cell", "digit"], own, cls⟩
def p__law_draw : List PySem.Str := ["stream", "many"]
def l__law_pick : Dq.Del := ⟨["stream", "things"], own, cls⟩
def p__law_pick : List PySem.Str := ["stream", "things"]
def l__law_same : Dq.Del := ⟨["found", "due", "mine", "theirs"], own, cls⟩
def p__law_same : List PySem.Str := ["found", "due"]
def l__law_w_number : Dq.Del := ⟨["stream", "deep", "way", "some", "op"], own, cls⟩
def p__law_w_number : List PySem.Str := ["stream", "deep"]
def l__law_w_listed : Dq.Del := ⟨["stream", "deep", "k", "many", "found"], own, cls⟩
def p__law_w_listed : List PySem.Str := ["stream", "deep"]
def l__law_w_index : Dq.Del := ⟨["stream", "some", "way"], own, cls⟩
def p__law_w_index : List PySem.Str := ["stream", "some"]
def l__law_w_rows : Dq.Del := ⟨["stream", "deep", "found", "k", "way", "some", "body", "step", "asked", "other"], own, cls⟩
def p__law_w_rows : List PySem.Str := ["stream", "deep"]
def l__law_w_placed : Dq.Del := ⟨["rows", "at", "row"], own, cls⟩
def p__law_w_placed : List PySem.Str := ["rows"]
def l__law_w_codes : Dq.Del := ⟨["stream", "body", "step", "asked", "ahead", "rows", "small", "found", "name", "params", "names", "own", "named", "first", "other", "row", "at"], own, cls⟩
def p__law_w_codes : List PySem.Str := ["stream"]
def l__law_b_is_name : Dq.Del := ⟨["thing", "sign"], own, cls⟩
def p__law_b_is_name : List PySem.Str := ["thing"]
def l__law_x_shapes : Dq.Del := ⟨["found", "word"], own, cls⟩
def p__law_x_shapes : List PySem.Str := []
def l__law_x_is_digits : Dq.Del := ⟨["mark", "sign"], own, cls⟩
def p__law_x_is_digits : List PySem.Str := ["mark"]
def l__law_x_number : Dq.Del := ⟨["mark", "least", "below"], own, cls⟩
def p__law_x_number : List PySem.Str := ["mark", "least", "below"]
def l__law_x_integer : Dq.Del := ⟨["mark", "own"], own, cls⟩
def p__law_x_integer : List PySem.Str := ["mark"]
def l__law_x_at : Dq.Del := ⟨["marks", "at"], own, cls⟩
def p__law_x_at : List PySem.Str := ["marks", "at"]
def l__law_x_changed : Dq.Del := ⟨["stream", "marks", "some", "other", "at", "way"], own, cls⟩
def p__law_x_changed : List PySem.Str := ["stream", "marks", "some"]
def l__law_x_code_marks : Dq.Del := ⟨["codes", "found", "name", "params", "names", "rows", "places", "row", "place", "part"], own, cls⟩
def p__law_x_code_marks : List PySem.Str := ["codes"]
def l__law_x_take : Dq.Del := ⟨["way", "is_right", "mark"], own, cls⟩
def p__law_x_take : List PySem.Str := ["way", "is_right"]
def l__law_x_next : Dq.Del := ⟨["way"], own, cls⟩
def p__law_x_next : List PySem.Str := ["way"]
def l__law_x_told : Dq.Del := ⟨["way", "found"], own, cls⟩
def p__law_x_told : List PySem.Str := ["way", "found"]
def l__law_x_count : Dq.Del := ⟨["way", "least", "below"], own, cls⟩
def p__law_x_count : List PySem.Str := ["way", "least", "below"]
def l__law_met : Dq.Del := ⟨["ask", "e"], own, cls⟩
def p__law_met : List PySem.Str := ["ask"]
def l__law_part : Dq.Del := ⟨["way", "sort"], own, cls⟩
def p__law_part : List PySem.Str := ["way", "sort"]
def l__law_due : Dq.Del := ⟨["marks", "way", "found", "shapes", "name", "params", "names", "rows", "places", "line", "word", "sort"], own, cls⟩
def p__law_due : List PySem.Str := ["marks"]
def l_law : Dq.Del := ⟨["script", "stream", "some", "turn", "found", "marks", "k", "changed", "joined", "due"], own, cls⟩
def p_law : List PySem.Str := ["script"]

def i_is_name : Dq.CSs := (.cons (.ifs (.or (.cmp .IsNot (.bf .type (.cons (.var 0) .nil)) (.ty "str")) (.or (.nt (.chain .LtE .LtE (.int 1) (.bf .len (.cons (.var 0) .nil)) (.int 16))) (.or (.cmp .In (.var 0) (.glob "WORDS")) (.cmp .NotIn (.ix (.var 0) (.int 0)) (.glob "LETTERS"))))) (.cons (.ret (.bl false)) .nil) .nil) (.cons (.ret (.bf .all (.cons (.lc [1] (.nm 1) (.val (.var 0)) .no (.or (.cmp .In (.var 1) (.glob "LETTERS")) (.cmp .In (.var 1) (.glob "FIGURES")))) .nil))) .nil))
theorem c_is_name : Dq.cSs l_is_name 60 (defScope s_is_name) (defBody s_is_name) = some i_is_name := by kernel_rfl
def i_BadMark_init : Dq.CSs := (.cons (.fld (.var 0) "index" (.var 1)) .nil)
theorem c_BadMark_init : Dq.cSs l_BadMark_init 60 (defScope s_BadMark_init) (defBody s_BadMark_init) = some i_BadMark_init := by kernel_rfl
def i_is_digits : Dq.CSs := (.cons (.ret (.and (.cmp .NotEq (.var 0) (.str "")) (.and (.bf .all (.cons (.lc [1] (.nm 1) (.val (.var 0)) .no (.cmp .In (.var 1) (.glob "DIGITS"))) .nil)) (.or (.cmp .Eq (.var 0) (.str "0")) (.cmp .NotEq (.ix (.var 0) (.int 0)) (.str "0")))))) .nil)
theorem c_is_digits : Dq.cSs l_is_digits 60 (defScope s_is_digits) (defBody s_is_digits) = some i_is_digits := by kernel_rfl
def i_whole_of : Dq.CSs := (.cons (.par2 1 2 (.bm .lstrip (.var 0) (.cons (.str "-") .nil)) (.int 0)) (.cons (.whl (.tr (.var 1)) (.cons (.par2 3 1 (.sl (.var 1) .no (.some (.int 1000))) (.sl (.var 1) (.some (.int 1000)) .no)) (.cons (.set 2 (.bin .Add (.bin .Mult (.var 2) (.bf .int (.cons (.bin .Add (.str "1") (.bin .Mult (.str "0") (.bf .len (.cons (.var 3) .nil)))) .nil))) (.bf .int (.cons (.var 3) .nil)))) .nil))) (.cons (.ret (.ifx (.cmp .Eq (.sl (.var 0) .no (.some (.int 1))) (.str "-")) (.neg (.var 2)) (.var 2))) .nil)))
theorem c_whole_of : Dq.cSs l_whole_of 60 (defScope s_whole_of) (defBody s_whole_of) = some i_whole_of := by kernel_rfl
def i_LineMarks_mark : Dq.CSs := (.cons (.ret (.ifx (.cmp .Lt (.fld (.var 0) "at") (.bf .len (.cons (.fld (.var 0) "marks") .nil))) (.ix (.fld (.var 0) "marks") (.fld (.var 0) "at")) (.str ""))) .nil)
theorem c_LineMarks_mark : Dq.cSs l_LineMarks_mark 60 (defScope s_LineMarks_mark) (defBody s_LineMarks_mark) = some i_LineMarks_mark := by kernel_rfl
def i_LineMarks_take : Dq.CSs := (.cons (.set 2 (.me (.var 0) "mark" .nil)) (.cons (.ifs (.or (.cmp .Eq (.var 2) (.str "")) (.nt (.tr (.var 1)))) (.cons (.raise "BadMark" (.cons (.fld (.var 0) "at") .nil)) .nil) .nil) (.cons (.fldA (.var 0) "at" .Add (.int 1)) (.cons (.ret (.var 2)) .nil))))
theorem c_LineMarks_take : Dq.cSs l_LineMarks_take 60 (defScope s_LineMarks_take) (defBody s_LineMarks_take) = some i_LineMarks_take := by kernel_rfl
def i_LineMarks_take_mark : Dq.CSs := (.cons (.expr (.me (.var 0) "take" (.cons (.cmp .Eq (.me (.var 0) "mark" .nil) (.var 1)) .nil))) .nil)
theorem c_LineMarks_take_mark : Dq.cSs l_LineMarks_take_mark 60 (defScope s_LineMarks_take_mark) (defBody s_LineMarks_take_mark) = some i_LineMarks_take_mark := by kernel_rfl
def i_LineMarks_number : Dq.CSs := (.cons (.set 3 (.me (.var 0) "mark" .nil)) (.cons (.set 4 (.and (.call "is_digits" (.cons (.var 3) .nil)) (.cmp .GtE (.call "whole_of" (.cons (.var 3) .nil)) (.var 1)))) (.cons (.ret (.call "whole_of" (.cons (.me (.var 0) "take" (.cons (.and (.var 4) (.or (.cmp .Is (.var 2) .non) (.cmp .Lt (.call "whole_of" (.cons (.var 3) .nil)) (.var 2)))) .nil)) .nil))) .nil)))
theorem c_LineMarks_number : Dq.cSs l_LineMarks_number 60 (defScope s_LineMarks_number) (defBody s_LineMarks_number) = some i_LineMarks_number := by kernel_rfl
def i_LineMarks_integer : Dq.CSs := (.cons (.set 1 (.me (.var 0) "mark" .nil)) (.cons (.set 2 (.or (.call "is_digits" (.cons (.var 1) .nil)) (.and (.cmp .Eq (.sl (.var 1) .no (.some (.int 1))) (.str "-")) (.and (.call "is_digits" (.cons (.sl (.var 1) (.some (.int 1)) .no) .nil)) (.cmp .NotEq (.var 1) (.str "-0")))))) (.cons (.ret (.call "whole_of" (.cons (.me (.var 0) "take" (.cons (.and (.var 2) (.chain .LtE .LtE (.glob "LEAST") (.call "whole_of" (.cons (.var 1) .nil)) (.glob "GREATEST"))) .nil)) .nil))) .nil)))
theorem c_LineMarks_integer : Dq.cSs l_LineMarks_integer 60 (defScope s_LineMarks_integer) (defBody s_LineMarks_integer) = some i_LineMarks_integer := by kernel_rfl
def i_LineMarks_name : Dq.CSs := (.cons (.ret (.me (.var 0) "take" (.cons (.and (.call "is_name" (.cons (.me (.var 0) "mark" .nil) .nil)) (.cmp .NotIn (.me (.var 0) "mark" .nil) (.var 1))) .nil))) .nil)
theorem c_LineMarks_name : Dq.cSs l_LineMarks_name 60 (defScope s_LineMarks_name) (defBody s_LineMarks_name) = some i_LineMarks_name := by kernel_rfl
def i_LineMarks_end : Dq.CSs := (.cons (.expr (.call "_wall" (.cons (.int 0) .nil))) .nil)
theorem c_LineMarks_end : Dq.cSs l_LineMarks_end 60 (defScope s_LineMarks_end) (defBody s_LineMarks_end) = some i_LineMarks_end := by kernel_rfl
def i_take_part : Dq.CSs := (.cons (.ifs (.cmp .Eq (.var 1) (.str "n")) (.cons (.ret (.me (.var 0) "integer" .nil)) .nil) .nil) (.cons (.ifs (.cmp .Eq (.var 1) (.str "i")) (.cons (.ret (.me (.var 0) "number" (.cons (.int 0) (.cons .non .nil)))) .nil) .nil) (.cons (.ifs (.cmp .Eq (.var 1) (.str "s")) (.cons (.ret (.me (.var 0) "name" (.cons (.tup .nil) .nil))) .nil) .nil) (.cons (.ret (.me (.var 0) "take" (.cons (.cmp .In (.me (.var 0) "mark" .nil) (.ifx (.cmp .Eq (.var 1) (.str "o")) (.tup (.cons (.str "-") (.cons (.str "not") .nil))) (.sl (.glob "TWOS") .no (.some (.int 9))))) .nil))) .nil))))
theorem c_take_part : Dq.cSs l_take_part 60 (defScope s_take_part) (defBody s_take_part) = some i_take_part := by kernel_rfl
def i_take_names_0 : Dq.CS := (.set 2 (.lst .nil))
def i_take_names_1a_0 : Dq.CS := (.expr (.bm .append (.var 2) (.cons (.me (.var 0) "name" (.cons (.var 2) .nil)) .nil)))
def i_take_names_1a : Dq.CSs := (.cons i_take_names_1a_0 .nil)
def i_take_names_1 : Dq.CS := (.whl (.or (.cmp .Lt (.bf .len (.cons (.var 2) .nil)) (.var 1)) (.cmp .NotEq (.me (.var 0) "mark" .nil) (.str ";"))) i_take_names_1a)
def i_take_names_2 : Dq.CS := (.expr (.me (.var 0) "take_mark" (.cons (.str ";") .nil)))
def i_take_names_3 : Dq.CS := (.ret (.var 2))
def i_take_names : Dq.CSs := (.cons i_take_names_0 (.cons i_take_names_1 (.cons i_take_names_2 (.cons i_take_names_3 .nil))))
theorem c_take_names : Dq.cSs l_take_names 60 (defScope s_take_names) (defBody s_take_names) = some i_take_names := by kernel_rfl
def i_take_rows_0 : Dq.CS := (.par2 1 2 (.lst .nil) (.lst .nil))
def i_take_rows_1a_0 : Dq.CS := (.set 3 (.me (.var 0) "number" (.cons (.int 1) (.cons .non .nil))))
def i_take_rows_1a_1 : Dq.CS := (.expr (.bm .append (.var 2) (.cons (.tup (.cons (.var 3) (.cons (.me (.var 0) "number" (.cons (.int 1) (.cons .non .nil))) .nil))) .nil)))
def i_take_rows_1a_2 : Dq.CS := (.set 4 (.me (.var 0) "take" (.cons (.cmp .In (.me (.var 0) "mark" .nil) (.glob "SHAPES")) .nil)))
def i_take_rows_1a_3 : Dq.CS := (.expr (.bm .append (.var 1) (.cons (.bin .Add (.tup (.cons (.var 4) .nil)) (.bf .tuple (.cons (.lc [5] (.nm 5) (.val (.ix (.glob "SHAPES") (.var 4))) .no (.call "take_part" (.cons (.var 0) (.cons (.var 5) .nil)))) .nil))) .nil)))
def i_take_rows_1a : Dq.CSs := (.cons i_take_rows_1a_0 (.cons i_take_rows_1a_1 (.cons i_take_rows_1a_2 (.cons i_take_rows_1a_3 .nil))))
def i_take_rows_1 : Dq.CS := (.whl (.or (.nt (.tr (.var 1))) (.cmp .NotEq (.me (.var 0) "mark" .nil) (.str "End"))) i_take_rows_1a)
def i_take_rows_2 : Dq.CS := (.expr (.me (.var 0) "take_mark" (.cons (.str "End") .nil)))
def i_take_rows_3 : Dq.CS := (.ret (.tup (.cons (.var 1) (.cons (.var 2) .nil))))
def i_take_rows : Dq.CSs := (.cons i_take_rows_0 (.cons i_take_rows_1 (.cons i_take_rows_2 (.cons i_take_rows_3 .nil))))
theorem c_take_rows : Dq.cSs l_take_rows 60 (defScope s_take_rows) (defBody s_take_rows) = some i_take_rows := by kernel_rfl
def i_read_codes_0 : Dq.CS := (.par2 1 2 (.mk "LineMarks" (.cons (.var 0) .nil)) (.dict .nil))
def i_read_codes_1a_0 : Dq.CS := (.expr (.me (.var 1) "take_mark" (.cons (.str "Code") .nil)))
def i_read_codes_1a_1 : Dq.CS := (.set 3 (.me (.var 1) "name" (.cons (.var 2) .nil)))
def i_read_codes_1a_2 : Dq.CS := (.set 4 (.me (.var 1) "number" (.cons (.int 0) (.cons .non .nil))))
def i_read_codes_1a_3 : Dq.CS := (.set 5 (.call "take_names" (.cons (.var 1) (.cons (.var 4) .nil))))
def i_read_codes_1a_4 : Dq.CS := (.unp (.tup (.cons (.nm 6) (.cons (.nm 7) .nil))) (.call "take_rows" (.cons (.var 1) .nil)))
def i_read_codes_1a_5 : Dq.CS := (.ixs (.var 2) (.var 3) (.tup (.cons (.var 4) (.cons (.var 5) (.cons (.var 6) (.cons (.var 7) .nil))))))
def i_read_codes_1a : Dq.CSs := (.cons i_read_codes_1a_0 (.cons i_read_codes_1a_1 (.cons i_read_codes_1a_2 (.cons i_read_codes_1a_3 (.cons i_read_codes_1a_4 (.cons i_read_codes_1a_5 .nil))))))
def i_read_codes_1 : Dq.CS := (.whl (.cmp .NotEq (.me (.var 1) "mark" .nil) (.str "")) i_read_codes_1a)
def i_read_codes_2 : Dq.CS := (.ret (.var 2))
def i_read_codes : Dq.CSs := (.cons i_read_codes_0 (.cons i_read_codes_1 (.cons i_read_codes_2 .nil)))
theorem c_read_codes : Dq.cSs l_read_codes 60 (defScope s_read_codes) (defBody s_read_codes) = some i_read_codes := by kernel_rfl
def i__law_stream : Dq.CSs := (.cons (.ret (.lst (.cons (.bf .list (.cons (.var 0) .nil)) (.cons (.int 0) (.cons (.int 0) (.cons (.int 17) .nil)))))) .nil)
theorem c__law_stream : Dq.cSs l__law_stream 60 (defScope s__law_stream) (defBody s__law_stream) = some i__law_stream := by kernel_rfl
def i__law_draw_0 : Dq.CS := (.ixs (.var 0) (.int 2) (.bin .Add (.ix (.var 0) (.int 2)) (.int 1)))
def i__law_draw_1a_0 : Dq.CS := (.set 3 (.bf .abs (.cons (.bm .pop (.ix (.var 0) (.int 0)) (.cons (.int 0) .nil)) .nil)))
def i__law_draw_1a_1 : Dq.CS := (.ixs (.var 0) (.int 3) (.bin .Mod (.bf .int (.cons (.bin .Add (.bin .Add (.bin .Mult (.ix (.var 0) (.int 3)) (.int 8191)) (.var 3)) (.int 3)) .nil)) (.int 2147483647)))
def i__law_draw_1a_2 : Dq.CS := (.ixs (.var 0) (.int 1) (.ifx (.cmp .GtE (.var 3) (.bin .Pow (.int 10) (.int 18))) (.var 3) (.int 0)))
def i__law_draw_1a : Dq.CSs := (.cons i__law_draw_1a_0 (.cons i__law_draw_1a_1 (.cons i__law_draw_1a_2 .nil)))
def i__law_draw_1 : Dq.CS := (.whl (.and (.cmp .Eq (.ix (.var 0) (.int 1)) (.int 0)) (.cmp .NotEq (.ix (.var 0) (.int 0)) (.lst .nil))) i__law_draw_1a)
def i__law_draw_2a_0 : Dq.CS := (.set 4 (.bin .Mod (.bf .int (.cons (.ix (.var 0) (.int 1)) .nil)) (.var 1)))
def i__law_draw_2a_1 : Dq.CS := (.ixs (.var 0) (.int 1) (.bin .FloorDiv (.ix (.var 0) (.int 1)) (.var 1)))
def i__law_draw_2a_2 : Dq.CS := (.ret (.var 4))
def i__law_draw_2a : Dq.CSs := (.cons i__law_draw_2a_0 (.cons i__law_draw_2a_1 (.cons i__law_draw_2a_2 .nil)))
def i__law_draw_2 : Dq.CS := (.ifs (.cmp .Gt (.ix (.var 0) (.int 1)) (.int 0)) i__law_draw_2a .nil)
def i__law_draw_3 : Dq.CS := (.set 2 (.bin .Mod (.bf .int (.cons (.bin .Pow (.bin .Add (.bin .Add (.ix (.var 0) (.int 3)) (.bin .Mult (.int 7919) (.ix (.var 0) (.int 2)))) (.int 104729)) (.int 5)) .nil)) (.int 2147483629)))
def i__law_draw_4 : Dq.CS := (.ret (.bin .Mod (.bin .Mod (.bf .int (.cons (.bin .Pow (.bin .Add (.bin .Add (.bin .Mult (.var 2) (.int 48271)) (.bin .Mult (.int 30011) (.ix (.var 0) (.int 2)))) (.int 29)) (.int 3)) .nil)) (.int 1000000007)) (.var 1)))
def i__law_draw : Dq.CSs := (.cons i__law_draw_0 (.cons i__law_draw_1 (.cons i__law_draw_2 (.cons i__law_draw_3 (.cons i__law_draw_4 .nil)))))
theorem c__law_draw : Dq.cSs l__law_draw 60 (defScope s__law_draw) (defBody s__law_draw) = some i__law_draw := by kernel_rfl
def i__law_pick : Dq.CSs := (.cons (.ret (.ix (.var 1) (.call "_law_draw" (.cons (.var 0) (.cons (.bf .len (.cons (.var 1) .nil)) .nil))))) .nil)
theorem c__law_pick : Dq.cSs l__law_pick 60 (defScope s__law_pick) (defBody s__law_pick) = some i__law_pick := by kernel_rfl
def i__law_same_0a_0a_0 : Dq.CS := (.ret (.bl false))
def i__law_same_0a_0a : Dq.CSs := (.cons i__law_same_0a_0a_0 .nil)
def i__law_same_0a_0 : Dq.CS := (.ifs (.or (.cmp .NotEq (.bf .isi (.cons (.var 0) (.cons (.ty "list") .nil))) (.bf .isi (.cons (.var 1) (.cons (.ty "list") .nil)))) (.cmp .NotEq (.bf .isi (.cons (.var 0) (.cons (.ty "tuple") .nil))) (.bf .isi (.cons (.var 1) (.cons (.ty "tuple") .nil))))) i__law_same_0a_0a .nil)
def i__law_same_0a_1 : Dq.CS := (.ret (.and (.cmp .Eq (.bf .len (.cons (.var 0) .nil)) (.bf .len (.cons (.var 1) .nil))) (.bf .all (.cons (.lc [2, 3] (.tup (.cons (.nm 2) (.cons (.nm 3) .nil))) (.zip (.var 0) (.var 1)) .no (.call "_law_same" (.cons (.var 2) (.cons (.var 3) .nil)))) .nil))))
def i__law_same_0a : Dq.CSs := (.cons i__law_same_0a_0 (.cons i__law_same_0a_1 .nil))
def i__law_same_0 : Dq.CS := (.ifs (.tr (.bf .isi (.cons (.var 1) (.cons (.tup (.cons (.ty "list") (.cons (.ty "tuple") .nil))) .nil)))) i__law_same_0a .nil)
def i__law_same_1a_0 : Dq.CS := (.ret (.and (.bf .isi (.cons (.var 0) (.cons (.ty "dict") .nil))) (.call "_law_same" (.cons (.items (.var 0)) (.cons (.items (.var 1)) .nil)))))
def i__law_same_1a : Dq.CSs := (.cons i__law_same_1a_0 .nil)
def i__law_same_1 : Dq.CS := (.ifs (.tr (.bf .isi (.cons (.var 1) (.cons (.ty "dict") .nil)))) i__law_same_1a .nil)
def i__law_same_2a_0 : Dq.CS := (.ret (.and (.bf .isi (.cons (.var 1) (.cons (.ty "bool") .nil))) (.and (.bf .isi (.cons (.var 0) (.cons (.ty "bool") .nil))) (.cmp .Eq (.var 0) (.var 1)))))
def i__law_same_2a : Dq.CSs := (.cons i__law_same_2a_0 .nil)
def i__law_same_2 : Dq.CS := (.ifs (.or (.tr (.bf .isi (.cons (.var 1) (.cons (.ty "bool") .nil)))) (.tr (.bf .isi (.cons (.var 0) (.cons (.ty "bool") .nil))))) i__law_same_2a .nil)
def i__law_same_3a_0 : Dq.CS := (.ret (.and (.cmp .Is (.var 1) .non) (.cmp .Is (.var 0) .non)))
def i__law_same_3a : Dq.CSs := (.cons i__law_same_3a_0 .nil)
def i__law_same_3 : Dq.CS := (.ifs (.or (.cmp .Is (.var 1) .non) (.cmp .Is (.var 0) .non)) i__law_same_3a .nil)
def i__law_same_4a_0 : Dq.CS := (.ret (.bl false))
def i__law_same_4a : Dq.CSs := (.cons i__law_same_4a_0 .nil)
def i__law_same_4 : Dq.CS := (.ifs (.or (.cmp .NotEq (.bf .isi (.cons (.var 1) (.cons (.ty "int") .nil))) (.bf .isi (.cons (.var 0) (.cons (.ty "int") .nil)))) (.cmp .NotEq (.bf .isi (.cons (.var 1) (.cons (.ty "str") .nil))) (.bf .isi (.cons (.var 0) (.cons (.ty "str") .nil))))) i__law_same_4a .nil)
def i__law_same_5 : Dq.CS := (.ret (.and (.nt (.bf .isi (.cons (.var 0) (.cons (.tup (.cons (.ty "list") (.cons (.ty "tuple") (.cons (.ty "dict") .nil)))) .nil)))) (.cmp .Eq (.var 0) (.var 1))))
def i__law_same : Dq.CSs := (.cons i__law_same_0 (.cons i__law_same_1 (.cons i__law_same_2 (.cons i__law_same_3 (.cons i__law_same_4 (.cons i__law_same_5 .nil))))))
theorem c__law_same : Dq.cSs l__law_same 60 (defScope s__law_same) (defBody s__law_same) = some i__law_same := by kernel_rfl
def i__law_w_number_0 : Dq.CS := (.set 2 (.ifx (.cmp .Gt (.var 1) (.int 0)) (.call "_law_draw" (.cons (.var 0) (.cons (.int 11) .nil))) (.call "_law_draw" (.cons (.var 0) (.cons (.int 5) .nil)))))
def i__law_w_number_1a_0 : Dq.CS := (.ret (.lst (.cons (.tup (.cons (.str "push") (.cons (.call "_law_pick" (.cons (.var 0) (.cons (.lst (.cons (.int 0) (.cons (.int 1) (.cons (.int 1) (.cons (.int 2) (.cons (.int 3) (.cons (.int 7) (.cons (.int 2147483647) (.cons (.neg (.int 1)) .nil))))))))) .nil))) .nil))) .nil)))
def i__law_w_number_1a : Dq.CSs := (.cons i__law_w_number_1a_0 .nil)
def i__law_w_number_1 : Dq.CS := (.ifs (.cmp .Lt (.var 2) (.int 2)) i__law_w_number_1a .nil)
def i__law_w_number_2a_0 : Dq.CS := (.ret (.lst (.cons (.tup (.cons (.str "load") (.cons (.ifx (.cmp .Eq (.call "_law_draw" (.cons (.var 0) (.cons (.int 20) .nil))) (.int 0)) (.call "_law_pick" (.cons (.var 0) (.cons (.lst (.cons (.int 0) (.cons (.int 1) (.cons (.int 2) (.cons (.int 0) (.cons (.int 1) (.cons (.int 2) (.cons (.int 2) (.cons (.int 3) .nil))))))))) .nil))) (.call "_law_draw" (.cons (.var 0) (.cons (.int 3) .nil)))) .nil))) .nil)))
def i__law_w_number_2a : Dq.CSs := (.cons i__law_w_number_2a_0 .nil)
def i__law_w_number_2 : Dq.CS := (.ifs (.cmp .Lt (.var 2) (.int 5)) i__law_w_number_2a .nil)
def i__law_w_number_3a_0 : Dq.CS := (.set 4 (.call "_law_pick" (.cons (.var 0) (.cons (.lst (.cons (.str "+") (.cons (.str "-") (.cons (.str "+") (.cons (.str "-") (.cons (.str "*") (.cons (.str "/") (.cons (.str "rem") (.cons (.str "==") (.cons (.str "<") (.cons (.str "<=") .nil))))))))))) .nil))))
def i__law_w_number_3a_1 : Dq.CS := (.ret (.bin .Add (.bin .Add (.call "_law_w_number" (.cons (.var 0) (.cons (.bin .Sub (.var 1) (.int 1)) .nil))) (.call "_law_w_number" (.cons (.var 0) (.cons (.bin .Sub (.var 1) (.int 1)) .nil)))) (.lst (.cons (.tup (.cons (.str "two") (.cons (.var 4) .nil))) .nil))))
def i__law_w_number_3a : Dq.CSs := (.cons i__law_w_number_3a_0 (.cons i__law_w_number_3a_1 .nil))
def i__law_w_number_3 : Dq.CS := (.ifs (.cmp .Lt (.var 2) (.int 8)) i__law_w_number_3a .nil)
def i__law_w_number_4a_0 : Dq.CS := (.ret (.bin .Add (.call "_law_w_number" (.cons (.var 0) (.cons (.bin .Sub (.var 1) (.int 1)) .nil))) (.lst (.cons (.call "_law_pick" (.cons (.var 0) (.cons (.lst (.cons (.tup (.cons (.str "one") (.cons (.str "-") .nil))) (.cons (.tup (.cons (.str "one") (.cons (.str "not") .nil))) (.cons (.tup (.cons (.str "truth") .nil)) .nil)))) .nil))) .nil))))
def i__law_w_number_4a : Dq.CSs := (.cons i__law_w_number_4a_0 .nil)
def i__law_w_number_4 : Dq.CS := (.ifs (.cmp .Eq (.var 2) (.int 8)) i__law_w_number_4a .nil)
def i__law_w_number_5 : Dq.CS := (.set 3 (.call "_law_w_listed" (.cons (.var 0) (.cons (.bin .Sub (.var 1) (.int 1)) .nil))))
def i__law_w_number_6a_0 : Dq.CS := (.ret (.bin .Add (.bin .Add (.var 3) (.call "_law_w_index" (.cons (.var 0) (.cons (.var 3) .nil)))) (.lst (.cons (.tup (.cons (.str "get") .nil)) .nil))))
def i__law_w_number_6a : Dq.CSs := (.cons i__law_w_number_6a_0 .nil)
def i__law_w_number_6 : Dq.CS := (.ifs (.cmp .Eq (.var 2) (.int 9)) i__law_w_number_6a .nil)
def i__law_w_number_7 : Dq.CS := (.ret (.ifx (.cmp .Eq (.call "_law_draw" (.cons (.var 0) (.cons (.int 2) .nil))) (.int 0)) (.bin .Add (.var 3) (.lst (.cons (.tup (.cons (.str "len") .nil)) .nil))) (.bin .Add (.bin .Add (.call "_law_w_number" (.cons (.var 0) (.cons (.bin .Sub (.var 1) (.int 1)) .nil))) (.var 3)) (.lst (.cons (.tup (.cons (.str "call") (.cons (.str "gg") (.cons (.int 2) .nil)))) .nil)))))
def i__law_w_number : Dq.CSs := (.cons i__law_w_number_0 (.cons i__law_w_number_1 (.cons i__law_w_number_2 (.cons i__law_w_number_3 (.cons i__law_w_number_4 (.cons i__law_w_number_5 (.cons i__law_w_number_6 (.cons i__law_w_number_7 .nil))))))))
theorem c__law_w_number : Dq.cSs l__law_w_number 60 (defScope s__law_w_number) (defBody s__law_w_number) = some i__law_w_number := by kernel_rfl
def i__law_w_listed : Dq.CSs := (.cons (.ifs (.or (.cmp .Gt (.call "_law_draw" (.cons (.var 0) (.cons (.int 4) .nil))) (.int 0)) (.cmp .Lt (.var 1) (.int 1))) (.cons (.ret (.lst (.cons (.tup (.cons (.str "load") (.cons (.bin .Add (.int 3) (.call "_law_draw" (.cons (.var 0) (.cons (.int 2) .nil)))) .nil))) .nil))) .nil) .nil) (.cons (.par2 3 4 (.bin .Add (.int 1) (.call "_law_draw" (.cons (.var 0) (.cons (.int 3) .nil)))) (.lst .nil)) (.cons (.for_ (.nm 2) (.rng (.var 3)) (.cons (.set 4 (.bin .Add (.var 4) (.call "_law_w_number" (.cons (.var 0) (.cons (.int 0) .nil))))) .nil)) (.cons (.ret (.bin .Add (.var 4) (.lst (.cons (.tup (.cons (.str "list") (.cons (.var 3) .nil))) .nil)))) .nil))))
theorem c__law_w_listed : Dq.cSs l__law_w_listed 60 (defScope s__law_w_listed) (defBody s__law_w_listed) = some i__law_w_listed := by kernel_rfl
def i__law_w_index : Dq.CSs := (.cons (.set 2 (.call "_law_draw" (.cons (.var 0) (.cons (.int 5) .nil)))) (.cons (.ifs (.cmp .Lt (.var 2) (.int 2)) (.cons (.ret (.lst (.cons (.tup (.cons (.str "push") (.cons (.call "_law_draw" (.cons (.var 0) (.cons (.int 2) .nil))) .nil))) .nil))) .nil) .nil) (.cons (.ret (.ifx (.cmp .Eq (.var 2) (.int 2)) (.call "_law_w_number" (.cons (.var 0) (.cons (.int 0) .nil))) (.bin .Add (.bin .Add (.lst (.cons (.tup (.cons (.str "load") (.cons (.call "_law_draw" (.cons (.var 0) (.cons (.int 3) .nil))) .nil))) .nil)) (.var 1)) (.lst (.cons (.tup (.cons (.str "len") .nil)) (.cons (.tup (.cons (.str "two") (.cons (.str "rem") .nil))) .nil)))))) .nil)))
theorem c__law_w_index : Dq.cSs l__law_w_index 60 (defScope s__law_w_index) (defBody s__law_w_index) = some i__law_w_index := by kernel_rfl
def i__law_w_rows_0 : Dq.CS := (.set 2 (.lst .nil))
def i__law_w_rows_1a_0 : Dq.CS := (.set 4 (.call "_law_draw" (.cons (.var 0) (.cons (.ifx (.cmp .Gt (.var 1) (.int 0)) (.int 9) (.int 6)) .nil))))
def i__law_w_rows_1a_1a_0 : Dq.CS := (.set 2 (.bin .Add (.bin .Add (.var 2) (.call "_law_w_number" (.cons (.var 0) (.cons (.int 2) .nil)))) (.lst (.cons (.tup (.cons (.str "store") (.cons (.call "_law_draw" (.cons (.var 0) (.cons (.int 2) .nil))) .nil))) .nil))))
def i__law_w_rows_1a_1a : Dq.CSs := (.cons i__law_w_rows_1a_1a_0 .nil)
def i__law_w_rows_1a_1b_0a_0 : Dq.CS := (.set 2 (.bin .Add (.bin .Add (.var 2) (.ifx (.cmp .Gt (.call "_law_draw" (.cons (.var 0) (.cons (.int 3) .nil))) (.int 0)) (.call "_law_w_number" (.cons (.var 0) (.cons (.int 1) .nil))) (.call "_law_w_listed" (.cons (.var 0) (.cons (.int 1) .nil))))) (.lst (.cons (.tup (.cons (.str "print") .nil)) .nil))))
def i__law_w_rows_1a_1b_0a : Dq.CSs := (.cons i__law_w_rows_1a_1b_0a_0 .nil)
def i__law_w_rows_1a_1b_0b_0a_0 : Dq.CS := (.set 5 (.call "_law_w_listed" (.cons (.var 0) (.cons (.int 1) .nil))))
def i__law_w_rows_1a_1b_0b_0a_1 : Dq.CS := (.set 2 (.bin .Add (.bin .Add (.bin .Add (.bin .Add (.var 2) (.var 5)) (.call "_law_w_index" (.cons (.var 0) (.cons (.var 5) .nil)))) (.call "_law_w_number" (.cons (.var 0) (.cons (.int 1) .nil)))) (.lst (.cons (.tup (.cons (.str "set") .nil)) .nil))))
def i__law_w_rows_1a_1b_0b_0a : Dq.CSs := (.cons i__law_w_rows_1a_1b_0b_0a_0 (.cons i__law_w_rows_1a_1b_0b_0a_1 .nil))
def i__law_w_rows_1a_1b_0b_0b_0a_0 : Dq.CS := (.set 2 (.bin .Add (.bin .Add (.var 2) (.call "_law_w_listed" (.cons (.var 0) (.cons (.int 2) .nil)))) (.lst (.cons (.tup (.cons (.str "store") (.cons (.bin .Add (.int 3) (.call "_law_draw" (.cons (.var 0) (.cons (.int 2) .nil)))) .nil))) .nil))))
def i__law_w_rows_1a_1b_0b_0b_0a : Dq.CSs := (.cons i__law_w_rows_1a_1b_0b_0b_0a_0 .nil)
def i__law_w_rows_1a_1b_0b_0b_0b_0a_0 : Dq.CS := (.set 2 (.bin .Add (.bin .Add (.var 2) (.call "_law_w_number" (.cons (.var 0) (.cons (.int 1) .nil)))) (.lst (.cons (.tup (.cons (.str "drop") .nil)) .nil))))
def i__law_w_rows_1a_1b_0b_0b_0b_0a : Dq.CSs := (.cons i__law_w_rows_1a_1b_0b_0b_0b_0a_0 .nil)
def i__law_w_rows_1a_1b_0b_0b_0b_0b_0a_0 : Dq.CS := (.par2 6 9 (.call "_law_w_rows" (.cons (.var 0) (.cons (.bin .Sub (.var 1) (.int 1)) .nil))) (.call "_law_w_rows" (.cons (.var 0) (.cons (.int 0) .nil))))
def i__law_w_rows_1a_1b_0b_0b_0b_0b_0a_1 : Dq.CS := (.set 2 (.bin .Add (.bin .Add (.bin .Add (.bin .Add (.bin .Add (.var 2) (.call "_law_w_number" (.cons (.var 0) (.cons (.int 1) .nil)))) (.lst (.cons (.tup (.cons (.str "part") (.cons (.bin .Add (.bf .len (.cons (.var 6) .nil)) (.int 1)) .nil))) .nil))) (.var 6)) (.lst (.cons (.tup (.cons (.str "jump") (.cons (.bf .len (.cons (.var 9) .nil)) .nil))) .nil))) (.var 9)))
def i__law_w_rows_1a_1b_0b_0b_0b_0b_0a : Dq.CSs := (.cons i__law_w_rows_1a_1b_0b_0b_0b_0b_0a_0 (.cons i__law_w_rows_1a_1b_0b_0b_0b_0b_0a_1 .nil))
def i__law_w_rows_1a_1b_0b_0b_0b_0b_0b_0 : Dq.CS := (.set 6 (.call "_law_w_rows" (.cons (.var 0) (.cons (.int 0) .nil))))
def i__law_w_rows_1a_1b_0b_0b_0b_0b_0b_1 : Dq.CS := (.set 7 (.lst (.cons (.tup (.cons (.str "load") (.cons (.int 2) .nil))) (.cons (.tup (.cons (.str "push") (.cons (.int 1) .nil))) (.cons (.tup (.cons (.str "two") (.cons (.str "+") .nil))) (.cons (.tup (.cons (.str "store") (.cons (.int 2) .nil))) .nil))))))
def i__law_w_rows_1a_1b_0b_0b_0b_0b_0b_2 : Dq.CS := (.set 8 (.lst (.cons (.tup (.cons (.str "load") (.cons (.int 2) .nil))) (.cons (.tup (.cons (.str "push") (.cons (.bin .Add (.int 2) (.call "_law_draw" (.cons (.var 0) (.cons (.int 4) .nil)))) .nil))) (.cons (.tup (.cons (.str "two") (.cons (.str "<") .nil))) (.cons (.tup (.cons (.str "part") (.cons (.bin .Add (.bf .len (.cons (.var 6) .nil)) (.int 5)) .nil))) .nil))))))
def i__law_w_rows_1a_1b_0b_0b_0b_0b_0b_3 : Dq.CS := (.set 2 (.bin .Add (.bin .Add (.bin .Add (.bin .Add (.bin .Add (.var 2) (.lst (.cons (.tup (.cons (.str "head") (.cons (.int 1) .nil))) .nil))) (.var 8)) (.var 6)) (.var 7)) (.lst (.cons (.tup (.cons (.str "jump") (.cons (.bin .Sub (.bin .Sub (.int 0) (.bf .len (.cons (.var 6) .nil))) (.int 10)) .nil))) .nil))))
def i__law_w_rows_1a_1b_0b_0b_0b_0b_0b : Dq.CSs := (.cons i__law_w_rows_1a_1b_0b_0b_0b_0b_0b_0 (.cons i__law_w_rows_1a_1b_0b_0b_0b_0b_0b_1 (.cons i__law_w_rows_1a_1b_0b_0b_0b_0b_0b_2 (.cons i__law_w_rows_1a_1b_0b_0b_0b_0b_0b_3 .nil))))
def i__law_w_rows_1a_1b_0b_0b_0b_0b_0 : Dq.CS := (.ifs (.cmp .Lt (.var 4) (.int 8)) i__law_w_rows_1a_1b_0b_0b_0b_0b_0a i__law_w_rows_1a_1b_0b_0b_0b_0b_0b)
def i__law_w_rows_1a_1b_0b_0b_0b_0b : Dq.CSs := (.cons i__law_w_rows_1a_1b_0b_0b_0b_0b_0 .nil)
def i__law_w_rows_1a_1b_0b_0b_0b_0 : Dq.CS := (.ifs (.cmp .Eq (.var 4) (.int 5)) i__law_w_rows_1a_1b_0b_0b_0b_0a i__law_w_rows_1a_1b_0b_0b_0b_0b)
def i__law_w_rows_1a_1b_0b_0b_0b : Dq.CSs := (.cons i__law_w_rows_1a_1b_0b_0b_0b_0 .nil)
def i__law_w_rows_1a_1b_0b_0b_0 : Dq.CS := (.ifs (.cmp .Eq (.var 4) (.int 4)) i__law_w_rows_1a_1b_0b_0b_0a i__law_w_rows_1a_1b_0b_0b_0b)
def i__law_w_rows_1a_1b_0b_0b : Dq.CSs := (.cons i__law_w_rows_1a_1b_0b_0b_0 .nil)
def i__law_w_rows_1a_1b_0b_0 : Dq.CS := (.ifs (.cmp .Eq (.var 4) (.int 3)) i__law_w_rows_1a_1b_0b_0a i__law_w_rows_1a_1b_0b_0b)
def i__law_w_rows_1a_1b_0b : Dq.CSs := (.cons i__law_w_rows_1a_1b_0b_0 .nil)
def i__law_w_rows_1a_1b_0 : Dq.CS := (.ifs (.cmp .Eq (.var 4) (.int 2)) i__law_w_rows_1a_1b_0a i__law_w_rows_1a_1b_0b)
def i__law_w_rows_1a_1b : Dq.CSs := (.cons i__law_w_rows_1a_1b_0 .nil)
def i__law_w_rows_1a_1 : Dq.CS := (.ifs (.cmp .Lt (.var 4) (.int 2)) i__law_w_rows_1a_1a i__law_w_rows_1a_1b)
def i__law_w_rows_1a : Dq.CSs := (.cons i__law_w_rows_1a_0 (.cons i__law_w_rows_1a_1 .nil))
def i__law_w_rows_1 : Dq.CS := (.for_ (.nm 3) (.rng (.bin .Add (.int 1) (.call "_law_draw" (.cons (.var 0) (.cons (.int 3) .nil))))) i__law_w_rows_1a)
def i__law_w_rows_2 : Dq.CS := (.ret (.var 2))
def i__law_w_rows : Dq.CSs := (.cons i__law_w_rows_0 (.cons i__law_w_rows_1 (.cons i__law_w_rows_2 .nil)))
theorem c__law_w_rows : Dq.cSs l__law_w_rows 60 (defScope s__law_w_rows) (defBody s__law_w_rows) = some i__law_w_rows := by kernel_rfl
def i__law_w_placed : Dq.CSs := (.cons (.ret (.lc [1, 2] (.tup (.cons (.nm 1) (.cons (.nm 2) .nil))) (.enum (.var 0)) .no (.ifx (.cmp .In (.ix (.var 2) (.int 0)) (.tup (.cons (.str "jump") (.cons (.str "part") .nil)))) (.tup (.cons (.ix (.var 2) (.int 0)) (.cons (.bin .Add (.bin .Add (.var 1) (.int 1)) (.ix (.var 2) (.int 1))) .nil))) (.var 2)))) .nil)
theorem c__law_w_placed : Dq.cSs l__law_w_placed 60 (defScope s__law_w_placed) (defBody s__law_w_placed) = some i__law_w_placed := by kernel_rfl
def i__law_w_codes_0 : Dq.CS := (.set 1 (.call "_law_w_rows" (.cons (.var 0) (.cons (.int 1) .nil))))
def i__law_w_codes_1 : Dq.CS := (.set 2 (.lst (.cons (.tup (.cons (.str "load") (.cons (.int 2) .nil))) (.cons (.tup (.cons (.str "push") (.cons (.int 1) .nil))) (.cons (.tup (.cons (.str "two") (.cons (.str "+") .nil))) (.cons (.tup (.cons (.str "store") (.cons (.int 2) .nil))) .nil))))))
def i__law_w_codes_2 : Dq.CS := (.set 3 (.lst (.cons (.tup (.cons (.str "load") (.cons (.int 2) .nil))) (.cons (.tup (.cons (.str "push") (.cons (.bin .Add (.int 3) (.call "_law_draw" (.cons (.var 0) (.cons (.int 6) .nil)))) .nil))) (.cons (.tup (.cons (.str "two") (.cons (.str "<") .nil))) (.cons (.tup (.cons (.str "part") (.cons (.bin .Add (.bf .len (.cons (.var 1) .nil)) (.int 5)) .nil))) .nil))))))
def i__law_w_codes_3 : Dq.CS := (.set 4 (.lst (.cons (.tup (.cons (.str "push") (.cons (.int 0) .nil))) (.cons (.tup (.cons (.str "store") (.cons (.int 2) .nil))) (.cons (.tup (.cons (.str "load") (.cons (.int 0) .nil))) (.cons (.tup (.cons (.str "push") (.cons (.int 5) .nil))) (.cons (.tup (.cons (.str "list") (.cons (.int 2) .nil))) (.cons (.tup (.cons (.str "store") (.cons (.int 3) .nil))) (.cons (.tup (.cons (.str "load") (.cons (.call "_law_pick" (.cons (.var 0) (.cons (.lst (.cons (.int 3) (.cons (.int 3) (.cons (.int 3) (.cons (.int 4) .nil))))) .nil))) .nil))) (.cons (.tup (.cons (.str "store") (.cons (.int 4) .nil))) .nil))))))))))
def i__law_w_codes_4 : Dq.CS := (.set 5 (.bin .Add (.bin .Add (.bin .Add (.bin .Add (.bin .Add (.bin .Add (.bin .Add (.var 4) (.lst (.cons (.tup (.cons (.str "head") (.cons (.int 0) .nil))) .nil))) (.var 3)) (.var 1)) (.var 2)) (.lst (.cons (.tup (.cons (.str "jump") (.cons (.bin .Sub (.bin .Sub (.int 0) (.bf .len (.cons (.var 1) .nil))) (.int 10)) .nil))) .nil))) (.call "_law_w_number" (.cons (.var 0) (.cons (.int 1) .nil)))) (.lst (.cons (.tup (.cons (.str "give") .nil)) .nil))))
def i__law_w_codes_5 : Dq.CS := (.set 6 (.call "_law_pick" (.cons (.var 0) (.cons (.lst (.cons (.lst (.cons (.tup (.cons (.str "load") (.cons (.int 0) .nil))) (.cons (.tup (.cons (.str "push") (.cons (.int 1) .nil))) (.cons (.tup (.cons (.str "two") (.cons (.str "+") .nil))) (.cons (.tup (.cons (.str "give") .nil)) .nil))))) (.cons (.lst (.cons (.tup (.cons (.str "load") (.cons (.int 1) .nil))) (.cons (.tup (.cons (.str "push") (.cons (.int 0) .nil))) (.cons (.tup (.cons (.str "get") .nil)) (.cons (.tup (.cons (.str "load") (.cons (.int 2) .nil))) (.cons (.tup (.cons (.str "two") (.cons (.str "+") .nil))) (.cons (.tup (.cons (.str "give") .nil)) .nil))))))) .nil))) .nil))))
def i__law_w_codes_6 : Dq.CS := (.set 6 (.ifx (.cmp .Gt (.call "_law_draw" (.cons (.var 0) (.cons (.int 3) .nil))) (.int 0)) (.var 6) (.lst (.cons (.tup (.cons (.str "load") (.cons (.int 0) .nil))) (.cons (.tup (.cons (.str "part") (.cons (.int 2) .nil))) (.cons (.tup (.cons (.str "push") (.cons (.int 7) .nil))) (.cons (.tup (.cons (.str "give") .nil)) (.cons (.tup (.cons (.str "load") (.cons (.int 1) .nil))) (.cons (.tup (.cons (.str "len") .nil)) (.cons (.tup (.cons (.str "give") .nil)) .nil))))))))))
def i__law_w_codes_7 : Dq.CS := (.unp (.tup (.cons (.nm 7) (.cons (.tup (.cons (.nm 13) (.cons (.nm 14) .nil))) .nil))) (.tup (.cons (.dict .nil) (.cons (.call "_law_pick" (.cons (.var 0) (.cons (.lst (.cons (.tup (.cons (.str "f") (.cons (.str "gg") .nil))) (.cons (.tup (.cons (.str "main") (.cons (.str "aid") .nil))) (.cons (.tup (.cons (.str "loop") (.cons (.str "main") .nil))) (.cons (.tup (.cons (.str "a1") (.cons (.str "zz") .nil))) .nil))))) .nil))) .nil))))
def i__law_w_codes_8a_0 : Dq.CS := (.set 12 (.lc [15] (.nm 15) (.val (.var 11)) .no (.ifx (.cmp .Eq (.ix (.var 15) (.int 0)) (.str "call")) (.tup (.cons (.str "call") (.cons (.var 14) (.cons (.int 2) .nil)))) (.var 15))))
def i__law_w_codes_8a_1 : Dq.CS := (.ixs (.var 7) (.var 8) (.tup (.cons (.var 9) (.cons (.var 10) (.cons (.call "_law_w_placed" (.cons (.var 12) .nil)) (.cons (.lc [16] (.nm 16) (.rng (.bf .len (.cons (.var 11) .nil))) .no (.tup (.cons (.bin .Add (.int 1) (.bin .FloorDiv (.var 16) (.int 9))) (.cons (.bin .Add (.int 1) (.var 16)) .nil)))) .nil))))))
def i__law_w_codes_8a : Dq.CSs := (.cons i__law_w_codes_8a_0 (.cons i__law_w_codes_8a_1 .nil))
def i__law_w_codes_8 : Dq.CS := (.for_ (.tup (.cons (.nm 8) (.cons (.nm 9) (.cons (.nm 10) (.cons (.nm 11) .nil))))) (.val (.tup (.cons (.tup (.cons (.var 13) (.cons (.int 2) (.cons (.lst (.cons (.str "n") (.cons (.str "a") (.cons (.str "i") (.cons (.str "p") (.cons (.str "q") .nil)))))) (.cons (.var 5) .nil))))) (.cons (.tup (.cons (.var 14) (.cons (.int 2) (.cons (.lst (.cons (.str "x") (.cons (.str "p") (.cons (.str "y") .nil)))) (.cons (.var 6) .nil))))) .nil)))) i__law_w_codes_8a)
def i__law_w_codes_9 : Dq.CS := (.ret (.var 7))
def i__law_w_codes : Dq.CSs := (.cons i__law_w_codes_0 (.cons i__law_w_codes_1 (.cons i__law_w_codes_2 (.cons i__law_w_codes_3 (.cons i__law_w_codes_4 (.cons i__law_w_codes_5 (.cons i__law_w_codes_6 (.cons i__law_w_codes_7 (.cons i__law_w_codes_8 (.cons i__law_w_codes_9 .nil))))))))))
theorem c__law_w_codes : Dq.cSs l__law_w_codes 60 (defScope s__law_w_codes) (defBody s__law_w_codes) = some i__law_w_codes := by kernel_rfl
def i__law_b_is_name : Dq.CSs := (.cons (.ifs (.or (.nt (.tr (.bf .isi (.cons (.var 0) (.cons (.ty "str") .nil))))) (.or (.nt (.chain .LtE .LtE (.int 1) (.bf .len (.cons (.var 0) .nil)) (.int 16))) (.or (.cmp .In (.ix (.var 0) (.int 0)) (.str "0123456789")) (.cmp .In (.var 0) (.tup (.cons (.str "def") (.cons (.str "while") (.cons (.str "if") (.cons (.str "else") (.cons (.str "print") (.cons (.str "return") (.cons (.str "and") (.cons (.str "or") (.cons (.str "not") (.cons (.str "len") (.cons (.str "rem") .nil)))))))))))))))) (.cons (.ret (.bl false)) .nil) .nil) (.cons (.ret (.bf .all (.cons (.lc [1] (.nm 1) (.val (.var 0)) .no (.cmp .In (.var 1) (.str "abcdefghijklmnopqrstuvwxyz_0123456789"))) .nil))) .nil))
theorem c__law_b_is_name : Dq.cSs l__law_b_is_name 60 (defScope s__law_b_is_name) (defBody s__law_b_is_name) = some i__law_b_is_name := by kernel_rfl
def i__law_x_shapes : Dq.CSs := (.cons (.set 0 (.dict (.cons (.str "push") (.str "n") (.cons (.str "one") (.str "o") (.cons (.str "two") (.str "t") (.cons (.str "call") (.str "si") .nil)))))) (.cons (.for_ (.nm 1) (.val (.tup (.cons (.str "load") (.cons (.str "store") (.cons (.str "list") (.cons (.str "jump") (.cons (.str "part") (.cons (.str "head") .nil)))))))) (.cons (.ixs (.var 0) (.var 1) (.str "i")) .nil)) (.cons (.for_ (.nm 1) (.val (.tup (.cons (.str "drop") (.cons (.str "truth") (.cons (.str "get") (.cons (.str "set") (.cons (.str "len") (.cons (.str "print") (.cons (.str "give") .nil))))))))) (.cons (.ixs (.var 0) (.var 1) (.str "")) .nil)) (.cons (.ret (.var 0)) .nil))))
theorem c__law_x_shapes : Dq.cSs l__law_x_shapes 60 (defScope s__law_x_shapes) (defBody s__law_x_shapes) = some i__law_x_shapes := by kernel_rfl
def i__law_x_is_digits : Dq.CSs := (.cons (.ret (.and (.cmp .NotEq (.var 0) (.str "")) (.and (.bf .all (.cons (.lc [1] (.nm 1) (.val (.var 0)) .no (.cmp .In (.var 1) (.str "0123456789"))) .nil)) (.or (.cmp .Eq (.var 0) (.str "0")) (.cmp .NotEq (.ix (.var 0) (.int 0)) (.str "0")))))) .nil)
theorem c__law_x_is_digits : Dq.cSs l__law_x_is_digits 60 (defScope s__law_x_is_digits) (defBody s__law_x_is_digits) = some i__law_x_is_digits := by kernel_rfl
def i__law_x_number : Dq.CSs := (.cons (.ret (.ifx (.and (.tr (.call "_law_x_is_digits" (.cons (.var 0) .nil))) (.and (.cmp .GtE (.bf .int (.cons (.var 0) .nil)) (.var 1)) (.or (.cmp .Is (.var 2) .non) (.cmp .Lt (.bf .int (.cons (.var 0) .nil)) (.var 2))))) (.lst (.cons (.bf .int (.cons (.var 0) .nil)) .nil)) (.lst .nil))) .nil)
theorem c__law_x_number : Dq.cSs l__law_x_number 60 (defScope s__law_x_number) (defBody s__law_x_number) = some i__law_x_number := by kernel_rfl
def i__law_x_integer : Dq.CSs := (.cons (.set 1 (.ifx (.cmp .Eq (.sl (.var 0) .no (.some (.int 1))) (.str "-")) (.sl (.var 0) (.some (.int 1)) .no) (.var 0))) (.cons (.ret (.ifx (.and (.tr (.call "_law_x_is_digits" (.cons (.var 1) .nil))) (.and (.cmp .NotEq (.var 0) (.str "-0")) (.chain .LtE .LtE (.neg (.int 2147483648)) (.bf .int (.cons (.var 0) .nil)) (.int 2147483647)))) (.lst (.cons (.bf .int (.cons (.var 0) .nil)) .nil)) (.lst .nil))) .nil))
theorem c__law_x_integer : Dq.cSs l__law_x_integer 60 (defScope s__law_x_integer) (defBody s__law_x_integer) = some i__law_x_integer := by kernel_rfl
def i__law_x_at : Dq.CSs := (.cons (.ret (.ifx (.cmp .Lt (.var 1) (.bf .len (.cons (.var 0) .nil))) (.ix (.var 0) (.var 1)) (.str ""))) .nil)
theorem c__law_x_at : Dq.cSs l__law_x_at 60 (defScope s__law_x_at) (defBody s__law_x_at) = some i__law_x_at := by kernel_rfl
def i__law_x_changed_0 : Dq.CS := (.par2 4 5 (.call "_law_draw" (.cons (.var 0) (.cons (.bin .Add (.bf .len (.cons (.var 1) .nil)) (.int 1)) .nil))) (.call "_law_draw" (.cons (.var 0) (.cons (.int 9) .nil))))
def i__law_x_changed_1a_0 : Dq.CS := (.ret (.bin .Add (.sl (.var 1) .no (.some (.var 4))) (.sl (.var 1) (.some (.bin .Add (.var 4) (.int 1))) .no)))
def i__law_x_changed_1a : Dq.CSs := (.cons i__law_x_changed_1a_0 .nil)
def i__law_x_changed_1 : Dq.CS := (.ifs (.cmp .Eq (.var 5) (.int 0)) i__law_x_changed_1a .nil)
def i__law_x_changed_2a_0 : Dq.CS := (.ret (.bin .Add (.bin .Add (.sl (.var 1) .no (.some (.var 4))) (.lst (.cons (.call "_law_pick" (.cons (.var 0) (.cons (.var 2) .nil))) .nil))) (.sl (.var 1) (.some (.bin .Add (.var 4) (.int 1))) .no)))
def i__law_x_changed_2a : Dq.CSs := (.cons i__law_x_changed_2a_0 .nil)
def i__law_x_changed_2 : Dq.CS := (.ifs (.cmp .Lt (.var 5) (.int 4)) i__law_x_changed_2a .nil)
def i__law_x_changed_3a_0 : Dq.CS := (.ret (.bin .Add (.bin .Add (.sl (.var 1) .no (.some (.var 4))) (.lst (.cons (.call "_law_pick" (.cons (.var 0) (.cons (.var 2) .nil))) .nil))) (.sl (.var 1) (.some (.var 4)) .no)))
def i__law_x_changed_3a : Dq.CSs := (.cons i__law_x_changed_3a_0 .nil)
def i__law_x_changed_3 : Dq.CS := (.ifs (.cmp .Lt (.var 5) (.int 6)) i__law_x_changed_3a .nil)
def i__law_x_changed_4a_0 : Dq.CS := (.ret (.bin .Add (.var 1) (.sl (.var 1) (.some (.neg (.int 3))) .no)))
def i__law_x_changed_4a : Dq.CSs := (.cons i__law_x_changed_4a_0 .nil)
def i__law_x_changed_4 : Dq.CS := (.ifs (.cmp .Eq (.var 5) (.int 6)) i__law_x_changed_4a .nil)
def i__law_x_changed_5a_0 : Dq.CS := (.ret (.sl (.var 1) .no (.some (.var 4))))
def i__law_x_changed_5a : Dq.CSs := (.cons i__law_x_changed_5a_0 .nil)
def i__law_x_changed_5 : Dq.CS := (.ifs (.cmp .Eq (.var 5) (.int 7)) i__law_x_changed_5a .nil)
def i__law_x_changed_6 : Dq.CS := (.set 3 (.ifx (.cmp .NotEq (.var 1) (.lst .nil)) (.call "_law_draw" (.cons (.var 0) (.cons (.bf .len (.cons (.var 1) .nil)) .nil))) (.int 0)))
def i__law_x_changed_7 : Dq.CS := (.ret (.bin .Add (.bin .Add (.sl (.var 1) .no (.some (.var 4))) (.sl (.var 1) (.some (.var 3)) (.some (.bin .Add (.var 3) (.int 1))))) (.sl (.var 1) (.some (.bin .Add (.var 4) (.int 1))) .no)))
def i__law_x_changed : Dq.CSs := (.cons i__law_x_changed_0 (.cons i__law_x_changed_1 (.cons i__law_x_changed_2 (.cons i__law_x_changed_3 (.cons i__law_x_changed_4 (.cons i__law_x_changed_5 (.cons i__law_x_changed_6 (.cons i__law_x_changed_7 .nil))))))))
theorem c__law_x_changed : Dq.cSs l__law_x_changed 60 (defScope s__law_x_changed) (defBody s__law_x_changed) = some i__law_x_changed := by kernel_rfl
def i__law_x_code_marks_0 : Dq.CS := (.set 1 (.lst .nil))
def i__law_x_code_marks_1a_0 : Dq.CS := (.unp (.tup (.cons (.nm 3) (.cons (.nm 4) (.cons (.nm 5) (.cons (.nm 6) .nil))))) (.ix (.var 0) (.var 2)))
def i__law_x_code_marks_1a_1 : Dq.CS := (.expr (.bm .extend (.var 1) (.cons (.bin .Add (.bin .Add (.lst (.cons (.str "Code") (.cons (.var 2) (.cons (.bf .str (.cons (.var 3) .nil)) .nil)))) (.bf .list (.cons (.var 4) .nil))) (.lst (.cons (.str ";") .nil))) .nil)))
def i__law_x_code_marks_1a_2a_0 : Dq.CS := (.expr (.bm .extend (.var 1) (.cons (.bin .Add (.lst (.cons (.bf .str (.cons (.ix (.var 8) (.int 0)) .nil)) (.cons (.bf .str (.cons (.ix (.var 8) (.int 1)) .nil)) .nil))) (.lc [9] (.nm 9) (.val (.var 7)) .no (.bf .str (.cons (.var 9) .nil)))) .nil)))
def i__law_x_code_marks_1a_2a : Dq.CSs := (.cons i__law_x_code_marks_1a_2a_0 .nil)
def i__law_x_code_marks_1a_2 : Dq.CS := (.for_ (.tup (.cons (.nm 7) (.cons (.nm 8) .nil))) (.zip (.var 5) (.var 6)) i__law_x_code_marks_1a_2a)
def i__law_x_code_marks_1a_3 : Dq.CS := (.expr (.bm .append (.var 1) (.cons (.str "End") .nil)))
def i__law_x_code_marks_1a : Dq.CSs := (.cons i__law_x_code_marks_1a_0 (.cons i__law_x_code_marks_1a_1 (.cons i__law_x_code_marks_1a_2 (.cons i__law_x_code_marks_1a_3 .nil))))
def i__law_x_code_marks_1 : Dq.CS := (.for_ (.nm 2) (.val (.var 0)) i__law_x_code_marks_1a)
def i__law_x_code_marks_2 : Dq.CS := (.ret (.var 1))
def i__law_x_code_marks : Dq.CSs := (.cons i__law_x_code_marks_0 (.cons i__law_x_code_marks_1 (.cons i__law_x_code_marks_2 .nil)))
theorem c__law_x_code_marks : Dq.cSs l__law_x_code_marks 60 (defScope s__law_x_code_marks) (defBody s__law_x_code_marks) = some i__law_x_code_marks := by kernel_rfl
def i__law_x_take : Dq.CSs := (.cons (.set 2 (.call "_law_x_at" (.cons (.ix (.var 0) (.int 0)) (.cons (.ix (.var 0) (.int 1)) .nil)))) (.cons (.ifs (.or (.tr (.ix (.var 0) (.int 2))) (.or (.cmp .Eq (.var 2) (.str "")) (.nt (.tr (.var 1))))) (.cons (.ixs (.var 0) (.int 2) (.bl true)) (.cons (.ret (.str "")) .nil)) .nil) (.cons (.ixs (.var 0) (.int 1) (.bin .Add (.ix (.var 0) (.int 1)) (.int 1))) (.cons (.ret (.var 2)) .nil))))
theorem c__law_x_take : Dq.cSs l__law_x_take 60 (defScope s__law_x_take) (defBody s__law_x_take) = some i__law_x_take := by kernel_rfl
def i__law_x_next : Dq.CSs := (.cons (.ret (.ifx (.tr (.ix (.var 0) (.int 2))) (.str "") (.call "_law_x_at" (.cons (.ix (.var 0) (.int 0)) (.cons (.ix (.var 0) (.int 1)) .nil))))) .nil)
theorem c__law_x_next : Dq.cSs l__law_x_next 60 (defScope s__law_x_next) (defBody s__law_x_next) = some i__law_x_next := by kernel_rfl
def i__law_x_told : Dq.CSs := (.cons (.expr (.call "_law_x_take" (.cons (.var 0) (.cons (.cmp .NotEq (.var 1) (.lst .nil)) .nil)))) (.cons (.ret (.ifx (.and (.cmp .NotEq (.var 1) (.lst .nil)) (.nt (.tr (.ix (.var 0) (.int 2))))) (.ix (.var 1) (.int 0)) (.int 0))) .nil))
theorem c__law_x_told : Dq.cSs l__law_x_told 60 (defScope s__law_x_told) (defBody s__law_x_told) = some i__law_x_told := by kernel_rfl
def i__law_x_count : Dq.CSs := (.cons (.ret (.call "_law_x_told" (.cons (.var 0) (.cons (.call "_law_x_number" (.cons (.call "_law_x_next" (.cons (.var 0) .nil)) (.cons (.var 1) (.cons (.var 2) .nil)))) .nil)))) .nil)
theorem c__law_x_count : Dq.cSs l__law_x_count 60 (defScope s__law_x_count) (defBody s__law_x_count) = some i__law_x_count := by kernel_rfl
def i__law_part : Dq.CSs := (.cons (.ifs (.cmp .Eq (.var 1) (.str "n")) (.cons (.ret (.call "_law_x_told" (.cons (.var 0) (.cons (.call "_law_x_integer" (.cons (.call "_law_x_next" (.cons (.var 0) .nil)) .nil)) .nil)))) .nil) .nil) (.cons (.ifs (.cmp .Eq (.var 1) (.str "i")) (.cons (.ret (.call "_law_x_count" (.cons (.var 0) (.cons (.int 0) (.cons .non .nil))))) .nil) .nil) (.cons (.ifs (.cmp .Eq (.var 1) (.str "s")) (.cons (.ret (.call "_law_x_take" (.cons (.var 0) (.cons (.call "_law_b_is_name" (.cons (.call "_law_x_next" (.cons (.var 0) .nil)) .nil)) .nil)))) .nil) .nil) (.cons (.ret (.call "_law_x_take" (.cons (.var 0) (.cons (.cmp .In (.call "_law_x_next" (.cons (.var 0) .nil)) (.ifx (.cmp .Eq (.var 1) (.str "o")) (.lst (.cons (.str "-") (.cons (.str "not") .nil))) (.lst (.cons (.str "+") (.cons (.str "-") (.cons (.str "*") (.cons (.str "/") (.cons (.str "rem") (.cons (.str "==") (.cons (.str "!=") (.cons (.str "<") (.cons (.str "<=") .nil)))))))))))) .nil)))) .nil))))
theorem c__law_part : Dq.cSs l__law_part 60 (defScope s__law_part) (defBody s__law_part) = some i__law_part := by kernel_rfl
def i__law_due_0 : Dq.CS := (.unp (.tup (.cons (.nm 1) (.cons (.nm 2) (.cons (.nm 3) .nil)))) (.tup (.cons (.lst (.cons (.var 0) (.cons (.int 0) (.cons (.bl false) .nil)))) (.cons (.dict .nil) (.cons (.call "_law_x_shapes" .nil) .nil)))))
def i__law_due_1a_0 : Dq.CS := (.expr (.call "_law_x_take" (.cons (.var 1) (.cons (.cmp .Eq (.call "_law_x_next" (.cons (.var 1) .nil)) (.str "Code")) .nil))))
def i__law_due_1a_1 : Dq.CS := (.set 4 (.call "_law_x_take" (.cons (.var 1) (.cons (.and (.call "_law_b_is_name" (.cons (.call "_law_x_next" (.cons (.var 1) .nil)) .nil)) (.cmp .NotIn (.call "_law_x_next" (.cons (.var 1) .nil)) (.var 2))) .nil))))
def i__law_due_1a_2 : Dq.CS := (.unp (.tup (.cons (.nm 5) (.cons (.nm 6) (.cons (.nm 7) (.cons (.nm 8) .nil))))) (.tup (.cons (.call "_law_x_count" (.cons (.var 1) (.cons (.int 0) (.cons .non .nil)))) (.cons (.lst .nil) (.cons (.lst .nil) (.cons (.lst .nil) .nil))))))
def i__law_due_1a_3a_0 : Dq.CS := (.expr (.bm .append (.var 6) (.cons (.call "_law_x_take" (.cons (.var 1) (.cons (.and (.call "_law_b_is_name" (.cons (.call "_law_x_next" (.cons (.var 1) .nil)) .nil)) (.cmp .NotIn (.call "_law_x_next" (.cons (.var 1) .nil)) (.var 6))) .nil))) .nil)))
def i__law_due_1a_3a : Dq.CSs := (.cons i__law_due_1a_3a_0 .nil)
def i__law_due_1a_3 : Dq.CS := (.whl (.and (.nt (.tr (.ix (.var 1) (.int 2)))) (.or (.cmp .Lt (.bf .len (.cons (.var 6) .nil)) (.var 5)) (.cmp .NotEq (.call "_law_x_next" (.cons (.var 1) .nil)) (.str ";")))) i__law_due_1a_3a)
def i__law_due_1a_4 : Dq.CS := (.expr (.call "_law_x_take" (.cons (.var 1) (.cons (.cmp .Eq (.call "_law_x_next" (.cons (.var 1) .nil)) (.str ";")) .nil))))
def i__law_due_1a_5a_0 : Dq.CS := (.set 9 (.call "_law_x_count" (.cons (.var 1) (.cons (.int 1) (.cons .non .nil)))))
def i__law_due_1a_5a_1 : Dq.CS := (.expr (.bm .append (.var 8) (.cons (.tup (.cons (.var 9) (.cons (.call "_law_x_count" (.cons (.var 1) (.cons (.int 1) (.cons .non .nil)))) .nil))) .nil)))
def i__law_due_1a_5a_2 : Dq.CS := (.set 10 (.call "_law_x_take" (.cons (.var 1) (.cons (.cmp .In (.call "_law_x_next" (.cons (.var 1) .nil)) (.var 3)) .nil))))
def i__law_due_1a_5a_3 : Dq.CS := (.expr (.bm .append (.var 7) (.cons (.bin .Add (.tup (.cons (.var 10) .nil)) (.bf .tuple (.cons (.lc [11] (.nm 11) (.val (.ifx (.cmp .NotEq (.var 10) (.str "")) (.ix (.var 3) (.var 10)) (.str ""))) .no (.call "_law_part" (.cons (.var 1) (.cons (.var 11) .nil)))) .nil))) .nil)))
def i__law_due_1a_5a : Dq.CSs := (.cons i__law_due_1a_5a_0 (.cons i__law_due_1a_5a_1 (.cons i__law_due_1a_5a_2 (.cons i__law_due_1a_5a_3 .nil))))
def i__law_due_1a_5 : Dq.CS := (.whl (.and (.nt (.tr (.ix (.var 1) (.int 2)))) (.or (.cmp .Eq (.var 7) (.lst .nil)) (.cmp .NotEq (.call "_law_x_next" (.cons (.var 1) .nil)) (.str "End")))) i__law_due_1a_5a)
def i__law_due_1a_6 : Dq.CS := (.expr (.call "_law_x_take" (.cons (.var 1) (.cons (.cmp .Eq (.call "_law_x_next" (.cons (.var 1) .nil)) (.str "End")) .nil))))
def i__law_due_1a_7 : Dq.CS := (.ixs (.var 2) (.var 4) (.tup (.cons (.var 5) (.cons (.var 6) (.cons (.var 7) (.cons (.var 8) .nil))))))
def i__law_due_1a : Dq.CSs := (.cons i__law_due_1a_0 (.cons i__law_due_1a_1 (.cons i__law_due_1a_2 (.cons i__law_due_1a_3 (.cons i__law_due_1a_4 (.cons i__law_due_1a_5 (.cons i__law_due_1a_6 (.cons i__law_due_1a_7 .nil))))))))
def i__law_due_1 : Dq.CS := (.whl (.and (.nt (.tr (.ix (.var 1) (.int 2)))) (.cmp .Lt (.ix (.var 1) (.int 1)) (.bf .len (.cons (.var 0) .nil)))) i__law_due_1a)
def i__law_due_2 : Dq.CS := (.ret (.ifx (.tr (.ix (.var 1) (.int 2))) (.tup (.cons (.str "mark") (.cons (.ix (.var 1) (.int 1)) .nil))) (.tup (.cons (.str "told") (.cons (.var 2) .nil)))))
def i__law_due : Dq.CSs := (.cons i__law_due_0 (.cons i__law_due_1 (.cons i__law_due_2 .nil)))
theorem c__law_due : Dq.cSs l__law_due 60 (defScope s__law_due) (defBody s__law_due) = some i__law_due := by kernel_rfl
end Hk64

set_option maxHeartbeats 2000000
namespace Hk64
open PySem PySem.Spec PyProof.Rows L2 Dq
/-- the wish of a def's body -/
abbrev dE (E : XK) : WX := fun cls d _ H => E cls d H
abbrev dD (Q : VK) : Ends := { nx := fun _ H' => Q .non H', rt := Q }
def atM (ms : List Str) (i : Nat) : Str := ms.getD i ""
theorem atM_lt {ms : List Str} {i : Nat} (h : i < ms.length) : ms[i]? = some (atM ms i) := by
  unfold atM
  rw [List.getD_eq_getElem?_getD, List.getElem?_eq_getElem h]; rfl
theorem atM_ge {ms : List Str} {i : Nat} (h : ms.length ≤ i) : atM ms i = "" := by
  unfold atM
  rw [List.getD_eq_getElem?_getD, List.getElem?_eq_none h]; rfl
def spAt : Sp := fun vs H Q _ => ∃ mk i, ∃ ms : List Str, vs = [.ref mk, .int (i : Nat)] ∧ H mk = some (.lst (ms.map V.str)) ∧ Q (.str (atM ms i)) H
theorem w_at {Γ : Gam} (vs : List V) (H : Hp) (Q : VK) (E : XK) (h : spAt vs H Q E) : wSs Γ i__law_x_at (dE E) (dD Q) (start l__law_x_at.N vs) H := by
  obtain ⟨mk, i, ms, rfl, hm, q⟩ := h
  simp only [i__law_x_at, Dq.wSs, Dq.wS, Dq.wE, Dq.wEs, Dq.wT, tSeq]
  refine ⟨_, rfl, _, rfl, len_lst hm (lt_i ⟨_, rfl, ?_⟩)⟩
  rw [List.length_map]
  by_cases hi : i < ms.length
  · rw [if_pos (decide_eq_true (by omega))]
    refine ⟨_, rfl, _, rfl, ix_ln hm (v := .str (atM ms i)) ?_ q⟩
    rw [List.getElem?_map, atM_lt hi]; rfl
  · rw [if_neg (by simp; omega)]
    rw [atM_ge (by omega)] at q
    exact q
/-- the way: the marks, the place, whether it has ended -/
def Way (H : Hp) (wy mk : Addr) (ms : List Str) (i : Nat) (fl : Bool) : Prop := H wy = some (.lst [.ref mk, .int (i : Nat), .bl fl]) ∧ H mk = some (.lst (ms.map V.str)) ∧ wy ≠ mk
def nxM (ms : List Str) (i : Nat) (fl : Bool) : Str := if fl then "" else atM ms i
def spNext : Sp := fun vs H Q _ => ∃ wy mk ms i fl, vs = [.ref wy] ∧ Way H wy mk ms i fl ∧ Q (.str (nxM ms i fl)) H
theorem w_next {Γ : Gam} (h1 : Γ.fn "_law_x_at" spAt) (vs : List V) (H : Hp) (Q : VK) (E : XK) (h : spNext vs H Q E) : wSs Γ i__law_x_next (dE E) (dD Q) (start l__law_x_next.N vs) H := by
  obtain ⟨wy, mk, ms, i, fl, rfl, ⟨hw, hm, hne⟩, q⟩ := h
  simp only [i__law_x_next, Dq.wSs, Dq.wS, Dq.wE, Dq.wEs, Dq.wT, tSeq]
  refine ⟨_, rfl, ix_ln (n := 2) hw rfl ⟨_, rfl, ?_⟩⟩
  cases fl
  · rw [if_neg (by decide)]
    exact ⟨_, h1, _, rfl, ix_ln (n := 0) hw rfl ⟨_, rfl, ix_ln (n := 1) hw rfl ⟨mk, i, ms, rfl, hm, q⟩⟩⟩
  · exact q
def spTake : Sp := fun vs H Q _ => ∃ wy mk ms i fl r, vs = [.ref wy, .bl r] ∧ Way H wy mk ms i fl ∧
  if (fl || atM ms i == "" || !r) = true then Q (.str "") (upd H wy (.lst [.ref mk, .int (i : Nat), .bl true])) else Q (.str (atM ms i)) (upd H wy (.lst [.ref mk, .int ((i + 1 : Nat) : Int), .bl fl]))
theorem w_take {Γ : Gam} (h1 : Γ.fn "_law_x_at" spAt) (vs : List V) (H : Hp) (Q : VK) (E : XK) (h : spTake vs H Q E) : wSs Γ i__law_x_take (dE E) (dD Q) (start l__law_x_take.N vs) H := by
  obtain ⟨wy, mk, ms, i, fl, r, rfl, ⟨hw, hm, hne⟩, q⟩ := h
  simp only [i__law_x_take, Dq.wSs, Dq.wS, Dq.wE, Dq.wEs, Dq.wT, tSeq, tNext, if_true, if_false]
  refine ⟨_, h1, _, rfl, ix_ln (n := 0) hw rfl ⟨_, rfl, ix_ln (n := 1) hw rfl ⟨mk, i, ms, rfl, hm, ?_⟩⟩⟩
  refine ⟨_, rfl, ix_ln (n := 2) hw rfl ⟨_, rfl, ?_⟩⟩
  have yes : Q (.str "") (upd H wy (.lst [.ref mk, .int (i : Nat), .bl true])) → ∃ v, (List.set (L2.start l__law_x_take.N [V.ref wy, V.bl r]) 2 (some (V.str (atM ms i))))[0]? = some (some v) ∧ ((∃ p xs k j, v = V.ref p ∧ V.int 2 = V.int k ∧ H p = some (HO.lst xs) ∧ ixN xs.length k = some j ∧ Q (V.str (Str.ofString "")) (upd H p (HO.lst (xs.set j (V.bl true))))) ∨ ∃ a H', v = V.ref a ∧ DPut H a (V.int 2) (V.bl true) H' ∧ Q (V.str (Str.ofString "")) H') :=
    fun q => ⟨_, rfl, .inl ⟨wy, _, 2, 2, rfl, rfl, hw, rfl, q⟩⟩
  cases fl with
  | true => exact yes q
  | false =>
    refine ⟨_, rfl, eq_s ⟨_, rfl, ?_⟩⟩
    by_cases he : atM ms i = ""
    · rw [if_pos (decide_eq_true he)]
      rw [if_pos (by rw [he]; rfl)] at q
      exact yes q
    · rw [if_neg (by simpa using he)]
      refine ⟨_, rfl, _, rfl, ?_⟩
      cases r with
      | false =>
        rw [if_pos (by simp)] at q
        exact yes q
      | true =>
        rw [if_neg (by simpa using he)] at q
        exact ⟨_, rfl, ix_ln (n := 1) hw rfl (add_i ⟨_, rfl, .inl ⟨wy, _, 1, 1, rfl, rfl, hw, rfl, _, rfl, q⟩⟩)⟩
end Hk64

set_option maxHeartbeats 2000000
namespace Hk64
open PySem PySem.Spec PyProof.Rows L2 Dq
theorem wipe1 {σ : L2.St} {i : Nat} {x y : Option V} : wipe ((wipe σ [i]).set i x) [i] = wipe σ [i] := by
  unfold wipe
  show ((σ.set i none).set i x).set i none = σ.set i none
  simp
theorem wipe_get {σ : L2.St} {i : Nat} {v : V} (h : i < σ.length) : ((wipe σ [i]).set i (some v))[i]? = some (some v) := by
  unfold wipe
  show ((σ.set i none).set i (some v))[i]? = _
  simp [h]
/-- all([f(sign) for sign in z]) -/
theorem w_alls {Γ : Gam} {W : WX} {σ : L2.St} {H : Hp} {Q : VK} {z : Str} {i j : Nat} {e : CE} {f : Nat → Bool} (hz : z.length ≤ sizeLine) (hi : i < σ.length) (hv : σ[j]? = some (some (.str z)))
    (he : ∀ (W' : WX) (σ' : L2.St) (H' : Hp) (Q' : VK) (c : Nat), σ'[i]? = some (some (.str ⟨#[c]⟩)) → Q' (.bl (f c)) H' → Dq.wE Γ e false W' σ' H' Q') (q : ∀ H', Ex [] H H' → Q (.bl (z.cps.toList.all f)) H') :
    Dq.wE Γ (.bf .all (.cons (.lc [i] (.nm i) (.val (.var j)) .no e) .nil)) true W σ H Q := by
  simp only [Dq.wE, Dq.wEs, tLc_eq, Dq.wI]
  refine ⟨.str z, hv, itv_s fun D hD => ?_⟩
  refine lc_s (D := D) (I := fun k H' => H' = upd H D (.lst ((z.cps.toList.take k).map fun c => .bl (f c)))) ?_ ?_ ?_
  · rw [List.take_zero]; rfl
  · rintro _ rfl
    have hl : z.cps.toList.take z.cps.size = z.cps.toList := List.take_of_length_le (by simp)
    have e1 : (z.cps.toList.map fun c => V.bl (f c)) = (z.cps.toList.map f).map V.bl := by rw [List.map_map]; rfl
    rw [hl, e1]
    refine all_bs (bs := z.cps.toList.map f) upd_same ?_
    rw [List.all_map]
    exact q _ (Ex.new hD)
  · rintro k _ c hc rfl
    refine ⟨wipe1 (y := none), ?_⟩
    simp only [Dq.wC]
    refine he _ _ _ _ c (wipe_get hi) ⟨_, upd_same, ?_, ?_⟩
    · have : k < z.cps.size := (Array.getElem?_eq_some_iff.mp hc).1
      rw [List.length_map, List.length_take]
      have hz' : z.cps.size ≤ sizeLine := hz
      omega
    · rw [upd_upd]
      congr 2
      have hk : z.cps.toList[k]? = some c := by rw [← hc]; simp
      rw [List.take_succ, hk]
      simp
def digs : Str := "0123456789"
def alnum : Str := "abcdefghijklmnopqrstuvwxyz_0123456789"
/-- the first sign -/
def hdS (m : Str) : Str := ⟨#[m.cps.toList.headD 0]⟩
def dg (m : Str) : Bool := !decide (m = "") && ((m.cps.toList.all fun c => decide (c ∈ digs.cps.toList)) && (decide (m = "0") || !decide (hdS m = "0")))
theorem ne_nil {m : Str} (h : ¬ m = "") : ∃ c r, m.cps.toList = c :: r := by
  cases e : m.cps.toList with
  | nil =>
    refine (h ?_).elim
    obtain ⟨a⟩ := m
    have : a = #[] := Array.toList_eq_nil_iff.mp e
    subst this; rfl
  | cons c r => exact ⟨c, r, rfl⟩
theorem ix_hd {K : PySem.W.Frag} {w : World} {H : Hp} {Q : VK} {m : Str} (h : ¬ m = "") (hl : m.length ≤ sizeLine) (q : Q (.str (hdS m)) H) : qIx K w (.str m) (.int 0) H Q := by
  obtain ⟨c, r, e⟩ := ne_nil h
  refine ix_s hl (i := 0) (c := c) (by rw [e]; exact atI_nat (j := 0) rfl) ?_
  unfold hdS at q
  rw [e] at q
  exact q
/-- marks that are not long -/
def Sm (m : Str) : Prop := m.length ≤ 600
theorem Sm.line {m : Str} (h : Sm m) : m.length ≤ sizeLine := by
  have : m.length ≤ 600 := h
  rw [sizeLine_eq]; omega
def spDg : Sp := fun vs H Q _ => ∃ m, vs = [.str m] ∧ Sm m ∧ ∀ H', Ex [] H H' → Q (.bl (dg m)) H'
theorem w_dgE {Γ : Gam} {W : WX} {σ : L2.St} {H : Hp} {Q : VK} {m : Str} {e : CE} (hm : Sm m) (hi : 1 < σ.length) (hv : σ[0]? = some (some (.str m)))
    (he : ∀ (W' : WX) (σ' : L2.St) (H' : Hp) (Q' : VK), Q' (.str digs) H' → Dq.wE Γ e false W' σ' H' Q') (q : ∀ H', Ex [] H H' → Q (.bl (dg m)) H') :
    Dq.wE Γ (.and (.cmp .NotEq (.var 0) (.str "")) (.and (.bf .all (.cons (.lc [1] (.nm 1) (.val (.var 0)) .no (.cmp .In (.var 1) e)) .nil)) (.or (.cmp .Eq (.var 0) (.str "0")) (.cmp .NotEq (.ix (.var 0) (.int 0)) (.str "0"))))) true W σ H Q := by
  unfold dg at q
  unfold Dq.wE
  unfold Dq.wE
  unfold Dq.wE
  refine ⟨_, hv, ?_⟩
  unfold Dq.wE
  refine ne_s ⟨_, rfl, ?_⟩
  by_cases h0 : m = ""
  · rw [if_neg (by simp [h0])]
    have := q H Ex.refl
    simp only [h0, decide_true, Bool.not_true, Bool.false_and] at this ⊢
    exact this
  rw [if_pos (by simp [h0])]
  simp only [h0, decide_false, Bool.not_false, Bool.true_and] at q
  unfold Dq.wE
  refine w_alls hm.line hi hv (f := fun c => decide (c ∈ digs.cps.toList)) (fun W' σ' H' Q' c hc q' => ?_) fun H1 x1 => ⟨_, rfl, ?_⟩
  · unfold Dq.wE Dq.wE
    refine ⟨_, hc, he _ _ _ _ ?_⟩
    exact in_ _ inV_s q'
  have q := q H1 x1
  cases ha : (m.cps.toList.all fun c => decide (c ∈ digs.cps.toList)) with
  | false =>
    rw [ha] at q
    exact q
  | true =>
    rw [ha] at q
    rw [if_pos rfl]
    unfold Dq.wE Dq.wE Dq.wE Dq.wE
    refine ⟨_, hv, eq_s ⟨_, rfl, ?_⟩⟩
    by_cases h1 : m = "0"
    · rw [if_pos (by simp [h1])]
      simp only [h1, decide_true, Bool.true_or, Bool.and_true] at q ⊢
      exact q
    · rw [if_neg (by simp [h1])]
      refine ⟨_, hv, ix_hd h0 hm.line (ne_s (w := Γ.w) ?_)⟩
      simp only [h1, decide_false, Bool.false_or, Bool.true_and] at q
      exact q
theorem w_is_digits {Γ : Gam} (h1 : Γ.gv "DIGITS" (.str digs)) (vs : List V) (H : Hp) (Q : VK) (E : XK) (h : spDg vs H Q E) : wSs Γ i_is_digits (dE E) (dD Q) (start l_is_digits.N vs) H := by
  obtain ⟨m, rfl, hm, q⟩ := h
  unfold i_is_digits
  refine seq1 ?_
  unfold Dq.wS
  exact w_dgE hm (by show 1 < 2; decide) rfl (fun W' σ' H' Q' q' => by unfold Dq.wE; exact ⟨_, h1, q'⟩) q
theorem w_x_is_digits {Γ : Gam} (vs : List V) (H : Hp) (Q : VK) (E : XK) (h : spDg vs H Q E) : wSs Γ i__law_x_is_digits (dE E) (dD Q) (start l__law_x_is_digits.N vs) H := by
  obtain ⟨m, rfl, hm, q⟩ := h
  unfold i__law_x_is_digits
  refine seq1 ?_
  unfold Dq.wS
  exact w_dgE hm (by show 1 < 2; decide) rfl (fun W' σ' H' Q' q' => by unfold Dq.wE; exact q') q
end Hk64

set_option maxHeartbeats 2000000
namespace Hk64
open PySem PySem.Spec PyProof.Rows L2 Dq
def letters : Str := "abcdefghijklmnopqrstuvwxyz_"
def kws : List Str := ["def", "while", "if", "else", "print", "return", "and", "or", "not", "len", "rem"]
def words : List Str := ["def", "while", "if", "else", "print", "return", "and", "or", "not", "rem", "len"]
/-- what is asked of a name ahead of its signs -/
def nmA (m : Str) : Bool := decide (1 ≤ m.length) && (decide (m.length ≤ 16) && (!decide (m.cps.toList.headD 0 ∈ digs.cps.toList) && !kws.contains m))
def nmOk (m : Str) : Bool := nmA m && m.cps.toList.all fun c => decide (c ∈ alnum.cps.toList)
def spNm : Sp := fun vs H Q _ => ∃ m, vs = [.str m] ∧ Sm m ∧ ∀ H', Ex [] H H' → Q (.bl (nmOk m)) H'
theorem len_ne {m : Str} (h : 1 ≤ m.length) : ¬ m = "" := by
  rintro rfl
  exact absurd h (by decide)
theorem kOne_str {K : PySem.W.Frag} : PySem.W.kitOne K (.type "str") (.type "str") = some true := by
  unfold PySem.W.kitOne
  rw [if_pos (by decide)]
theorem w_b_is_name {Γ : Gam} (vs : List V) (H : Hp) (Q : VK) (E : XK) (h : spNm vs H Q E) : wSs Γ i__law_b_is_name (dE E) (dD Q) (start l__law_b_is_name.N vs) H := by
  obtain ⟨m, rfl, hm, q⟩ := h
  unfold i__law_b_is_name
  have hlen := hm.line
  refine seq1 (ifP (fun k H' => k = !nmA m ∧ Ex [] H H') (fun N hN => ?_) (fun H' p => ?_) fun H' p => ?_)
  · simp only [Dq.wT, Dq.wE, Dq.wEs, if_true, if_false]
    refine ⟨.str m, rfl, .inl ⟨_, _, _, _, true, rfl, .ty "str", .base (.str m), kOne_str, _, rfl, ifF rfl ?_⟩⟩
    refine ⟨_, rfl, len_s hlen (le_i ⟨_, rfl, ?_⟩)⟩
    by_cases h1 : 1 ≤ m.length
    · refine ifT (decide_eq_true (by omega)) (le_i ⟨_, rfl, ?_⟩)
      by_cases h2 : m.length ≤ 16
      · refine ifF (by rw [decide_eq_true (by omega)]; rfl) ⟨.str m, rfl, ix_hd (len_ne h1) hlen (in_ _ inV_s ⟨_, rfl, ?_⟩)⟩
        by_cases h3 : m.cps.toList.headD 0 ∈ digs.cps.toList
        · exact ifT (decide_eq_true h3) (hN _ _ ⟨by unfold nmA; rw [decide_eq_true h3]; simp, Ex.refl⟩)
        · refine ifF (decide_eq_false h3) ⟨.str m, rfl, by decide, fun p hp => in_ _ (inV_t (xs := kws.map V.str) (.inl (.inl upd_same)) rfl flat_strs) ⟨_, rfl, hN _ _ ⟨?_, Ex.new hp⟩⟩⟩
          rw [inV_strs]
          unfold nmA
          rw [decide_eq_true h1, decide_eq_true h2, decide_eq_false h3]
          simp
      · exact ifT (by rw [decide_eq_false (by omega)]; rfl) (hN _ _ ⟨by unfold nmA; rw [decide_eq_false h2]; simp, Ex.refl⟩)
    · exact ifF (decide_eq_false (by omega)) ⟨_, rfl, ifT rfl (hN _ _ ⟨by unfold nmA; rw [decide_eq_false h1]; simp, Ex.refl⟩)⟩
  · refine seq1 ?_
    simp only [Dq.wS, Dq.wE]
    have := q H' p.2
    unfold nmOk at this
    rw [show nmA m = false from by simpa using p.1.symm] at this
    exact this
  · show wSs Γ _ _ _ _ _
    refine seq1 ?_
    unfold Dq.wS
    have hq := q
    unfold nmOk at hq
    have e : nmA m = true := by simpa using p.1
    rw [e] at hq
    refine w_alls hlen (by show 1 < 2; decide) rfl (f := fun c => decide (c ∈ alnum.cps.toList)) (fun W' σ' H1 Q' c hc q' => ?_) fun H1 x1 => hq H1 (p.2.trans x1)
    unfold Dq.wE Dq.wE
    exact ⟨_, hc, in_ _ inV_s q'⟩
/-- the other way to ask -/
def nmB (m : Str) : Bool := decide (1 ≤ m.length) && (decide (m.length ≤ 16) && (!words.contains m && decide (m.cps.toList.headD 0 ∈ letters.cps.toList)))
theorem sign_split (c : Nat) : (decide (c ∈ letters.cps.toList) || decide (c ∈ digs.cps.toList)) = decide (c ∈ alnum.cps.toList) := by
  rw [Bool.eq_iff_iff]
  simp only [Bool.or_eq_true, decide_eq_true_eq]
  have h1 : letters.cps.toList = [97, 98, 99, 100, 101, 102, 103, 104, 105, 106, 107, 108, 109, 110, 111, 112, 113, 114, 115, 116, 117, 118, 119, 120, 121, 122, 95] := by decide +kernel
  have h2 : digs.cps.toList = [48, 49, 50, 51, 52, 53, 54, 55, 56, 57] := by decide +kernel
  have h3 : alnum.cps.toList = [97, 98, 99, 100, 101, 102, 103, 104, 105, 106, 107, 108, 109, 110, 111, 112, 113, 114, 115, 116, 117, 118, 119, 120, 121, 122, 95, 48, 49, 50, 51, 52, 53, 54, 55, 56, 57] := by decide +kernel
  rw [h1, h2, h3]
  simp only [List.mem_cons, List.not_mem_nil, or_false, or_assoc]
theorem words_kws (m : Str) : words.contains m = kws.contains m := by
  rw [Bool.eq_iff_iff]
  unfold words kws
  simp only [List.contains_eq_mem, List.mem_cons, List.not_mem_nil, or_false, decide_eq_true_eq]
  constructor <;> (rintro (h | h | h | h | h | h | h | h | h | h | h) <;> simp [h])
theorem nm_same (m : Str) : (nmB m && m.cps.toList.all fun c => decide (c ∈ letters.cps.toList) || decide (c ∈ digs.cps.toList)) = nmOk m := by
  have e : (fun c => decide (c ∈ letters.cps.toList) || decide (c ∈ digs.cps.toList)) = fun c => decide (c ∈ alnum.cps.toList) := funext sign_split
  rw [e]
  unfold nmOk nmB nmA
  rw [words_kws]
  by_cases h1 : 1 ≤ m.length
  · obtain ⟨c, r, ec⟩ := ne_nil (len_ne h1)
    rw [ec, List.headD_cons, List.all_cons]
    have d : c ∈ letters.cps.toList → c ∉ digs.cps.toList := by
      have h1 : letters.cps.toList = [97, 98, 99, 100, 101, 102, 103, 104, 105, 106, 107, 108, 109, 110, 111, 112, 113, 114, 115, 116, 117, 118, 119, 120, 121, 122, 95] := by decide +kernel
      have h2 : digs.cps.toList = [48, 49, 50, 51, 52, 53, 54, 55, 56, 57] := by decide +kernel
      rw [h1, h2]
      simp only [List.mem_cons, List.not_mem_nil, or_false]
      omega
    have s := sign_split c
    by_cases hl : c ∈ letters.cps.toList
    · have hd := d hl
      rw [decide_eq_true hl, decide_eq_false hd] at s ⊢
      rw [← s]
      simp [Bool.and_comm]
    · rw [decide_eq_false hl] at s ⊢
      by_cases hd : c ∈ digs.cps.toList
      · rw [decide_eq_true hd]; simp
      · rw [decide_eq_false hd] at s ⊢
        rw [← s]
        simp
  · rw [decide_eq_false h1]; simp
theorem w_is_name {Γ : Gam} {aW : Addr} (h1 : Γ.gv "WORDS" (.ref aW)) (hW : ∀ H, SqT Γ.K H aW (words.map V.str)) (h2 : Γ.gv "LETTERS" (.str letters)) (h3 : Γ.gv "FIGURES" (.str digs))
    (vs : List V) (H : Hp) (Q : VK) (E : XK) (h : spNm vs H Q E) : wSs Γ i_is_name (dE E) (dD Q) (start l_is_name.N vs) H := by
  obtain ⟨m, rfl, hm, q⟩ := h
  unfold i_is_name
  have hlen := hm.line
  refine seq1 (ifP (fun k H' => k = !nmB m ∧ Ex [] H H') (fun N hN => ?_) (fun H' p => ?_) fun H' p => ?_)
  · simp only [Dq.wT, Dq.wE, Dq.wEs, if_true, if_false]
    refine ⟨.str m, rfl, ⟨_, "str", rfl, .str m, isnt_t ⟨_, rfl, ifF rfl ?_⟩⟩⟩
    refine ⟨_, rfl, len_s hlen (le_i ⟨_, rfl, ?_⟩)⟩
    by_cases z1 : 1 ≤ m.length
    · refine ifT (decide_eq_true (by omega)) (le_i ⟨_, rfl, ?_⟩)
      by_cases z2 : m.length ≤ 16
      · refine ifF (by rw [decide_eq_true (by omega)]; rfl) ⟨.str m, rfl, _, h1, in_ _ (inV_t (hW H) rfl flat_strs) ⟨_, rfl, ?_⟩⟩
        rw [inV_strs]
        cases z3 : words.contains m
        · refine ifF rfl ⟨.str m, rfl, ix_hd (len_ne z1) hlen ⟨_, h2, nin_ _ inV_s ⟨_, rfl, hN _ _ ⟨?_, Ex.refl⟩⟩⟩⟩
          unfold nmB
          rw [decide_eq_true z1, decide_eq_true z2, z3]
          simp
        · exact ifT rfl (hN _ _ ⟨by unfold nmB; rw [z3]; simp, Ex.refl⟩)
      · exact ifT (by rw [decide_eq_false (by omega)]; rfl) (hN _ _ ⟨by unfold nmB; rw [decide_eq_false z2]; simp, Ex.refl⟩)
    · exact ifF (decide_eq_false (by omega)) ⟨_, rfl, ifT rfl (hN _ _ ⟨by unfold nmB; rw [decide_eq_false z1]; simp, Ex.refl⟩)⟩
  · refine seq1 ?_
    simp only [Dq.wS, Dq.wE]
    have := q H' p.2
    rw [← nm_same, show nmB m = false from by simpa using p.1.symm] at this
    exact this
  · show wSs Γ _ _ _ _ _
    refine seq1 ?_
    unfold Dq.wS
    have hq := q
    rw [← nm_same, show nmB m = true from by simpa using p.1] at hq
    refine w_alls hlen (by show 1 < 2; decide) rfl (f := fun c => decide (c ∈ letters.cps.toList) || decide (c ∈ digs.cps.toList)) (fun W' σ' H1 Q' c hc q' => ?_) fun H1 x1 => hq H1 (p.2.trans x1)
    simp only [Dq.wE]
    refine ⟨_, hc, _, h2, in_ _ inV_s ⟨_, rfl, ?_⟩⟩
    cases z : decide (c ∈ letters.cps.toList)
    · rw [z] at q'
      exact ifF rfl ⟨_, hc, _, h3, in_ _ inV_s q'⟩
    · rw [z] at q'
      exact ifT rfl q'
end Hk64

set_option maxHeartbeats 2000000
namespace Hk64
open PySem PySem.Spec PyProof.Rows L2 Dq
theorem digs_l : digs.cps.toList = [48, 49, 50, 51, 52, 53, 54, 55, 56, 57] := by decide +kernel
theorem str_ext {x y : Str} (h : x.cps.toList = y.cps.toList) : x = y := by
  obtain ⟨a⟩ := x
  obtain ⟨b⟩ := y
  have : a = b := Array.ext' h
  rw [this]
/-- the number that a mark shows -/
def valS (m : Str) : Int := match m.cps.toList with
  | 45 :: cs => -(NumText.digitsVal cs : Int)
  | cs => (NumText.digitsVal cs : Int)
theorem dg_parts {m : Str} (h : dg m = true) : ¬ m = "" ∧ NumText.AllDigits m.cps.toList := by
  unfold dg at h
  simp only [Bool.and_eq_true, Bool.not_eq_true', decide_eq_false_iff_not] at h
  refine ⟨h.1, fun c hc => ?_⟩
  have := List.all_eq_true.mp h.2.1 c hc
  rw [digs_l] at this
  simp at this
  omega
theorem dg_head {m : Str} (h : dg m = true) : ∃ c r, m.cps.toList = c :: r ∧ 48 ≤ c ∧ c ≤ 57 := by
  obtain ⟨h1, h2⟩ := dg_parts h
  obtain ⟨c, r, e⟩ := ne_nil h1
  exact ⟨c, r, e, h2 c (by rw [e]; exact List.mem_cons_self)⟩
theorem valS_dg {m : Str} (h : dg m = true) : valS m = (NumText.digitsVal m.cps.toList : Int) := by
  obtain ⟨c, r, e, h1, h2⟩ := dg_head h
  unfold valS
  rw [e]
  split
  · rename_i cs q
    have : c = 45 := (List.cons.inj q).1
    omega
  · rfl
theorem int_dg {m : Str} (h : dg m = true) (hm : Sm m) : intText? m = some (valS m) := by
  obtain ⟨h1, h2⟩ := dg_parts h
  obtain ⟨c, r, e⟩ := ne_nil h1
  rw [valS_dg h]
  exact intText_digits h2 (by rw [e]; simp) (by have : m.length ≤ 600 := hm; omega)
/-- the mark without its first sign -/
def tlS (m : Str) : Str := ⟨(m.cps.toList.drop 1).toArray⟩
def neg (m : Str) : Bool := decide (m.cps.toList.head? = some 45)
theorem sl_1 (m : Str) : Txt.slice m none (some 1) = ⟨(m.cps.toList.take 1).toArray⟩ := by
  rw [← C8.cutS_slice]
  unfold L2.cutS
  congr 2
  rw [HT.sIx_none, List.drop_zero, Nat.sub_zero, show (1 : Int) = ((1 : Nat) : Int) from rfl, HT.sIx_nat]
  have : m.length = m.cps.toList.length := Array.length_toList.symm
  rw [this]
  cases m.cps.toList with
  | nil => rfl
  | cons c r => simp
theorem sl_tl (m : Str) : Txt.slice m (some 1) none = tlS m := by
  rw [← C8.cutS_slice]
  unfold L2.cutS tlS
  congr 2
  rw [HT.sIx_none, show (1 : Int) = ((1 : Nat) : Int) from rfl, HT.sIx_nat]
  have : m.length = m.cps.toList.length := Array.length_toList.symm
  rw [this]
  cases m.cps.toList with
  | nil => rfl
  | cons c r => simp
theorem sl_neg (m : Str) : decide (Txt.slice m none (some 1) = "-") = neg m := by
  rw [sl_1]
  unfold neg
  cases h : m.cps.toList with
  | nil => decide
  | cons c r =>
    by_cases e : c = 45
    · subst e; rfl
    · rw [List.head?_cons, decide_eq_false (fun z => e (Option.some.inj z))]
      refine decide_eq_false fun z => e ?_
      have : (#[c] : Array Nat) = #[45] := congrArg Str.cps z
      simpa using this
theorem tlS_sm {m : Str} (h : Sm m) : Sm (tlS m) := by
  unfold Sm tlS at *
  show (m.cps.toList.drop 1).toArray.size ≤ 600
  have : m.length = m.cps.toList.length := Array.length_toList.symm
  rw [List.size_toArray, List.length_drop]
  omega
theorem neg_cons {m : Str} (h : neg m = true) : m.cps.toList = 45 :: (tlS m).cps.toList := by
  unfold neg at h
  have := of_decide_eq_true h
  unfold tlS
  cases e : m.cps.toList with
  | nil => rw [e] at this; cases this
  | cons c r =>
    rw [e] at this
    cases this
    simp
theorem neg_dg {m : Str} (h : neg m = true) : dg m = false := by
  cases d : dg m with
  | false => rfl
  | true =>
    obtain ⟨c, r, e, h1, h2⟩ := dg_head d
    rw [neg_cons h] at e
    have := (List.cons.inj e).1
    omega
/-- whether a mark shows an integer in its form -/
def ig (m : Str) : Bool := dg (if neg m = true then tlS m else m) && !decide (m = "-0")
theorem int_ig {m : Str} (h : ig m = true) (hm : Sm m) : intText? m = some (valS m) := by
  unfold ig at h
  rw [Bool.and_eq_true] at h
  cases n : neg m with
  | false => rw [n, if_neg (by decide)] at h; exact int_dg h.1 hm
  | true =>
    rw [n, if_pos rfl] at h
    obtain ⟨h1, h2⟩ := dg_parts h.1
    obtain ⟨c, r, e⟩ := ne_nil h1
    have ec := neg_cons n
    have : valS m = -(NumText.digitsVal (tlS m).cps.toList : Int) := by
      unfold valS
      rw [ec]
      rfl
    rw [this]
    exact intText_neg ec h2 (by rw [e]; simp) (by have : m.length ≤ 600 := hm; omega)
/-- the number of a mark, at least `least` -/
def numO (m : Str) (least : Int) : Option Int := if (dg m && decide (least ≤ valS m)) = true then some (valS m) else none
def intO (m : Str) : Option Int := if (ig m && (decide (-2147483648 ≤ valS m) && decide (valS m ≤ 2147483647))) = true then some (valS m) else none
theorem dg_empty : dg "" = false := by decide +kernel
/-- a number's list as laid -/
def spNumber : Sp := fun vs H Q _ => ∃ m least, vs = [.str m, .int least, .non] ∧ Sm m ∧ ∀ p H', Ex [] H H' → H p = none → H' p = some (.lst ((numO m least).toList.map V.int)) → Q (.ref p) H'
theorem w_number {Γ : Gam} (h1 : Γ.fn "_law_x_is_digits" spDg) (vs : List V) (H : Hp) (Q : VK) (E : XK) (h : spNumber vs H Q E) : wSs Γ i__law_x_number (dE E) (dD Q) (start l__law_x_number.N vs) H := by
  obtain ⟨m, least, rfl, hm, q⟩ := h
  simp only [i__law_x_number, Dq.wSs, Dq.wS, Dq.wE, Dq.wEs, Dq.wT, tSeq]
  have no : ∀ H1, Ex [] H H1 → numO m least = none → ([] : List V).length ≤ sizeLine ∧ ∀ p, H1 p = none → Q (.ref p) (upd H1 p (.lst [])) := fun H1 x e => ⟨by decide, fun p hp => q p _ (x.trans (Ex.new hp)) (x.dom hp) (by rw [upd_same, e]; rfl)⟩
  refine ⟨_, h1, _, rfl, m, rfl, hm, fun H1 x1 => ⟨_, rfl, ?_⟩⟩
  cases hd : dg m with
  | false => exact ifF rfl (no H1 x1 (by unfold numO; rw [hd]; rfl))
  | true =>
    refine ifT rfl ⟨_, rfl, int_s (int_dg hd hm) (by have : m.length ≤ 600 := hm; omega) ⟨_, rfl, ge_i ⟨_, rfl, ?_⟩⟩⟩
    by_cases hl : least ≤ valS m
    · refine ifT (decide_eq_true hl) ⟨_, rfl, is_n ⟨_, rfl, ifT rfl ⟨_, rfl, int_s (int_dg hd hm) (by have : m.length ≤ 600 := hm; omega) ⟨?_, fun p hp => ?_⟩⟩⟩⟩
      · show 1 ≤ sizeLine
        rw [sizeLine_eq]; omega
      · refine q p _ (x1.trans (Ex.new hp)) (x1.dom hp) ?_
        rw [upd_same]
        unfold numO
        rw [hd, decide_eq_true hl]; rfl
    · exact ifF (decide_eq_false hl) (ifF rfl (no H1 x1 (by unfold numO; rw [hd, decide_eq_false hl]; rfl)))
def spInteger : Sp := fun vs H Q _ => ∃ m, vs = [.str m] ∧ Sm m ∧ ∀ p H', Ex [] H H' → H p = none → H' p = some (.lst ((intO m).toList.map V.int)) → Q (.ref p) H'
theorem w_integer {Γ : Gam} (h1 : Γ.fn "_law_x_is_digits" spDg) (vs : List V) (H : Hp) (Q : VK) (E : XK) (h : spInteger vs H Q E) : wSs Γ i__law_x_integer (dE E) (dD Q) (start l__law_x_integer.N vs) H := by
  obtain ⟨m, rfl, hm, q⟩ := h
  unfold i__law_x_integer
  have hlen := hm.line
  refine seqP (P := fun σ' H' => σ' = [some (.str m), some (.str (if neg m = true then tlS m else m))] ∧ H' = H) (fun N hN => ?_) fun σ' H' p => ?_
  · simp only [Dq.wS, Dq.wE, Dq.wT, Dq.wO]
    refine ⟨_, rfl, _, rfl, sl_s hlen (eq_s ⟨_, rfl, ?_⟩)⟩
    rw [sl_neg]
    cases n : neg m with
    | true => exact ifT rfl ⟨_, rfl, _, rfl, sl_s hlen (hN _ _ ⟨by rw [if_pos n, sl_tl]; rfl, rfl⟩)⟩
    | false => exact ifF rfl ⟨_, rfl, hN _ _ ⟨by rw [if_neg (by rw [n]; decide)]; rfl, rfl⟩⟩
  · obtain ⟨rfl, rfl⟩ := p
    simp only [Dq.wSs, Dq.wS, Dq.wE, Dq.wEs, Dq.wT, tSeq]
    have sm : Sm (if neg m = true then tlS m else m) := by
      split
      · exact tlS_sm hm
      · exact hm
    have no : ∀ H1, Ex [] H' H1 → intO m = none → ([] : List V).length ≤ sizeLine ∧ ∀ p, H1 p = none → Q (.ref p) (upd H1 p (.lst [])) := fun H1 x e => ⟨by decide, fun p hp => q p _ (x.trans (Ex.new hp)) (x.dom hp) (by rw [upd_same, e]; rfl)⟩
    refine ⟨_, h1, _, rfl, _, rfl, sm, fun H1 x1 => ⟨_, rfl, ?_⟩⟩
    cases hd : dg (if neg m = true then tlS m else m) with
    | false => exact ifF rfl (no H1 x1 (by unfold intO ig; rw [hd]; rfl))
    | true =>
      refine ifT rfl ⟨_, rfl, ne_s ⟨_, rfl, ?_⟩⟩
      by_cases hz : m = "-0"
      · exact ifF (by rw [decide_eq_true hz]; rfl) (ifF rfl (no H1 x1 (by unfold intO ig; rw [hd, decide_eq_true hz]; rfl)))
      · have hi : ig m = true := by unfold ig; rw [hd, decide_eq_false hz]; rfl
        have l640 : m.length ≤ 640 := by have : m.length ≤ 600 := hm; omega
        refine ifT (by rw [decide_eq_false hz]; rfl) ⟨_, rfl, _, rfl, int_s (int_ig hi hm) l640 (le_i ⟨_, rfl, ?_⟩)⟩
        by_cases z1 : -2147483648 ≤ valS m
        · refine ifT (decide_eq_true z1) (le_i ⟨_, rfl, ?_⟩)
          by_cases z2 : valS m ≤ 2147483647
          · refine ifT (decide_eq_true z2) ⟨_, rfl, int_s (int_ig hi hm) l640 ⟨?_, fun p hp => ?_⟩⟩
            · show 1 ≤ sizeLine
              rw [sizeLine_eq]; omega
            · refine q p _ (x1.trans (Ex.new hp)) (x1.dom hp) ?_
              rw [upd_same]
              unfold intO
              rw [hi, decide_eq_true z1, decide_eq_true z2]; rfl
          · exact ifF (decide_eq_false z2) (no H1 x1 (by unfold intO; rw [hi, decide_eq_false z2]; simp))
        · exact ifF (decide_eq_false z1) ⟨_, rfl, ifF rfl (no H1 x1 (by unfold intO; rw [hi, decide_eq_false z1]; rfl))⟩
end Hk64

set_option maxHeartbeats 2000000
namespace Hk64
open PySem PySem.Spec PyProof.Rows L2 Dq
/-- marks that are not long, not too many -/
structure Mks (ms : List Str) : Prop where
  sm : ∀ m ∈ ms, Sm m
  few : ms.length ≤ 100000
  lay : ∀ m ∈ ms, PyData.canLay0 (.str m) = true
theorem Mks.at {ms : List Str} (h : Mks ms) (i : Nat) : Sm (atM ms i) := by
  by_cases hi : i < ms.length
  · exact h.sm _ (List.mem_of_getElem? (atM_lt hi))
  · rw [atM_ge (by omega)]
    show (0 : Nat) ≤ 600
    omega
theorem Mks.atL {ms : List Str} (h : Mks ms) (i : Nat) : PyData.canLay0 (.str (atM ms i)) = true := by
  by_cases hi : i < ms.length
  · exact h.lay _ (List.mem_of_getElem? (atM_lt hi))
  · rw [atM_ge (by omega)]
    decide +kernel
theorem Mks.nx {ms : List Str} (h : Mks ms) (i : Nat) (fl : Bool) : Sm (nxM ms i fl) := by
  unfold nxM
  split
  · show (0 : Nat) ≤ 600
    omega
  · exact h.at i
theorem Way.ex {H H' : Hp} {wy mk : Addr} {ms : List Str} {i : Nat} {fl : Bool} (h : Way H wy mk ms i fl) (x : Ex [] H H') : Way H' wy mk ms i fl := ⟨x.get h.1 (by simp), x.get h.2.1 (by simp), h.2.2⟩
theorem Way.wr {H : Hp} {wy mk : Addr} {ms : List Str} {i j : Nat} {fl fl' : Bool} (h : Way H wy mk ms i fl) : Way (upd H wy (.lst [.ref mk, .int (j : Nat), .bl fl'])) wy mk ms j fl' := ⟨upd_same, by rw [upd_ne (Ne.symm h.2.2)]; exact h.2.1, h.2.2⟩
/-- a list of ints against [] -/
theorem dpAll_ints {K : PySem.W.Frag} {H : Hp} : ∀ is : List Int, DpAll K H (is.map V.int) (is.map PyData.int)
  | [] => .nil
  | i :: r => .cons (.int i) (dpAll_ints r)
theorem canLay_ints : ∀ is : List Int, PyData.canLayAll0 (is.map PyData.int) = true
  | [] => rfl
  | i :: r => by
    show (true && PyData.canLayAll0 (r.map PyData.int)) = true
    rw [canLay_ints r]; rfl
theorem eqv_nil (d : PyData) (ds : List PyData) : PyData.eqv (.list (d :: ds)) (.list []) = false := rfl
theorem ne_nilI {K : PySem.W.Frag} {w : World} {H : Hp} {Q : VK} {a b : Addr} {is : List Int} (hl : is.length ≤ 1) (h : H a = some (.lst (is.map V.int))) (h' : H b = some (.lst [])) (q : Q (.bl (!is.isEmpty)) H) : qCmp K w .NotEq (.ref a) (.ref b) H Q := by
  refine ne_d (d := .list (is.map PyData.int)) (e := .list []) (.lst (.inl (.inl h)) (dpAll_ints is)) (.lst (.inl (.inl h')) .nil) ?_ (by decide) ?_
  · match is, hl with
    | [], _ => decide
    | [i], _ => rfl
  · cases is with
    | nil => exact q
    | cons i r => exact q
/-- _law_x_told -/
def spTold : Sp := fun vs H Q _ => ∃ wy mk ms i fl p, ∃ o : Option Int, vs = [.ref wy, .ref p] ∧ Mks ms ∧ Way H wy mk ms i fl ∧ H p = some (.lst (o.toList.map V.int)) ∧ p ≠ wy ∧ (o.isSome = true → atM ms i ≠ "") ∧
  (∀ v, fl = false → o = some v → ∀ H', Ex [wy] H H' → Way H' wy mk ms (i + 1) false → Q (.int v) H') ∧ (fl = true ∨ o = none → ∀ H', Ex [wy] H H' → Way H' wy mk ms i true → Q (.int 0) H')
theorem w_told {Γ : Gam} (h1 : Γ.fn "_law_x_take" spTake) (vs : List V) (H : Hp) (Q : VK) (E : XK) (h : spTold vs H Q E) : wSs Γ i__law_x_told (dE E) (dD Q) (start l__law_x_told.N vs) H := by
  obtain ⟨wy, mk, ms, i, fl, p, o, rfl, hms, hw, hp, hne, ho, q1, q2⟩ := h
  have hl1 : o.toList.length ≤ 1 := by cases o <;> simp
  have tail : ∀ H', Ex [wy] H H' → ∀ j fl', Way H' wy mk ms j fl' → (fl' = false → j = i + 1 ∧ fl = false ∧ o.isSome = true) → (fl' = true → j = i ∧ (fl = true ∨ o = none)) → wSs Γ (.cons (.ret (.ifx (.and (.cmp .NotEq (.var 1) (.lst .nil)) (.nt (.tr (.ix (.var 0) (.int 2))))) (.ix (.var 1) (.int 0)) (.int 0))) .nil) (dE E) (dD Q) (start l__law_x_told.N [.ref wy, .ref p]) H' := by
    intro H' x j fl' w1 k1 k2
    simp only [Dq.wSs, Dq.wS, Dq.wE, Dq.wEs, Dq.wT, tSeq]
    have hp' := x.get hp (by simpa using hne)
    refine ⟨_, rfl, by decide, fun p2 n2 => ?_⟩
    have hp2 : upd H' p2 (HO.lst []) p = some (.lst (o.toList.map V.int)) := by rw [upd_ne (ne_of_none hp' n2)]; exact hp'
    have w2 : Way (upd H' p2 (HO.lst [])) wy mk ms j fl' := w1.ex (Ex.new n2)
    have x2 := x.trans (Ex.new (bad := [wy]) (o := HO.lst []) n2)
    refine ne_nilI hl1 hp2 upd_same ⟨_, rfl, ?_⟩
    cases o with
    | none =>
      refine ifF rfl (ifF rfl ?_)
      cases fl' with
      | false => exact absurd (k1 rfl).2.2 (by simp)
      | true =>
        obtain ⟨rfl, z⟩ := k2 rfl
        exact q2 z _ x2 w2
    | some v =>
      refine ifT rfl ⟨_, rfl, ix_ln (n := 2) w2.1 rfl ⟨_, rfl, ?_⟩⟩
      cases fl' with
      | true =>
        obtain ⟨rfl, z⟩ := k2 rfl
        exact ifF rfl (q2 z _ x2 w2)
      | false =>
        obtain ⟨rfl, z, _⟩ := k1 rfl
        exact ifT rfl ⟨_, rfl, ix_ln (n := 0) hp2 rfl (q1 v z rfl _ x2 w2)⟩
  unfold i__law_x_told
  refine seq1 ?_
  simp only [Dq.wS, Dq.wE, Dq.wEs]
  refine ⟨_, h1, _, rfl, _, rfl, by decide, fun p1 n1 => ?_⟩
  have hp1 : upd H p1 (HO.lst []) p = some (.lst (o.toList.map V.int)) := by rw [upd_ne (ne_of_none hp n1)]; exact hp
  have w1 : Way (upd H p1 (HO.lst [])) wy mk ms i fl := hw.ex (Ex.new n1)
  have x1 : Ex [wy] H (upd H p1 (HO.lst [])) := Ex.new n1
  refine ne_nilI hl1 hp1 upd_same ⟨wy, mk, ms, i, fl, _, rfl, w1, ?_⟩
  by_cases hc : (fl || atM ms i == "" || !!o.toList.isEmpty) = true
  · rw [if_pos hc]
    refine tail _ (x1.trans (Ex.wr (by simp))) i true w1.wr (fun z => nomatch z) fun _ => ⟨rfl, ?_⟩
    cases fl with
    | true => exact .inl rfl
    | false =>
      cases o with
      | none => exact .inr rfl
      | some v =>
        have := ho rfl
        simp [this] at hc
  · rw [if_neg hc]
    cases fl with
    | true => simp at hc
    | false =>
      refine tail _ (x1.trans (Ex.wr (by simp))) (i + 1) false w1.wr (fun _ => ⟨rfl, rfl, ?_⟩) fun z => nomatch z
      cases o with
      | none => simp at hc
      | some v => rfl
/-- a reading of one mark: v behind it, or the end -/
def Read (wy mk : Addr) (ms : List Str) (i : Nat) (fl : Bool) (o : Option V) (H : Hp) (Q : VK) : Prop :=
  (∀ v, fl = false → o = some v → ∀ H', Ex [wy] H H' → Way H' wy mk ms (i + 1) false → Q v H') ∧ (fl = true ∨ o = none → ∀ v H', flatV v = true → Ex [wy] H H' → Way H' wy mk ms i true → Q v H')
theorem numO_ne {m : Str} {l : Int} (h : (numO m l).isSome = true) : m ≠ "" := by
  rintro rfl
  unfold numO at h
  rw [dg_empty] at h
  cases h
theorem intO_ne {m : Str} (h : (intO m).isSome = true) : m ≠ "" := by
  rintro rfl
  unfold intO at h
  have : ig "" = false := by decide +kernel
  rw [this] at h
  cases h
def spCount : Sp := fun vs H Q _ => ∃ wy mk ms i fl least, vs = [.ref wy, .int least, .non] ∧ Mks ms ∧ Way H wy mk ms i fl ∧
  (∀ v, fl = false → numO (atM ms i) least = some v → ∀ H', Ex [wy] H H' → Way H' wy mk ms (i + 1) false → Q (.int v) H') ∧ (fl = true ∨ numO (atM ms i) least = none → ∀ H', Ex [wy] H H' → Way H' wy mk ms i true → Q (.int 0) H')
theorem w_count {Γ : Gam} (h1 : Γ.fn "_law_x_told" spTold) (h2 : Γ.fn "_law_x_number" spNumber) (h3 : Γ.fn "_law_x_next" spNext) (vs : List V) (H : Hp) (Q : VK) (E : XK) (h : spCount vs H Q E) : wSs Γ i__law_x_count (dE E) (dD Q) (start l__law_x_count.N vs) H := by
  obtain ⟨wy, mk, ms, i, fl, least, rfl, hms, hw, q1, q2⟩ := h
  simp only [i__law_x_count, Dq.wSs, Dq.wS, Dq.wE, Dq.wEs, Dq.wT, tSeq]
  refine ⟨_, h1, _, rfl, _, h2, _, h3, _, rfl, ⟨wy, mk, ms, i, fl, rfl, hw, _, rfl, _, rfl, nxM ms i fl, least, rfl, hms.nx i fl, fun p H1 x1 n1 hp => ?_⟩⟩
  refine ⟨wy, mk, ms, i, fl, p, numO (nxM ms i fl) least, rfl, hms, hw.ex x1, hp, (ne_of_none hw.1 n1).symm, fun z => ?_, fun v z1 z2 H' x2 w2 => ?_, fun z H' x2 w2 => ?_⟩
  · have := numO_ne z
    unfold nxM at this
    split at this
    · exact absurd rfl this
    · exact this
  · subst z1
    exact q1 v rfl z2 H' (x1.nil.trans x2) w2
  · refine q2 ?_ H' (x1.nil.trans x2) w2
    cases fl with
    | true => exact .inl rfl
    | false => exact .inr (z.resolve_left (by simp))
end Hk64

set_option maxHeartbeats 2000000
namespace Hk64
open PySem PySem.Spec PyProof.Rows L2 Dq
def ones : List Str := ["-", "not"]
def twos : List Str := ["+", "-", "*", "/", "rem", "==", "!=", "<", "<="]
/-- a part of a row, of the sort c -/
def partO (c m : Str) : Option V :=
  if c = "n" then (intO m).map .int else if c = "i" then (numO m 0).map .int else if c = "s" then (if nmOk m = true then some (.str m) else none) else if (if c = "o" then ones else twos).contains m = true then some (.str m) else none
def spPart : Sp := fun vs H Q _ => ∃ wy mk ms i fl c, vs = [.ref wy, .str c] ∧ Mks ms ∧ Way H wy mk ms i fl ∧ Read wy mk ms i fl (partO c (atM ms i)) H Q
/-- the marks are taken if r -/
theorem take_b {wy mk : Addr} {ms : List Str} {i : Nat} {fl r : Bool} {H H1 : Hp} {Q : VK} {E : XK} (x : Ex [wy] H H1) (w1 : Way H1 wy mk ms i fl) (hr : fl = false → r = true → atM ms i ≠ "")
    (q1 : fl = false → r = true → ∀ H', Ex [wy] H H' → Way H' wy mk ms (i + 1) false → Q (.str (atM ms i)) H') (q2 : fl = true ∨ r = false → ∀ H', Ex [wy] H H' → Way H' wy mk ms i true → Q (.str "") H') : spTake [.ref wy, .bl r] H1 Q E := by
  refine ⟨wy, mk, ms, i, fl, r, rfl, w1, ?_⟩
  cases fl with
  | true =>
    rw [if_pos (by simp)]
    exact q2 (.inl rfl) _ (x.trans (Ex.wr (by simp))) w1.wr
  | false =>
    cases r with
    | false =>
      rw [if_pos (by simp)]
      exact q2 (.inr rfl) _ (x.trans (Ex.wr (by simp))) w1.wr
    | true =>
      have := hr rfl rfl
      rw [if_neg (by simpa using this)]
      exact q1 rfl rfl _ (x.trans (Ex.wr (by simp))) w1.wr
theorem nm_ne {m : Str} (h : nmOk m = true) : m ≠ "" := by
  rintro rfl
  exact absurd h (by decide +kernel)
theorem nx_f {ms : List Str} {i : Nat} : nxM ms i false = atM ms i := rfl
theorem w_part {Γ : Gam} (h1 : Γ.fn "_law_x_told" spTold) (h2 : Γ.fn "_law_x_integer" spInteger) (h3 : Γ.fn "_law_x_next" spNext) (h4 : Γ.fn "_law_x_count" spCount) (h5 : Γ.fn "_law_x_take" spTake) (h6 : Γ.fn "_law_b_is_name" spNm)
    (vs : List V) (H : Hp) (Q : VK) (E : XK) (h : spPart vs H Q E) : wSs Γ i__law_part (dE E) (dD Q) (start l__law_part.N vs) H := by
  obtain ⟨wy, mk, ms, i, fl, c, rfl, hms, hw, q1, q2⟩ := h
  simp only [i__law_part, Dq.wSs, Dq.wS, Dq.wE, Dq.wEs, Dq.wT, tSeq, tNext]
  refine ⟨_, rfl, eq_s ⟨_, rfl, ?_⟩⟩
  by_cases c1 : c = "n"
  · refine ifT (decide_eq_true c1) ⟨_, h1, _, rfl, _, h2, _, h3, _, rfl, ⟨wy, mk, ms, i, fl, rfl, hw, nxM ms i fl, rfl, hms.nx i fl, fun p H1 x1 n1 hp => ?_⟩⟩
    have e : partO c (atM ms i) = (intO (atM ms i)).map .int := by unfold partO; rw [if_pos c1]
    rw [e] at q1 q2
    refine ⟨wy, mk, ms, i, fl, p, intO (nxM ms i fl), rfl, hms, hw.ex x1, hp, (ne_of_none hw.1 n1).symm, fun z => ?_, fun v z1 z2 H' x2 w2 => ?_, fun z H' x2 w2 => ?_⟩
    · have := intO_ne z
      unfold nxM at this
      split at this
      · exact absurd rfl this
      · exact this
    · subst z1
      rw [nx_f] at z2
      exact q1 _ rfl (by rw [z2]; rfl) H' (x1.nil.trans x2) w2
    · refine q2 ?_ _ H' rfl (x1.nil.trans x2) w2
      cases fl with
      | true => exact .inl rfl
      | false =>
        have := z.resolve_left (by simp)
        rw [nx_f] at this
        exact .inr (by rw [this]; rfl)
  refine ifF (decide_eq_false c1) ⟨_, rfl, eq_s ⟨_, rfl, ?_⟩⟩
  by_cases c2 : c = "i"
  · have e : partO c (atM ms i) = (numO (atM ms i) 0).map .int := by unfold partO; rw [if_neg c1, if_pos c2]
    rw [e] at q1 q2
    refine ifT (decide_eq_true c2) ⟨_, h4, _, rfl, wy, mk, ms, i, fl, 0, rfl, hms, hw, fun v z1 z2 H' x2 w2 => ?_, fun z H' x2 w2 => ?_⟩
    · exact q1 _ z1 (by rw [z2]; rfl) H' x2 w2
    · exact q2 (z.imp id fun y => by rw [y]; rfl) _ H' rfl x2 w2
  refine ifF (decide_eq_false c2) ⟨_, rfl, eq_s ⟨_, rfl, ?_⟩⟩
  by_cases c3 : c = "s"
  · have e : partO c (atM ms i) = (if nmOk (atM ms i) = true then some (.str (atM ms i)) else none) := by unfold partO; rw [if_neg c1, if_neg c2, if_pos c3]
    rw [e] at q1 q2
    refine ifT (decide_eq_true c3) ⟨_, h5, _, rfl, _, h6, _, h3, _, rfl, ⟨wy, mk, ms, i, fl, rfl, hw, nxM ms i fl, rfl, hms.nx i fl, fun H1 x1 => ?_⟩⟩
    refine take_b x1.nil (hw.ex x1) (fun z1 z2 => ?_) (fun z1 z2 H' x2 w2 => ?_) fun z H' x2 w2 => ?_
    · subst z1; exact nm_ne z2
    · subst z1
      rw [nx_f] at z2
      exact q1 _ rfl (by rw [if_pos z2]) H' x2 w2
    · refine q2 ?_ _ H' rfl x2 w2
      cases fl with
      | true => exact .inl rfl
      | false =>
        have := z.resolve_left (by simp)
        rw [nx_f] at this
        exact .inr (by rw [if_neg (by rw [this]; decide)])
  refine ifF (decide_eq_false c3) ⟨_, h5, _, rfl, _, h3, _, rfl, ⟨wy, mk, ms, i, fl, rfl, hw, _, rfl, eq_s ⟨_, rfl, ?_⟩⟩⟩
  have e : partO c (atM ms i) = (if (if c = "o" then ones else twos).contains (atM ms i) = true then some (.str (atM ms i)) else none) := by unfold partO; rw [if_neg c1, if_neg c2, if_neg c3]
  rw [e] at q1 q2
  have fin : ∀ (zs : List Str) (p : Addr), zs = (if c = "o" then ones else twos) → H p = none → qCmp Γ.K Γ.w .In (.str (nxM ms i fl)) (.ref p) (upd H p (.lst (zs.map V.str))) fun x H1 => spTake [.ref wy, x] H1 Q (WE (dE E) (start l__law_part.N [.ref wy, .str c])) := by
    intro zs p ez hp
    refine in_ _ (inV_l (xs := zs.map V.str) (.inl (.inl upd_same)) rfl flat_strs) ?_
    rw [inV_strs]
    refine take_b (Ex.new hp) (hw.ex (Ex.new hp)) (fun z1 z2 => ?_) (fun z1 z2 H' x2 w2 => ?_) fun z H' x2 w2 => ?_
    · subst z1
      rw [nx_f] at z2
      intro z
      rw [z, ez] at z2
      split at z2 <;> exact absurd z2 (by decide +kernel)
    · subst z1
      rw [nx_f, ez] at z2
      exact q1 _ rfl (by rw [if_pos z2]) H' x2 w2
    · refine q2 ?_ _ H' rfl x2 w2
      cases fl with
      | true => exact .inl rfl
      | false =>
        have := z.resolve_left (by simp)
        rw [nx_f, ez] at this
        exact .inr (by rw [if_neg (by rw [this]; decide)])
  by_cases c4 : c = "o"
  · exact ifT (decide_eq_true c4) ⟨by decide, fun p hp => fin ones p (by rw [if_pos c4]) hp⟩
  · exact ifF (decide_eq_false c4) ⟨by decide, fun p hp => fin twos p (by rw [if_neg c4]) hp⟩
end Hk64

set_option maxHeartbeats 2000000
namespace Hk64
open PySem PySem.Spec PyProof.Rows L2 Dq
/-- the shapes, in the order of _law_x_shapes -/
def shT : List (Str × Str) := [("push", "n"), ("one", "o"), ("two", "t"), ("call", "si"), ("load", "i"), ("store", "i"), ("list", "i"), ("jump", "i"), ("part", "i"), ("head", "i"), ("drop", ""), ("truth", ""), ("get", ""), ("set", ""), ("len", ""), ("print", ""), ("give", "")]
def shV : List (Key × V) := shT.map fun q => (.inr q.1, .str q.2)
def sorts (w : Str) : Option Str := (shT.find? fun q => decide (q.1 = w)).map (·.2)
theorem shV_get (w : Str) : valV shV (.inr w) = (sorts w).map V.str := by
  unfold shV sorts
  generalize shT = l
  induction l with
  | nil => rfl
  | cons q r ih =>
    rw [List.map_cons]
    by_cases e : q.1 = w
    · rw [valV_pos (by rw [e]), List.find?_cons, decide_eq_true e]; rfl
    · rw [valV_neg (fun z => e (Sum.inr.inj z)), List.find?_cons, decide_eq_false e]
      exact ih
/-- a walk that puts one value under each text of a tuple -/
theorem w_puts {Γ : Gam} {W : WX} {D : Ends} {σ : L2.St} {H : Hp} {p : Addr} {kvs : List (Key × V)} {es : Dq.CEs} {zs : List Str} {v : Str} (hz : zs.length ≤ 1000) (hk : kvs.length + zs.length ≤ 1000) (h0 : σ[0]? = some (some (.ref p))) (h1 : 1 < σ.length) (hp : H p = some (.dK kvs))
    (he : ∀ (N : List V → Hp → Prop), N (zs.map V.str) H → Dq.wEs Γ es true W σ H N)
    (hd : ∀ σ' H', σ'[0]? = some (some (.ref p)) → σ'.length = σ.length → Ex [p] H H' → H' p = some (.dK (zs.foldl (fun l z => putK l (.inr z) (.str v)) kvs)) → D.nx σ' H') :
    wS Γ (.for_ (.nm 1) (.val (.tup es)) (.cons (.ixs (.var 0) (.var 1) (.str v)) .nil)) W D σ H := by
  simp only [Dq.wS, tFor_eq, Dq.wI, Dq.wE, gOf]
  refine .inl (he _ ⟨by rw [List.length_map, sizeLine_eq]; omega, fun t ht => itv_t (xs := zs.map V.str) (.inl (.inl upd_same)) ?_⟩)
  have hpt : t ≠ p := (ne_of_none hp ht).symm
  refine for_t (xs := zs.map V.str) (fun i σ' H' => σ'[0]? = some (some (.ref p)) ∧ σ'.length = σ.length ∧ i ≤ zs.length ∧ Ex [p] H H' ∧ H' t = some (.tup (zs.map V.str)) ∧ H' p = some (.dK ((zs.take i).foldl (fun l z => putK l (.inr z) (.str v)) kvs)))
    ⟨h0, rfl, Nat.zero_le _, Ex.new ht, upd_same, by rw [upd_ne (Ne.symm hpt)]; exact hp⟩ (fun i σ' H' q => .inl (.inl q.2.2.2.2.1)) (fun σ' H' q => ?_) fun i σ' H' x hx q => ?_
  · obtain ⟨q1, q2, _, q3, _, q4⟩ := q
    rw [List.length_map, List.take_length] at q4
    exact hd σ' H' q1 q2 q3 q4
  · obtain ⟨q1, q2, _, q3, q4, q5⟩ := q
    have hi : i < zs.length := by
      have := (List.getElem?_eq_some_iff.mp hx).1
      rwa [List.length_map] at this
    have ex : x = .str zs[i] := by
      rw [List.getElem?_map, List.getElem?_eq_getElem hi] at hx
      exact (Option.some.inj hx).symm
    subst ex
    have hl : ∀ (l : List Str) (k : List (Key × V)), (l.foldl (fun l z => putK l (.inr z) (.str v)) k).length ≤ k.length + l.length := by
      intro l
      induction l with
      | nil => intro k; simp
      | cons a r ih =>
        intro k
        rw [List.foldl_cons]
        refine Nat.le_trans (ih _) ?_
        have : (putK k (.inr a) (.str v)).length ≤ k.length + 1 := by
          unfold putK
          split <;> simp
        rw [List.length_cons]; omega
    have := hl (zs.take i) kvs
    rw [List.length_take] at this
    show wSs Γ _ W _ _ _
    refine seq1 ?_
    simp only [Dq.wS, Dq.wE]
    refine ⟨_, by rw [List.getElem?_set_ne (by decide)]; exact q1, _, by rw [List.getElem?_set_self (by omega)]; rfl, .inr ⟨p, _, rfl, DPut.k (k := .inr zs[i]) q5 (by rw [sizeLine_eq]; omega), ?_⟩⟩
    show wSs Γ _ W _ _ _
    unfold Dq.wSs
    refine ⟨by rw [List.getElem?_set_ne (by decide)]; exact q1, by rw [List.length_set]; exact q2, hi, q3.trans (Ex.wr (by simp)), by rw [upd_ne hpt]; exact q4, ?_⟩
    rw [upd_same, List.take_succ, List.getElem?_eq_getElem hi, List.foldl_append]
    rfl
def spShapes : Sp := fun vs H Q _ => vs = [] ∧ ∀ p H', Ex [] H H' → H p = none → H' p = some (.dK shV) → Q (.ref p) H'
theorem w_shapes {Γ : Gam} (vs : List V) (H : Hp) (Q : VK) (E : XK) (h : spShapes vs H Q E) : wSs Γ i__law_x_shapes (dE E) (dD Q) (start l__law_x_shapes.N vs) H := by
  obtain ⟨rfl, q⟩ := h
  unfold i__law_x_shapes
  refine seqP (P := fun σ' H' => ∃ p, σ' = [some (.ref p), none] ∧ Ex [] H H' ∧ H p = none ∧ H' p = some (.dK [(.inr "push", .str "n"), (.inr "one", .str "o"), (.inr "two", .str "t"), (.inr "call", .str "si")])) (fun N hN => ?_) fun σ1 H1 p1 => ?_
  · simp only [Dq.wS, Dq.wE, Dq.wP, Dq.CPs.isNil, if_false, Bool.false_eq_true]
    intro p hp
    refine ⟨upd_same, [(.inr "push", .str "n"), (.inr "one", .str "o"), (.inr "two", .str "t"), (.inr "call", .str "si")], rfl, by decide, hN _ _ ⟨p, rfl, ?_, hp, ?_⟩⟩
    · exact (Ex.new hp (bad := [p])).trans (Ex.wr (by simp)) |>.drop fun a ha => .inr (by rw [List.mem_singleton.mp ha]; exact hp)
    · rw [upd_same]
      congr 2
  obtain ⟨p, rfl, x1, n1, hp1⟩ := p1
  refine seqP (P := fun σ' H' => σ'[0]? = some (some (.ref p)) ∧ σ'.length = 2 ∧ Ex [p] H1 H' ∧ H' p = some (.dK (shV.take 10))) (fun N hN => ?_) fun σ2 H2 p2 => ?_
  · refine w_puts (p := p) (zs := ["load", "store", "list", "jump", "part", "head"]) (by decide) (by decide) rfl (by show 1 < 2; decide) hp1 (fun N hN => ?_) fun σ' H' z1 z2 z3 z4 => hN _ _ ⟨z1, z2, z3, ?_⟩
    · simp only [Dq.wEs, Dq.wE]; exact hN
    · rw [z4]; rfl
  obtain ⟨h0, hl, x2, hp2⟩ := p2
  refine seqP (P := fun σ' H' => σ'[0]? = some (some (.ref p)) ∧ Ex [p] H2 H' ∧ H' p = some (.dK shV)) (fun N hN => ?_) fun σ3 H3 p3 => ?_
  · refine w_puts (p := p) (zs := ["drop", "truth", "get", "set", "len", "print", "give"]) (by decide) (by decide) h0 (by omega) hp2 (fun N hN => ?_) fun σ' H' z1 z2 z3 z4 => hN _ _ ⟨z1, z3, ?_⟩
    · simp only [Dq.wEs, Dq.wE]; exact hN
    · rw [z4]; rfl
  obtain ⟨g0, x3, hp3⟩ := p3
  refine seq1 ?_
  simp only [Dq.wS, Dq.wE]
  refine ⟨_, g0, q p H3 ?_ n1 hp3⟩
  exact (x1.nil.trans (x2.trans x3)).drop fun a ha => .inr (by rw [List.mem_singleton.mp ha]; exact n1)
end Hk64

set_option maxHeartbeats 2000000
namespace Hk64
open PySem PySem.Spec PyProof.Rows L2 Dq
/-! ### what a text of codes shows -/
def pNames (ms : List Str) (params : Int) : Nat → List Str → Nat → Except Nat (List Str × Nat)
  | 0, _, i => .error i
  | n + 1, found, i =>
    if ((found.length : Int) < params ∨ atM ms i ≠ ";") then
      if (nmOk (atM ms i) && !found.contains (atM ms i)) = true then pNames ms params n (found ++ [atM ms i]) (i + 1) else .error i
    else .ok (found, i)
def pParts (ms : List Str) : List Nat → List V → Nat → Except Nat (List V × Nat)
  | [], acc, i => .ok (acc, i)
  | c :: r, acc, i => match partO ⟨#[c]⟩ (atM ms i) with
    | none => .error i
    | some v => pParts ms r (acc ++ [v]) (i + 1)
def rowD (w : Str) (vs : List V) : DD := .tup ((V.str w :: vs).map .at)
def placeD (l p : Int) : DD := .tup [.at (.int l), .at (.int p)]
/-- what stands behind the parts of a row -/
def kParts {α : Type} (f : List V → Nat → Except Nat α) : Except Nat (List V × Nat) → Except Nat α
  | .error e => .error e
  | .ok (vs, j) => f vs j
def pRows (ms : List Str) : Nat → List DD → List DD → Nat → Except Nat (List DD × List DD × Nat)
  | 0, _, _, i => .error i
  | n + 1, rows, places, i =>
    if (rows.isEmpty = true ∨ atM ms i ≠ "End") then
      match numO (atM ms i) 1 with
      | none => .error i
      | some l => match numO (atM ms (i + 1)) 1 with
        | none => .error (i + 1)
        | some p => match sorts (atM ms (i + 2)) with
          | none => .error (i + 2)
          | some cs => kParts (fun vs j => pRows ms n (rows ++ [rowD (atM ms (i + 2)) vs]) (places ++ [placeD l p]) j) (pParts ms cs.cps.toList [] (i + 3))
    else .ok (rows, places, i)
def codeD (params : Int) (names : List Str) (rows places : List DD) : DD := .tup [.at (.int params), .lst (names.map fun z => .at (.str z)), .lst rows, .lst places]
def kRows {α : Type} (f : List DD → List DD → Nat → Except Nat α) : Except Nat (List DD × List DD × Nat) → Except Nat α
  | .error e => .error e
  | .ok (rows, places, k) => f rows places k
def kNames {α : Type} (f : List Str → Nat → Except Nat α) : Except Nat (List Str × Nat) → Except Nat α
  | .error e => .error e
  | .ok (names, j) => f names j
abbrev Found := List (Str × DD)
def pCodes (ms : List Str) : Nat → Found → Nat → Except Nat Found
  | 0, _, i => .error i
  | n + 1, found, i =>
    if i < ms.length then
      if atM ms i = "Code" then
        if (nmOk (atM ms (i + 1)) && !found.any fun q => decide (q.1 = atM ms (i + 1))) = true then
          match numO (atM ms (i + 2)) 0 with
          | none => .error (i + 2)
          | some params => kNames (fun names j => kRows (fun rows places k => pCodes ms n (found ++ [(atM ms (i + 1), codeD params names rows places)]) (k + 1)) (pRows ms (ms.length + 1) [] [] (j + 1))) (pNames ms params (ms.length + 1) [] (i + 3))
        else .error (i + 1)
      else .error i
    else .ok found
def rd (ms : List Str) : Except Nat Found := pCodes ms (ms.length + 1) [] 0
def resD : Except Nat Found → DD
  | .error i => .tup [.at (.str "mark"), .at (.int i)]
  | .ok ks => .tup [.at (.str "told"), .dic ks]
def dueD (ms : List Str) : DD := resD (rd ms)
/-- at the place j: either the rest P gives R, or all has ended there -/
def Pt {α : Type} (R : Except Nat α) (fl : Bool) (j : Nat) (P : Prop) : Prop := (fl = false ∧ P) ∨ (fl = true ∧ R = .error j)
/-! ### rows against [] -/
def okV : V → Bool
  | .int _ => true
  | .str x => PyData.canLay0 (.str x)
  | _ => false
def pyV : V → PyData
  | .int i => .int i
  | .str x => .str x
  | _ => .none
theorem dp_v {K : PySem.W.Frag} {H : Hp} : ∀ {v : V}, okV v = true → Dp K H v (pyV v) ∧ PyData.canLay0 (pyV v) = true ∧ PyData.depth (pyV v) = 0 := fun {v} h => by
  cases v with
  | int i => exact ⟨.int i, rfl, rfl⟩
  | str x => exact ⟨.str x, h, rfl⟩
  | _ => cases h
theorem dp_vs {K : PySem.W.Frag} {H : Hp} : ∀ {vs : List V}, vs.all okV = true → DpAll K H vs (vs.map pyV) ∧ PyData.canLayAll0 (vs.map pyV) = true ∧ PyData.depthAll (vs.map pyV) = 0
  | [], _ => ⟨.nil, rfl, rfl⟩
  | v :: vs, h => by
    rw [List.all_cons, Bool.and_eq_true] at h
    obtain ⟨a1, a2, a3⟩ := dp_v (K := K) (H := H) h.1
    obtain ⟨b1, b2, b3⟩ := dp_vs (K := K) (H := H) h.2
    refine ⟨.cons a1 b1, ?_, ?_⟩
    · show (_ && _) = true
      rw [a2, b2]; rfl
    · show max _ _ = 0
      rw [a3, b3]; rfl
/-- a list of tuples of ints and texts -/
def Tups (H : Hp) (xs : List V) : Prop := ∀ x ∈ xs, ∃ a vs, x = .ref a ∧ H a = some (.tup vs) ∧ vs.all okV = true
theorem Tups.ex {H H' : Hp} {xs : List V} (h : Tups H xs) (x : Ex [] H H') : Tups H' xs := fun y hy => by
  obtain ⟨a, vs, e, ha, o⟩ := h y hy
  exact ⟨a, vs, e, x.get ha (by simp), o⟩
theorem dp_tups {K : PySem.W.Frag} {H : Hp} : ∀ {xs : List V}, Tups H xs → ∃ ds, DpAll K H xs ds ∧ PyData.canLayAll0 ds = true ∧ PyData.depthAll ds ≤ 1 ∧ ds.isEmpty = xs.isEmpty
  | [], _ => ⟨[], .nil, rfl, by decide, rfl⟩
  | x :: xs, h => by
    obtain ⟨a, vs, rfl, ha, o⟩ := h x List.mem_cons_self
    obtain ⟨b1, b2, b3⟩ := dp_vs (K := K) (H := H) o
    obtain ⟨ds, c1, c2, c3, _⟩ := dp_tups (K := K) (xs := xs) fun y hy => h y (List.mem_cons_of_mem _ hy)
    refine ⟨.tuple (vs.map pyV) :: ds, .cons (.tup (.inl (.inl ha)) b1) c1, ?_, ?_, rfl⟩
    · show (PyData.canLayAll0 _ && _) = true
      rw [b2, c2]; rfl
    · show max (PyData.depthAll _ + 1) _ ≤ 1
      rw [b3]; omega
theorem eq_nilT {K : PySem.W.Frag} {w : World} {H : Hp} {Q : VK} {a b : Addr} {xs : List V} (h : H a = some (.lst xs)) (ht : Tups H xs) (h' : H b = some (.lst [])) (q : Q (.bl xs.isEmpty) H) : qCmp K w .Eq (.ref a) (.ref b) H Q := by
  obtain ⟨ds, c1, c2, c3, c4⟩ := dp_tups (K := K) ht
  refine eq_d (d := .list ds) (e := .list []) (.lst (.inl (.inl h)) c1) (.lst (.inl (.inl h')) .nil) ?_ (by decide) ?_
  · show (PyData.canLayAll0 ds && decide (PyData.depthAll ds + 1 ≤ 64)) = true
    rw [c2, decide_eq_true (by omega)]; rfl
  · have : PyData.eqv (.list ds) (.list []) = xs.isEmpty := by
      rw [← c4]
      cases ds <;> rfl
    rw [this]; exact q
theorem partO_flat {c m : Str} {v : V} (h : partO c m = some v) : flatV v = true := by
  unfold partO at h
  split at h
  · cases q : intO m <;> rw [q] at h <;> cases h; rfl
  · split at h
    · cases q : numO m 0 <;> rw [q] at h <;> cases h; rfl
    · split at h
      · split at h <;> cases h; rfl
      · by_cases k : (if c = "o" then ones else twos).contains m = true
        · rw [if_pos k] at h; cases h; rfl
        · rw [if_neg k] at h; cases h
theorem partO_ok {c m : Str} {v : V} (hm : PyData.canLay0 (.str m) = true) (h : partO c m = some v) : okV v = true := by
  unfold partO at h
  split at h
  · cases q : intO m <;> rw [q] at h <;> cases h; rfl
  · split at h
    · cases q : numO m 0 <;> rw [q] at h <;> cases h; rfl
    · split at h
      · split at h <;> cases h; exact hm
      · by_cases k : (if c = "o" then ones else twos).contains m = true
        · rw [if_pos k] at h; cases h; exact hm
        · rw [if_neg k] at h; cases h
end Hk64

set_option maxHeartbeats 2000000
namespace Hk64
open PySem PySem.Spec PyProof.Rows L2 Dq
theorem at_lt {ms : List Str} {i : Nat} (h : atM ms i ≠ "") : i < ms.length := by
  refine Nat.lt_of_not_le fun z => h (atM_ge z)
def optE {α β : Type} (i : Nat) (f : β → Except Nat α) : Option β → Except Nat α
  | none => .error i
  | some b => f b
/-- a number is read -/
theorem count_pt {α : Type} {wy mk : Addr} {ms : List Str} {j : Nat} {fl : Bool} {least : Int} {H : Hp} {Q : VK} {E : XK} {R : Except Nat α} (f : Int → Nat → Except Nat α) (hms : Mks ms) (hw : Way H wy mk ms j fl) (hj : j ≤ ms.length)
    (hp : Pt R fl j (optE j (fun l => f l (j + 1)) (numO (atM ms j) least) = R))
    (q : ∀ l j' fl' H', Ex [wy] H H' → Way H' wy mk ms j' fl' → j' ≤ ms.length → j ≤ j' → (fl' = false → j' = j + 1 ∧ fl = false) → Pt R fl' j' (f l j' = R) → Q (.int l) H') : spCount [.ref wy, .int least, .non] H Q E := by
  refine ⟨wy, mk, ms, j, fl, least, rfl, hms, hw, fun v z1 z2 H' x w => ?_, fun z H' x w => ?_⟩
  · have hl := at_lt (numO_ne (by rw [z2]; rfl))
    refine q v (j + 1) false H' x w hl (Nat.le_succ _) (fun _ => ⟨rfl, z1⟩) (.inl ⟨rfl, ?_⟩)
    rcases hp with ⟨_, hp⟩ | ⟨e, _⟩
    · rw [z2] at hp; exact hp
    · rw [z1] at e; cases e
  · refine q 0 j true H' x w hj (Nat.le_refl _) (fun z => nomatch z) (.inr ⟨rfl, ?_⟩)
    rcases hp with ⟨e, hp⟩ | ⟨_, hp⟩
    · rcases z with z | z
      · rw [e] at z; cases z
      · rw [z] at hp; exact hp.symm
    · exact hp
/-- a mark is taken -/
theorem take_pt {α : Type} {wy mk : Addr} {ms : List Str} {j : Nat} {fl r r' : Bool} {H H1 : Hp} {Q : VK} {E : XK} {R : Except Nat α} (f : Nat → Except Nat α) (x : Ex [wy] H H1) (hw : Way H1 wy mk ms j fl) (hj : j ≤ ms.length) (hr : fl = false → r = r') (hne : r' = true → atM ms j ≠ "")
    (hp : Pt R fl j ((if r' = true then f (j + 1) else .error j) = R))
    (q : ∀ z j' fl' H', Ex [wy] H H' → Way H' wy mk ms j' fl' → j' ≤ ms.length → j ≤ j' → (fl' = false → j' = j + 1 ∧ z = atM ms j ∧ r' = true ∧ fl = false) → (fl' = true → z = "") → Pt R fl' j' (f j' = R) → Q (.str z) H') : spTake [.ref wy, .bl r] H1 Q E := by
  refine take_b x hw (fun z1 z2 => hne (by rw [← hr z1]; exact z2)) (fun z1 z2 H' x' w => ?_) fun z H' x' w => ?_
  · have e := hr z1
    rw [z2] at e
    refine q _ (j + 1) false H' x' w (at_lt (hne e.symm)) (Nat.le_succ _) (fun _ => ⟨rfl, rfl, e.symm, z1⟩) (fun z => nomatch z) (.inl ⟨rfl, ?_⟩)
    rcases hp with ⟨_, hp⟩ | ⟨e2, _⟩
    · rw [← e, if_pos rfl] at hp; exact hp
    · rw [z1] at e2; cases e2
  · refine q "" j true H' x' w hj (Nat.le_refl _) (fun z => nomatch z) (fun _ => rfl) (.inr ⟨rfl, ?_⟩)
    rcases hp with ⟨e, hp⟩ | ⟨_, hp⟩
    · rcases z with z | z
      · rw [e] at z; cases z
      · have := hr e
        rw [z] at this
        rw [← this, if_neg (by decide)] at hp
        exact hp.symm
    · exact hp
/-- next, as it stands -/
theorem next_q {wy mk : Addr} {ms : List Str} {j : Nat} {fl : Bool} {H : Hp} {Q : VK} {E : XK} (hw : Way H wy mk ms j fl) (q : Q (.str (nxM ms j fl)) H) : spNext [.ref wy] H Q E := ⟨wy, mk, ms, j, fl, rfl, hw, q⟩
structure DueFns (Γ : Gam) : Prop where
  next : Γ.fn "_law_x_next" spNext
  take : Γ.fn "_law_x_take" spTake
  count : Γ.fn "_law_x_count" spCount
  part : Γ.fn "_law_part" spPart
  name : Γ.fn "_law_b_is_name" spNm
  shapes : Γ.fn "_law_x_shapes" spShapes
variable {Γ : Gam} {W : WX} {D : Ends}
theorem notIn_strs {w : World} {K : PySem.W.Frag} {H : Hp} {Q : VK} {z : Str} {p : Addr} {zs : List Str} (h : H p = some (.lst (zs.map V.str))) (q : Q (.bl (!zs.contains z)) H) : qCmp K w .NotIn (.str z) (.ref p) H Q := by
  refine nin_ _ (inV_l (.inl (.inl h)) rfl flat_strs) ?_
  rw [inV_strs]; exact q
/-- ahead of each turn of the names' loop -/
def NmI {α : Type} (σ0 : L2.St) (H : Hp) (wy mk pn : Addr) (ms : List Str) (params : Int) (fl : Bool) (R : Except Nat α) (K : List Str → Nat → Except Nat α) (j m : Nat) (σ' : L2.St) (H' : Hp) : Prop := σ' = σ0 ∧ ∃ j' fl' names', Ex [wy, pn] H H' ∧ Way H' wy mk ms j' fl' ∧ H' pn = some (.lst (names'.map V.str)) ∧ j' ≤ ms.length ∧ j ≤ j' ∧ (fl' = false → ms.length + 1 ≤ m + j') ∧
  (fl' = false → names'.length ≤ j' ∧ fl = false) ∧ Pt R fl' j' (kNames K (pNames ms params m names' j') = R)
theorem due_names {α : Type} {a0 a1 a2 a3 a4 a7 a8 a9 a10 a11 : Option V} {wy mk pn : Addr} {ms : List Str} {params : Int} (F : DueFns Γ) (hms : Mks ms) {R : Except Nat α} (K : List Str → Nat → Except Nat α) {n j : Nat} {fl : Bool} {names : List Str} {H : Hp}
    (ha1 : a1 = some (.ref wy)) (hne : pn ≠ wy) (hne2 : pn ≠ mk) (hw : Way H wy mk ms j fl) (hpn : H pn = some (.lst (names.map V.str))) (hj : j ≤ ms.length) (hn : ms.length + 1 ≤ n + j) (hl : names.length ≤ j) (hp : Pt R fl j (kNames K (pNames ms params n names j) = R))
    (hd : ∀ H' j' fl' names', (fl' = false → fl = false) → Ex [wy, pn] H H' → Way H' wy mk ms j' fl' → H' pn = some (.lst (names'.map V.str)) → j' ≤ ms.length → j ≤ j' → Pt R fl' j' (atM ms j' = ";" ∧ K names' j' = R) → D.nx [a0, a1, a2, a3, a4, some (.int params), some (.ref pn), a7, a8, a9, a10, a11] H') :
    wS Γ i__law_due_1a_3 W D [a0, a1, a2, a3, a4, some (.int params), some (.ref pn), a7, a8, a9, a10, a11] H := by
  subst ha1
  unfold i__law_due_1a_3
  refine whP (I := NmI [a0, some (.ref wy), a2, a3, a4, some (.int params), some (.ref pn), a7, a8, a9, a10, a11] H wy mk pn ms params fl R K j)
    (T := fun m σ' H' k H1 => ∃ j' fl' names', Ex [wy, pn] H H1 ∧ Way H1 wy mk ms j' fl' ∧ H1 pn = some (.lst (names'.map V.str)) ∧ j' ≤ ms.length ∧ j ≤ j' ∧ (fl' = false → ms.length + 1 ≤ m + j') ∧ (fl' = false → names'.length ≤ j' ∧ fl = false) ∧
      if k = true then fl' = false ∧ ((names'.length : Int) < params ∨ atM ms j' ≠ ";") ∧ kNames K (pNames ms params m names' j') = R else Pt R fl' j' (atM ms j' = ";" ∧ K names' j' = R))
    n ⟨rfl, j, fl, names, Ex.refl, hw, hpn, hj, Nat.le_refl _, fun _ => hn, fun e => ⟨hl, e⟩, hp⟩ ?_ ?_ ?_
  · rintro m σ' H' ⟨rfl, j', fl', names', x', w', p', hj', hjj, hn', hl', pt⟩ N hN
    simp only [Dq.wT, Dq.wE, Dq.wEs]
    refine ⟨_, rfl, ix_ln (n := 2) w'.1 rfl ⟨_, rfl, ?_⟩⟩
    cases fl' with
    | true =>
      refine ifF rfl (hN _ _ ⟨j', true, names', x', w', p', hj', hjj, hn', hl', ?_⟩)
      rw [if_neg (by decide)]
      rcases pt with ⟨e, _⟩ | ⟨_, e⟩
      · cases e
      · exact .inr ⟨rfl, e⟩
    | false =>
      have e : kNames K (pNames ms params m names' j') = R := by
        rcases pt with ⟨_, e⟩ | ⟨e, _⟩
        · exact e
        · cases e
      refine ifT rfl ⟨_, rfl, len_lst p' ⟨_, rfl, lt_i ⟨_, rfl, ?_⟩⟩⟩
      rw [List.length_map]
      by_cases h1 : (names'.length : Int) < params
      · refine ifT (decide_eq_true h1) (hN _ _ ⟨j', false, names', x', w', p', hj', hjj, hn', hl', ?_⟩)
        rw [if_pos rfl]
        exact ⟨rfl, .inl h1, e⟩
      · refine ifF (decide_eq_false h1) ⟨_, F.next, _, rfl, next_q w' (ne_s ⟨_, rfl, hN _ _ ⟨j', false, names', x', w', p', hj', hjj, hn', hl', ?_⟩⟩)⟩
        rw [nx_f]
        by_cases h2 : atM ms j' = ";"
        · rw [if_neg (by rw [decide_eq_true h2]; decide)]
          have hn' := hn' rfl
          cases m with
          | zero => omega
          | succ m =>
            unfold pNames at e
            rw [if_neg (fun z => z.elim h1 fun y => y h2)] at e
            exact .inl ⟨rfl, h2, e⟩
        · rw [if_pos (by rw [decide_eq_false h2]; rfl)]
          exact ⟨rfl, .inr h2, e⟩
  · rintro m σ' H0 H' ⟨rfl, -⟩ ⟨j', fl', names', x', w', p', hj', hjj, hn', hl', z⟩
    rw [if_pos rfl] at z
    obtain ⟨rfl, hc, e⟩ := z
    have hn' := hn' rfl
    cases m with
    | zero => omega
    | succ m =>
    unfold pNames at e
    rw [if_pos hc] at e
    obtain ⟨hlen, hfl⟩ := hl' rfl
    have hfew := hms.few
    have fin : ∀ (r : Bool) (H2 : Hp) (Qx : VK) (Ex' : XK), Ex [] H' H2 → r = (nmOk (atM ms j') && !names'.contains (atM ms j')) → (∀ z H3, H3 pn = some (.lst (names'.map V.str)) → (∃ m', m' < m + 1 ∧ NmI [a0, some (.ref wy), a2, a3, a4, some (.int params), some (.ref pn), a7, a8, a9, a10, a11] H wy mk pn ms params fl R K j m' [a0, some (.ref wy), a2, a3, a4, some (.int params), some (.ref pn), a7, a8, a9, a10, a11] (upd H3 pn (.lst (names'.map V.str ++ [.str z])))) → Qx (.str z) H3) → spTake [.ref wy, .bl r] H2 Qx Ex' := by
      intro r H2 Qx Ex' x2 er hq
      have w2 := w'.ex x2
      have p2 := x2.get p' (by simp)
      refine take_pt (H := H2) (R := R) (fun i => kNames K (pNames ms params m (names' ++ [atM ms j']) i)) Ex.refl w2 hj' (fun _ => er) (fun z => nm_ne (Bool.and_eq_true_iff.mp z).1) (.inl ⟨rfl, ?_⟩) fun z j2 fl2 H3 x3 w3 hj3 hjj3 k1 k2 pt3 => ?_
      · rw [← e]
        split <;> rfl
      · have p3 := x3.get p2 (by simpa using hne)
        have w4 : Way (upd H3 pn (.lst (names'.map V.str ++ [.str z]))) wy mk ms j2 fl2 := ⟨by rw [upd_ne (Ne.symm hne)]; exact w3.1, by rw [upd_ne (Ne.symm hne2)]; exact w3.2.1, w3.2.2⟩
        have x4 : Ex [wy, pn] H (upd H3 pn (.lst (names'.map V.str ++ [.str z]))) := (x'.trans x2.nil).trans ((x3.imp (by simp)).trans (Ex.wr (by simp)))
        refine hq z H3 p3 ⟨m, Nat.lt_succ_self _, rfl, j2, fl2, names' ++ [z], x4, w4, by rw [upd_same]; simp, hj3, Nat.le_trans hjj hjj3, ?_, fun z => ?_, ?_⟩
        · intro z
          have := (k1 z).1
          omega
        · have := (k1 z).1
          refine ⟨?_, hfl⟩
          rw [List.length_append]; simp; omega
        · rcases pt3 with ⟨h, q⟩ | q
          · obtain ⟨-, rfl, -⟩ := k1 h
            exact .inl ⟨h, q⟩
          · exact .inr q
    show wSs Γ i__law_due_1a_3a _ _ _ _
    unfold i__law_due_1a_3a
    refine seq1 ?_
    unfold i__law_due_1a_3a_0
    simp only [Dq.wS, Dq.wE, Dq.wEs]
    refine ⟨_, rfl, tyl p', _, F.take, _, rfl, _, F.name, _, F.next, _, rfl, next_q w' ⟨_, rfl, hms.nx j' false, fun H2 x2 => ⟨_, rfl, ?_⟩⟩⟩
    rw [nx_f]
    have fin2 := fun (z : Str) (H3 : Hp) (p3 : H3 pn = some (.lst (names'.map V.str))) (q : ∃ m', m' < m + 1 ∧ NmI [a0, some (.ref wy), a2, a3, a4, some (.int params), some (.ref pn), a7, a8, a9, a10, a11] H wy mk pn ms params fl R K j m' [a0, some (.ref wy), a2, a3, a4, some (.int params), some (.ref pn), a7, a8, a9, a10, a11] (upd H3 pn (.lst (names'.map V.str ++ [.str z])))) => app_ (K := Γ.K) (Q := fun _ H' => ∃ m', m' < m + 1 ∧ NmI [a0, some (.ref wy), a2, a3, a4, some (.int params), some (.ref pn), a7, a8, a9, a10, a11] H wy mk pn ms params fl R K j m' [a0, some (.ref wy), a2, a3, a4, some (.int params), some (.ref pn), a7, a8, a9, a10, a11] H') p3 (x := V.str z) (by rw [List.length_map, sizeLine_eq]; omega) q
    cases hn1 : nmOk (atM ms j') with
    | false => exact ifF rfl (fin false H2 _ _ x2 (by rw [hn1]; rfl) fin2)
    | true => exact ifT rfl ⟨_, F.next, _, rfl, next_q (w'.ex x2) ⟨_, rfl, notIn_strs (x2.get p' (by simp)) (fin _ H2 _ _ x2 (by rw [hn1]; rfl) fin2)⟩⟩
  · rintro m σ' H0 H' ⟨rfl, -⟩ ⟨j', fl', names', x', w', p', hj', hjj, hn', hl', pt⟩
    rw [if_neg (by decide)] at pt
    exact hd H' j' fl' names' (fun e => (hl' e).2) x' w' p' hj' hjj pt
end Hk64

set_option maxHeartbeats 2000000
namespace Hk64
open PySem PySem.Spec PyProof.Rows L2 Dq
variable {Γ : Gam} {W : WX} {D : Ends}
theorem sizeBig : (100000 : Nat) + 1000 < sizeLine := by rw [sizeLine_eq]; omega
/-- a tuple behind a tuple -/
theorem add_t {K : PySem.W.Frag} {H : Hp} {Q : VK} {a b : Addr} {x : V} {ys : List V} (h : H a = some (.tup [x])) (h' : H b = some (.tup ys)) (hl : 1 + ys.length ≤ sizeLine) (q0 : ys = [] → Q (.ref a) H) (q : ∀ p, H p = none → Q (.ref p) (upd H p (.tup (x :: ys)))) : qBin K .Add (.ref a) (.ref b) H Q := by
  refine .inr (.inr (.inr ⟨a, b, [x], ys, rfl, rfl, .inl (.inl h), .inl (.inl h'), hl, fun z => absurd z (by simp), fun _ e => q0 e, fun _ _ p hp => q p hp⟩))
theorem Read.pt {α : Type} {wy mk : Addr} {ms : List Str} {j : Nat} {fl : Bool} {o : Option V} {H : Hp} {Q : VK} {R : Except Nat α} (f : V → Nat → Except Nat α) (hms : Mks ms) (hj : j ≤ ms.length) (hne : o.isSome = true → atM ms j ≠ "") (hf : ∀ v, o = some v → flatV v = true ∧ okV v = true)
    (hp : Pt R fl j (optE j (fun v => f v (j + 1)) o = R))
    (q : ∀ v j' fl' H', flatV v = true → (fl' = false → okV v = true ∧ fl = false) → Ex [wy] H H' → Way H' wy mk ms j' fl' → j' ≤ ms.length → j ≤ j' → Pt R fl' j' (f v j' = R) → Q v H') : Read wy mk ms j fl o H Q := by
  refine ⟨fun v z1 z2 H' x w => ?_, fun z v H' fv x w => ?_⟩
  · have hl := at_lt (hne (by rw [z2]; rfl))
    refine q v (j + 1) false H' (hf v z2).1 (fun _ => ⟨(hf v z2).2, z1⟩) x w hl (Nat.le_succ _) (.inl ⟨rfl, ?_⟩)
    rcases hp with ⟨_, hp⟩ | ⟨e, _⟩
    · rw [z2] at hp; exact hp
    · rw [z1] at e; cases e
  · refine q v j true H' fv (fun z => nomatch z) x w hj (Nat.le_refl _) (.inr ⟨rfl, ?_⟩)
    rcases hp with ⟨e, hp⟩ | ⟨_, hp⟩
    · rcases z with z | z
      · rw [e] at z; cases z
      · rw [z] at hp; exact hp.symm
    · exact hp
theorem partO_ne {c m : Str} (h : (partO c m).isSome = true) : m ≠ "" := by
  rintro rfl
  unfold partO at h
  split at h
  · rw [show intO "" = none from by unfold intO; rw [show ig "" = false from by decide +kernel]; rfl] at h; cases h
  · split at h
    · rw [show numO "" 0 = none from by unfold numO; rw [dg_empty]; rfl] at h; cases h
    · split at h
      · rw [if_neg (by decide +kernel)] at h; cases h
      · by_cases k : (if c = "o" then ones else twos).contains "" = true
        · revert k
          split <;> exact fun k => absurd k (by decide +kernel)
        · rw [if_neg k] at h; cases h
/-- ahead of each part -/
def PaI {α : Type} (H : Hp) (wy mk dl : Addr) (ms : List Str) (fl : Bool) (R : Except Nat α) (K : List V → Nat → Except Nat α) (cs : List Nat) (j k : Nat) (H' : Hp) : Prop := ∃ vs j' fl', H' dl = some (.lst vs) ∧ vs.length = k ∧ vs.all flatV = true ∧ (fl' = false → vs.all okV = true ∧ fl = false) ∧ Ex [wy, dl] H H' ∧ Way H' wy mk ms j' fl' ∧ j' ≤ ms.length ∧ j ≤ j' ∧
  Pt R fl' j' (kParts K (pParts ms (cs.drop k) vs j') = R)
theorem due_parts {α : Type} {W' : WX} (F : DueFns Γ) {wy mk : Addr} {ms : List Str} (hms : Mks ms) {R : Except Nat α} (K : List V → Nat → Except Nat α) {j : Nat} {fl : Bool} {z : Str} {σ : L2.St} {H : Hp} {Q : VK} (hσ : σ[1]? = some (some (.ref wy))) (hl : 11 < σ.length) (hw : Way H wy mk ms j fl) (hj : j ≤ ms.length) (hz : z.length ≤ 10)
    (hp : Pt R fl j (kParts K (pParts ms z.cps.toList [] j) = R)) {dl : Addr} (hd : H dl = none)
    (q : ∀ vs j' fl' H', vs.length = z.length → vs.all flatV = true → (fl' = false → vs.all okV = true ∧ fl = false) → Ex [wy] H H' → H' dl = some (.lst vs) → Way H' wy mk ms j' fl' → j' ≤ ms.length → j ≤ j' → Pt R fl' j' (K vs j' = R) → Q (.ref dl) H') :
    LcR (Its z) (gName 11) (fun _ H Q => Q true H) (fun σ H Q => ∃ sp, Γ.fn "_law_part" sp ∧ ∃ v, σ[1]? = some (some v) ∧ ∃ u, σ[11]? = some (some u) ∧ sp [v, u] H Q (WE W' σ)) [11] σ Q dl H := by
  have hne : dl ≠ wy := (ne_of_none hw.1 hd).symm
  have hne2 : dl ≠ mk := (ne_of_none hw.2.1 hd).symm
  have hlen : z.cps.toList.length = z.length := Array.length_toList
  refine lc_s (I := PaI H wy mk dl ms fl R K z.cps.toList j) ?_ ?_ ?_
  · exact ⟨[], j, fl, upd_same, rfl, rfl, fun e => ⟨rfl, e⟩, Ex.new hd, hw.ex (Ex.new hd), hj, Nat.le_refl _, by rw [List.drop_zero]; exact hp⟩
  · rintro H' ⟨vs, j', fl', h1, h2, h3, h4, h5, h6, h7, h8, h9⟩
    refine q vs j' fl' H' h2 h3 h4 (h5.drop fun a ha => ?_) h1 h6 h7 h8 ?_
    · rcases List.mem_cons.mp ha with rfl | ha
      · exact .inl (by simp)
      · exact .inr (by rw [List.mem_singleton.mp ha]; exact hd)
    · have : z.cps.toList.drop z.cps.size = [] := List.drop_eq_nil_of_le (by simp)
      rw [this] at h9
      exact h9
  · rintro k H' c hc ⟨vs, j', fl', h1, h2, h3, h4, h5, h6, h7, h8, h9⟩
    have hk : k < z.cps.size := (Array.getElem?_eq_some_iff.mp hc).1
    have hdr : z.cps.toList.drop k = c :: z.cps.toList.drop (k + 1) := by
      have hc' : z.cps.toList[k]? = some c := by rw [← hc]; simp
      obtain ⟨hk', e⟩ := List.getElem?_eq_some_iff.mp hc'
      rw [← e]
      exact List.drop_eq_getElem_cons hk'
    refine ⟨wipe1 (y := none), ?_⟩
    show if true = true then _ else _
    refine ifT rfl ⟨_, F.part, _, ?_, _, wipe_get hl, wy, mk, ms, j', fl', _, rfl, hms, h6, ?_⟩
    · unfold wipe
      show ((σ.set 11 none).set 11 _)[1]? = _
      rw [List.getElem?_set_ne (by decide), List.getElem?_set_ne (by decide)]
      exact hσ
    · refine Read.pt (R := R) (fun v i => kParts K (pParts ms (z.cps.toList.drop (k + 1)) (vs ++ [v]) i)) hms h7 partO_ne (fun v e => ⟨partO_flat e, partO_ok (hms.atL j') e⟩) ?_ fun v j2 fl2 H3 fv ov x3 w3 hj3 hjj3 pt3 => ?_
      · refine h9.imp (fun y => ⟨y.1, ?_⟩) id
        have := y.2
        rw [hdr] at this
        unfold pParts at this
        rw [← this]
        cases partO ⟨#[c]⟩ (atM ms j') <;> rfl
      · have g1 := x3.get h1 (by simpa using hne)
        have hs := sizeBig
        have hz' : z.cps.size ≤ 10 := hz
        refine ⟨vs, g1, by omega, vs ++ [v], j2, fl2, upd_same, by rw [List.length_append, h2]; rfl, ?_, fun e => ?_, (h5.trans (x3.imp (by simp))).trans (Ex.wr (by simp)), ⟨by rw [upd_ne (Ne.symm hne)]; exact w3.1, by rw [upd_ne (Ne.symm hne2)]; exact w3.2.1, w3.2.2⟩, hj3, Nat.le_trans h8 hjj3, pt3⟩
        · rw [List.all_append, h3]; simp [fv]
        · obtain ⟨o1, e0⟩ := ov e
          obtain ⟨o2, e2⟩ := h4 e0
          refine ⟨?_, e2⟩
          rw [List.all_append, o2]; simp [o1]
end Hk64

set_option maxHeartbeats 2000000
namespace Hk64
open PySem PySem.Spec PyProof.Rows L2 Dq
variable {Γ : Gam} {W : WX} {D : Ends}
/-- the sorts of a word's parts, as a text -/
def sortT (w : Str) : Str := if w = "" then "" else (sorts w).getD ""
theorem sorts_len {w z : Str} (h : sorts w = some z) : z.length ≤ 10 := by
  unfold sorts at h
  obtain ⟨q, hq, rfl⟩ := Option.map_eq_some_iff.mp h
  have := List.mem_of_find?_eq_some hq
  have all : shT.all (fun q => decide (q.2.length ≤ 10)) = true := by decide +kernel
  exact of_decide_eq_true (List.all_eq_true.mp all q this)
theorem due_row {α : Type} (F : DueFns Γ) {wy mk sh pr : Addr} {ms : List Str} (hms : Mks ms) {R : Except Nat α} (K : List V → Nat → Except Nat α) {j : Nat} {fl : Bool} {word : Str} {σ : L2.St} {H : Hp} {xr : List V} (s1 : σ[1]? = some (some (.ref wy))) (s3 : σ[3]? = some (some (.ref sh))) (s7 : σ[7]? = some (some (.ref pr))) (s10 : σ[10]? = some (some (.str word)))
    (hl : 11 < σ.length) (hw : Way H wy mk ms j fl) (hsh : H sh = some (.dK shV)) (hpr : H pr = some (.lst xr)) (hxr : xr.length ≤ 100000) (hne : pr ≠ wy) (hne2 : pr ≠ mk) (hj : j ≤ ms.length) (hword : word = "" ∨ (sorts word).isSome = true)
    (hp : Pt R fl j (kParts K (pParts ms (sortT word).cps.toList [] j) = R))
    (hd : ∀ H' t vs j' fl', Ex [wy, pr] H H' → Way H' wy mk ms j' fl' → H' pr = some (.lst (xr ++ [.ref t])) → H t = none → H' t = some (.tup (.str word :: vs)) → vs.all flatV = true → (fl' = false → vs.all okV = true ∧ fl = false) → j' ≤ ms.length → j ≤ j' → Pt R fl' j' (K vs j' = R) → D.nx σ H') :
    wS Γ i__law_due_1a_5a_3 W D σ H := by
  unfold i__law_due_1a_5a_3
  have hs := sizeBig
  simp only [Dq.wS, Dq.wE, Dq.wEs, tLc_eq, Dq.wI, Dq.wC, Dq.wT, gOf]
  have hzl : (sortT word).length ≤ 10 := by
    unfold sortT
    split
    · decide
    · rcases hword with h | h
      · contradiction
      · cases e : sorts word with
        | none => rw [e] at h; cases h
        | some z => exact sorts_len e
  refine ⟨_, s7, tyl hpr, _, s10, by show 1 ≤ sizeLine; omega, fun p1 n1 => ?_⟩
  have x1 : Ex [] H (upd H p1 (.tup [.str word])) := Ex.new n1
  have e1 : upd H p1 (HO.tup [.str word]) p1 = some (.tup [.str word]) := upd_same
  generalize upd H p1 (HO.tup [.str word]) = H1 at x1 e1
  have w1 := hw.ex x1
  -- behind the walk of the sorts
  have fin : ∀ z, z = sortT word → ∀ dl, H1 dl = none → LcR (Its z) (gName 11) (fun _ H Q => Q true H) (fun τ H Q => ∃ sp, Γ.fn "_law_part" sp ∧ ∃ v, τ[1]? = some (some v) ∧ ∃ u, τ[11]? = some (some u) ∧ sp [v, u] H Q (WE (bif true then Dq.atS W σ else noW) τ)) [11] σ
      (fun x H1 => qF Γ.K .tuple [x] H1 fun y H2 => qBin Γ.K .Add (.ref p1) y H2 fun x H1 => qM Γ.K .append (.ref pr) [x] H1 fun _ H1 => D.nx σ H1) dl H1 := by
    rintro z rfl dl hdl
    refine due_parts F hms K s1 hl w1 hj hzl hp hdl fun vs j2 fl2 H2 v1 v2 v3 x2 d2 w2 hj2 hjj2 pt2 => ?_
    refine tuple_l (.inl (.inl d2)) fun l nl => ?_
    have x3 : Ex [] H2 (upd H2 l (.tup vs)) := Ex.new nl
    have e3 : upd H2 l (HO.tup vs) l = some (.tup vs) := upd_same
    generalize upd H2 l (HO.tup vs) = H3 at x3 e3
    have p1w : p1 ≠ wy := ne_of_none hw.1 n1 |>.symm
    have g1 : H2 p1 = some (.tup [.str word]) := x2.get e1 (by simpa using p1w)
    have g1' := x3.get g1 (by simp)
    have prH2 : H2 pr = some (.lst xr) := x2.get (x1.get hpr (by simp)) (by simpa using hne)
    have prH3 := x3.get prH2 (by simp)
    have w3 := w2.ex x3
    have wup : ∀ {H4 : Hp} {o : HO}, Way H4 wy mk ms j2 fl2 → Way (upd H4 pr o) wy mk ms j2 fl2 := fun w => ⟨by rw [upd_ne (Ne.symm hne)]; exact w.1, by rw [upd_ne (Ne.symm hne2)]; exact w.2.1, w.2.2⟩
    have xx : Ex [wy, pr] H H3 := (x1.nil.trans (x2.imp (by simp))).trans x3.nil
    have p1pr : p1 ≠ pr := (ne_of_none hpr n1).symm
    refine add_t g1' e3 (by omega) (fun ev => ?_) fun p np => ?_
    · subst ev
      exact app_ prH3 (by omega) (hd _ p1 [] j2 fl2 (xx.trans (Ex.wr (by simp))) (wup w3) upd_same n1 (by rw [upd_ne p1pr]; exact g1') rfl (fun e => ⟨rfl, (v3 e).2⟩) hj2 hjj2 pt2)
    · have x4 : Ex [] H3 (upd H3 p (.tup (.str word :: vs))) := Ex.new np
      have e4 : upd H3 p (HO.tup (.str word :: vs)) p = some (.tup (.str word :: vs)) := upd_same
      generalize upd H3 p (HO.tup (.str word :: vs)) = H4 at x4 e4
      have ppr : p ≠ pr := (ne_of_none prH3 np).symm
      exact app_ (x4.get prH3 (by simp)) (by omega) (hd _ p vs j2 fl2 ((xx.trans x4.nil).trans (Ex.wr (by simp))) (wup (w3.ex x4)) upd_same (xx.dom np) (by rw [upd_ne ppr]; exact e4) v2 v3 hj2 hjj2 pt2)
  refine ⟨_, s10, ne_s ⟨_, rfl, ?_⟩⟩
  by_cases hw0 : word = ""
  · refine ifF (by rw [decide_eq_true hw0]; rfl) (itv_s (fin _ ?_))
    unfold sortT; rw [if_pos hw0]
  · refine ifT (by rw [decide_eq_false hw0]; rfl) ⟨_, s3, _, s10, ?_⟩
    rcases hword with h | h
    · contradiction
    · cases e : sorts word with
      | none => rw [e] at h; cases h
      | some z =>
        refine ix_d (k := .inr word) (x1.get hsh (by simp)) (v := .str z) (by rw [shV_get, e]; rfl) (itv_s (fin _ ?_))
        unfold sortT; rw [if_neg hw0, e]; rfl
end Hk64

set_option maxHeartbeats 2000000
namespace Hk64
open PySem PySem.Spec PyProof.Rows L2 Dq
variable {Γ : Gam} {W : WX} {D : Ends}
theorem Tups.ex' {bad : List Addr} {H H' : Hp} {xs : List V} (h : Tups H xs) (x : Ex bad H H') (k : ∀ b ∈ bad, ∃ ys, H b = some (.lst ys)) : Tups H' xs := fun y hy => by
  obtain ⟨a, vs, e, ha, o⟩ := h y hy
  refine ⟨a, vs, e, x.get ha fun z => ?_, o⟩
  obtain ⟨ys, q⟩ := k a z
  rw [ha] at q; cases q
theorem Tups.app {H : Hp} {xs : List V} {a : Addr} {vs : List V} (h : Tups H xs) (ha : H a = some (.tup vs)) (o : vs.all okV = true) : Tups H (xs ++ [.ref a]) := fun y hy => by
  rcases List.mem_append.mp hy with z | z
  · exact h y z
  · exact ⟨a, vs, List.mem_singleton.mp z, ha, o⟩
/-- the rest of a row behind its two numbers -/
def rC {α : Type} (ms : List Str) (K : List DD → List DD → Nat → Except Nat α) (n : Nat) (rows places : List DD) (l p : Int) (w : Str) (vs : List V) (j : Nat) : Except Nat α := kRows K (pRows ms n (rows ++ [rowD w vs]) (places ++ [placeD l p]) j)
def rB {α : Type} (ms : List Str) (K : List DD → List DD → Nat → Except Nat α) (n : Nat) (rows places : List DD) (l p : Int) (w : Str) (i : Nat) : Except Nat α := kParts (rC ms K n rows places l p w) (pParts ms (sortT w).cps.toList [] i)
def rA {α : Type} (ms : List Str) (K : List DD → List DD → Nat → Except Nat α) (n : Nat) (rows places : List DD) (l : Int) (i : Nat) : Except Nat α := optE i (fun p => if (sorts (atM ms (i + 1))).isSome = true then rB ms K n rows places l p (atM ms (i + 1)) (i + 1 + 1) else .error (i + 1)) (numO (atM ms i) 1)
theorem sorts_empty : sorts "" = none := by decide +kernel
theorem pRows_step {α : Type} {ms : List Str} {K : List DD → List DD → Nat → Except Nat α} {n : Nat} {rows places : List DD} {i : Nat} (h : rows.isEmpty = true ∨ atM ms i ≠ "End") :
    kRows K (pRows ms (n + 1) rows places i) = optE i (fun l => rA ms K n rows places l (i + 1)) (numO (atM ms i) 1) := by
  unfold pRows
  rw [if_pos h]
  cases numO (atM ms i) 1 with
  | none => rfl
  | some l =>
    show kRows K _ = rA ms K n rows places l (i + 1)
    unfold rA
    cases numO (atM ms (i + 1)) 1 with
    | none => rfl
    | some p =>
      show kRows K _ = if (sorts (atM ms (i + 1 + 1))).isSome = true then rB ms K n rows places l p (atM ms (i + 1 + 1)) (i + 1 + 1 + 1) else .error (i + 1 + 1)
      have e2 : i + 1 + 1 = i + 2 := rfl
      rw [e2]
      cases hs : sorts (atM ms (i + 2)) with
      | none => rfl
      | some cs =>
        rw [if_pos (show (some cs).isSome = true from rfl)]
        unfold rB
        have ht : sortT (atM ms (i + 2)) = cs := by
          unfold sortT
          rw [if_neg (fun z => by rw [z, sorts_empty] at hs; cases hs), hs]; rfl
        rw [ht]
        show kRows K (kParts _ (pParts ms cs.cps.toList [] (i + 3))) = kParts _ (pParts ms cs.cps.toList [] (i + 3))
        cases pParts ms cs.cps.toList [] (i + 3) with
        | error e => rfl
        | ok q => rfl
/-- ahead of each row -/
def RwI {α : Type} (τ : Option V → Option V → Option V → L2.St) (H : Hp) (wy mk pr pp : Addr) (ms : List Str) (fl : Bool) (R : Except Nat α) (K : List DD → List DD → Nat → Except Nat α) (j m : Nat) (σ' : L2.St) (H' : Hp) : Prop := (∃ b9 b10 b11, σ' = τ b9 b10 b11) ∧ ∃ j' fl' rows places xr xp, Ex [wy, pr, pp] H H' ∧ Way H' wy mk ms j' fl' ∧ H' pr = some (.lst xr) ∧ H' pp = some (.lst xp) ∧
  RepL H H' rows xr ∧ RepL H H' places xp ∧ j' ≤ ms.length ∧ j ≤ j' ∧ (fl' = false → Tups H' xr ∧ xr.length ≤ j' ∧ xp.length = xr.length ∧ ms.length + 1 ≤ m + j' ∧ fl = false) ∧ Pt R fl' j' (kRows K (pRows ms m rows places j') = R)
theorem due_rows {α : Type} {a0 a1 a2 a3 a4 a5 a6 a7 a8 b9 b10 b11 : Option V} {wy mk sh pr pp : Addr} {ms : List Str} (F : DueFns Γ) (hms : Mks ms) {R : Except Nat α} (K : List DD → List DD → Nat → Except Nat α) {n j : Nat} {fl : Bool} {H : Hp}
    (ha1 : a1 = some (.ref wy)) (ha3 : a3 = some (.ref sh)) (ha7 : a7 = some (.ref pr)) (ha8 : a8 = some (.ref pp)) (hrw : pr ≠ wy) (hrm : pr ≠ mk) (hpw : pp ≠ wy) (hpm : pp ≠ mk) (hrp : pr ≠ pp) (hw : Way H wy mk ms j fl) (hpr : H pr = some (.lst [])) (hpp : H pp = some (.lst [])) (hsh : H sh = some (.dK shV))
    (hj : j ≤ ms.length) (hn : ms.length + 1 ≤ n + j) (hp : Pt R fl j (kRows K (pRows ms n [] [] j) = R))
    (hd : ∀ c9 c10 c11 H' j' fl' rows places xr xp, (fl' = false → fl = false) → Ex [wy, pr, pp] H H' → Way H' wy mk ms j' fl' → H' pr = some (.lst xr) → H' pp = some (.lst xp) → RepL H H' rows xr → RepL H H' places xp → j' ≤ ms.length → j ≤ j' → Pt R fl' j' (atM ms j' = "End" ∧ K rows places j' = R) → D.nx [a0, a1, a2, a3, a4, a5, a6, a7, a8, c9, c10, c11] H') :
    wS Γ i__law_due_1a_5 W D [a0, a1, a2, a3, a4, a5, a6, a7, a8, b9, b10, b11] H := by
  subst ha1 ha3 ha7 ha8
  have hwn : H wy ≠ none := by rw [hw.1]; simp
  have hrn : H pr ≠ none := by rw [hpr]; simp
  have hpn : H pp ≠ none := by rw [hpp]; simp
  have bad0 : ∀ a ∈ [wy, pr, pp], H a ≠ none := by
    intro a ha
    simp only [List.mem_cons, List.not_mem_nil, or_false] at ha
    rcases ha with rfl | rfl | rfl <;> assumption
  have shw : sh ∉ [wy, pr, pp] := by
    intro ha
    simp only [List.mem_cons, List.not_mem_nil, or_false] at ha
    rcases ha with rfl | rfl | rfl
    · rw [hw.1] at hsh; cases hsh
    · rw [hpr] at hsh; cases hsh
    · rw [hpp] at hsh; cases hsh
  unfold i__law_due_1a_5
  refine whP (I := RwI (fun c9 c10 c11 => [a0, some (.ref wy), a2, some (.ref sh), a4, a5, a6, some (.ref pr), some (.ref pp), c9, c10, c11]) H wy mk pr pp ms fl R K j)
    (T := fun m σ' H' k H1 => ∃ j' fl' rows places xr xp, Ex [wy, pr, pp] H H1 ∧ Way H1 wy mk ms j' fl' ∧ H1 pr = some (.lst xr) ∧ H1 pp = some (.lst xp) ∧ RepL H H1 rows xr ∧ RepL H H1 places xp ∧ j' ≤ ms.length ∧
      j ≤ j' ∧ (fl' = false → fl = false) ∧ if k = true then fl' = false ∧ Tups H1 xr ∧ xr.length ≤ j' ∧ xp.length = xr.length ∧ ms.length + 1 ≤ m + j' ∧ (rows.isEmpty = true ∨ atM ms j' ≠ "End") ∧ kRows K (pRows ms m rows places j') = R else Pt R fl' j' (atM ms j' = "End" ∧ K rows places j' = R))
    n ⟨⟨b9, b10, b11, rfl⟩, j, fl, [], [], [], [], Ex.refl, hw, hpr, hpp, RepL.nil, RepL.nil, hj, Nat.le_refl _, fun e => ⟨(fun y hy => by cases hy), Nat.zero_le _, rfl, hn, e⟩, hp⟩ ?_ ?_ ?_
  · rintro m σ' H' ⟨⟨c9, c10, c11, rfl⟩, j', fl', rows, places, xr, xp, x', w', p1, p2, r1, r2, hj', hjj, hu, pt⟩ N hN
    simp only [Dq.wT, Dq.wE, Dq.wEs]
    refine ⟨_, rfl, ix_ln (n := 2) w'.1 rfl ⟨_, rfl, ?_⟩⟩
    cases fl' with
    | true =>
      refine ifF rfl (hN _ _ ⟨j', true, rows, places, xr, xp, x', w', p1, p2, r1, r2, hj', hjj, (fun y => nomatch y), ?_⟩)
      rw [if_neg (by decide)]
      rcases pt with ⟨e, _⟩ | ⟨_, e⟩
      · cases e
      · exact .inr ⟨rfl, e⟩
    | false =>
      obtain ⟨u1, u2, u3, u4, u5⟩ := hu rfl
      have e : kRows K (pRows ms m rows places j') = R := by
        rcases pt with ⟨_, e⟩ | ⟨e, _⟩
        · exact e
        · cases e
      refine ifT rfl ⟨_, rfl, by decide, fun q nq => ?_⟩
      have x1 : Ex [] H' (upd H' q (.lst [])) := Ex.new nq
      have e1 : upd H' q (HO.lst []) q = some (.lst []) := upd_same
      generalize upd H' q (HO.lst []) = H1 at x1 e1
      have p1' := x1.get p1 (by simp)
      have p2' := x1.get p2 (by simp)
      have w1 := w'.ex x1
      have r1' := r1.ex x1 (fun _ z => nomatch z)
      have r2' := r2.ex x1 (fun _ z => nomatch z)
      have u1' := u1.ex x1
      have emp : rows.isEmpty = xr.isEmpty := by
        have := r1.len
        cases rows <;> cases xr <;> first | rfl | cases this
      refine eq_nilT p1' u1' e1 ⟨_, rfl, ?_⟩
      cases hx : xr.isEmpty with
      | true =>
        refine ifT rfl (hN _ _ ⟨j', false, rows, places, xr, xp, x'.trans x1.nil, w1, p1', p2', r1', r2', hj', hjj, fun _ => u5, ?_⟩)
        rw [if_pos rfl]
        exact ⟨rfl, u1', u2, u3, u4, .inl (by rw [emp, hx]), e⟩
      | false =>
        refine ifF rfl ⟨_, F.next, _, rfl, next_q w1 (ne_s ⟨_, rfl, hN _ _ ⟨j', false, rows, places, xr, xp, x'.trans x1.nil, w1, p1', p2', r1', r2', hj', hjj, fun _ => u5, ?_⟩⟩)⟩
        rw [nx_f]
        by_cases h2 : atM ms j' = "End"
        · rw [if_neg (by rw [decide_eq_true h2]; decide)]
          cases m with
          | zero => omega
          | succ m =>
            unfold pRows at e
            rw [if_neg (fun z => z.elim (fun y => by rw [emp, hx] at y; cases y) fun y => y h2)] at e
            exact .inl ⟨rfl, h2, e⟩
        · rw [if_pos (by rw [decide_eq_false h2]; rfl)]
          exact ⟨rfl, u1', u2, u3, u4, .inr h2, e⟩
  · rintro m σ' H0 H' ⟨⟨c9, c10, c11, rfl⟩, -⟩ ⟨j', fl', rows, places, xr, xp, x', w', p1, p2, r1, r2, hj', hjj, u5, z⟩
    rw [if_pos rfl] at z
    obtain ⟨rfl, u1, u2, u3, u4, hc, e⟩ := z
    cases m with
    | zero => omega
    | succ m =>
    rw [pRows_step hc] at e
    have hfew := hms.few
    have hs := sizeBig
    show wSs Γ i__law_due_1a_5a _ _ _ _
    unfold i__law_due_1a_5a
    -- line
    refine seqP (P := fun σ2 H2 => ∃ l j2 fl2, σ2 = [a0, some (.ref wy), a2, some (.ref sh), a4, a5, a6, some (.ref pr), some (.ref pp), some (.int l), c10, c11] ∧ Ex [wy] H' H2 ∧ Way H2 wy mk ms j2 fl2 ∧ j2 ≤ ms.length ∧ j' ≤ j2 ∧ (fl2 = false → j2 = j' + 1) ∧ Pt R fl2 j2 (rA ms K m rows places l j2 = R)) (fun N hN => ?_) fun σ2 H2 p => ?_
    · unfold i__law_due_1a_5a_0
      simp only [Dq.wS, Dq.wE, Dq.wEs]
      refine ⟨_, F.count, _, rfl, count_pt (R := R) (fun l i => rA ms K m rows places l i) hms w' hj' (.inl ⟨rfl, e⟩) fun l j2 fl2 H2 x2 w2 hj2 hjj2 k2 pt2 => hN _ _ ⟨l, j2, fl2, rfl, x2, w2, hj2, hjj2, fun z => (k2 z).1, pt2⟩⟩
    obtain ⟨l, j2, fl2, rfl, x2, w2, hj2, hjj2, k2, pt2⟩ := p
    -- place
    refine seqP (P := fun σ3 H3 => ∃ p j3 fl3 tp, σ3 = [a0, some (.ref wy), a2, some (.ref sh), a4, a5, a6, some (.ref pr), some (.ref pp), some (.int l), c10, c11] ∧ Ex [wy, pp] H2 H3 ∧ H3 pp = some (.lst (xp ++ [.ref tp])) ∧ H2 tp = none ∧ H3 tp = some (.tup [.int l, .int p]) ∧ Way H3 wy mk ms j3 fl3 ∧ j3 ≤ ms.length ∧ j2 ≤ j3 ∧ (fl3 = false → j3 = j2 + 1 ∧ fl2 = false) ∧
      Pt R fl3 j3 ((if (sorts (atM ms j3)).isSome = true then rB ms K m rows places l p (atM ms j3) (j3 + 1) else .error j3) = R)) (fun N hN => ?_) fun σ3 H3 p => ?_
    · unfold i__law_due_1a_5a_1
      simp only [Dq.wS, Dq.wE, Dq.wEs]
      have p2' := x2.get p2 (by simpa using hpw)
      refine ⟨_, rfl, tyl p2', _, rfl, _, F.count, _, rfl, count_pt (R := R) (fun p i => if (sorts (atM ms i)).isSome = true then rB ms K m rows places l p (atM ms i) (i + 1) else .error i) hms w2 hj2 (pt2.imp id id) fun p j3 fl3 H3 x3 w3 hj3 hjj3 k3 pt3 => ⟨by show 2 ≤ sizeLine; omega, fun tp ntp => ?_⟩⟩
      have x4 : Ex [] H3 (upd H3 tp (.tup [.int l, .int p])) := Ex.new ntp
      have e4 : upd H3 tp (HO.tup [.int l, .int p]) tp = some (.tup [.int l, .int p]) := upd_same
      generalize upd H3 tp (HO.tup [.int l, .int p]) = H4 at x4 e4
      have pp3 := x3.get p2' (by simpa using hpw)
      have pp4 := x4.get pp3 (by simp)
      have tpp : tp ≠ pp := (ne_of_none pp3 ntp).symm
      have w4 := w3.ex x4
      refine app_ pp4 (by omega) (hN _ _ ⟨p, j3, fl3, tp, rfl, ((x3.imp (by simp)).trans x4.nil).trans (Ex.wr (by simp)), upd_same, x3.dom ntp, by rw [upd_ne tpp]; exact e4, ⟨by rw [upd_ne (Ne.symm hpw)]; exact w4.1, by rw [upd_ne (Ne.symm hpm)]; exact w4.2.1, w4.2.2⟩, hj3, hjj3, k3, pt3⟩)
    obtain ⟨p, j3, fl3, tp, rfl, x3, pp3, ntp, etp, w3, hj3, hjj3, k3, pt3⟩ := p
    -- word
    refine seqP (P := fun σ4 H4 => ∃ z j4 fl4, σ4 = [a0, some (.ref wy), a2, some (.ref sh), a4, a5, a6, some (.ref pr), some (.ref pp), some (.int l), some (.str z), c11] ∧ Ex [wy] H3 H4 ∧ Way H4 wy mk ms j4 fl4 ∧ j4 ≤ ms.length ∧ j3 ≤ j4 ∧ (z = "" ∨ (sorts z).isSome = true) ∧ (fl4 = false → j4 = j3 + 1 ∧ fl3 = false ∧ z = atM ms j3) ∧ Pt R fl4 j4 (rB ms K m rows places l p z j4 = R)) (fun N hN => ?_) fun σ4 H4 q => ?_
    · unfold i__law_due_1a_5a_2
      simp only [Dq.wS, Dq.wE, Dq.wEs]
      have hsh3 : H3 sh = some (.dK shV) := by
        have e1 : H' sh = some (.dK shV) := x'.get hsh shw
        have e2 := x2.get e1 (by intro z; exact shw (by simp at z; simp [z]))
        exact x3.get e2 (by intro z; exact shw (by simp at z; rcases z with z | z <;> simp [z]))
      refine ⟨_, F.take, _, rfl, _, F.next, _, rfl, next_q w3 ⟨_, rfl, in_ _ (inV_d (k := .inr (nxM ms j3 fl3)) hsh3) ?_⟩⟩
      rw [shV_get, Option.isSome_map]
      refine take_pt (R := R) (r' := (sorts (atM ms j3)).isSome) (fun i => rB ms K m rows places l p (atM ms j3) i) Ex.refl w3 hj3 (fun z => by subst z; rfl) (fun z h => by rw [h, sorts_empty] at z; cases z) pt3 fun z j4 fl4 H4 x4 w4 hj4 hjj4 k4 k4' pt4 => hN _ _ ⟨z, j4, fl4, rfl, x4, w4, hj4, hjj4, ?_, ?_, ?_⟩
      · cases fl4 with
        | true => exact .inl (k4' rfl)
        | false =>
          obtain ⟨_, rfl, r, _⟩ := k4 rfl
          exact .inr r
      · intro h
        obtain ⟨h1, h2, h3, h4⟩ := k4 h
        exact ⟨h1, h4, h2⟩
      · cases fl4 with
        | true => exact pt4.imp (fun y => by cases y.1) id
        | false =>
          obtain ⟨_, rfl, r, _⟩ := k4 rfl
          exact pt4
    obtain ⟨z, j4, fl4, rfl, x4, w4, hj4, hjj4, hz, k4, pt4⟩ := q
    refine seq1 ?_
    have xx : Ex [wy, pp] H' H4 := ((x2.imp (by simp)).trans x3).trans (x4.imp (by simp))
    have pr4 : H4 pr = some (.lst xr) := xx.get p1 (by simp [hrw, hrp])
    have sh4 : H4 sh = some (.dK shV) := xx.get (x'.get hsh shw) (by intro z; exact shw (by simp at z; rcases z with z | z <;> simp [z]))
    have hxr : xr.length ≤ 100000 := by omega
    refine due_row F hms (rC ms K m rows places l p z) rfl rfl rfl rfl (by show 11 < 12; omega) w4 sh4 pr4 hxr hrw hrm hj4 hz pt4 fun H5 t vs j5 fl5 x5 w5 pr5 nt et fv ov hj5 hjj5 pt5 => ?_
    unfold Dq.wSs
    have pp4 : H4 pp = some (.lst (xp ++ [.ref tp])) := x4.get pp3 (by simpa using hpw)
    have pp5 : H5 pp = some (.lst (xp ++ [.ref tp])) := x5.get pp4 (by simp [hpw, Ne.symm hrp])
    have xx5 : Ex [wy, pr, pp] H' H5 := (xx.imp (by intro a ha; simp at ha ⊢; rcases ha with h | h <;> simp [h])).trans (x5.imp (by intro a ha; simp at ha ⊢; rcases ha with h | h <;> simp [h]))
    have tpw : tp ∉ [wy, pr] := by
      intro q
      have d := (x2.dom ntp)
      simp only [List.mem_cons, List.not_mem_nil, or_false] at q
      rcases q with q | q
      · rw [q, w'.1] at d; cases d
      · rw [q, p1] at d; cases d
    have tp5 : H5 tp = some (.tup [.int l, .int p]) := x5.get (x4.get etp (by intro q; exact tpw (by simp at q; simp [q]))) tpw
    have n0 : ∀ {a : Addr}, H' a = none → H a = none := fun h => x'.dom h
    refine ⟨m, Nat.lt_succ_self _, ⟨_, _, _, rfl⟩, j5, fl5, rows ++ [rowD z vs], places ++ [placeD l p], xr ++ [.ref t], xp ++ [.ref tp], x'.trans xx5, w5, pr5, pp5, ?_, ?_, hj5, by omega, fun q => ?_, pt5⟩
    · refine (r1.ex xx5 bad0).app (RepL.cons ?_ RepL.nil)
      unfold rowD Rep
      exact ⟨t, _, rfl, n0 (xx.dom nt), et, RepL.flats (by simp [flatV, fv])⟩
    · refine (r2.ex xx5 bad0).app (RepL.cons ?_ RepL.nil)
      unfold placeD Rep
      exact ⟨tp, _, rfl, n0 (x2.dom ntp), tp5, RepL.cons (.flat rfl) (RepL.cons (.flat rfl) RepL.nil)⟩
    · obtain ⟨o1, z4⟩ := ov q
      obtain ⟨g1, z3, rfl⟩ := k4 z4
      obtain ⟨g2, z2⟩ := k3 z3
      have g3 := k2 z2
      refine ⟨(u1.ex' xx5 ?_).app et ?_, ?_, ?_, ?_, u5 rfl⟩
      · intro b hb
        simp only [List.mem_cons, List.not_mem_nil, or_false] at hb
        rcases hb with rfl | rfl | rfl
        · exact ⟨_, w'.1⟩
        · exact ⟨_, p1⟩
        · exact ⟨_, p2⟩
      · rw [List.all_cons, o1]
        simp [okV, hms.atL j3]
      · rw [List.length_append]; simp; omega
      · rw [List.length_append, List.length_append, u3]; rfl
      · omega
  · rintro m σ' H0 H' ⟨⟨c9, c10, c11, rfl⟩, -⟩ ⟨j', fl', rows, places, xr, xp, x', w', p1, p2, r1, r2, hj', hjj, u5, pt⟩
    rw [if_neg (by decide)] at pt
    exact hd c9 c10 c11 H' j' fl' rows places xr xp u5 x' w' p1 p2 r1 r2 hj' hjj pt
end Hk64

set_option maxHeartbeats 2000000
namespace Hk64
open PySem PySem.Spec PyProof.Rows L2 Dq
variable {Γ : Gam} {W : WX} {D : Ends}
def spDue : Sp := fun vs H Q _ => ∃ mk ms, vs = [.ref mk] ∧ Mks ms ∧ H mk = some (.lst (ms.map V.str)) ∧ ∀ v H', Ex [] H H' → Rep H H' (dueD ms) v → Q v H'
/-- the rest behind Code -/
def qA (ms : List Str) (n : Nat) (found : Found) (i : Nat) : Except Nat Found :=
  if (nmOk (atM ms i) && !found.any fun q => decide (q.1 = atM ms i)) = true then
    optE (i + 1) (fun params => kNames (fun names j => kRows (fun rows places k => pCodes ms n (found ++ [(atM ms i, codeD params names rows places)]) (k + 1)) (pRows ms (ms.length + 1) [] [] (j + 1))) (pNames ms params (ms.length + 1) [] (i + 1 + 1))) (numO (atM ms (i + 1)) 0)
  else .error i
theorem pCodes_step {ms : List Str} {n : Nat} {found : Found} {i : Nat} (h : i < ms.length) : pCodes ms (n + 1) found i = if (decide (atM ms i = "Code")) = true then qA ms n found (i + 1) else .error i := by
  rw [pCodes]
  rw [if_pos h]
  by_cases h1 : atM ms i = "Code"
  · rw [if_pos h1, if_pos (decide_eq_true h1)]
    unfold qA
    have e2 : i + 1 + 1 = i + 2 := rfl
    rw [e2]
    by_cases h2 : (nmOk (atM ms (i + 1)) && !found.any fun q => decide (q.1 = atM ms (i + 1))) = true
    · rw [if_pos h2, if_pos h2]
      cases numO (atM ms (i + 2)) 0 <;> rfl
    · rw [if_neg h2, if_neg h2]
  · rw [if_neg h1, if_neg (by rw [decide_eq_false h1]; decide)]
theorem codes_ne {m : Str} (h : decide (m = "Code") = true) : m ≠ "" := by
  rw [of_decide_eq_true h]; decide
/-- ahead of each code -/
def CoI (H1 : Hp) (m0 wy fd sh mk : Addr) (ms : List Str) (R : Except Nat Found) (m : Nat) (σ' : L2.St) (H' : Hp) : Prop := (∃ b4 b5 b6 b7 b8 b9 b10 b11, σ' = [some (.ref mk), some (.ref wy), some (.ref fd), some (.ref sh), b4, b5, b6, b7, b8, b9, b10, b11]) ∧ ∃ j fl found ys, Ex [wy, fd] H1 H' ∧ Way H' wy mk ms j fl ∧ H' fd = some (.dK ys) ∧ j ≤ ms.length ∧
  (fl = false → RepD H1 H' found ys ∧ found.length ≤ j ∧ ms.length + 1 ≤ m + j) ∧ Pt R fl j (pCodes ms m found j = R)
theorem w_due (F : DueFns Γ) (vs : List V) (H : Hp) (Q : VK) (E : XK) (h : spDue vs H Q E) : wSs Γ i__law_due (dE E) (dD Q) (start l__law_due.N vs) H := by
  obtain ⟨mk, ms, rfl, hms, hmk, q⟩ := h
  have hs := sizeBig
  have hfew := hms.few
  unfold i__law_due
  refine seqP (P := fun σ1 H1 => ∃ wy fd sh, σ1 = [some (.ref mk), some (.ref wy), some (.ref fd), some (.ref sh), none, none, none, none, none, none, none, none] ∧ Ex [] H H1 ∧ H wy = none ∧ H fd = none ∧ H1 sh = some (.dK shV) ∧ Way H1 wy mk ms 0 false ∧ H1 fd = some (.dK [])) (fun N hN => ?_) fun σ1 H1 p => ?_
  · unfold i__law_due_0
    simp only [Dq.wS, Dq.wE, Dq.wEs, Dq.wP, Dq.CPs.isNil, if_true, if_false, gOf, gsOf]
    refine ⟨_, rfl, by show 3 ≤ sizeLine; omega, fun wy nw => .inl fun fd nf => ⟨_, F.shapes, rfl, fun sh H2 x2 nsh hsh => ⟨by show 3 ≤ sizeLine; omega, fun t nt => ?_⟩⟩⟩
    have x1 : Ex [] H (upd H wy (.lst [.ref mk, .int 0, .bl false])) := Ex.new nw
    have e1 : upd H wy (HO.lst [.ref mk, .int 0, .bl false]) wy = some (.lst [.ref mk, .int 0, .bl false]) := upd_same
    generalize upd H wy (HO.lst [.ref mk, .int 0, .bl false]) = Ha at x1 e1 nf x2 nsh
    have xa : Ex [] Ha (upd Ha fd (.dK [])) := Ex.new nf
    have ea : upd Ha fd (HO.dK []) fd = some (.dK []) := upd_same
    generalize upd Ha fd (HO.dK []) = Hb at xa ea x2 nsh
    have xt : Ex [] H2 (upd H2 t (.tup [.ref wy, .ref fd, .ref sh])) := Ex.new nt
    have et : upd H2 t (HO.tup [.ref wy, .ref fd, .ref sh]) t = some (.tup [.ref wy, .ref fd, .ref sh]) := upd_same
    generalize upd H2 t (HO.tup [.ref wy, .ref fd, .ref sh]) = H3 at xt et
    refine ⟨t, _, rfl, .inl (.inl (.inl et)), rfl, _, _, rfl, _, _, rfl, _, _, rfl, rfl, hN _ _ ⟨wy, fd, sh, rfl, ((x1.trans xa).trans x2).trans xt, nw, x1.dom nf, xt.get hsh (by simp), ⟨xt.get (x2.get (xa.get e1 (by simp)) (by simp)) (by simp), xt.get (x2.get (xa.get (x1.get hmk (by simp)) (by simp)) (by simp)) (by simp), (ne_of_none hmk nw).symm⟩, xt.get (x2.get ea (by simp)) (by simp)⟩⟩
  obtain ⟨wy, fd, sh, rfl, x1, nw, nf, hsh, hw, hfd⟩ := p
  have hwf : fd ≠ wy := by rintro rfl; rw [hw.1] at hfd; cases hfd
  have hfm : fd ≠ mk := by rintro rfl; rw [hw.2.1] at hfd; cases hfd
  have hsw : sh ≠ wy := by rintro rfl; rw [hw.1] at hsh; cases hsh
  have hmk1 : H1 mk = some (.lst (ms.map V.str)) := hw.2.1
  have hwn : H1 wy ≠ none := by rw [hw.1]; simp
  have hfn : H1 fd ≠ none := by rw [hfd]; simp
  have bad0 : ∀ a ∈ [wy, fd], H1 a ≠ none := by
    intro a ha
    simp only [List.mem_cons, List.not_mem_nil, or_false] at ha
    rcases ha with rfl | rfl <;> assumption
  generalize hR : rd ms = R
  refine seqP (P := fun σ2 H2 => ∃ j fl found ys, (∃ b4 b5 b6 b7 b8 b9 b10 b11, σ2 = [some (.ref mk), some (.ref wy), some (.ref fd), some (.ref sh), b4, b5, b6, b7, b8, b9, b10, b11]) ∧ Ex [wy, fd] H1 H2 ∧ Way H2 wy mk ms j fl ∧ H2 fd = some (.dK ys) ∧ (fl = false → RepD H1 H2 found ys) ∧ Pt R fl j (R = .ok found)) (fun N hN => ?_) fun σ2 H2 p => ?_
  · unfold i__law_due_1
    refine whP (I := CoI H1 mk wy fd sh mk ms R)
      (T := fun m σ' H' k H2 => H2 = H' ∧ ∃ j fl found ys, Ex [wy, fd] H1 H' ∧ Way H' wy mk ms j fl ∧ H' fd = some (.dK ys) ∧ (fl = false → RepD H1 H' found ys) ∧ j ≤ ms.length ∧
        if k = true then fl = false ∧ found.length ≤ j ∧ ms.length + 1 ≤ m + j ∧ j < ms.length ∧ pCodes ms m found j = R else Pt R fl j (R = .ok found))
      (ms.length + 1) ⟨⟨_, _, _, _, _, _, _, _, rfl⟩, 0, false, [], [], Ex.refl, hw, hfd, Nat.zero_le _, fun _ => ⟨RepD.nil, Nat.le_refl _, Nat.le_refl _⟩, .inl ⟨rfl, hR⟩⟩ ?_ ?_ ?_
    · rintro m σ' H' ⟨⟨b4, b5, b6, b7, b8, b9, b10, b11, rfl⟩, j, fl, found, ys, x', w', f', hj, hu, pt⟩ N hN
      simp only [Dq.wT, Dq.wE, Dq.wEs]
      refine ⟨_, rfl, ix_ln (n := 2) w'.1 rfl ⟨_, rfl, ?_⟩⟩
      cases fl with
      | true =>
        refine ifF rfl (hN _ _ ⟨rfl, j, true, found, ys, x', w', f', (fun y => nomatch y), hj, ?_⟩)
        rw [if_neg (by decide)]
        exact pt.imp (fun y => by cases y.1) id
      | false =>
        obtain ⟨r', u1, u2⟩ := hu rfl
        have e : pCodes ms m found j = R := by
          rcases pt with ⟨_, e⟩ | ⟨e, _⟩
          · exact e
          · cases e
        refine ifT rfl ⟨_, rfl, ix_ln (n := 1) w'.1 rfl ⟨_, rfl, len_lst w'.2.1 (lt_i ⟨_, rfl, hN _ _ ⟨rfl, j, false, found, ys, x', w', f', fun _ => r', hj, ?_⟩⟩)⟩⟩
        rw [List.length_map]
        by_cases hlt : j < ms.length
        · rw [if_pos (decide_eq_true (by omega))]
          exact ⟨rfl, u1, u2, hlt, e⟩
        · rw [if_neg (by rw [decide_eq_false (by omega)]; decide)]
          cases m with
          | zero => omega
          | succ m =>
            rw [pCodes, if_neg hlt] at e
            exact .inl ⟨rfl, e.symm⟩
    · rintro m σ' H' H2 ⟨⟨b4, b5, b6, b7, b8, b9, b10, b11, rfl⟩, -⟩ ⟨rfl, j, fl, found, ys, x', w', f', r', hj, z⟩
      rw [if_pos rfl] at z
      obtain ⟨rfl, u1, u2, hlt, e⟩ := z
      have r' := r' rfl
      cases m with
      | zero => omega
      | succ m =>
      rw [pCodes_step hlt] at e
      show wSs Γ i__law_due_1a _ _ _ _
      unfold i__law_due_1a
      -- Code
      refine seqP (P := fun σ3 H3 => ∃ j3 fl3, σ3 = [some (.ref mk), some (.ref wy), some (.ref fd), some (.ref sh), b4, b5, b6, b7, b8, b9, b10, b11] ∧ Ex [wy] H2 H3 ∧ Way H3 wy mk ms j3 fl3 ∧ j3 ≤ ms.length ∧ j ≤ j3 ∧ (fl3 = false → j3 = j + 1) ∧ Pt R fl3 j3 (qA ms m found j3 = R)) (fun N hN => ?_) fun σ3 H3 p => ?_
      · unfold i__law_due_1a_0
        simp only [Dq.wS, Dq.wE, Dq.wEs]
        refine ⟨_, F.take, _, rfl, _, F.next, _, rfl, next_q w' (eq_s ?_)⟩
        exact take_pt (R := R) (r' := decide (atM ms j = "Code")) (fun i => qA ms m found i) Ex.refl w' hj (fun _ => rfl) codes_ne (.inl ⟨rfl, e⟩) fun z j3 fl3 H3 x3 w3 hj3 hjj3 k3 k3' pt3 => hN _ _ ⟨j3, fl3, rfl, x3, w3, hj3, hjj3, fun y => (k3 y).1, pt3⟩
      obtain ⟨j3, fl3, rfl, x3, w3, hj3, hjj3, k3, pt3⟩ := p
      have fd3 : H3 fd = some (.dK ys) := x3.get f' (by simpa using hwf)
      have key : ∀ z, (valV ys (.inr z)).isSome = found.any (fun q => decide (q.1 = z)) := fun z => r'.key
      -- the name
      refine seqP (P := fun σ4 H4 => ∃ z j4 fl4, σ4 = [some (.ref mk), some (.ref wy), some (.ref fd), some (.ref sh), some (.str z), b5, b6, b7, b8, b9, b10, b11] ∧ Ex [wy] H3 H4 ∧ Way H4 wy mk ms j4 fl4 ∧ j4 ≤ ms.length ∧ j3 ≤ j4 ∧ (fl4 = false → j4 = j3 + 1 ∧ fl3 = false ∧ (found.any fun q => decide (q.1 = z)) = false) ∧
        Pt R fl4 j4 (optE j4 (fun params => kNames (fun names j => kRows (fun rows places k => pCodes ms m (found ++ [(z, codeD params names rows places)]) (k + 1)) (pRows ms (ms.length + 1) [] [] (j + 1))) (pNames ms params (ms.length + 1) [] (j4 + 1))) (numO (atM ms j4) 0) = R)) (fun N hN => ?_) fun σ4 H4 p => ?_
      · unfold i__law_due_1a_1
        simp only [Dq.wS, Dq.wE, Dq.wEs]
        refine ⟨_, F.take, _, rfl, _, F.name, _, F.next, _, rfl, next_q w3 ⟨_, rfl, hms.nx j3 fl3, fun Hx xx => ⟨_, rfl, ?_⟩⟩⟩
        have fin : ∀ r : Bool, (fl3 = false → r = (nmOk (atM ms j3) && !found.any fun q => decide (q.1 = atM ms j3))) → spTake [.ref wy, .bl r] Hx (fun v H1 => N ([some (.ref mk), some (.ref wy), some (.ref fd), some (.ref sh), some v, b5, b6, b7, b8, b9, b10, b11] : List (Option V)) H1) (WE (dE E) [some (.ref mk), some (.ref wy), some (.ref fd), some (.ref sh), b4, b5, b6, b7, b8, b9, b10, b11]) := by
          intro r hr
          refine take_pt (R := R) (H := H3) (fun i => optE i (fun params => kNames (fun names j => kRows (fun rows places k => pCodes ms m (found ++ [(atM ms j3, codeD params names rows places)]) (k + 1)) (pRows ms (ms.length + 1) [] [] (j + 1))) (pNames ms params (ms.length + 1) [] (i + 1))) (numO (atM ms i) 0)) xx.nil (w3.ex xx) hj3 hr (fun y => nm_ne (Bool.and_eq_true_iff.mp y).1) pt3 fun z j4 fl4 H4 x4 w4 hj4 hjj4 k4 k4' pt4 => hN _ _ ⟨z, j4, fl4, rfl, x4, w4, hj4, hjj4, fun y => ?_, ?_⟩
          · obtain ⟨h1, h2, h3, h4⟩ := k4 y
            refine ⟨h1, h4, ?_⟩
            rw [h2]
            simpa using (Bool.and_eq_true_iff.mp h3).2
          · cases fl4 with
            | true => exact pt4.imp (fun y => by cases y.1) id
            | false =>
              obtain ⟨_, rfl, _⟩ := k4 rfl
              exact pt4
        cases hnm : nmOk (nxM ms j3 fl3) with
        | false => exact ifF rfl (fin false fun y => by subst y; rw [nx_f] at hnm; rw [hnm]; rfl)
        | true =>
          refine ifT rfl ⟨_, F.next, _, rfl, next_q (w3.ex xx) ⟨_, rfl, nin_ _ (inV_d (k := .inr (nxM ms j3 fl3)) (xx.get fd3 (by simp))) (fin _ fun y => ?_)⟩⟩
          subst y
          rw [nx_f] at hnm ⊢
          rw [hnm, key]; rfl
      obtain ⟨z, j4, fl4, rfl, x4, w4, hj4, hjj4, k4, pt4⟩ := p
      -- params, and three lists
      refine seqP (P := fun σ5 H5 => ∃ params j5 fl5 pn pr pp, σ5 = [some (.ref mk), some (.ref wy), some (.ref fd), some (.ref sh), some (.str z), some (.int params), some (.ref pn), some (.ref pr), some (.ref pp), b9, b10, b11] ∧ Ex [wy] H4 H5 ∧ H4 pn = none ∧ H4 pr = none ∧ H4 pp = none ∧ pn ≠ pr ∧ pn ≠ pp ∧ pr ≠ pp ∧ H5 pn = some (.lst []) ∧ H5 pr = some (.lst []) ∧ H5 pp = some (.lst []) ∧ Way H5 wy mk ms j5 fl5 ∧ j5 ≤ ms.length ∧ j4 ≤ j5 ∧ (fl5 = false → j5 = j4 + 1 ∧ fl4 = false) ∧
        Pt R fl5 j5 (kNames (fun names j => kRows (fun rows places k => pCodes ms m (found ++ [(z, codeD params names rows places)]) (k + 1)) (pRows ms (ms.length + 1) [] [] (j + 1))) (pNames ms params (ms.length + 1) [] j5) = R)) (fun N hN => ?_) fun σ5 H5 p => ?_
      · unfold i__law_due_1a_2
        simp only [Dq.wS, Dq.wE, Dq.wEs, gOf, gsOf]
        refine ⟨_, F.count, _, rfl, count_pt (R := R) (fun params i => kNames (fun names j => kRows (fun rows places k => pCodes ms m (found ++ [(z, codeD params names rows places)]) (k + 1)) (pRows ms (ms.length + 1) [] [] (j + 1))) (pNames ms params (ms.length + 1) [] i)) hms w4 hj4 pt4 fun params j5 fl5 H5 x5 w5 hj5 hjj5 k5 pt5 => ⟨by decide, fun pn npn => ⟨by decide, fun pr npr => ⟨by decide, fun pp npp => ⟨by show 4 ≤ sizeLine; omega, fun t nt => ?_⟩⟩⟩⟩⟩
        have xa : Ex [] H5 (upd H5 pn (.lst [])) := Ex.new npn
        have ea : upd H5 pn (HO.lst []) pn = some (.lst []) := upd_same
        generalize upd H5 pn (HO.lst []) = Ha at xa ea npr npp nt
        have xb : Ex [] Ha (upd Ha pr (.lst [])) := Ex.new npr
        have eb : upd Ha pr (HO.lst []) pr = some (.lst []) := upd_same
        generalize upd Ha pr (HO.lst []) = Hb at xb eb npp nt
        have xc : Ex [] Hb (upd Hb pp (.lst [])) := Ex.new npp
        have ec : upd Hb pp (HO.lst []) pp = some (.lst []) := upd_same
        generalize upd Hb pp (HO.lst []) = Hc at xc ec nt
        have xd : Ex [] Hc (upd Hc t (.tup [.int params, .ref pn, .ref pr, .ref pp])) := Ex.new nt
        have ed : upd Hc t (HO.tup [.int params, .ref pn, .ref pr, .ref pp]) t = some (.tup [.int params, .ref pn, .ref pr, .ref pp]) := upd_same
        generalize upd Hc t (HO.tup [.int params, .ref pn, .ref pr, .ref pp]) = Hd at xd ed
        refine ⟨t, _, rfl, .inl (.inl (.inl ed)), rfl, _, _, rfl, _, _, rfl, _, _, rfl, _, _, rfl, rfl, hN _ _ ⟨params, j5, fl5, pn, pr, pp, rfl, x5.trans (((xa.trans xb).trans xc).trans xd).nil, x5.dom npn, x5.dom (xa.dom npr), x5.dom (xa.dom (xb.dom npp)), ?_, ?_, ?_, xd.get (xc.get (xb.get ea (by simp)) (by simp)) (by simp), xd.get (xc.get eb (by simp)) (by simp), xd.get ec (by simp), w5.ex (((xa.trans xb).trans xc).trans xd), hj5, hjj5, k5, pt5⟩⟩
        · exact ne_of_none ea npr
        · exact ne_of_none (xb.get ea (by simp)) npp
        · exact ne_of_none eb npp
      obtain ⟨params, j5, fl5, pn, pr, pp, rfl, x5, npn, npr, npp, nnr, nnp, nrp, epn, epr, epp, w5, hj5, hjj5, k5, pt5⟩ := p
      have w4y : H4 wy ≠ none := by rw [w4.1]; simp
      have ney : ∀ {p : Addr}, H4 p = none → p ≠ wy := fun h e => by rw [e] at h; exact w4y h
      have nem : ∀ {p : Addr}, H4 p = none → p ≠ mk := fun h e => by rw [e, w4.2.1] at h; cases h
      -- the names
      refine seqP (P := fun σ6 H6 => ∃ j6 fl6 names, (fl6 = false → fl5 = false) ∧ σ6 = [some (.ref mk), some (.ref wy), some (.ref fd), some (.ref sh), some (.str z), some (.int params), some (.ref pn), some (.ref pr), some (.ref pp), b9, b10, b11] ∧ Ex [wy, pn] H5 H6 ∧ Way H6 wy mk ms j6 fl6 ∧ H6 pn = some (.lst (names.map V.str)) ∧ j6 ≤ ms.length ∧ j5 ≤ j6 ∧ Pt R fl6 j6 (atM ms j6 = ";" ∧ kRows (fun rows places k => pCodes ms m (found ++ [(z, codeD params names rows places)]) (k + 1)) (pRows ms (ms.length + 1) [] [] (j6 + 1)) = R)) (fun N hN => ?_) fun σ6 H6 p => ?_
      · refine due_names F hms (R := R) (fun names j => kRows (fun rows places k => pCodes ms m (found ++ [(z, codeD params names rows places)]) (k + 1)) (pRows ms (ms.length + 1) [] [] (j + 1))) (names := []) rfl (ney npn) (nem npn) w5 epn hj5 (by omega) (Nat.zero_le _) pt5 fun H6 j6 fl6 names k6 x6 w6 e6 hj6 hjj6 pt6 => hN _ _ ⟨j6, fl6, names, k6, rfl, x6, w6, e6, hj6, hjj6, pt6⟩
      obtain ⟨j6, fl6, names, k6, rfl, x6, w6, pn6, hj6, hjj6, pt6⟩ := p
      -- ;
      refine seqP (P := fun σ7 H7 => ∃ j7 fl7, (fl7 = false → fl6 = false) ∧ σ7 = [some (.ref mk), some (.ref wy), some (.ref fd), some (.ref sh), some (.str z), some (.int params), some (.ref pn), some (.ref pr), some (.ref pp), b9, b10, b11] ∧ Ex [wy] H6 H7 ∧ Way H7 wy mk ms j7 fl7 ∧ j7 ≤ ms.length ∧ j6 ≤ j7 ∧ Pt R fl7 j7 (kRows (fun rows places k => pCodes ms m (found ++ [(z, codeD params names rows places)]) (k + 1)) (pRows ms (ms.length + 1) [] [] j7) = R)) (fun N hN => ?_) fun σ7 H7 p => ?_
      · unfold i__law_due_1a_4
        simp only [Dq.wS, Dq.wE, Dq.wEs]
        refine ⟨_, F.take, _, rfl, _, F.next, _, rfl, next_q w6 (eq_s ?_)⟩
        refine take_pt (R := R) (r' := decide (atM ms j6 = ";")) (fun i => kRows (fun rows places k => pCodes ms m (found ++ [(z, codeD params names rows places)]) (k + 1)) (pRows ms (ms.length + 1) [] [] i)) Ex.refl w6 hj6 (fun y => by subst y; rfl) (fun y => by rw [of_decide_eq_true y]; decide) (pt6.imp (fun y => ⟨y.1, ?_⟩) id) fun _ j7 fl7 H7 x7 w7 hj7 hjj7 k7 _ pt7 => hN _ _ ⟨j7, fl7, fun y => (k7 y).2.2.2, rfl, x7, w7, hj7, hjj7, pt7⟩
        rw [if_pos (decide_eq_true y.2.1)]; exact y.2.2
      obtain ⟨j7, fl7, k7, rfl, x7, w7, hj7, hjj7, pt7⟩ := p
      have x57 : Ex [wy, pn] H5 H7 := x6.trans (x7.imp (by simp))
      have pr7 : H7 pr = some (.lst []) := x57.get epr (by simp [ney npr, Ne.symm nnr])
      have pp7 : H7 pp = some (.lst []) := x57.get epp (by simp [ney npp, Ne.symm nnp])
      have sh1 : ∀ {K : Hp}, Ex [wy] H1 K → K sh = some (.dK shV) := fun x => x.get hsh (by simpa using hsw)
      have shf : sh ∉ [wy, fd] ∨ sh = fd := by
        by_cases e : sh = fd
        · exact .inr e
        · exact .inl (by simp [hsw, e])
      have sh2 : H2 sh = some (.dK shV) := by
        rcases shf with y | y
        · exact x'.get hsh y
        · exfalso
          rw [y, hfd] at hsh
          have := HO.dK.inj (Option.some.inj hsh)
          exact absurd this (by decide)
      have sh4 : H4 sh = some (.dK shV) := x4.get (x3.get sh2 (by simpa using hsw)) (by simpa using hsw)
      have sh7 : H7 sh = some (.dK shV) := x57.get (x5.get sh4 (by simpa using hsw)) (by
        simp only [List.mem_cons, List.not_mem_nil, or_false, not_or]
        exact ⟨hsw, fun y => by rw [y, npn] at sh4; cases sh4⟩)
      -- the rows
      refine seqP (P := fun σ8 H8 => ∃ c9 c10 c11 j8 fl8 rows places xr xp, (fl8 = false → fl7 = false) ∧ σ8 = [some (.ref mk), some (.ref wy), some (.ref fd), some (.ref sh), some (.str z), some (.int params), some (.ref pn), some (.ref pr), some (.ref pp), c9, c10, c11] ∧ Ex [wy, pr, pp] H7 H8 ∧ Way H8 wy mk ms j8 fl8 ∧ H8 pr = some (.lst xr) ∧ H8 pp = some (.lst xp) ∧ RepL H7 H8 rows xr ∧ RepL H7 H8 places xp ∧ j8 ≤ ms.length ∧ j7 ≤ j8 ∧ Pt R fl8 j8 (atM ms j8 = "End" ∧ pCodes ms m (found ++ [(z, codeD params names rows places)]) (j8 + 1) = R)) (fun N hN => ?_) fun σ8 H8 p => ?_
      · refine due_rows F hms (R := R) (fun rows places k => pCodes ms m (found ++ [(z, codeD params names rows places)]) (k + 1)) rfl rfl rfl rfl (ney npr) (nem npr) (ney npp) (nem npp) nrp w7 pr7 pp7 sh7 hj7 (by omega) pt7 fun c9 c10 c11 H8 j8 fl8 rows places xr xp k8 x8 w8 a1 a2 a3 a4 hj8 hjj8 pt8 => hN _ _ ⟨c9, c10, c11, j8, fl8, rows, places, xr, xp, k8, rfl, x8, w8, a1, a2, a3, a4, hj8, hjj8, pt8⟩
      obtain ⟨c9, c10, c11, j8, fl8, rows, places, xr, xp, k8, rfl, x8, w8, pr8, pp8, rr8, rp8, hj8, hjj8, pt8⟩ := p
      -- End
      refine seqP (P := fun σ9 H9 => ∃ j9 fl9, σ9 = [some (.ref mk), some (.ref wy), some (.ref fd), some (.ref sh), some (.str z), some (.int params), some (.ref pn), some (.ref pr), some (.ref pp), c9, c10, c11] ∧ Ex [wy] H8 H9 ∧ Way H9 wy mk ms j9 fl9 ∧ j9 ≤ ms.length ∧ j8 ≤ j9 ∧ (fl9 = false → j9 = j8 + 1 ∧ fl8 = false) ∧ Pt R fl9 j9 (pCodes ms m (found ++ [(z, codeD params names rows places)]) j9 = R)) (fun N hN => ?_) fun σ9 H9 p => ?_
      · unfold i__law_due_1a_6
        simp only [Dq.wS, Dq.wE, Dq.wEs]
        refine ⟨_, F.take, _, rfl, _, F.next, _, rfl, next_q w8 (eq_s ?_)⟩
        refine take_pt (R := R) (r' := decide (atM ms j8 = "End")) (fun i => pCodes ms m (found ++ [(z, codeD params names rows places)]) i) Ex.refl w8 hj8 (fun y => by subst y; rfl) (fun y => by rw [of_decide_eq_true y]; decide) (pt8.imp (fun y => ⟨y.1, ?_⟩) id) fun _ j9 fl9 H9 x9 w9 hj9 hjj9 k9 _ pt9 => hN _ _ ⟨j9, fl9, rfl, x9, w9, hj9, hjj9, fun y => ⟨(k9 y).1, (k9 y).2.2.2⟩, pt9⟩
        rw [if_pos (decide_eq_true y.2.1)]; exact y.2.2
      obtain ⟨j9, fl9, rfl, x9, w9, hj9, hjj9, k9, pt9⟩ := p
      -- found[name]
      refine seq1 ?_
      unfold i__law_due_1a_7
      simp only [Dq.wS, Dq.wE, Dq.wEs]
      refine ⟨_, rfl, _, rfl, _, rfl, _, rfl, by show 4 ≤ sizeLine; omega, fun t nt => ?_⟩
      have xt : Ex [] H9 (upd H9 t (.tup [.int params, .ref pn, .ref pr, .ref pp])) := Ex.new nt
      have et : upd H9 t (HO.tup [.int params, .ref pn, .ref pr, .ref pp]) t = some (.tup [.int params, .ref pn, .ref pr, .ref pp]) := upd_same
      generalize upd H9 t (HO.tup [.int params, .ref pn, .ref pr, .ref pp]) = Ht at xt et
      have x79 : Ex [wy, pr, pp] H7 H9 := x8.trans (x9.imp (by simp))
      have fd4 : H4 fd = some (.dK ys) := x4.get fd3 (by simpa using hwf)
      have nef : ∀ {p : Addr}, H4 p = none → fd ≠ p := fun h e => by rw [← e, fd4] at h; cases h
      have fd7 : H7 fd = some (.dK ys) := x57.get (x5.get fd4 (by simpa using hwf)) (by simp [hwf, nef npn])
      have fdt : Ht fd = some (.dK ys) := xt.get (x79.get fd7 (by simp [hwf, nef npr, nef npp])) (by simp)
      have hyl : ys.length < sizeLine := by
        have := r'.len
        omega
      refine ⟨_, rfl, _, rfl, .inr ⟨fd, upd Ht fd (.dK (putK ys (.inr z) (.ref t))), rfl, DPut.k (k := .inr z) fdt hyl, ?_⟩⟩
      unfold Dq.wSs
      have tfd : t ≠ fd := (ne_of_none (x79.get fd7 (by simp [hwf, nef npr, nef npp])) nt).symm
      have x24 : Ex [wy] H2 H4 := x3.trans x4
      have x5t : Ex [wy, pn, pr, pp] H5 Ht := (x57.imp (by intro a ha; simp at ha ⊢; rcases ha with h | h <;> simp [h])).trans ((x79.imp (by intro a ha; simp at ha ⊢; rcases ha with h | h | h <;> simp [h])).trans xt.nil)
      have x4t : Ex [wy] H4 Ht := ((x5.imp (by simp)).trans x5t).drop fun a ha => by
        simp only [List.mem_cons, List.not_mem_nil, or_false] at ha
        rcases ha with rfl | rfl | rfl | rfl
        · exact .inl (by simp)
        · exact .inr npn
        · exact .inr npr
        · exact .inr npp
      have x2t : Ex [wy, fd] H2 (upd Ht fd (.dK (putK ys (.inr z) (.ref t)))) := ((x24.trans x4t).imp (by simp)).trans (Ex.wr (by simp))
      have w10 : Way (upd Ht fd (.dK (putK ys (.inr z) (.ref t)))) wy mk ms j9 fl9 := ⟨by rw [upd_ne (Ne.symm hwf)]; exact (w9.ex xt).1, by rw [upd_ne (Ne.symm hfm)]; exact (w9.ex xt).2.1, w9.2.2⟩
      refine ⟨m, Nat.lt_succ_self _, ⟨_, _, _, _, _, _, _, _, rfl⟩, j9, fl9, found ++ [(z, codeD params names rows places)], _, x'.trans x2t, w10, upd_same, hj9, fun y => ⟨?_, ?_, ?_⟩, pt9⟩
      · -- the dict
        obtain ⟨y1, y8⟩ := k9 y
        have hk : (found.any fun q => decide (q.1 = z)) = false := (k4 (k5 (k6 (k7 (k8 y8)))).2).2.2
        have d0 : ∀ {a : Addr}, H4 a = none → H1 a = none := fun h => x'.dom (x24.dom h)
        have x7e : Ex [wy, pr, pp, fd] H7 (upd Ht fd (.dK (putK ys (.inr z) (.ref t)))) := ((x79.imp (by intro a ha; simp at ha ⊢; rcases ha with h | h | h <;> simp [h])).trans xt.nil).trans (Ex.wr (by simp))
        have b7 : ∀ a ∈ [wy, pr, pp, fd], H7 a ≠ none := by
          intro a ha
          simp only [List.mem_cons, List.not_mem_nil, or_false] at ha
          rcases ha with rfl | rfl | rfl | rfl
          · rw [w7.1]; simp
          · rw [pr7]; simp
          · rw [pp7]; simp
          · rw [fd7]; simp
        have d7 : ∀ a, H7 a = none → H1 a = none := fun a h => d0 (x5.dom (x57.dom h))
        refine RepD.put (r'.ex x2t bad0) ?_ hk
        have e8 : Ex [wy, fd] H8 (upd Ht fd (.dK (putK ys (.inr z) (.ref t)))) := ((x9.imp (by simp)).trans xt.nil).trans (Ex.wr (by simp))
        have pnf : pn ≠ fd := (nef npn).symm
        have prf : pr ≠ fd := (nef npr).symm
        have ppf : pp ≠ fd := (nef npp).symm
        have pn7 : H7 pn = some (.lst (names.map V.str)) := x7.get pn6 (by simpa using ney npn)
        unfold codeD Rep
        refine ⟨t, _, rfl, d7 t (x79.dom nt), by rw [upd_ne tfd]; exact et, RepL.cons (.flat rfl) (RepL.cons ?_ (RepL.cons ?_ (RepL.cons ?_ RepL.nil)))⟩
        · unfold Rep
          refine ⟨pn, _, rfl, d0 npn, x7e.get pn7 (by simp [ney npn, nnr, nnp, pnf]), ?_⟩
          have : (names.map fun z => DD.at (.str z)) = (names.map V.str).map .at := by rw [List.map_map]; rfl
          rw [this]
          exact RepL.flats flat_strs
        · unfold Rep
          exact ⟨pr, _, rfl, d0 npr, e8.get pr8 (by simp [ney npr, prf]), ((rr8.ex e8 (by
            intro a ha
            simp only [List.mem_cons, List.not_mem_nil, or_false] at ha
            rcases ha with rfl | rfl
            · rw [w7.1]; simp
            · rw [fd7]; simp)).base d7)⟩
        · unfold Rep
          exact ⟨pp, _, rfl, d0 npp, e8.get pp8 (by simp [ney npp, ppf]), ((rp8.ex e8 (by
            intro a ha
            simp only [List.mem_cons, List.not_mem_nil, or_false] at ha
            rcases ha with rfl | rfl
            · rw [w7.1]; simp
            · rw [fd7]; simp)).base d7)⟩
      · rw [List.length_append]
        have := k9 y
        show found.length + 1 ≤ j9
        omega
      · have := k9 y
        omega
    · rintro m σ' H' H2 ⟨hσ, -⟩ ⟨rfl, j, fl, found, ys, x', w', f', r', hj, z⟩
      rw [if_neg (by decide)] at z
      exact hN _ _ ⟨j, fl, found, ys, hσ, x', w', f', r', z⟩
  obtain ⟨j, fl, found, ys, ⟨b4, b5, b6, b7, b8, b9, b10, b11, rfl⟩, x2, w2, f2, r2, pt⟩ := p
  have d1 : ∀ a, H1 a = none → H a = none := fun a h => x1.dom h
  have xH : Ex [] H H2 := (x1.nil.trans x2).drop fun a ha => by
    simp only [List.mem_cons, List.not_mem_nil, or_false] at ha
    rcases ha with rfl | rfl
    · exact .inr nw
    · exact .inr nf
  have hD : dueD ms = resD R := by unfold dueD; rw [hR]
  refine seq1 ?_
  unfold i__law_due_2
  simp only [Dq.wS, Dq.wE, Dq.wEs, Dq.wT]
  refine ⟨_, rfl, ix_ln (n := 2) w2.1 rfl ⟨_, rfl, ?_⟩⟩
  rcases pt with ⟨rfl, e⟩ | ⟨rfl, e⟩
  · refine ifF rfl ⟨_, rfl, by show 2 ≤ sizeLine; omega, fun t nt => q _ _ (xH.trans (Ex.new nt)) ?_⟩
    rw [hD, e]
    refine Rep.newT nt (fun a h => xH.dom h) (RepL.cons (.flat rfl) (RepL.cons ?_ RepL.nil))
    unfold Rep
    exact ⟨fd, ys, rfl, nf, f2, (r2 rfl).base d1⟩
  · refine ifT rfl ⟨_, rfl, ix_ln (n := 1) w2.1 rfl ⟨by show 2 ≤ sizeLine; omega, fun t nt => q _ _ (xH.trans (Ex.new nt)) ?_⟩⟩
    rw [hD, e]
    exact Rep.newT nt (fun a h => xH.dom h) (RepL.cons (.flat rfl) (RepL.cons (.flat rfl) RepL.nil))
end Hk64

set_option maxHeartbeats 2000000
namespace Hk64
open PySem PySem.Spec PyProof.Rows L2 Dq
/-! ### whole_of -/
theorem lstrip_val (m : Str) : (Txt.lstripChars m "-").cps.toList = m.cps.toList.dropWhile fun c => (#[45] : Array Nat).contains c := by
  unfold Txt.lstripChars Txt.stripBy
  have hm : (("-" : Str).cps.contains : Nat → Bool) = fun c => (#[45] : Array Nat).contains c := rfl
  rw [hm]
  split
  · rename_i h
    unfold stripSame at h
    rw [Bool.and_eq_true] at h
    have h0 : (m.cps.toList.takeWhile fun c => (#[45] : Array Nat).contains c).length = 0 := eq_of_beq h.1
    have e := List.takeWhile_append_dropWhile (p := fun c => (#[45] : Array Nat).contains c) (l := m.cps.toList)
    rw [List.length_eq_zero_iff.mp h0, List.nil_append] at e
    exact e.symm
  · unfold stripped stripHi stripLo
    rw [if_pos rfl, if_neg (by decide), StrLaws.strSub_toList]
    have hl : m.length = m.cps.toList.length := Array.length_toList.symm
    rw [hl, List.take_of_length_le (by rw [List.length_drop]; omega)]
    generalize m.cps.toList = l
    induction l with
    | nil => rfl
    | cons c r ih =>
      rw [List.takeWhile_cons, List.dropWhile_cons]
      split
      · rw [List.length_cons, List.drop_succ_cons, ih]
      · rfl
/-- the digits of a mark -/
def bodyS (m : Str) : Str := if neg m = true then tlS m else m
theorem body_dg {m : Str} (h : ig m = true) : dg (bodyS m) = true := by
  unfold ig at h
  exact (Bool.and_eq_true_iff.mp h).1
theorem lstrip_body {m : Str} (h : ig m = true) : Txt.lstripChars m "-" = bodyS m := by
  apply str_ext
  rw [lstrip_val]
  obtain ⟨c, r, e, h1, h2⟩ := dg_head (body_dg h)
  have hc : (#[45] : Array Nat).contains c = false := by
    cases q : (#[45] : Array Nat).contains c with
    | false => rfl
    | true =>
      have : c = 45 := by simpa using q
      omega
  cases hn : neg m with
  | false =>
    have eb : bodyS m = m := by unfold bodyS; rw [hn, if_neg (by decide)]
    rw [eb] at e ⊢
    rw [e, List.dropWhile_cons, hc]; rfl
  | true =>
    have eb : bodyS m = tlS m := by unfold bodyS; rw [hn, if_pos rfl]
    rw [eb] at e ⊢
    rw [neg_cons hn, List.dropWhile_cons, if_pos (by simp), e, List.dropWhile_cons, hc]; rfl
theorem valS_body {m : Str} (h : ig m = true) : valS m = if neg m = true then -(NumText.digitsVal (bodyS m).cps.toList : Int) else (NumText.digitsVal (bodyS m).cps.toList : Int) := by
  cases hn : neg m with
  | false =>
    have eb : bodyS m = m := by unfold bodyS; rw [hn, if_neg (by decide)]
    rw [if_neg (by decide), eb]
    have := body_dg h
    rw [eb] at this
    exact valS_dg this
  | true =>
    have eb : bodyS m = tlS m := by unfold bodyS; rw [hn, if_pos rfl]
    rw [if_pos rfl, eb]
    unfold valS
    rw [neg_cons hn]
    rfl
def ten (n : Nat) : Str := ⟨(49 :: List.replicate n 48).toArray⟩
theorem ten_ok {n : Nat} (h : n ≤ 600) : intText? (ten n) = some ((NumText.digitsVal (49 :: List.replicate n 48) : Nat) : Int) := by
  have e : (ten n).cps.toList = 49 :: List.replicate n 48 := rfl
  have := intText_digits (x := ten n) (by
    rw [e]
    intro c hc
    rcases List.mem_cons.mp hc with rfl | hc
    · omega
    · have := (List.mem_replicate.mp hc).2
      omega) (by rw [e]; simp) (by
    show (49 :: List.replicate n 48).toArray.size ≤ 4300
    rw [List.size_toArray, List.length_cons, List.length_replicate]; omega)
  rw [e] at this
  exact this
theorem slice_all {m : Str} (h : Sm m) : Txt.slice m none (some 1000) = m ∧ Txt.slice m (some 1000) none = "" := by
  have hl : m.cps.toList.length = m.length := Array.length_toList
  have hm : m.length ≤ 600 := h
  constructor
  · rw [← C8.cutS_slice]
    apply str_ext
    show ((m.cps.toList.drop _).take _).toArray.toList = _
    rw [HT.sIx_none, List.drop_zero, Nat.sub_zero, show (1000 : Int) = ((1000 : Nat) : Int) from rfl, HT.sIx_nat]
    rw [List.take_of_length_le (by omega)]
  · rw [← C8.cutS_slice]
    apply str_ext
    show ((m.cps.toList.drop _).take _).toArray.toList = []
    rw [HT.sIx_none, show (1000 : Int) = ((1000 : Nat) : Int) from rfl, HT.sIx_nat]
    rw [List.drop_eq_nil_of_le (by omega)]
    simp
def spWhole : Sp := fun vs H Q _ => ∃ m, vs = [.str m] ∧ Sm m ∧ ig m = true ∧ Q (.int (valS m)) H
theorem body_sm {m : Str} (h : Sm m) : Sm (bodyS m) := by
  unfold bodyS
  split
  · exact tlS_sm h
  · exact h
theorem w_whole {Γ : Gam} (vs : List V) (H : Hp) (Q : VK) (E : XK) (h : spWhole vs H Q E) : wSs Γ i_whole_of (dE E) (dD Q) (start l_whole_of.N vs) H := by
  obtain ⟨m, rfl, hm, hi, q⟩ := h
  have sb := body_sm hm
  have lb : (bodyS m).length ≤ 600 := sb
  have hs := sizeBig
  have hd := body_dg hi
  obtain ⟨c, r, ec, _, _⟩ := dg_head hd
  have l1 : 1 ≤ (bodyS m).length := by
    have : (bodyS m).length = (bodyS m).cps.toList.length := Array.length_toList.symm
    rw [this, ec]; simp
  unfold i_whole_of
  refine seqP (P := fun σ' H' => H' = H ∧ σ' = [some (.str m), some (.str (bodyS m)), some (.int 0), none]) (fun N hN => ?_) fun σ1 H1 p => ?_
  · simp only [Dq.wS, tPar, tCons, tNil, Dq.wE, Dq.wEs]
    refine ⟨_, rfl, rfl, m, "-", rfl, rfl, hm.line, _, _, rfl, hN _ _ ⟨rfl, ?_⟩⟩
    rw [lstrip_body hi]; rfl
  obtain ⟨rfl, rfl⟩ := p
  refine seqP (P := fun σ' H' => H' = H1 ∧ ∃ a b, σ' = [some (.str m), a, some (.int (NumText.digitsVal (bodyS m).cps.toList)), b]) (fun N hN => ?_) fun σ2 H2 p => ?_
  · refine whP (I := fun k σ' H' => H' = H1 ∧ ((k = 1 ∧ σ' = [some (.str m), some (.str (bodyS m)), some (.int 0), none]) ∨ (k = 0 ∧ ∃ b, σ' = [some (.str m), some (.str ""), some (.int (NumText.digitsVal (bodyS m).cps.toList)), b])))
      (T := fun k σ' H' t H2 => H2 = H' ∧ t = decide (k = 1)) 1 ⟨rfl, .inl ⟨rfl, rfl⟩⟩ ?_ ?_ ?_
    · rintro k σ' H' ⟨rfl, z⟩ N' hN'
      simp only [Dq.wT, Dq.wE]
      rcases z with ⟨rfl, rfl⟩ | ⟨rfl, b, rfl⟩
      · refine ⟨_, rfl, _, ⟨sb.line, rfl⟩, hN' _ _ ⟨rfl, ?_⟩⟩
        rw [decide_eq_true rfl]
        simp; omega
      · exact ⟨_, rfl, _, ⟨by decide, rfl⟩, hN' _ _ ⟨rfl, rfl⟩⟩
    · rintro k σ' H' H2 ⟨rfl, z⟩ ⟨rfl, t⟩
      rcases z with ⟨rfl, rfl⟩ | ⟨rfl, b, rfl⟩
      · simp only [Dq.wSs, Dq.wS, tSeq, tNext, tPar, tCons, tNil, Dq.wE, Dq.wEs, Dq.wO]
        refine ⟨_, rfl, _, rfl, sl_s sb.line ⟨_, rfl, _, rfl, sl_s sb.line ⟨_, _, rfl, ?_⟩⟩⟩
        obtain ⟨s1, s2⟩ := slice_all sb
        rw [s1, s2]
        refine ⟨_, rfl, _, rfl, len_s sb.line (.inr (.inr ⟨48, (bodyS m).length, rfl, rfl, l1, by omega, ?_⟩))⟩
        have e10 : (⟨(List.replicate (bodyS m).length 48).toArray⟩ : Str).length = (bodyS m).length := by
          show (List.replicate (bodyS m).length 48).toArray.size = _
          rw [List.size_toArray, List.length_replicate]
        refine add_s (by rw [e10]; show 1 + _ ≤ _; omega) (int_s (i := ((NumText.digitsVal (49 :: List.replicate (bodyS m).length 48) : Nat) : Int)) ?_ ?_ (mul_i (.inl ⟨by omega, by omega⟩) ⟨_, rfl, int_s (int_dg hd sb) (by omega) (add_i ?_)⟩))
        · rw [← ten_ok lb]
          congr 1
          apply str_ext
          show ((#[49] : Array Nat) ++ (List.replicate _ 48).toArray).toList = _
          simp [ten]
        · show ((#[49] : Array Nat) ++ (List.replicate _ 48).toArray).size ≤ 640
          simp; omega
        · refine ⟨0, by omega, rfl, .inr ⟨rfl, some (.str (bodyS m)), ?_⟩⟩
          rw [valS_dg hd, Int.zero_mul, Int.zero_add]
          rfl
      · cases t
    · rintro k σ' H' H2 ⟨rfl, z⟩ ⟨rfl, t⟩
      rcases z with ⟨rfl, rfl⟩ | ⟨rfl, b, rfl⟩
      · cases t
      · exact hN _ _ ⟨rfl, _, b, rfl⟩
  obtain ⟨rfl, a, b, rfl⟩ := p
  refine seq1 ?_
  simp only [Dq.wS, Dq.wE, Dq.wT, Dq.wO]
  refine ⟨_, rfl, _, rfl, sl_s hm.line (eq_s ⟨_, rfl, ?_⟩)⟩
  rw [sl_neg]
  rw [valS_body hi] at q
  cases hn : neg m with
  | true =>
    rw [hn, if_pos rfl] at q
    exact ifT rfl ⟨_, rfl, _, rfl, q⟩
  | false =>
    rw [hn, if_neg (by decide)] at q
    exact ifF rfl ⟨_, rfl, q⟩
end Hk64

set_option maxHeartbeats 2000000
namespace Hk64
open PySem PySem.Spec PyProof.Rows L2 Dq
/-! ### the marks of a text, as an object -/
def lmF (L : Addr) (i : Nat) : List (Str × V) := [("marks", .ref L), ("at", .int (i : Nat))]
def Lm (H : Hp) (m C dx L : Addr) (ms : List Str) (i : Nat) : Prop := H m = some (.ins C dx (lmF L i)) ∧ H L = some (.lst (ms.map V.str))
theorem lm_marks {L : Addr} {i : Nat} : (lmF L i).lookup ("marks" : Str) = some (V.ref L) := by rfl
theorem lm_at {L : Addr} {i : Nat} : (lmF L i).lookup ("at" : Str) = some (V.int (i : Nat)) := by
  show ([("marks", .ref L), ("at", .int (i : Nat))] : List (Str × V)).lookup ("at" : Str) = _
  rw [List.lookup_cons, show (("at" : Str) == "marks") = false from by decide +kernel]
  show ([("at", .int (i : Nat))] : List (Str × V)).lookup ("at" : Str) = _
  rw [List.lookup_cons, show (("at" : Str) == "at") = true from by decide +kernel]
theorem lm_none {L : Addr} {i : Nat} {m : Str} (h1 : (m == "marks") = false) (h2 : (m == "at") = false) : (lmF L i).lookup m = none := by
  show ([("marks", .ref L), ("at", .int (i : Nat))] : List (Str × V)).lookup m = _
  rw [List.lookup_cons, h1]
  show ([("at", .int (i : Nat))] : List (Str × V)).lookup m = _
  rw [List.lookup_cons, h2]
  rfl
theorem lm_put {L : Addr} {i j : Nat} : putF "at" (.int (j : Nat)) (lmF L i) = lmF L j := by
  show putF "at" (.int (j : Nat)) [("marks", .ref L), ("at", .int (i : Nat))] = _
  rw [putF, if_neg (by decide +kernel), putF, if_pos rfl]
  rfl
theorem Lm.ne {H : Hp} {m C dx L : Addr} {ms : List Str} {i : Nat} (h : Lm H m C dx L ms i) : L ≠ m := by
  rintro rfl
  have := h.1
  rw [h.2] at this; cases this
theorem Lm.ex {H H' : Hp} {m C dx L : Addr} {ms : List Str} {i : Nat} (h : Lm H m C dx L ms i) (x : Ex [] H H') : Lm H' m C dx L ms i := ⟨x.get h.1 (by simp), x.get h.2 (by simp)⟩
theorem Lm.wr {H : Hp} {m C dx L : Addr} {ms : List Str} {i j : Nat} (h : Lm H m C dx L ms i) : Lm (upd H m (.ins C dx (lmF L j))) m C dx L ms j := ⟨upd_same, by rw [upd_ne h.ne]; exact h.2⟩
/-- BadMark(j), raised -/
def Exc (BM m : Addr) (j : Nat) (H : Hp) (E : XK) : Prop := ∀ d H', Ex [m] H H' → H d = none → H' d = some (.xd [("index", .int (j : Nat))]) → E (.ref BM) (some d) H'
theorem Exc.ex {BM m : Addr} {j : Nat} {H H1 : Hp} {E : XK} (h : Exc BM m j H E) (x : Ex [m] H H1) : Exc BM m j H1 E := fun d H' x' n e => h d H' (x.trans x') (x.dom n) e
/-- a reading of one mark by the object: v behind it, or BadMark -/
def Rdm (BM : Addr) (m C dx L : Addr) (ms : List Str) (i : Nat) (o : Option V) (H : Hp) (Q : VK) (E : XK) : Prop := (∀ v, o = some v → ∀ H', Ex [m] H H' → Lm H' m C dx L ms (i + 1) → Q v H') ∧ (o = none → Exc BM m i H E)
theorem Rdm.ex {BM : Addr} {m C dx L : Addr} {ms : List Str} {i : Nat} {o : Option V} {H H1 : Hp} {Q : VK} {E : XK} (h : Rdm BM m C dx L ms i o H Q E) (x : Ex [m] H H1) : Rdm BM m C dx L ms i o H1 Q E := ⟨fun v e H' x' l => h.1 v e H' (x.trans x') l, fun e => (h.2 e).ex x⟩
def spMarkM : Sp := fun vs H Q _ => ∃ m C dx L ms i, vs = [.ref m] ∧ Lm H m C dx L ms i ∧ Q (.str (atM ms i)) H
def spTakeM (BM : Addr) : Sp := fun vs H Q E => ∃ m C dx L ms i r, vs = [.ref m, .bl r] ∧ Lm H m C dx L ms i ∧ Rdm BM m C dx L ms i (if (r && !decide (atM ms i = "")) = true then some (.str (atM ms i)) else none) H Q E
def spTakeMark (BM : Addr) : Sp := fun vs H Q E => ∃ m C dx L ms i z, vs = [.ref m, .str z] ∧ Lm H m C dx L ms i ∧ Rdm BM m C dx L ms i (if (decide (atM ms i = z) && !decide (atM ms i = "")) = true then some .non else none) H Q E
def spNumberM (BM : Addr) : Sp := fun vs H Q E => ∃ m C dx L ms i least, vs = [.ref m, .int least, .non] ∧ Mks ms ∧ Lm H m C dx L ms i ∧ Rdm BM m C dx L ms i ((numO (atM ms i) least).map .int) H Q E
def spIntegerM (BM : Addr) : Sp := fun vs H Q E => ∃ m C dx L ms i, vs = [.ref m] ∧ Mks ms ∧ Lm H m C dx L ms i ∧ Rdm BM m C dx L ms i ((intO (atM ms i)).map .int) H Q E
def spNameM (K : PySem.W.Frag) (w : World) (BM : Addr) : Sp := fun vs H Q E => ∃ m C dx L ms i kv b, vs = [.ref m, kv] ∧ Mks ms ∧ Lm H m C dx L ms i ∧ (∀ H', Ex [] H H' → InV K w (.str (atM ms i)) kv H' b) ∧ Rdm BM m C dx L ms i (if (nmOk (atM ms i) && !b) = true then some (.str (atM ms i)) else none) H Q E
structure LmFns (Γ : Gam) (C BM : Addr) : Prop where
  f1 : Γ.fd C "marks"
  f2 : Γ.fd C "at"
  rs : Γ.rs "BadMark" BM "index"
variable {Γ : Gam} {C BM : Addr}
def OnC (C : Addr) (sp : Sp) : Sp := fun vs H Q E => sp vs H Q E ∧ ∀ m, vs.head? = some (.ref m) → ∃ dx fs, H m = some (.ins C dx fs)
theorem lm_len {L : Addr} {i : Nat} : (lmF L i).length < 1000 := by show 2 < 1000; omega
theorem w_markM (F : LmFns Γ C BM) (vs : List V) (H : Hp) (Q : VK) (E : XK) (h : OnC C spMarkM vs H Q E) : wSs Γ i_LineMarks_mark (dE E) (dD Q) (start l_LineMarks_mark.N vs) H := by
  obtain ⟨⟨m, C', dx, L, ms, i, rfl, lm, q⟩, hc⟩ := h
  obtain ⟨_, _, ec⟩ := hc m rfl
  rw [lm.1] at ec
  cases ec
  simp only [i_LineMarks_mark, Dq.wSs, Dq.wS, Dq.wE, Dq.wEs, Dq.wT, tSeq]
  refine ⟨_, rfl, m, C, dx, _, _, rfl, lm.1, F.f2, lm_at, _, rfl, m, C, dx, _, _, rfl, lm.1, F.f1, lm_marks, len_lst lm.2 (lt_i ⟨_, rfl, ?_⟩)⟩
  rw [List.length_map]
  by_cases hi : i < ms.length
  · refine ifT (decide_eq_true (by omega)) ⟨_, rfl, m, C, dx, _, _, rfl, lm.1, F.f1, lm_marks, _, rfl, m, C, dx, _, _, rfl, lm.1, F.f2, lm_at, ix_ln lm.2 (v := .str (atM ms i)) ?_ q⟩
    rw [List.getElem?_map, atM_lt hi]; rfl
  · rw [atM_ge (by omega)] at q
    exact ifF (decide_eq_false (by omega)) q
theorem call_mark (h1 : Γ.ms C "mark" (OnC C spMarkM)) {m dx L : Addr} {ms : List Str} {i : Nat} {H : Hp} {Q : VK} {E : XK} (lm : Lm H m C dx L ms i) (q : Q (.str (atM ms i)) H) : ∃ p C' dx' fs sp, V.ref m = .ref p ∧ H p = some (.ins C' dx' fs) ∧ Γ.ms C' "mark" sp ∧ fs.lookup ("mark" : Str) = none ∧ sp [.ref m] H Q E :=
  ⟨m, C, dx, _, _, rfl, lm.1, h1, lm_none (by decide +kernel) (by decide +kernel), ⟨m, C, dx, L, ms, i, rfl, lm, q⟩, fun z e => by cases e; exact ⟨_, _, lm.1⟩⟩
theorem w_takeM (F : LmFns Γ C BM) (h1 : Γ.ms C "mark" (OnC C spMarkM)) (vs : List V) (H : Hp) (Q : VK) (E : XK) (h : OnC C (spTakeM BM) vs H Q E) : wSs Γ i_LineMarks_take (dE E) (dD Q) (start l_LineMarks_take.N vs) H := by
  obtain ⟨⟨m, C', dx, L, ms, i, r, rfl, lm, q1, q2⟩, hc⟩ := h
  obtain ⟨_, _, ec⟩ := hc m rfl
  rw [lm.1] at ec
  cases ec
  unfold i_LineMarks_take
  refine seqP (P := fun σ' H' => H' = H ∧ σ' = [some (.ref m), some (.bl r), some (.str (atM ms i))]) (fun N hN => ?_) fun σ1 H1 p => ?_
  · simp only [Dq.wS, Dq.wE, Dq.wEs]
    exact ⟨_, rfl, call_mark h1 lm (hN _ _ ⟨rfl, rfl⟩)⟩
  obtain ⟨rfl, rfl⟩ := p
  refine seq1 (ifP (fun k H' => H' = H1 ∧ k = !(r && !decide (atM ms i = ""))) (fun N hN => ?_) (fun H' p => ?_) fun H' p => ?_)
  · simp only [Dq.wT, Dq.wE]
    refine ⟨_, rfl, eq_s ⟨_, rfl, ?_⟩⟩
    by_cases h0 : atM ms i = ""
    · exact ifT (decide_eq_true h0) (hN _ _ ⟨rfl, by rw [decide_eq_true h0]; simp⟩)
    · exact ifF (decide_eq_false h0) ⟨_, rfl, _, rfl, hN _ _ ⟨rfl, by rw [decide_eq_false h0]; simp⟩⟩
  · obtain ⟨rfl, hk⟩ := p
    refine seq1 ?_
    simp only [Dq.wS, Dq.wE, Dq.wEs]
    refine ⟨BM, _, F.rs, _, rfl, m, C, dx, _, _, rfl, lm.1, F.f2, lm_at, _, rfl, fun d nd => ?_⟩
    refine q2 ?_ d _ (Ex.new nd) nd upd_same
    rw [if_neg]
    intro z
    rw [z] at hk
    cases hk
  · obtain ⟨rfl, hk⟩ := p
    have hk' : (r && !decide (atM ms i = "")) = true := by
      cases y : (r && !decide (atM ms i = "")) with
      | true => rfl
      | false => rw [y] at hk; cases hk
    show wSs Γ _ _ _ _ _
    refine seq1 ?_
    simp only [Dq.wS, Dq.wE]
    refine ⟨_, rfl, m, C, dx, _, _, rfl, lm.1, F.f2, lm_at, ⟨(i : Int), 1, rfl, rfl, dx, _, lm.1, lm_len, ?_⟩⟩
    refine seq1 ?_
    simp only [Dq.wS, Dq.wE]
    have e1 : V.int ((i : Int) + 1) = .int ((i + 1 : Nat) : Int) := rfl
    rw [e1, lm_put]
    exact ⟨_, rfl, q1 _ (by rw [if_pos hk']) _ (Ex.wr (by simp)) lm.wr⟩
theorem call_take {K : PySem.W.Frag} (h2 : Γ.ms C "take" (OnC C (spTakeM BM))) {m dx L : Addr} {ms : List Str} {i : Nat} {r : Bool} {H : Hp} {Q : VK} {E : XK} (lm : Lm H m C dx L ms i) (q : Rdm BM m C dx L ms i (if (r && !decide (atM ms i = "")) = true then some (.str (atM ms i)) else none) H Q E) : OnC C (spTakeM BM) [.ref m, .bl r] H Q E :=
  ⟨⟨m, C, dx, L, ms, i, r, rfl, lm, q⟩, fun z e => by cases e; exact ⟨_, _, lm.1⟩⟩
end Hk64

set_option maxHeartbeats 2000000
namespace Hk64
open PySem PySem.Spec PyProof.Rows L2 Dq
variable {Γ : Gam} {C BM : Addr}
/-- the object of a method's call -/
theorem OnC.obj {sp : Sp} {m : Addr} {vs : List V} {H : Hp} {Q : VK} {E : XK} (h : OnC C sp (.ref m :: vs) H Q E) {C' dx L : Addr} {ms : List Str} {i : Nat} (lm : Lm H m C' dx L ms i) : C' = C := by
  obtain ⟨_, _, ec⟩ := h.2 m rfl
  rw [lm.1] at ec
  cases ec; rfl
theorem OnC.of {sp : Sp} {m dx L : Addr} {vs : List V} {H : Hp} {Q : VK} {E : XK} {ms : List Str} {i : Nat} (lm : Lm H m C dx L ms i) (h : sp (.ref m :: vs) H Q E) : OnC C sp (.ref m :: vs) H Q E := ⟨h, fun z e => by cases e; exact ⟨_, _, lm.1⟩⟩
theorem n_take {L : Addr} {i : Nat} : (lmF L i).lookup ("take" : Str) = none := lm_none (by decide +kernel) (by decide +kernel)
theorem n_tmark {L : Addr} {i : Nat} : (lmF L i).lookup ("take_mark" : Str) = none := lm_none (by decide +kernel) (by decide +kernel)
theorem n_number {L : Addr} {i : Nat} : (lmF L i).lookup ("number" : Str) = none := lm_none (by decide +kernel) (by decide +kernel)
theorem n_integer {L : Addr} {i : Nat} : (lmF L i).lookup ("integer" : Str) = none := lm_none (by decide +kernel) (by decide +kernel)
theorem n_name {L : Addr} {i : Nat} : (lmF L i).lookup ("name" : Str) = none := lm_none (by decide +kernel) (by decide +kernel)
theorem w_takeMark (h1 : Γ.ms C "mark" (OnC C spMarkM)) (h2 : Γ.ms C "take" (OnC C (spTakeM BM))) (vs : List V) (H : Hp) (Q : VK) (E : XK) (h : OnC C (spTakeMark BM) vs H Q E) : wSs Γ i_LineMarks_take_mark (dE E) (dD Q) (start l_LineMarks_take_mark.N vs) H := by
  have h0 := h
  obtain ⟨⟨m, C', dx, L, ms, i, z, rfl, lm, q1, q2⟩, hc⟩ := h
  obtain rfl := h0.obj lm
  unfold i_LineMarks_take_mark
  refine seq1 ?_
  simp only [Dq.wS, Dq.wE, Dq.wEs]
  refine ⟨_, rfl, m, C', dx, _, _, rfl, lm.1, h2, n_take, _, rfl, call_mark h1 lm ⟨_, rfl, eq_s (.of lm ⟨m, C', dx, L, ms, i, _, rfl, lm, fun v e H' x l => ?_, fun e => q2 ?_⟩)⟩⟩
  · unfold Dq.wSs
    refine q1 _ ?_ H' x l
    split at e
    · rename_i hk
      rw [if_pos hk]
    · cases e
  · split at e
    · cases e
    · rename_i hk
      rw [if_neg hk]
/-- a value is asked for a number, when it is one -/
theorem numO_some {m : Str} {l v : Int} (h : numO m l = some v) : dg m = true ∧ l ≤ valS m ∧ v = valS m := by
  unfold numO at h
  split at h
  · rename_i hk
    rw [Bool.and_eq_true] at hk
    cases h
    exact ⟨hk.1, of_decide_eq_true hk.2, rfl⟩
  · cases h
theorem dg_ig {m : Str} (h : dg m = true) : ig m = true := by
  have hn : neg m = false := by
    cases n : neg m with
    | false => rfl
    | true => rw [neg_dg n] at h; cases h
  unfold ig
  rw [hn, if_neg (by decide), h]
  have : ¬ m = "-0" := by
    rintro rfl
    exact absurd h (by decide +kernel)
  rw [decide_eq_false this]; rfl
theorem w_numberM (h1 : Γ.ms C "mark" (OnC C spMarkM)) (h2 : Γ.ms C "take" (OnC C (spTakeM BM))) (h3 : Γ.fn "is_digits" spDg) (h4 : Γ.fn "whole_of" spWhole) (vs : List V) (H : Hp) (Q : VK) (E : XK) (h : OnC C (spNumberM BM) vs H Q E) : wSs Γ i_LineMarks_number (dE E) (dD Q) (start l_LineMarks_number.N vs) H := by
  have h0 := h
  obtain ⟨⟨m, C', dx, L, ms, i, least, rfl, hms, lm, q⟩, hc⟩ := h
  obtain rfl := h0.obj lm
  have sm := hms.at i
  unfold i_LineMarks_number
  refine seqP (P := fun σ' H' => H' = H ∧ σ' = [some (.ref m), some (.int least), some .non, some (.str (atM ms i)), none]) (fun N hN => ?_) fun σ1 H1 p => ?_
  · simp only [Dq.wS, Dq.wE, Dq.wEs]
    exact ⟨_, rfl, call_mark h1 lm (hN _ _ ⟨rfl, rfl⟩)⟩
  obtain ⟨rfl, rfl⟩ := p
  refine seqP (P := fun σ' H' => Ex [] H1 H' ∧ σ' = [some (.ref m), some (.int least), some .non, some (.str (atM ms i)), some (.bl (numO (atM ms i) least).isSome)]) (fun N hN => ?_) fun σ2 H2 p => ?_
  · simp only [Dq.wS, Dq.wE, Dq.wEs]
    refine ⟨_, h3, _, rfl, _, rfl, sm, fun Ha xa => ⟨_, rfl, ?_⟩⟩
    cases hd : dg (atM ms i) with
    | false =>
      refine ifF rfl (hN _ _ ⟨xa, ?_⟩)
      have : numO (atM ms i) least = none := by unfold numO; rw [hd]; rfl
      rw [this]; rfl
    | true =>
      refine ifT rfl ⟨_, h4, _, rfl, _, rfl, sm, dg_ig hd, _, rfl, ge_i (hN _ _ ⟨xa, ?_⟩)⟩
      have : (numO (atM ms i) least).isSome = decide (least ≤ valS (atM ms i)) := by
        unfold numO
        rw [hd, Bool.true_and]
        cases decide (least ≤ valS (atM ms i)) <;> rfl
      rw [this]; rfl
  obtain ⟨x2, rfl⟩ := p
  have lm2 := lm.ex x2
  have q2 := q.ex x2.nil
  refine seq1 ?_
  simp only [Dq.wS, Dq.wE, Dq.wEs]
  cases ho : numO (atM ms i) least with
  | none =>
    refine ⟨_, h4, _, rfl, m, C', dx, _, _, rfl, lm2.1, h2, n_take, _, rfl, _, rfl, ifF rfl (.of lm2 ⟨m, C', dx, L, ms, i, _, rfl, lm2, fun v e => ?_, fun _ => q2.2 (by rw [ho]; rfl)⟩)⟩
    simp at e
  | some v =>
    obtain ⟨hd, hl, rfl⟩ := numO_some ho
    refine ⟨_, h4, _, rfl, m, C', dx, _, _, rfl, lm2.1, h2, n_take, _, rfl, _, rfl, ifT rfl ⟨_, rfl, is_n ⟨_, rfl, ifT rfl (.of lm2 ⟨m, C', dx, L, ms, i, _, rfl, lm2, fun v e H' x l => ?_, fun e => ?_⟩)⟩⟩⟩
    · have hne := numO_ne (l := least) (m := atM ms i) (by rw [ho]; rfl)
      rw [if_pos (by rw [decide_eq_false hne]; rfl)] at e
      cases e
      exact ⟨_, rfl, sm, dg_ig hd, q2.1 _ (by rw [ho]; rfl) H' x l⟩
    · have hne := numO_ne (l := least) (m := atM ms i) (by rw [ho]; rfl)
      rw [if_pos (by rw [decide_eq_false hne]; rfl)] at e
      cases e
theorem w_integerM (h1 : Γ.ms C "mark" (OnC C spMarkM)) (h2 : Γ.ms C "take" (OnC C (spTakeM BM))) (h3 : Γ.fn "is_digits" spDg) (h4 : Γ.fn "whole_of" spWhole) (g1 : Γ.gv "LEAST" (.int (-2147483648))) (g2 : Γ.gv "GREATEST" (.int 2147483647)) (vs : List V) (H : Hp) (Q : VK) (E : XK) (h : OnC C (spIntegerM BM) vs H Q E) : wSs Γ i_LineMarks_integer (dE E) (dD Q) (start l_LineMarks_integer.N vs) H := by
  have h0 := h
  obtain ⟨⟨m, C', dx, L, ms, i, rfl, hms, lm, q⟩, hc⟩ := h
  obtain rfl := h0.obj lm
  have sm := hms.at i
  unfold i_LineMarks_integer
  refine seqP (P := fun σ' H' => H' = H ∧ σ' = [some (.ref m), some (.str (atM ms i)), none]) (fun N hN => ?_) fun σ1 H1 p => ?_
  · simp only [Dq.wS, Dq.wE, Dq.wEs]
    exact ⟨_, rfl, call_mark h1 lm (hN _ _ ⟨rfl, rfl⟩)⟩
  obtain ⟨rfl, rfl⟩ := p
  refine seqP (P := fun σ' H' => Ex [] H1 H' ∧ σ' = [some (.ref m), some (.str (atM ms i)), some (.bl (ig (atM ms i)))]) (fun N hN => ?_) fun σ2 H2 p => ?_
  · simp only [Dq.wS, Dq.wE, Dq.wEs, Dq.wO]
    refine ⟨_, h3, _, rfl, _, rfl, sm, fun Ha xa => ⟨_, rfl, ?_⟩⟩
    cases hd : dg (atM ms i) with
    | true =>
      refine ifT rfl (hN _ _ ⟨xa, ?_⟩)
      rw [dg_ig hd]; rfl
    | false =>
      refine ifF rfl ⟨_, rfl, _, rfl, sl_s sm.line (eq_s ⟨_, rfl, ?_⟩)⟩
      rw [sl_neg]
      cases hn : neg (atM ms i) with
      | false =>
        refine ifF rfl (hN _ _ ⟨xa, ?_⟩)
        unfold ig
        rw [hn, if_neg (by decide), hd]; rfl
      | true =>
        refine ifT rfl ⟨_, h3, _, rfl, _, rfl, sl_s sm.line ⟨_, rfl, ?_⟩⟩
        rw [sl_tl]
        refine ⟨tlS_sm sm, fun Hb xb => ⟨_, rfl, ?_⟩⟩
        have e : ig (atM ms i) = (dg (tlS (atM ms i)) && !decide (atM ms i = "-0")) := by unfold ig; rw [hn, if_pos rfl]
        cases ht : dg (tlS (atM ms i)) with
        | false => exact ifF rfl (hN _ _ ⟨xa.trans xb, by rw [e, ht]; rfl⟩)
        | true => exact ifT rfl ⟨_, rfl, ne_s (hN _ _ ⟨xa.trans xb, by rw [e, ht]; rfl⟩)⟩
  obtain ⟨x2, rfl⟩ := p
  have lm2 := lm.ex x2
  have q2 := q.ex x2.nil
  refine seq1 ?_
  simp only [Dq.wS, Dq.wE, Dq.wEs]
  have no : intO (atM ms i) = none → ∀ (Qx : VK), OnC C' (spTakeM BM) [.ref m, .bl false] H2 Qx (WE (dE E) [some (.ref m), some (.str (atM ms i)), some (.bl (ig (atM ms i)))]) := fun ho Qx => .of lm2 ⟨m, C', dx, L, ms, i, _, rfl, lm2, fun v e => (by rw [Bool.false_and, if_neg (by decide)] at e; cases e), fun _ => q2.2 (by rw [ho]; rfl)⟩
  refine ⟨_, h4, _, rfl, m, C', dx, _, _, rfl, lm2.1, h2, n_take, _, rfl, _, rfl, ?_⟩
  cases hi : ig (atM ms i) with
  | false => exact ifF rfl (by have := no (by unfold intO; rw [hi]; rfl); rw [hi] at this; exact this _)
  | true =>
    rw [hi] at no
    refine ifT rfl ⟨_, g1, _, h4, _, rfl, _, rfl, sm, hi, le_i ⟨_, rfl, ?_⟩⟩
    by_cases z1 : -2147483648 ≤ valS (atM ms i)
    · refine ifT (decide_eq_true z1) ⟨_, g2, le_i ?_⟩
      by_cases z2 : valS (atM ms i) ≤ 2147483647
      · have ho : intO (atM ms i) = some (valS (atM ms i)) := by unfold intO; rw [hi, decide_eq_true z1, decide_eq_true z2]; rfl
        have hne := intO_ne (m := atM ms i) (by rw [ho]; rfl)
        rw [decide_eq_true z2]
        refine .of lm2 ⟨m, C', dx, L, ms, i, _, rfl, lm2, fun v e H' x l => ?_, fun e => ?_⟩
        · rw [if_pos (by rw [decide_eq_false hne]; rfl)] at e
          cases e
          exact ⟨_, rfl, sm, hi, q2.1 _ (by rw [ho]; rfl) H' x l⟩
        · rw [if_pos (by rw [decide_eq_false hne]; rfl)] at e
          cases e
      · rw [decide_eq_false z2]
        exact no (by unfold intO; rw [hi, decide_eq_false z2]; simp) _
    · exact ifF (decide_eq_false z1) (no (by unfold intO; rw [hi, decide_eq_false z1]; rfl) _)
theorem w_nameM {K : PySem.W.Frag} {w : World} (eK : Γ.K = K) (ew : Γ.w = w) (h1 : Γ.ms C "mark" (OnC C spMarkM)) (h2 : Γ.ms C "take" (OnC C (spTakeM BM))) (h3 : Γ.fn "is_name" spNm) (vs : List V) (H : Hp) (Q : VK) (E : XK) (h : OnC C (spNameM K w BM) vs H Q E) : wSs Γ i_LineMarks_name (dE E) (dD Q) (start l_LineMarks_name.N vs) H := by
  subst eK ew
  have h0 := h
  obtain ⟨⟨m, C', dx, L, ms, i, kv, b, rfl, hms, lm, hin, q⟩, hc⟩ := h
  obtain rfl := h0.obj lm
  have sm := hms.at i
  unfold i_LineMarks_name
  refine seq1 ?_
  simp only [Dq.wS, Dq.wE, Dq.wEs]
  refine ⟨_, rfl, m, C', dx, _, _, rfl, lm.1, h2, n_take, _, h3, _, rfl, call_mark h1 lm ⟨_, rfl, sm, fun Ha xa => ⟨_, rfl, ?_⟩⟩⟩
  have lma := lm.ex xa
  have qa := q.ex xa.nil
  have fin : ∀ r, r = (nmOk (atM ms i) && !b) → OnC C' (spTakeM BM) [.ref m, .bl r] Ha Q (WE (dE E) (start l_LineMarks_name.N [.ref m, kv])) := by
    intro r hr
    refine .of lma ⟨m, C', dx, L, ms, i, _, rfl, lma, fun v e H' x l => ?_, fun e => qa.2 ?_⟩
    · split at e
      · rename_i hk
        cases e
        rw [Bool.and_eq_true] at hk
        exact qa.1 _ (by rw [if_pos (by rw [← hr]; exact hk.1)]) H' x l
      · cases e
    · split at e
      · cases e
      · rename_i hk
        refine if_neg fun y => hk ?_
        rw [hr, y, decide_eq_false (nm_ne (Bool.and_eq_true_iff.mp y).1)]; rfl
  cases hn : nmOk (atM ms i) with
  | false => exact ifF rfl (fin false (by rw [hn]; rfl))
  | true => exact ifT rfl ⟨_, rfl, call_mark h1 lma ⟨_, rfl, nin_ _ (hin Ha xa) (fin _ (by rw [hn]; rfl))⟩⟩
end Hk64

set_option maxHeartbeats 2000000
namespace Hk64
open PySem PySem.Spec PyProof.Rows L2 Dq
variable {Γ : Gam} {C BM : Addr}
structure LmM (Γ : Gam) (C BM : Addr) : Prop where
  mark : Γ.ms C "mark" (OnC C spMarkM)
  take : Γ.ms C "take" (OnC C (spTakeM BM))
  tmark : Γ.ms C "take_mark" (OnC C (spTakeMark BM))
  number : Γ.ms C "number" (OnC C (spNumberM BM))
  integer : Γ.ms C "integer" (OnC C (spIntegerM BM))
  name : Γ.ms C "name" (OnC C (spNameM Γ.K Γ.w BM))
def twosAll : List Str := ["+", "-", "*", "/", "rem", "==", "!=", "<", "<=", "and", "or"]
def spPartM (C BM : Addr) : Sp := fun vs H Q E => ∃ m dx L ms i c, vs = [.ref m, .str c] ∧ Mks ms ∧ Lm H m C dx L ms i ∧ Rdm BM m C dx L ms i (partO c (atM ms i)) H Q E
theorem w_partM (F : LmM Γ C BM) {aT : Addr} (h1 : Γ.gv "TWOS" (.ref aT)) (hT : ∀ H, SqT Γ.K H aT (twosAll.map V.str)) (vs : List V) (H : Hp) (Q : VK) (E : XK) (h : spPartM C BM vs H Q E) : wSs Γ i_take_part (dE E) (dD Q) (start l_take_part.N vs) H := by
  obtain ⟨m, dx, L, ms, i, c, rfl, hms, lm, q⟩ := h
  simp only [i_take_part, Dq.wSs, Dq.wS, Dq.wE, Dq.wEs, Dq.wT, Dq.wO, tSeq, tNext]
  refine ⟨_, rfl, eq_s ⟨_, rfl, ?_⟩⟩
  by_cases c1 : c = "n"
  · have e : partO c (atM ms i) = (intO (atM ms i)).map .int := by unfold partO; rw [if_pos c1]
    rw [e] at q
    exact ifT (decide_eq_true c1) ⟨_, rfl, m, C, dx, _, _, rfl, lm.1, F.integer, n_integer, .of lm ⟨m, C, dx, L, ms, i, rfl, hms, lm, q⟩⟩
  refine ifF (decide_eq_false c1) ⟨_, rfl, eq_s ⟨_, rfl, ?_⟩⟩
  by_cases c2 : c = "i"
  · have e : partO c (atM ms i) = (numO (atM ms i) 0).map .int := by unfold partO; rw [if_neg c1, if_pos c2]
    rw [e] at q
    exact ifT (decide_eq_true c2) ⟨_, rfl, m, C, dx, _, _, rfl, lm.1, F.number, n_number, .of lm ⟨m, C, dx, L, ms, i, 0, rfl, hms, lm, q⟩⟩
  refine ifF (decide_eq_false c2) ⟨_, rfl, eq_s ⟨_, rfl, ?_⟩⟩
  by_cases c3 : c = "s"
  · have e : partO c (atM ms i) = (if nmOk (atM ms i) = true then some (.str (atM ms i)) else none) := by unfold partO; rw [if_neg c1, if_neg c2, if_pos c3]
    rw [e] at q
    refine ifT (decide_eq_true c3) ⟨_, rfl, m, C, dx, _, _, rfl, lm.1, F.name, n_name, by decide, fun p hp => ?_⟩
    have lm2 : Lm (upd H p (.tup [])) m C dx L ms i := lm.ex (Ex.new hp)
    refine .of lm2 ⟨m, C, dx, L, ms, i, .ref p, false, rfl, hms, lm2, fun H' x => ?_, ?_⟩
    · have := inV_t (K := Γ.K) (w := Γ.w) (x := .str (atM ms i)) (.inl (.inl (x.get upd_same (by simp)))) rfl (show ([] : List V).all flatV = true from rfl)
      exact this
    · have := q.ex (Ex.new (bad := [m]) (o := .tup []) hp)
      rw [Bool.not_false, Bool.and_true]
      exact this
  refine ifF (decide_eq_false c3) ⟨_, rfl, m, C, dx, _, _, rfl, lm.1, F.take, n_take, _, rfl, call_mark F.mark lm ⟨_, rfl, eq_s ⟨_, rfl, ?_⟩⟩⟩
  have e : partO c (atM ms i) = (if (if c = "o" then ones else twos).contains (atM ms i) = true then some (.str (atM ms i)) else none) := by unfold partO; rw [if_neg c1, if_neg c2, if_neg c3]
  rw [e] at q
  have fin : ∀ (zs : List Str) (p : Addr), zs = (if c = "o" then ones else twos) → H p = none → qCmp Γ.K Γ.w .In (.str (atM ms i)) (.ref p) (upd H p (.tup (zs.map V.str))) fun x H1 => OnC C (spTakeM BM) [.ref m, x] H1 Q (WE (dE E) (start l_take_part.N [.ref m, .str c])) := by
    intro zs p ez hp
    refine in_ _ (inV_t (xs := zs.map V.str) (.inl (.inl upd_same)) rfl flat_strs) ?_
    rw [inV_strs]
    have lm2 : Lm (upd H p (.tup (zs.map V.str))) m C dx L ms i := lm.ex (Ex.new hp)
    have q2 := q.ex (Ex.new (bad := [m]) (o := .tup (zs.map V.str)) hp)
    refine .of lm2 ⟨m, C, dx, L, ms, i, _, rfl, lm2, fun v e H' x l => ?_, fun e => q2.2 ?_⟩
    · split at e
      · rename_i hk
        cases e
        rw [Bool.and_eq_true] at hk
        exact q2.1 _ (by rw [← ez, if_pos hk.1]) H' x l
      · cases e
    · split at e
      · cases e
      · rename_i hk
        rw [← ez]
        refine if_neg fun y => hk ?_
        rw [y]
        have : ¬ atM ms i = "" := by
          intro z
          rw [z, ez] at y
          split at y <;> exact absurd y (by decide +kernel)
        rw [decide_eq_false this]; rfl
  by_cases c4 : c = "o"
  · exact ifT (decide_eq_true c4) ⟨by decide, fun p hp => fin ones p (by rw [if_pos c4]) hp⟩
  · refine ifF (decide_eq_false c4) ⟨_, h1, _, rfl, .inr (.inl ⟨aT, _, rfl, hT H, fun z => absurd z (by decide), fun _ p hp => ?_⟩)⟩
    exact fin twos p (by rw [if_neg c4]) hp
/-! ### the names of a code -/
def spNames (C BM : Addr) : Sp := fun vs H Q E => ∃ m dx L ms i params, vs = [.ref m, .int params] ∧ Mks ms ∧ Lm H m C dx L ms i ∧ i ≤ ms.length ∧
  (∀ names j, pNames ms params (ms.length + 1) [] i = .ok (names, j) → ∀ p H', Ex [m] H H' → H p = none → H' p = some (.lst (names.map V.str)) → Lm H' m C dx L ms (j + 1) → j + 1 ≤ ms.length → i ≤ j → Q (.ref p) H') ∧ (∀ j, pNames ms params (ms.length + 1) [] i = .error j → Exc BM m j H E)
theorem w_names (F : LmM Γ C BM) (vs : List V) (H : Hp) (Q : VK) (E : XK) (h : spNames C BM vs H Q E) : wSs Γ i_take_names (dE E) (dD Q) (start l_take_names.N vs) H := by
  obtain ⟨m, dx, L, ms, i, params, rfl, hms, lm, hi, q1, q2⟩ := h
  have hs := sizeBig
  have hfew := hms.few
  unfold i_take_names
  refine seqP (P := fun σ' H' => ∃ p, σ' = [some (.ref m), some (.int params), some (.ref p)] ∧ Ex [] H H' ∧ H p = none ∧ H' p = some (.lst [])) (fun N hN => ?_) fun σ1 H1 p => ?_
  · unfold i_take_names_0
    simp only [Dq.wS, Dq.wE, Dq.wEs]
    exact ⟨by decide, fun p np => hN _ _ ⟨p, rfl, Ex.new np, np, upd_same⟩⟩
  obtain ⟨p, rfl, x1, np, hp⟩ := p
  have lm1 := lm.ex x1
  have hpm : p ≠ m := (ne_of_none lm.1 np).symm
  have hpL : p ≠ L := (ne_of_none lm.2 np).symm
  refine seqP (P := fun σ' H' => σ' = [some (.ref m), some (.int params), some (.ref p)] ∧ ∃ names j, Ex [m, p] H1 H' ∧ Lm H' m C dx L ms j ∧ H' p = some (.lst (names.map V.str)) ∧ i ≤ j ∧ atM ms j = ";" ∧ pNames ms params (ms.length + 1) [] i = .ok (names, j)) (fun N hN => ?_) fun σ2 H2 z => ?_
  · unfold i_take_names_1
    refine whP (I := fun k σ' H' => σ' = [some (.ref m), some (.int params), some (.ref p)] ∧ ∃ names j, Ex [m, p] H1 H' ∧ Lm H' m C dx L ms j ∧ H' p = some (.lst (names.map V.str)) ∧ names.length ≤ j ∧ j ≤ ms.length ∧ i ≤ j ∧ ms.length + 1 ≤ k + j ∧ pNames ms params k names j = pNames ms params (ms.length + 1) [] i)
      (T := fun k σ' H' t H2 => H2 = H' ∧ ∃ names j, Ex [m, p] H1 H' ∧ Lm H' m C dx L ms j ∧ H' p = some (.lst (names.map V.str)) ∧ names.length ≤ j ∧ j ≤ ms.length ∧ i ≤ j ∧ ms.length + 1 ≤ k + j ∧ pNames ms params k names j = pNames ms params (ms.length + 1) [] i ∧ (t = true ↔ ((names.length : Int) < params ∨ atM ms j ≠ ";")))
      (ms.length + 1) ⟨rfl, [], i, Ex.refl, lm1, hp, Nat.zero_le _, hi, Nat.le_refl _, by omega, rfl⟩ ?_ ?_ ?_
    · rintro k σ' H' ⟨rfl, names, j, x, l, e, a1, a2, a3, a4, a5⟩ N' hN'
      simp only [Dq.wT, Dq.wE, Dq.wEs]
      refine ⟨_, rfl, len_lst e ⟨_, rfl, lt_i ⟨_, rfl, ?_⟩⟩⟩
      rw [List.length_map]
      by_cases h1 : (names.length : Int) < params
      · exact ifT (decide_eq_true h1) (hN' _ _ ⟨rfl, names, j, x, l, e, a1, a2, a3, a4, a5, fun _ => .inl h1, fun _ => rfl⟩)
      · refine ifF (decide_eq_false h1) ⟨_, rfl, call_mark F.mark l (ne_s ⟨_, rfl, hN' _ _ ⟨rfl, names, j, x, l, e, a1, a2, a3, a4, a5, ?_⟩⟩)⟩
        by_cases h2 : atM ms j = ";"
        · rw [decide_eq_true h2]
          exact ⟨fun y => (by cases y), fun y => (y.elim h1 fun y => y h2).elim⟩
        · rw [decide_eq_false h2]
          exact ⟨fun _ => .inr h2, fun _ => rfl⟩
    · rintro k σ' H0 H' ⟨rfl, -⟩ ⟨rfl, names, j, x, l, e, a1, a2, a3, a4, a5, a6⟩
      cases k with
      | zero => omega
      | succ k =>
      have hc := a6.mp rfl
      rw [pNames, if_pos hc] at a5
      show wSs Γ i_take_names_1a _ _ _ _
      unfold i_take_names_1a
      refine seq1 ?_
      unfold i_take_names_1a_0
      simp only [Dq.wS, Dq.wE, Dq.wEs]
      refine ⟨_, rfl, tyl e, _, rfl, m, C, dx, _, _, rfl, l.1, F.name, n_name, _, rfl, .of l ⟨m, C, dx, L, ms, j, _, names.contains (atM ms j), rfl, hms, l, fun H3 x3 => ?_, fun v ev H3 x3 l3 => ?_, fun eo => ?_⟩⟩
      · rw [← inV_strs]
        exact inV_l (.inl (.inl (x3.get e (by simp)))) rfl flat_strs
      · split at ev
        · rename_i hk
          cases ev
          rw [if_pos hk] at a5
          have e3 : H3 p = some (.lst (names.map V.str)) := x3.get e (by simpa using hpm)
          refine app_ e3 (by rw [List.length_map]; omega) ?_
          unfold Dq.wSs
          have hlt := at_lt (nm_ne (Bool.and_eq_true_iff.mp hk).1)
          refine ⟨k, Nat.lt_succ_self _, rfl, names ++ [atM ms j], j + 1, (x.trans (x3.imp (by simp))).trans (Ex.wr (by simp)), ⟨by rw [upd_ne (Ne.symm hpm)]; exact l3.1, by rw [upd_ne (Ne.symm hpL)]; exact l3.2⟩, by rw [upd_same]; simp, by rw [List.length_append]; simp; omega, hlt, by omega, by omega, a5⟩
        · cases ev
      · split at eo
        · cases eo
        · rename_i hk
          rw [if_neg hk] at a5
          have := q2 j a5.symm
          intro d Hd xd nd ed
          have y : Ex [m] H Hd := ((x1.nil.trans x).trans (xd.imp (by simp))).drop fun a ha => by
            simp only [List.mem_cons, List.not_mem_nil, or_false] at ha
            rcases ha with rfl | rfl
            · exact .inl (by simp)
            · exact .inr np
          exact this d Hd y ((x1.nil.trans x).dom nd) ed
    · rintro k σ' H0 H' ⟨rfl, -⟩ ⟨rfl, names, j, x, l, e, a1, a2, a3, a4, a5, a6⟩
      cases k with
      | zero => omega
      | succ k =>
      have hc : ¬ ((names.length : Int) < params ∨ atM ms j ≠ ";") := fun y => by have := a6.mpr y; cases this
      rw [pNames, if_neg hc] at a5
      refine hN _ _ ⟨rfl, names, j, x, l, e, a3, ?_, a5.symm⟩
      exact Classical.byContradiction fun y => hc (.inr y)
  obtain ⟨rfl, names, j, x, l, e, a3, hsc, hok⟩ := z
  have hne : ¬ atM ms j = "" := by rw [hsc]; decide
  have hlt := at_lt hne
  have y : ∀ {Hd : Hp}, Ex [m] H2 Hd → Ex [m] H Hd := fun xd => ((x1.nil.trans x).trans (xd.imp (by simp))).drop fun a ha => by
    simp only [List.mem_cons, List.not_mem_nil, or_false] at ha
    rcases ha with rfl | rfl
    · exact .inl (by simp)
    · exact .inr np
  refine seqP (P := fun σ' H' => σ' = [some (.ref m), some (.int params), some (.ref p)] ∧ Ex [m] H2 H' ∧ Lm H' m C dx L ms (j + 1)) (fun N hN => ?_) fun σ3 H3 z => ?_
  · unfold i_take_names_2
    simp only [Dq.wS, Dq.wE, Dq.wEs]
    refine ⟨_, rfl, m, C, dx, _, _, rfl, l.1, F.tmark, n_tmark, .of l ⟨m, C, dx, L, ms, j, _, rfl, l, fun v _ H3 x3 l3 => hN _ _ ⟨rfl, x3, l3⟩, fun eo => ?_⟩⟩
    rw [if_pos (by rw [decide_eq_true hsc, decide_eq_false hne]; rfl)] at eo
    cases eo
  obtain ⟨rfl, x3, l3⟩ := z
  refine seq1 ?_
  unfold i_take_names_3
  simp only [Dq.wS, Dq.wE]
  exact ⟨_, rfl, q1 names j hok p H3 (y x3) np (x3.get e (by simpa using hpm)) l3 hlt a3⟩
end Hk64

set_option maxHeartbeats 2000000
namespace Hk64
open PySem PySem.Spec PyProof.Rows L2 Dq
variable {Γ : Gam} {C BM : Addr}
/-- the written table of shapes -/
structure ShpK (K : PySem.W.Frag) (w : World) (aS : Addr) : Prop where
  in_ : ∀ z H, InV K w (.str z) (.ref aS) H (sorts z).isSome
  get : ∀ z s, sorts z = some s → KDct K w aS z (.str s)
def spRows (C BM : Addr) : Sp := fun vs H Q E => ∃ m dx L ms i, vs = [.ref m] ∧ Mks ms ∧ Lm H m C dx L ms i ∧ i ≤ ms.length ∧
  (∀ rows places j, pRows ms (ms.length + 1) [] [] i = .ok (rows, places, j) → ∀ t pr pp H', Ex [m] H H' → H' t = some (.tup [.ref pr, .ref pp]) → Rep H H' (.lst rows) (.ref pr) → Rep H H' (.lst places) (.ref pp) → Lm H' m C dx L ms (j + 1) → j + 1 ≤ ms.length → i ≤ j → Q (.ref t) H') ∧
  (∀ j, pRows ms (ms.length + 1) [] [] i = .error j → Exc BM m j H E)
/-- ahead of each part -/
def PaM (H : Hp) (m C dx L dl : Addr) (ms : List Str) (R : Except Nat (List V × Nat)) (cs : List Nat) (j k : Nat) (H' : Hp) : Prop := ∃ vs j', H' dl = some (.lst vs) ∧ vs.length = k ∧ vs.all flatV = true ∧ vs.all okV = true ∧ Ex [m, dl] H H' ∧ Lm H' m C dx L ms j' ∧ j' ≤ ms.length ∧ j ≤ j' ∧ pParts ms (cs.drop k) vs j' = R
theorem rows_parts {W' : WX} (hP : Γ.fn "take_part" (spPartM C BM)) {m dx L : Addr} {ms : List Str} (hms : Mks ms) {j : Nat} {z : Str} {σ : L2.St} {H : Hp} {Q : VK} (hσ : σ[0]? = some (some (.ref m))) (hl : 5 < σ.length) (lm : Lm H m C dx L ms j) (hj : j ≤ ms.length) (hz : z.length ≤ 10) {dl : Addr} (hd : H dl = none)
    (q : ∀ vs j' H', pParts ms z.cps.toList [] j = .ok (vs, j') → vs.length = z.length → vs.all flatV = true → vs.all okV = true → Ex [m] H H' → H' dl = some (.lst vs) → Lm H' m C dx L ms j' → j' ≤ ms.length → j ≤ j' → Q (.ref dl) H')
    (qe : ∀ j' τ, pParts ms z.cps.toList [] j = .error j' → Exc BM m j' H (WE W' τ)) :
    LcR (Its z) (gName 5) (fun _ H Q => Q true H) (fun τ H Q => ∃ sp, Γ.fn "take_part" sp ∧ ∃ v, τ[0]? = some (some v) ∧ ∃ u, τ[5]? = some (some u) ∧ sp [v, u] H Q (WE W' τ)) [5] σ Q dl H := by
  have hne : dl ≠ m := (ne_of_none lm.1 hd).symm
  have hne2 : dl ≠ L := (ne_of_none lm.2 hd).symm
  have hlen : z.cps.toList.length = z.length := Array.length_toList
  refine lc_s (I := PaM H m C dx L dl ms (pParts ms z.cps.toList [] j) z.cps.toList j) ?_ ?_ ?_
  · exact ⟨[], j, upd_same, rfl, rfl, rfl, Ex.new hd, lm.ex (Ex.new hd), hj, Nat.le_refl _, by rw [List.drop_zero]⟩
  · rintro H' ⟨vs, j', h1, h2, h3, h4, h5, h6, h7, h8, h9⟩
    have : z.cps.toList.drop z.cps.size = [] := List.drop_eq_nil_of_le (by simp)
    rw [this] at h9
    refine q vs j' H' h9.symm h2 h3 h4 (h5.drop fun a ha => ?_) h1 h6 h7 h8
    rcases List.mem_cons.mp ha with rfl | ha
    · exact .inl (by simp)
    · exact .inr (by rw [List.mem_singleton.mp ha]; exact hd)
  · rintro k H' c hc ⟨vs, j', h1, h2, h3, h4, h5, h6, h7, h8, h9⟩
    have hk : k < z.cps.size := (Array.getElem?_eq_some_iff.mp hc).1
    have hdr : z.cps.toList.drop k = c :: z.cps.toList.drop (k + 1) := by
      have hc' : z.cps.toList[k]? = some c := by rw [← hc]; simp
      obtain ⟨hk', e⟩ := List.getElem?_eq_some_iff.mp hc'
      rw [← e]
      exact List.drop_eq_getElem_cons hk'
    rw [hdr, pParts] at h9
    refine ⟨wipe1 (y := none), ?_⟩
    show if true = true then _ else _
    refine ifT rfl ⟨_, hP, _, ?_, _, wipe_get hl, m, dx, L, ms, j', _, rfl, hms, h6, fun v ev H3 x3 l3 => ?_, fun eo => ?_⟩
    · unfold wipe
      show ((σ.set 5 none).set 5 _)[0]? = _
      rw [List.getElem?_set_ne (by decide), List.getElem?_set_ne (by decide)]
      exact hσ
    · have g1 := x3.get h1 (by simpa using hne)
      have hs := sizeBig
      have hz' : z.cps.size ≤ 10 := hz
      rw [ev] at h9
      refine ⟨vs, g1, by omega, vs ++ [v], j' + 1, upd_same, by rw [List.length_append, h2]; rfl, ?_, ?_, (h5.trans (x3.imp (by simp))).trans (Ex.wr (by simp)), ⟨by rw [upd_ne (Ne.symm hne)]; exact l3.1, by rw [upd_ne (Ne.symm hne2)]; exact l3.2⟩, at_lt (partO_ne (by rw [ev]; rfl)), by omega, h9⟩
      · rw [List.all_append, h3]; simp [partO_flat ev]
      · rw [List.all_append, h4]; simp [partO_ok (hms.atL j') ev]
    · rw [eo] at h9
      have := qe j' ((wipe σ [5]).set 5 (some (.str ⟨#[c]⟩))) h9.symm
      intro d Hd xd nd ed
      refine this d Hd ((h5.trans (xd.imp (by simp))).drop fun a ha => ?_) (h5.dom nd) ed
      rcases List.mem_cons.mp ha with rfl | ha
      · exact .inl (by simp)
      · exact .inr (by rw [List.mem_singleton.mp ha]; exact hd)
/-- the rest of a row -/
def sC (ms : List Str) (n : Nat) (rows places : List DD) (l p : Int) (w : Str) (vs : List V) (j : Nat) : Except Nat (List DD × List DD × Nat) := pRows ms n (rows ++ [rowD w vs]) (places ++ [placeD l p]) j
def sB (ms : List Str) (n : Nat) (rows places : List DD) (l p : Int) (w : Str) (i : Nat) : Except Nat (List DD × List DD × Nat) := kParts (sC ms n rows places l p w) (pParts ms (sortT w).cps.toList [] i)
def sA (ms : List Str) (n : Nat) (rows places : List DD) (l : Int) (i : Nat) : Except Nat (List DD × List DD × Nat) := optE i (fun p => if (sorts (atM ms (i + 1))).isSome = true then sB ms n rows places l p (atM ms (i + 1)) (i + 1 + 1) else .error (i + 1)) (numO (atM ms i) 1)
theorem pRows_step' {ms : List Str} {n : Nat} {rows places : List DD} {i : Nat} (h : rows.isEmpty = true ∨ atM ms i ≠ "End") :
    pRows ms (n + 1) rows places i = optE i (fun l => sA ms n rows places l (i + 1)) (numO (atM ms i) 1) := by
  have := pRows_step (K := fun a b c => .ok (a, b, c)) (n := n) (places := places) h
  have id1 : ∀ r : Except Nat (List DD × List DD × Nat), kRows (fun a b c => .ok (a, b, c)) r = r := fun r => by cases r <;> rfl
  rw [id1] at this
  rw [this]
  have e : (fun l => rA ms (fun a b c => (Except.ok (a, b, c) : Except Nat (List DD × List DD × Nat))) n rows places l (i + 1)) = fun l => sA ms n rows places l (i + 1) := by
    funext l
    unfold rA sA
    congr 1
    funext p
    split
    · unfold rB sB
      congr 1
      funext vs j
      unfold rC sC
      exact id1 _
    · rfl
  rw [e]
theorem w_rows (F : LmM Γ C BM) (hP : Γ.fn "take_part" (spPartM C BM)) {aS : Addr} (hS : Γ.gv "SHAPES" (.ref aS)) (hK : ShpK Γ.K Γ.w aS) (vs : List V) (H : Hp) (Q : VK) (E : XK) (h : spRows C BM vs H Q E) : wSs Γ i_take_rows (dE E) (dD Q) (start l_take_rows.N vs) H := by
  obtain ⟨m, dx, L, ms, i, rfl, hms, lm, hi, q1, q2⟩ := h
  have hs := sizeBig
  have hfew := hms.few
  unfold i_take_rows
  refine seqP (P := fun σ' H' => ∃ pr pp, σ' = [some (.ref m), some (.ref pr), some (.ref pp), none, none, none] ∧ Ex [] H H' ∧ H pr = none ∧ H pp = none ∧ pr ≠ pp ∧ H' pr = some (.lst []) ∧ H' pp = some (.lst [])) (fun N hN => ?_) fun σ1 H1 p => ?_
  · unfold i_take_rows_0
    simp only [Dq.wS, tPar, tCons, tNil, Dq.wE, Dq.wEs]
    refine ⟨by decide, fun pr npr => ⟨by decide, fun pp npp => ⟨_, _, rfl, hN _ _ ⟨pr, pp, rfl, (Ex.new npr).trans (Ex.new npp), npr, (Ex.new (bad := []) npr).dom npp, ne_of_none upd_same npp, ?_, upd_same⟩⟩⟩⟩
    rw [upd_ne (ne_of_none upd_same npp)]; exact upd_same
  obtain ⟨pr, pp, rfl, x1, npr, npp, nrp, hpr, hpp⟩ := p
  have lm1 := lm.ex x1
  have rm : pr ≠ m := (ne_of_none lm.1 npr).symm
  have rL : pr ≠ L := (ne_of_none lm.2 npr).symm
  have pm : pp ≠ m := (ne_of_none lm.1 npp).symm
  have pL : pp ≠ L := (ne_of_none lm.2 npp).symm
  have bad0 : ∀ a ∈ [m, pr, pp], H1 a ≠ none := by
    intro a ha
    simp only [List.mem_cons, List.not_mem_nil, or_false] at ha
    rcases ha with rfl | rfl | rfl
    · rw [lm1.1]; simp
    · rw [hpr]; simp
    · rw [hpp]; simp
  have toH : ∀ {Ha : Hp}, Ex [m, pr, pp] H1 Ha → Ex [m] H Ha := fun x => (x1.nil.trans x).drop fun a ha => by
    simp only [List.mem_cons, List.not_mem_nil, or_false] at ha
    rcases ha with rfl | rfl | rfl
    · exact .inl (by simp)
    · exact .inr npr
    · exact .inr npp
  refine seqP (P := fun σ' H' => (∃ a b c, σ' = [some (.ref m), some (.ref pr), some (.ref pp), a, b, c]) ∧ ∃ rows places j xr xp, Ex [m, pr, pp] H1 H' ∧ Lm H' m C dx L ms j ∧ H' pr = some (.lst xr) ∧ H' pp = some (.lst xp) ∧ RepL H1 H' rows xr ∧ RepL H1 H' places xp ∧ i ≤ j ∧ atM ms j = "End" ∧ pRows ms (ms.length + 1) [] [] i = .ok (rows, places, j)) (fun N hN => ?_) fun σ2 H2 z => ?_
  · unfold i_take_rows_1
    refine whP (I := fun k σ' H' => (∃ a b c, σ' = [some (.ref m), some (.ref pr), some (.ref pp), a, b, c]) ∧ ∃ rows places j xr xp, Ex [m, pr, pp] H1 H' ∧ Lm H' m C dx L ms j ∧ H' pr = some (.lst xr) ∧ H' pp = some (.lst xp) ∧ RepL H1 H' rows xr ∧ RepL H1 H' places xp ∧ xr.length ≤ j ∧ xp.length = xr.length ∧ j ≤ ms.length ∧ i ≤ j ∧ ms.length + 1 ≤ k + j ∧ pRows ms k rows places j = pRows ms (ms.length + 1) [] [] i)
      (T := fun k σ' H' t H2 => H2 = H' ∧ ∃ rows places j xr xp, Ex [m, pr, pp] H1 H' ∧ Lm H' m C dx L ms j ∧ H' pr = some (.lst xr) ∧ H' pp = some (.lst xp) ∧ RepL H1 H' rows xr ∧ RepL H1 H' places xp ∧ xr.length ≤ j ∧ xp.length = xr.length ∧ j ≤ ms.length ∧ i ≤ j ∧ ms.length + 1 ≤ k + j ∧ pRows ms k rows places j = pRows ms (ms.length + 1) [] [] i ∧ (t = true ↔ (rows.isEmpty = true ∨ atM ms j ≠ "End")))
      (ms.length + 1) ⟨⟨_, _, _, rfl⟩, [], [], i, [], [], Ex.refl, lm1, hpr, hpp, RepL.nil, RepL.nil, Nat.zero_le _, rfl, hi, Nat.le_refl _, by omega, rfl⟩ ?_ ?_ ?_
    · rintro k σ' H' ⟨⟨a, b, c, rfl⟩, rows, places, j, xr, xp, x, l, e1, e2, r1, r2, a1, a2, a3, a4, a5, a6⟩ N' hN'
      simp only [Dq.wT, Dq.wE, Dq.wEs]
      have emp : rows.isEmpty = xr.isEmpty := by
        have := r1.len
        cases rows <;> cases xr <;> first | rfl | cases this
      refine ⟨_, rfl, _, .inl ⟨xr, .inl (.inl e1), rfl⟩, ?_⟩
      rw [Bool.not_not]
      cases hx : xr.isEmpty with
      | true => exact ifT rfl (hN' _ _ ⟨rfl, rows, places, j, xr, xp, x, l, e1, e2, r1, r2, a1, a2, a3, a4, a5, a6, fun _ => .inl (by rw [emp, hx]), fun _ => rfl⟩)
      | false =>
        refine ifF rfl ⟨_, rfl, call_mark F.mark l (ne_s ⟨_, rfl, hN' _ _ ⟨rfl, rows, places, j, xr, xp, x, l, e1, e2, r1, r2, a1, a2, a3, a4, a5, a6, ?_⟩⟩)⟩
        by_cases h2 : atM ms j = "End"
        · rw [decide_eq_true h2]
          exact ⟨fun y => (by cases y), fun y => (y.elim (fun y => by rw [emp, hx] at y; cases y) fun y => y h2).elim⟩
        · rw [decide_eq_false h2]
          exact ⟨fun _ => .inr h2, fun _ => rfl⟩
    · rintro k σ' H0 H' ⟨⟨a, b, c, rfl⟩, -⟩ ⟨rfl, rows, places, j, xr, xp, x, l, e1, e2, r1, r2, a1, a2, a3, a4, a5, a6, a7⟩
      cases k with
      | zero => omega
      | succ k =>
      have hc := a7.mp rfl
      rw [pRows_step' hc] at a6
      show wSs Γ i_take_rows_1a _ _ _ _
      unfold i_take_rows_1a
      -- line
      refine seqP (P := fun σ3 H3 => ∃ ln, σ3 = [some (.ref m), some (.ref pr), some (.ref pp), some (.int ln), b, c] ∧ Ex [m] H' H3 ∧ Lm H3 m C dx L ms (j + 1) ∧ j + 1 ≤ ms.length ∧ sA ms k rows places ln (j + 1) = pRows ms (ms.length + 1) [] [] i) (fun N' hN' => ?_) fun σ3 H3 p => ?_
      · unfold i_take_rows_1a_0
        simp only [Dq.wS, Dq.wE, Dq.wEs]
        refine ⟨_, rfl, m, C, dx, _, _, rfl, l.1, F.number, n_number, .of l ⟨m, C, dx, L, ms, j, 1, rfl, hms, l, fun v ev H3 x3 l3 => ?_, fun eo => ?_⟩⟩
        · obtain ⟨ln, eln, rfl⟩ := Option.map_eq_some_iff.mp ev
          rw [eln] at a6
          exact hN' _ _ ⟨ln, rfl, x3, l3, at_lt (numO_ne (by rw [eln]; rfl)), a6⟩
        · rw [Option.map_eq_none_iff.mp eo] at a6
          exact (q2 j a6.symm).ex (toH x)
      obtain ⟨ln, rfl, x3, l3, hj3, a8⟩ := p
      -- place
      refine seqP (P := fun σ4 H4 => ∃ p tp, σ4 = [some (.ref m), some (.ref pr), some (.ref pp), some (.int ln), b, c] ∧ Ex [m, pp] H3 H4 ∧ H3 tp = none ∧ H4 tp = some (.tup [.int ln, .int p]) ∧ H4 pp = some (.lst (xp ++ [.ref tp])) ∧ Lm H4 m C dx L ms (j + 2) ∧ j + 2 ≤ ms.length ∧ (if (sorts (atM ms (j + 2))).isSome = true then sB ms k rows places ln p (atM ms (j + 2)) (j + 2 + 1) else .error (j + 2)) = pRows ms (ms.length + 1) [] [] i) (fun N' hN' => ?_) fun σ4 H4 p => ?_
      · unfold i_take_rows_1a_1
        simp only [Dq.wS, Dq.wE, Dq.wEs]
        have e2' := x3.get e2 (by simpa using pm)
        refine ⟨_, rfl, tyl e2', _, rfl, _, rfl, m, C, dx, _, _, rfl, l3.1, F.number, n_number, .of l3 ⟨m, C, dx, L, ms, j + 1, 1, rfl, hms, l3, fun v ev H4 x4 l4 => ?_, fun eo => ?_⟩⟩
        · obtain ⟨p, ep, rfl⟩ := Option.map_eq_some_iff.mp ev
          unfold sA at a8
          rw [ep] at a8
          refine ⟨by show 2 ≤ sizeLine; omega, fun tp ntp => ?_⟩
          have x5 : Ex [] H4 (upd H4 tp (.tup [.int ln, .int p])) := Ex.new ntp
          have e5 : upd H4 tp (HO.tup [.int ln, .int p]) tp = some (.tup [.int ln, .int p]) := upd_same
          generalize upd H4 tp (HO.tup [.int ln, .int p]) = H5 at x5 e5
          have pp5 : H5 pp = some (.lst xp) := x5.get (x4.get e2' (by simpa using pm)) (by simp)
          have tpp : tp ≠ pp := (ne_of_none (x4.get e2' (by simpa using pm)) ntp).symm
          have l5 := l4.ex x5
          exact app_ pp5 (by omega) (hN' _ _ ⟨p, tp, rfl, ((x4.imp (by simp)).trans x5.nil).trans (Ex.wr (by simp)), x4.dom ntp, by rw [upd_ne tpp]; exact e5, upd_same, ⟨by rw [upd_ne (Ne.symm pm)]; exact l5.1, by rw [upd_ne (Ne.symm pL)]; exact l5.2⟩, at_lt (numO_ne (by rw [ep]; rfl)), a8⟩)
        · unfold sA at a8
          rw [Option.map_eq_none_iff.mp eo] at a8
          exact ((q2 (j + 1) a8.symm).ex (toH x)).ex x3
      obtain ⟨p, tp, rfl, x4, ntp, etp, epp4, l4, hj4, a9⟩ := p
      -- word
      refine seqP (P := fun σ5 H5 => σ5 = [some (.ref m), some (.ref pr), some (.ref pp), some (.int ln), some (.str (atM ms (j + 2))), c] ∧ Ex [m] H4 H5 ∧ Lm H5 m C dx L ms (j + 3) ∧ j + 3 ≤ ms.length ∧ (sorts (atM ms (j + 2))).isSome = true ∧ sB ms k rows places ln p (atM ms (j + 2)) (j + 3) = pRows ms (ms.length + 1) [] [] i) (fun N' hN' => ?_) fun σ5 H5 z => ?_
      · unfold i_take_rows_1a_2
        simp only [Dq.wS, Dq.wE, Dq.wEs]
        refine ⟨_, rfl, m, C, dx, _, _, rfl, l4.1, F.take, n_take, _, rfl, call_mark F.mark l4 ⟨_, hS, in_ _ (hK.in_ _ _) (.of l4 ⟨m, C, dx, L, ms, j + 2, _, rfl, l4, fun v ev H5 x5 l5 => ?_, fun eo => ?_⟩)⟩⟩
        · split at ev
          · rename_i hk
            cases ev
            rw [Bool.and_eq_true] at hk
            rw [if_pos hk.1] at a9
            have hne : ¬ atM ms (j + 2) = "" := by have := hk.2; simpa using this
            exact hN' _ _ ⟨rfl, x5, l5, at_lt hne, hk.1, a9⟩
          · cases ev
        · split at eo
          · cases eo
          · rename_i hk
            have hn : ¬ (sorts (atM ms (j + 2))).isSome = true := fun y => hk (by
              have hne : ¬ atM ms (j + 2) = "" := fun z => by rw [z, sorts_empty] at y; cases y
              rw [y, decide_eq_false hne]; rfl)
            rw [if_neg hn] at a9
            exact (q2 (j + 2) a9.symm).ex (toH ((x.trans (x3.imp (by simp))).trans (x4.imp (by intro a ha; simp at ha ⊢; rcases ha with h | h <;> simp [h]))))
      obtain ⟨rfl, x5, l5, hj5, hso, a10⟩ := z
      have x14 : Ex [m, pr, pp] H1 H4 := (x.trans (x3.imp (by simp))).trans (x4.imp (by intro a ha; simp at ha ⊢; rcases ha with h | h <;> simp [h]))
      have x15 : Ex [m, pr, pp] H1 H5 := x14.trans (x5.imp (by simp))
      have xs5 : Ex [m, pp] H' H5 := ((x3.imp (by simp)).trans x4).trans (x5.imp (by simp))
      have pr5 : H5 pr = some (.lst xr) := xs5.get e1 (by simp [rm, nrp])
      have pp5 : H5 pp = some (.lst (xp ++ [.ref tp])) := x5.get epp4 (by simpa using pm)
      obtain ⟨z, hz⟩ := Option.isSome_iff_exists.mp hso
      have hzl := sorts_len hz
      have hst : sortT (atM ms (j + 2)) = z := by
        unfold sortT
        rw [if_neg (fun y => by rw [y, sorts_empty] at hz; cases hz), hz]; rfl
      unfold sB at a10
      rw [hst] at a10
      refine seq1 ?_
      unfold i_take_rows_1a_3
      simp only [Dq.wS, Dq.wE, Dq.wEs, tLc_eq, Dq.wI, Dq.wC, gOf]
      refine ⟨_, rfl, tyl pr5, _, rfl, by show 1 ≤ sizeLine; omega, fun p1 n1 => ⟨_, hS, _, rfl, ix_k (hK.get _ _ hz) (itv_s fun dl hdl => ?_)⟩⟩
      have x6 : Ex [] H5 (upd H5 p1 (.tup [.str (atM ms (j + 2))])) := Ex.new n1
      have e6 : upd H5 p1 (HO.tup [.str (atM ms (j + 2))]) p1 = some (.tup [.str (atM ms (j + 2))]) := upd_same
      generalize upd H5 p1 (HO.tup [.str (atM ms (j + 2))]) = H6 at x6 e6 hdl
      have l6 := l5.ex x6
      have p1m : p1 ≠ m := (ne_of_none l5.1 n1).symm
      refine rows_parts hP hms rfl (by show 5 < 6; omega) l6 hj5 hzl hdl (fun vs j7 H7 ep h7 v2 v3 x7 d7 l7 hj7 hjj7 => ?_) fun j7 τ ep => ?_
      · rw [ep] at a10
        refine tuple_l (.inl (.inl d7)) fun tl ntl => ?_
        have x8 : Ex [] H7 (upd H7 tl (.tup vs)) := Ex.new ntl
        have e8 : upd H7 tl (HO.tup vs) tl = some (.tup vs) := upd_same
        generalize upd H7 tl (HO.tup vs) = H8 at x8 e8
        have g8 : H8 p1 = some (.tup [.str (atM ms (j + 2))]) := x8.get (x7.get e6 (by simpa using p1m)) (by simp)
        have pr8 : H8 pr = some (.lst xr) := x8.get (x7.get (x6.get pr5 (by simp)) (by simpa using rm)) (by simp)
        have pp8 : H8 pp = some (.lst (xp ++ [.ref tp])) := x8.get (x7.get (x6.get pp5 (by simp)) (by simpa using pm)) (by simp)
        have l8 := l7.ex x8
        have x58 : Ex [m] H5 H8 := (x6.nil.trans x7).trans x8.nil
        -- whichever tuple stands at the end
        have fin : ∀ t H9, Ex [] H8 H9 → H5 t = none → H9 t = some (.tup (.str (atM ms (j + 2)) :: vs)) → H9 pr = some (.lst xr) ∧ Ex [m, pr, pp] H1 (upd H9 pr (.lst (xr ++ [.ref t]))) ∧ Lm (upd H9 pr (.lst (xr ++ [.ref t]))) m C dx L ms j7 ∧ (upd H9 pr (.lst (xr ++ [.ref t]))) pp = some (.lst (xp ++ [.ref tp])) ∧
            RepL H1 (upd H9 pr (.lst (xr ++ [.ref t]))) (rows ++ [rowD (atM ms (j + 2)) vs]) (xr ++ [.ref t]) ∧ RepL H1 (upd H9 pr (.lst (xr ++ [.ref t]))) (places ++ [placeD ln p]) (xp ++ [.ref tp]) := by
          intro t H9 x9 nt et
          have pr9 := x9.get pr8 (by simp)
          have tpr : t ≠ pr := (ne_of_none pr5 nt).symm
          have x59 : Ex [m] H5 H9 := x58.trans x9.nil
          have x5e : Ex [m, pr] H5 (upd H9 pr (.lst (xr ++ [.ref t]))) := (x59.imp (by simp)).trans (Ex.wr (by simp))
          have x1e : Ex [m, pr, pp] H1 (upd H9 pr (.lst (xr ++ [.ref t]))) := x15.trans (x5e.imp (by intro a ha; simp at ha ⊢; rcases ha with h | h <;> simp [h]))
          have l9 := l8.ex x9
          have n1 : ∀ {a : Addr}, H5 a = none → H1 a = none := fun h => x15.dom h
          refine ⟨pr9, x1e, ⟨by rw [upd_ne (Ne.symm rm)]; exact l9.1, by rw [upd_ne (Ne.symm rL)]; exact l9.2⟩, by rw [upd_ne (Ne.symm nrp)]; exact x9.get pp8 (by simp), ?_, ?_⟩
          · refine (r1.ex (((x3.imp (by simp)).trans (x4.imp (by intro a ha; simp at ha ⊢; rcases ha with h | h <;> simp [h]))).trans ((x5.imp (by simp)).trans (x5e.imp (by intro a ha; simp at ha ⊢; rcases ha with h | h <;> simp [h])))) bad0).app (RepL.cons ?_ RepL.nil)
            unfold rowD Rep
            exact ⟨t, _, rfl, n1 nt, by rw [upd_ne tpr]; exact et, RepL.flats (by simp [flatV, v2])⟩
          · refine (r2.ex (((x3.imp (by simp)).trans (x4.imp (by intro a ha; simp at ha ⊢; rcases ha with h | h <;> simp [h]))).trans ((x5.imp (by simp)).trans (x5e.imp (by intro a ha; simp at ha ⊢; rcases ha with h | h <;> simp [h])))) bad0).app (RepL.cons ?_ RepL.nil)
            have tpm : tp ∉ [m, pr] := by
              intro y
              simp only [List.mem_cons, List.not_mem_nil, or_false] at y
              have d := x3.dom ntp
              rcases y with y | y
              · rw [y, l.1] at d; cases d
              · rw [y, e1] at d; cases d
            unfold placeD Rep
            exact ⟨tp, _, rfl, (x.dom (x3.dom ntp)), x5e.get (x5.get etp (fun y => tpm (by simp at y; simp [y]))) tpm, RepL.cons (.flat rfl) (RepL.cons (.flat rfl) RepL.nil)⟩
        have hlen : (xr ++ [V.ref p1]).length ≤ j7 := by rw [List.length_append]; simp; omega
        refine add_t g8 e8 (by omega) (fun ev => ?_) fun tn ntn => ?_
        · subst ev
          obtain ⟨f1, f2, f3, f4, f5, f6⟩ := fin p1 H8 Ex.refl n1 g8
          refine app_ f1 (by omega) ?_
          unfold Dq.wSs
          exact ⟨k, Nat.lt_succ_self _, ⟨_, _, _, rfl⟩, _, _, j7, _, _, f2, f3, upd_same, f4, f5, f6, hlen, by rw [List.length_append, List.length_append, a2]; rfl, hj7, by omega, by omega, a10⟩
        · have x9 : Ex [] H8 (upd H8 tn (.tup (.str (atM ms (j + 2)) :: vs))) := Ex.new ntn
          have e9 : upd H8 tn (HO.tup (.str (atM ms (j + 2)) :: vs)) tn = some (.tup (.str (atM ms (j + 2)) :: vs)) := upd_same
          generalize upd H8 tn (HO.tup (.str (atM ms (j + 2)) :: vs)) = H9 at x9 e9
          obtain ⟨f1, f2, f3, f4, f5, f6⟩ := fin tn H9 x9 (x58.dom ntn) e9
          refine app_ f1 (by omega) ?_
          unfold Dq.wSs
          exact ⟨k, Nat.lt_succ_self _, ⟨_, _, _, rfl⟩, _, _, j7, _, _, f2, f3, upd_same, f4, f5, f6, by rw [List.length_append] at hlen ⊢; exact hlen, by rw [List.length_append, List.length_append, a2]; rfl, hj7, by omega, by omega, a10⟩
      · rw [ep] at a10
        exact ((q2 j7 a10.symm).ex (toH x15)).ex x6.nil
    · rintro k σ' H0 H' ⟨hσ, -⟩ ⟨rfl, rows, places, j, xr, xp, x, l, e1, e2, r1, r2, a1, a2, a3, a4, a5, a6, a7⟩
      cases k with
      | zero => omega
      | succ k =>
      have hc : ¬ (rows.isEmpty = true ∨ atM ms j ≠ "End") := fun y => by have := a7.mpr y; cases this
      rw [pRows, if_neg hc] at a6
      exact hN _ _ ⟨hσ, rows, places, j, xr, xp, x, l, e1, e2, r1, r2, a4, Classical.byContradiction fun y => hc (.inr y), a6.symm⟩
  obtain ⟨⟨a, b, c, rfl⟩, rows, places, j, xr, xp, x, l, e1, e2, r1, r2, a4, hsc, hok⟩ := z
  have hne : ¬ atM ms j = "" := by rw [hsc]; decide
  have hlt := at_lt hne
  refine seqP (P := fun σ' H' => σ' = [some (.ref m), some (.ref pr), some (.ref pp), a, b, c] ∧ Ex [m] H2 H' ∧ Lm H' m C dx L ms (j + 1)) (fun N hN => ?_) fun σ3 H3 z => ?_
  · unfold i_take_rows_2
    simp only [Dq.wS, Dq.wE, Dq.wEs]
    refine ⟨_, rfl, m, C, dx, _, _, rfl, l.1, F.tmark, n_tmark, .of l ⟨m, C, dx, L, ms, j, _, rfl, l, fun v _ H3 x3 l3 => hN _ _ ⟨rfl, x3, l3⟩, fun eo => ?_⟩⟩
    rw [if_pos (by rw [decide_eq_true hsc, decide_eq_false hne]; rfl)] at eo
    cases eo
  obtain ⟨rfl, x3, l3⟩ := z
  refine seq1 ?_
  unfold i_take_rows_3
  simp only [Dq.wS, Dq.wE, Dq.wEs]
  refine ⟨_, rfl, _, rfl, by show 2 ≤ sizeLine; omega, fun t nt => ?_⟩
  have xt : Ex [] H3 (upd H3 t (.tup [.ref pr, .ref pp])) := Ex.new nt
  have et : upd H3 t (HO.tup [.ref pr, .ref pp]) t = some (.tup [.ref pr, .ref pp]) := upd_same
  generalize upd H3 t (HO.tup [.ref pr, .ref pp]) = H4 at xt et
  have xx : Ex [m, pr, pp] H1 H4 := (x.trans (x3.imp (by simp))).trans xt.nil
  have y34 : Ex [m] H2 H4 := x3.trans xt.nil
  have d1 : ∀ a, H1 a = none → H a = none := fun a h => x1.dom h
  have bm : ∀ a ∈ [m], H1 a ≠ none := by
    intro a ha
    rw [List.mem_singleton.mp ha, lm1.1]; simp
  refine q1 rows places j hok t pr pp H4 (toH xx) et ?_ ?_ (l3.ex xt) hlt a4
  · unfold Rep
    exact ⟨pr, xr, rfl, npr, y34.get e1 (by simpa using rm), (r1.ex y34 bm).base d1⟩
  · unfold Rep
    exact ⟨pp, xp, rfl, npp, y34.get e2 (by simpa using pm), (r2.ex y34 bm).base d1⟩
end Hk64

set_option maxHeartbeats 2000000
namespace Hk64
open PySem PySem.Spec PyProof.Rows L2 Dq
variable {Γ : Gam} {C BM : Addr}
/-- the marks of a text -/
def marksOf (t : Str) : List Str := ((Txt.split t "\n").flatMap fun l => Txt.split l " ").filter fun m => !decide (m = "")
structure TextOk (t : Str) : Prop where
  mks : Mks (marksOf t)
  len : t.length ≤ 10000000
theorem marks_ne {t m : Str} (h : m ∈ marksOf t) : m ≠ "" := by
  unfold marksOf at h
  have := (List.mem_filter.mp h).2
  simpa using this
theorem at_ne {t : Str} {i : Nat} : atM (marksOf t) i = "" ↔ ¬ i < (marksOf t).length := by
  constructor
  · intro e h
    exact marks_ne (List.mem_of_getElem? (atM_lt h)) e
  · intro h
    exact atM_ge (by omega)
def spInit (C : Addr) : Sp := fun vs H Q _ => ∃ m dx t, vs = [.ref m, .str t] ∧ TextOk t ∧ H m = some (.ins C dx []) ∧ ∀ L H', Ex [m] H H' → H L = none → Lm H' m C dx L (marksOf t) 0 → Q .non H'
def spRead (BM : Addr) : Sp := fun vs H Q E => ∃ t, vs = [.str t] ∧ TextOk t ∧ (∀ ks, rd (marksOf t) = .ok ks → ∀ v H', Ex [] H H' → Rep H H' (.dic ks) v → Q v H') ∧
  ∀ i, rd (marksOf t) = .error i → ∀ d H', Ex [] H H' → H d = none → H' d = some (.xd [("index", .int (i : Nat))]) → E (.ref BM) (some d) H'
theorem optE_none {α β : Type} {i : Nat} {f : β → Except Nat α} : optE i f none = .error i := rfl
set_option maxHeartbeats 4000000 in
theorem w_read (F : LmM Γ C BM) (hI : Γ.mkc "LineMarks" C (spInit C)) (hN : Γ.fn "take_names" (spNames C BM)) (hR : Γ.fn "take_rows" (spRows C BM)) (vs : List V) (H : Hp) (Q : VK) (E : XK) (h : spRead BM vs H Q E) : wSs Γ i_read_codes (dE E) (dD Q) (start l_read_codes.N vs) H := by
  obtain ⟨t, rfl, ht, q1, q2⟩ := h
  have hms := ht.mks
  have hs := sizeBig
  have hfew := hms.few
  generalize hmm : marksOf t = ms at hms hfew q1 q2
  have atne : ∀ i, atM ms i = "" ↔ ¬ i < ms.length := fun i => by rw [← hmm]; exact at_ne
  unfold i_read_codes
  refine seqP (P := fun σ' H' => ∃ m dx L fd, σ' = [some (.str t), some (.ref m), some (.ref fd), none, none, none, none, none] ∧ Ex [] H H' ∧ H m = none ∧ H fd = none ∧ fd ≠ L ∧ Lm H' m C dx L ms 0 ∧ H' fd = some (.dK [])) (fun N hN' => ?_) fun σ1 H1 p => ?_
  · unfold i_read_codes_0
    simp only [Dq.wS, tPar, tCons, tNil, Dq.wE, Dq.wEs, Dq.wP, Dq.CPs.isNil, if_true]
    refine ⟨C, _, hI, _, rfl, fun m dx nm ndx hne => ⟨m, dx, t, rfl, ht, upd_same, fun L H' x nL lm => ⟨rfl, .inl fun fd nfd => ⟨_, _, rfl, hN' _ _ ⟨m, dx, L, fd, rfl, ?_, nm, ?_, ?_, ?_, upd_same⟩⟩⟩⟩⟩
    · have x0 : Ex [m] H (upd (upd H dx (.own m)) m (.ins C dx [])) := (Ex.new ndx).trans (Ex.wr (by simp))
      exact ((x0.trans x).trans (Ex.new nfd)).drop fun a ha => .inr (by rw [List.mem_singleton.mp ha]; exact nm)
    · have x0 : Ex [m] H (upd (upd H dx (.own m)) m (.ins C dx [])) := (Ex.new ndx).trans (Ex.wr (by simp))
      exact (x0.trans x).dom nfd
    · exact (ne_of_none lm.2 nfd).symm
    · rw [← hmm]; exact lm.ex (Ex.new nfd)
  obtain ⟨m, dx, L, fd, rfl, x1, nm, nfd, hfL, lm1, hfd⟩ := p
  have hfm : fd ≠ m := by rintro rfl; rw [lm1.1] at hfd; cases hfd
  have d1 : ∀ a, H1 a = none → H a = none := fun a h => x1.dom h
  have bad0 : ∀ a ∈ [m, fd], H1 a ≠ none := by
    intro a ha
    simp only [List.mem_cons, List.not_mem_nil, or_false] at ha
    rcases ha with rfl | rfl
    · rw [lm1.1]; simp
    · rw [hfd]; simp
  have toH : ∀ {Ha : Hp}, Ex [m, fd] H1 Ha → Ex [] H Ha := fun x => (x1.nil.trans x).drop fun a ha => by
    simp only [List.mem_cons, List.not_mem_nil, or_false] at ha
    rcases ha with rfl | rfl
    · exact .inr nm
    · exact .inr nfd
  -- an exception of the rest
  have exc : ∀ i Ha, rd ms = .error i → Ex [m, fd] H1 Ha → Exc BM m i Ha E := fun i Ha e x d Hd xd nd ed => q2 i e d Hd (toH (x.trans (xd.imp (by simp)))) (d1 _ (x.dom nd)) ed
  refine seqP (P := fun σ' H' => (∃ a b c d e, σ' = [some (.str t), some (.ref m), some (.ref fd), a, b, c, d, e]) ∧ ∃ found ys, Ex [m, fd] H1 H' ∧ H' fd = some (.dK ys) ∧ RepD H1 H' found ys ∧ rd ms = .ok found) (fun N hN' => ?_) fun σ2 H2 z => ?_
  · unfold i_read_codes_1
    refine whP (I := fun k σ' H' => (∃ a b c d e, σ' = [some (.str t), some (.ref m), some (.ref fd), a, b, c, d, e]) ∧ ∃ found ys j, Ex [m, fd] H1 H' ∧ Lm H' m C dx L ms j ∧ H' fd = some (.dK ys) ∧ RepD H1 H' found ys ∧ found.length ≤ j ∧ j ≤ ms.length ∧ ms.length + 1 ≤ k + j ∧ pCodes ms k found j = rd ms)
      (T := fun k σ' H' tt H2 => H2 = H' ∧ ∃ found ys j, Ex [m, fd] H1 H' ∧ Lm H' m C dx L ms j ∧ H' fd = some (.dK ys) ∧ RepD H1 H' found ys ∧ found.length ≤ j ∧ j ≤ ms.length ∧ ms.length + 1 ≤ k + j ∧ pCodes ms k found j = rd ms ∧ (tt = true ↔ j < ms.length))
      (ms.length + 1) ⟨⟨_, _, _, _, _, rfl⟩, [], [], 0, Ex.refl, lm1, hfd, RepD.nil, Nat.le_refl _, Nat.zero_le _, Nat.le_refl _, rfl⟩ ?_ ?_ ?_
    · rintro k σ' H' ⟨⟨a, b, c, d, e, rfl⟩, found, ys, j, x, l, f, r, a1, a2, a3, a4⟩ N' hN2
      simp only [Dq.wT, Dq.wE, Dq.wEs]
      refine ⟨_, rfl, call_mark F.mark l (ne_s ⟨_, rfl, hN2 _ _ ⟨rfl, found, ys, j, x, l, f, r, a1, a2, a3, a4, ?_⟩⟩)⟩
      by_cases hj : atM ms j = ""
      · rw [decide_eq_true hj]
        exact ⟨fun y => (by cases y), fun y => ((atne j).mp hj y).elim⟩
      · rw [decide_eq_false hj]
        exact ⟨fun _ => at_lt hj, fun _ => rfl⟩
    · rintro k σ' H0 H' ⟨⟨a, b, c, d, e, rfl⟩, -⟩ ⟨rfl, found, ys, j, x, l, f, r, a1, a2, a3, a4, a5⟩
      have hlt := a5.mp rfl
      cases k with
      | zero => omega
      | succ k =>
      rw [pCodes_step hlt] at a4
      show wSs Γ i_read_codes_1a _ _ _ _
      unfold i_read_codes_1a
      -- Code
      refine seqP (P := fun σ3 H3 => σ3 = [some (.str t), some (.ref m), some (.ref fd), a, b, c, d, e] ∧ Ex [m] H' H3 ∧ Lm H3 m C dx L ms (j + 1) ∧ qA ms k found (j + 1) = rd ms) (fun N' hN2 => ?_) fun σ3 H3 p => ?_
      · unfold i_read_codes_1a_0
        simp only [Dq.wS, Dq.wE, Dq.wEs]
        refine ⟨_, rfl, m, C, dx, _, _, rfl, l.1, F.tmark, n_tmark, .of l ⟨m, C, dx, L, ms, j, _, rfl, l, fun v ev H3 x3 l3 => ?_, fun eo => ?_⟩⟩
        · split at ev
          · rename_i hk
            rw [if_pos (Bool.and_eq_true_iff.mp hk).1] at a4
            exact hN2 _ _ ⟨rfl, x3, l3, a4⟩
          · cases ev
        · split at eo
          · cases eo
          · rename_i hk
            rw [if_neg (fun y => hk (by rw [y, decide_eq_false (codes_ne y)]; rfl))] at a4
            exact exc j H' a4.symm x
      obtain ⟨rfl, x3, l3, a6⟩ := p
      have f3 : H3 fd = some (.dK ys) := x3.get f (by simpa using hfm)
      have key : ∀ z, (valV ys (.inr z)).isSome = found.any (fun q => decide (q.1 = z)) := fun z => r.key
      have xx3 : Ex [m, fd] H1 H3 := x.trans (x3.imp (by simp))
      -- name
      refine seqP (P := fun σ4 H4 => σ4 = [some (.str t), some (.ref m), some (.ref fd), some (.str (atM ms (j + 1))), b, c, d, e] ∧ Ex [m] H3 H4 ∧ Lm H4 m C dx L ms (j + 2) ∧ j + 2 ≤ ms.length ∧ (found.any fun q => decide (q.1 = atM ms (j + 1))) = false ∧
        optE (j + 2) (fun params => kNames (fun names i => kRows (fun rows places n => pCodes ms k (found ++ [(atM ms (j + 1), codeD params names rows places)]) (n + 1)) (pRows ms (ms.length + 1) [] [] (i + 1))) (pNames ms params (ms.length + 1) [] (j + 3))) (numO (atM ms (j + 2)) 0) = rd ms) (fun N' hN2 => ?_) fun σ4 H4 p => ?_
      · unfold i_read_codes_1a_1
        simp only [Dq.wS, Dq.wE, Dq.wEs]
        unfold qA at a6
        refine ⟨_, rfl, m, C, dx, _, _, rfl, l3.1, F.name, n_name, _, rfl, .of l3 ⟨m, C, dx, L, ms, j + 1, _, found.any (fun q => decide (q.1 = atM ms (j + 1))), rfl, hms, l3, fun H4 x4 => ?_, fun v ev H4 x4 l4 => ?_, fun eo => ?_⟩⟩
        · rw [← key]
          exact inV_d (k := .inr (atM ms (j + 1))) (x4.get f3 (by simp))
        · split at ev
          · rename_i hk
            cases ev
            rw [if_pos hk] at a6
            have hk' := Bool.and_eq_true_iff.mp hk
            exact hN2 _ _ ⟨rfl, x4, l4, at_lt (nm_ne hk'.1), by simpa using hk'.2, a6⟩
          · cases ev
        · split at eo
          · cases eo
          · rename_i hk
            rw [if_neg hk] at a6
            exact exc (j + 1) H3 a6.symm xx3
      obtain ⟨rfl, x4, l4, hj4, hkey, a7⟩ := p
      have xx4 : Ex [m, fd] H1 H4 := xx3.trans (x4.imp (by simp))
      -- params
      refine seqP (P := fun σ5 H5 => ∃ params, σ5 = [some (.str t), some (.ref m), some (.ref fd), some (.str (atM ms (j + 1))), some (.int params), c, d, e] ∧ Ex [m] H4 H5 ∧ Lm H5 m C dx L ms (j + 3) ∧ j + 3 ≤ ms.length ∧
        kNames (fun names i => kRows (fun rows places n => pCodes ms k (found ++ [(atM ms (j + 1), codeD params names rows places)]) (n + 1)) (pRows ms (ms.length + 1) [] [] (i + 1))) (pNames ms params (ms.length + 1) [] (j + 3)) = rd ms) (fun N' hN2 => ?_) fun σ5 H5 p => ?_
      · unfold i_read_codes_1a_2
        simp only [Dq.wS, Dq.wE, Dq.wEs]
        refine ⟨_, rfl, m, C, dx, _, _, rfl, l4.1, F.number, n_number, .of l4 ⟨m, C, dx, L, ms, j + 2, 0, rfl, hms, l4, fun v ev H5 x5 l5 => ?_, fun eo => ?_⟩⟩
        · obtain ⟨p, ep, rfl⟩ := Option.map_eq_some_iff.mp ev
          rw [ep] at a7
          exact hN2 _ _ ⟨p, rfl, x5, l5, at_lt (numO_ne (by rw [ep]; rfl)), a7⟩
        · rw [Option.map_eq_none_iff.mp eo] at a7
          exact exc (j + 2) H4 a7.symm xx4
      obtain ⟨params, rfl, x5, l5, hj5, a8⟩ := p
      have xx5 : Ex [m, fd] H1 H5 := xx4.trans (x5.imp (by simp))
      -- names
      refine seqP (P := fun σ6 H6 => ∃ pn names j6, σ6 = [some (.str t), some (.ref m), some (.ref fd), some (.str (atM ms (j + 1))), some (.int params), some (.ref pn), d, e] ∧ Ex [m] H5 H6 ∧ H5 pn = none ∧ H6 pn = some (.lst (names.map V.str)) ∧ Lm H6 m C dx L ms (j6 + 1) ∧ j6 + 1 ≤ ms.length ∧ j + 3 ≤ j6 ∧
        kRows (fun rows places n => pCodes ms k (found ++ [(atM ms (j + 1), codeD params names rows places)]) (n + 1)) (pRows ms (ms.length + 1) [] [] (j6 + 1)) = rd ms) (fun N' hN2 => ?_) fun σ6 H6 p => ?_
      · unfold i_read_codes_1a_3
        simp only [Dq.wS, Dq.wE, Dq.wEs]
        refine ⟨_, hN, _, rfl, _, rfl, m, dx, L, ms, j + 3, params, rfl, hms, l5, hj5, fun names j6 ep p H6 x6 np e6 l6 hj6 hjj6 => ?_, fun j6 ep => ?_⟩
        · rw [ep] at a8
          exact hN2 _ _ ⟨p, names, j6, rfl, x6, np, e6, l6, hj6, hjj6, a8⟩
        · rw [ep] at a8
          exact exc j6 H5 a8.symm xx5
      obtain ⟨pn, names, j6, rfl, x6, npn, epn, l6, hj6, hjj6, a9⟩ := p
      have xx6 : Ex [m, fd] H1 H6 := xx5.trans (x6.imp (by simp))
      -- rows
      refine seqP (P := fun σ7 H7 => ∃ pr pp rows places j7, σ7 = [some (.str t), some (.ref m), some (.ref fd), some (.str (atM ms (j + 1))), some (.int params), some (.ref pn), some (.ref pr), some (.ref pp)] ∧ Ex [m] H6 H7 ∧ Rep H6 H7 (.lst rows) (.ref pr) ∧ Rep H6 H7 (.lst places) (.ref pp) ∧ Lm H7 m C dx L ms (j7 + 1) ∧ j7 + 1 ≤ ms.length ∧ j6 + 1 ≤ j7 ∧
        pCodes ms k (found ++ [(atM ms (j + 1), codeD params names rows places)]) (j7 + 1) = rd ms) (fun N' hN2 => ?_) fun σ7 H7 p => ?_
      · unfold i_read_codes_1a_4
        simp only [Dq.wS, Dq.wE, Dq.wEs, gOf, gsOf]
        refine ⟨_, hR, _, rfl, m, dx, L, ms, j6 + 1, rfl, hms, l6, hj6, fun rows places j7 ep tt pr pp H7 x7 et rr rp l7 hj7 hjj7 => ?_, fun j7 ep => ?_⟩
        · rw [ep] at a9
          exact ⟨tt, _, rfl, .inl (.inl (.inl et)), rfl, _, _, rfl, _, _, rfl, rfl, hN2 _ _ ⟨pr, pp, rows, places, j7, rfl, x7, rr, rp, l7, hj7, hjj7, a9⟩⟩
        · rw [ep] at a9
          exact exc j7 H6 a9.symm xx6
      obtain ⟨pr, pp, rows, places, j7, rfl, x7, rr, rp, l7, hj7, hjj7, a10⟩ := p
      refine seq1 ?_
      unfold i_read_codes_1a_5
      simp only [Dq.wS, Dq.wE, Dq.wEs]
      refine ⟨_, rfl, _, rfl, _, rfl, _, rfl, by show 4 ≤ sizeLine; omega, fun tq ntq => ?_⟩
      have xq : Ex [] H7 (upd H7 tq (.tup [.int params, .ref pn, .ref pr, .ref pp])) := Ex.new ntq
      have eq' : upd H7 tq (HO.tup [.int params, .ref pn, .ref pr, .ref pp]) tq = some (.tup [.int params, .ref pn, .ref pr, .ref pp]) := upd_same
      generalize upd H7 tq (HO.tup [.int params, .ref pn, .ref pr, .ref pp]) = H8 at xq eq'
      have x38 : Ex [m] H3 H8 := (((x4.trans x5).trans x6).trans x7).trans xq.nil
      have f8 : H8 fd = some (.dK ys) := x38.get f3 (by simpa using hfm)
      have f7 : H7 fd = some (.dK ys) := (((x4.trans x5).trans x6).trans x7).get f3 (by simpa using hfm)
      have tfd : tq ≠ fd := (ne_of_none f7 ntq).symm
      have hyl : ys.length < sizeLine := by
        have := r.len
        omega
      refine ⟨_, rfl, _, rfl, .inr ⟨fd, upd H8 fd (.dK (putK ys (.inr (atM ms (j + 1))) (.ref tq))), rfl, DPut.k (k := .inr (atM ms (j + 1))) f8 hyl, ?_⟩⟩
      unfold Dq.wSs
      have x8e : Ex [m, fd] H1 (upd H8 fd (.dK (putK ys (.inr (atM ms (j + 1))) (.ref tq)))) := (xx3.trans (x38.imp (by simp))).trans (Ex.wr (by simp))
      have x'e : Ex [m, fd] H' (upd H8 fd (.dK (putK ys (.inr (atM ms (j + 1))) (.ref tq)))) := ((x3.trans x38).imp (by simp)).trans (Ex.wr (by simp))
      have x6e : Ex [m, fd] H6 (upd H8 fd (.dK (putK ys (.inr (atM ms (j + 1))) (.ref tq)))) := ((x7.trans xq.nil).imp (by simp)).trans (Ex.wr (by simp))
      have x7e : Ex [m, fd] H7 (upd H8 fd (.dK (putK ys (.inr (atM ms (j + 1))) (.ref tq)))) := (xq.nil).trans (Ex.wr (by simp))
      have b6 : ∀ a ∈ [m, fd], H6 a ≠ none := by
        intro a ha
        simp only [List.mem_cons, List.not_mem_nil, or_false] at ha
        rcases ha with rfl | rfl
        · rw [l6.1]; simp
        · rw [((x4.trans x5).trans x6).get f3 (by simpa using hfm)]; simp
      have l8 := l7.ex xq
      have hfL1 : fd ≠ L := hfL
      have pnm : pn ∉ [m, fd] := by
        simp only [List.mem_cons, List.not_mem_nil, or_false, not_or]
        exact ⟨fun y => (by rw [y, l5.1] at npn; cases npn), fun y => (by rw [y, (x4.trans x5).get f3 (by simpa using hfm)] at npn; cases npn)⟩
      have dx6 : ∀ a, H6 a = none → H1 a = none := fun a h => xx6.dom h
      refine ⟨k, Nat.lt_succ_self _, ⟨_, _, _, _, _, rfl⟩, found ++ [(atM ms (j + 1), codeD params names rows places)], _, j7 + 1, x8e, ⟨by rw [upd_ne (Ne.symm hfm)]; exact l8.1, by rw [upd_ne (Ne.symm hfL1)]; exact l8.2⟩, upd_same, ?_, ?_, hj7, by omega, a10⟩
      · refine RepD.put (r.ex x'e bad0) ?_ hkey
        unfold codeD Rep
        refine ⟨tq, _, rfl, dx6 tq (x7.dom ntq), by rw [upd_ne tfd]; exact eq', RepL.cons (.flat rfl) (RepL.cons ?_ (RepL.cons ((rr.ex x7e b6).base dx6) (RepL.cons ((rp.ex x7e b6).base dx6) RepL.nil)))⟩
        unfold Rep
        refine ⟨pn, _, rfl, xx5.dom npn, x6e.get epn pnm, ?_⟩
        have : (names.map fun z => DD.at (.str z)) = (names.map V.str).map .at := by rw [List.map_map]; rfl
        rw [this]
        exact RepL.flats flat_strs
      · rw [List.length_append]
        show found.length + 1 ≤ j7 + 1
        omega
    · rintro k σ' H0 H' ⟨hσ, -⟩ ⟨rfl, found, ys, j, x, l, f, r, a1, a2, a3, a4, a5⟩
      have hlt : ¬ j < ms.length := fun y => by have := a5.mpr y; cases this
      cases k with
      | zero => omega
      | succ k =>
      rw [pCodes, if_neg hlt] at a4
      exact hN' _ _ ⟨hσ, found, ys, x, f, r, a4.symm⟩
  obtain ⟨⟨a, b, c, d, e, rfl⟩, found, ys, x, f, r, e1⟩ := z
  refine seq1 ?_
  unfold i_read_codes_2
  simp only [Dq.wS, Dq.wE]
  refine ⟨_, rfl, q1 found e1 _ H2 (toH x) ?_⟩
  unfold Rep
  exact ⟨fd, ys, rfl, nfd, f, r.base d1⟩
end Hk64

set_option maxHeartbeats 2000000
namespace Hk64
open PySem PySem.Spec PyProof.Rows L2 Dq
variable {Γ : Gam}
/-! ### the stream of draws -/
def Stm (H : Hp) (s L : Addr) (c : Int) : Prop := ∃ (ns : List Int) (cell d t : Int), H s = some (.lst [.ref L, .int cell, .int d, .int t]) ∧ H L = some (.lst (ns.map V.int)) ∧ 0 ≤ cell ∧ 0 ≤ d ∧ d ≤ c ∧ 0 ≤ t ∧ t < 2147483647
theorem Stm.ne {H : Hp} {s L : Addr} {c : Int} (h : Stm H s L c) : L ≠ s := by
  obtain ⟨ns, cell, d, t, h1, h2, _⟩ := h
  rintro rfl
  rw [h1] at h2
  cases ns with
  | nil => cases h2
  | cons n r =>
    have := HO.lst.inj (Option.some.inj h2)
    cases this
theorem Stm.ex {H H' : Hp} {s L : Addr} {c : Int} (h : Stm H s L c) (x : Ex [] H H') : Stm H' s L c := by
  obtain ⟨ns, cell, d, t, h1, h2, h3⟩ := h
  exact ⟨ns, cell, d, t, x.get h1 (by simp), x.get h2 (by simp), h3⟩
theorem Stm.le {H : Hp} {s L : Addr} {c c' : Int} (h : Stm H s L c) (k : c ≤ c') : Stm H s L c' := by
  obtain ⟨ns, cell, d, t, h1, h2, h3, h4, h5, h6⟩ := h
  exact ⟨ns, cell, d, t, h1, h2, h3, h4, by omega, h6⟩
theorem depth_ints : ∀ is : List Int, PyData.depthAll (is.map PyData.int) = 0
  | [] => rfl
  | i :: r => by
    show max 0 (PyData.depthAll (r.map PyData.int)) = 0
    rw [depth_ints r]; rfl
theorem ne_nilIs {K : PySem.W.Frag} {w : World} {H : Hp} {Q : VK} {a b : Addr} {is : List Int} (h : H a = some (.lst (is.map V.int))) (h' : H b = some (.lst [])) (q : Q (.bl (!is.isEmpty)) H) : qCmp K w .NotEq (.ref a) (.ref b) H Q := by
  refine ne_d (d := .list (is.map PyData.int)) (e := .list []) (.lst (.inl (.inl h)) (dpAll_ints is)) (.lst (.inl (.inl h')) .nil) ?_ (by decide) ?_
  · show (PyData.canLayAll0 (is.map PyData.int) && decide (PyData.depthAll (is.map PyData.int) + 1 ≤ 64)) = true
    rw [canLay_ints, depth_ints]; rfl
  · cases is with
    | nil => exact q
    | cons i r => exact q
def spDraw : Sp := fun vs H Q _ => ∃ s L c many, vs = [.ref s, .int many] ∧ Stm H s L c ∧ c ≤ 1099511627776 ∧ 1 ≤ many ∧ many ≤ 1000000 ∧ ∀ r H', 0 ≤ r → r < many → Ex [s, L] H H' → Stm H' s L (c + 1) → Q (.int r) H'
/-- ahead of each turn of the draw's loop -/
def DrI (H : Hp) (s L : Addr) (many d : Int) (k : Nat) (σ' : L2.St) (H' : Hp) : Prop := ∃ (a : Option V) (ns : List Int) (cell t : Int), σ' = [some (.ref s), some (.int many), none, a, none] ∧ Ex [s, L] H H' ∧ H' s = some (.lst [.ref L, .int cell, .int (d + 1), .int t]) ∧ H' L = some (.lst (ns.map V.int)) ∧ 0 ≤ cell ∧ 0 ≤ t ∧ t < 2147483647 ∧ k = ns.length
theorem w_draw (vs : List V) (H : Hp) (Q : VK) (E : XK) (h : spDraw vs H Q E) : wSs Γ i__law_draw (dE E) (dD Q) (start l__law_draw.N vs) H := by
  obtain ⟨s, L, c, many, rfl, st, hc, m1, m2, q⟩ := h
  have hne := st.ne
  obtain ⟨ns, cell, d, t, h1, h2, h3, h4, h5, h6, h7⟩ := st
  unfold i__law_draw
  refine seqP (P := fun σ' H' => σ' = [some (.ref s), some (.int many), none, none, none] ∧ Ex [s, L] H H' ∧ H' s = some (.lst [.ref L, .int cell, .int (d + 1), .int t]) ∧ H' L = some (.lst (ns.map V.int))) (fun N hN => ?_) fun σ1 H1 p => ?_
  · unfold i__law_draw_0
    simp only [Dq.wS, Dq.wE]
    exact ⟨_, rfl, ix_ln (n := 2) h1 rfl (add_i ⟨_, rfl, .inl ⟨s, _, 2, 2, rfl, rfl, h1, rfl, hN _ _ ⟨rfl, Ex.wr (by simp), upd_same, by rw [upd_ne hne]; exact h2⟩⟩⟩)⟩
  obtain ⟨rfl, x1, e1, l1⟩ := p
  refine seqP (P := fun σ' H' => ∃ (a : Option V) (ns : List Int) (cell t : Int), σ' = [some (.ref s), some (.int many), none, a, none] ∧ Ex [s, L] H H' ∧ H' s = some (.lst [.ref L, .int cell, .int (d + 1), .int t]) ∧ H' L = some (.lst (ns.map V.int)) ∧ 0 ≤ cell ∧ 0 ≤ t ∧ t < 2147483647) (fun N hN => ?_) fun σ2 H2 p => ?_
  · unfold i__law_draw_1
    refine whP (I := DrI H s L many d)
      (T := fun k σ' H' b H2 => ∃ (ns : List Int) (cell t : Int), Ex [s, L] H H2 ∧ H2 s = some (.lst [.ref L, .int cell, .int (d + 1), .int t]) ∧ H2 L = some (.lst ((ns : List Int).map V.int)) ∧ 0 ≤ cell ∧ 0 ≤ t ∧ t < 2147483647 ∧ k = ns.length ∧ (b = true → ns ≠ []))
      ns.length ⟨none, ns, cell, t, rfl, x1, e1, l1, h3, h6, h7, rfl⟩ ?_ ?_ ?_
    · rintro k σ' H' ⟨a, ns, cell, t, rfl, x, e, l, z1, z2, z3, z4⟩ N' hN'
      simp only [Dq.wT, Dq.wE, Dq.wEs]
      refine ⟨_, rfl, ix_ln (n := 1) e rfl (eq_i ⟨_, rfl, ?_⟩)⟩
      by_cases h0 : cell = 0
      · refine ifT (decide_eq_true h0) ⟨_, rfl, ix_ln (n := 0) e rfl ⟨by decide, fun p np => ?_⟩⟩
        have xp : Ex [] H' (upd H' p (.lst [])) := Ex.new np
        refine ne_nilIs (xp.get l (by simp)) upd_same ⟨_, rfl, hN' _ _ ⟨ns, cell, t, x.trans xp.nil, xp.get e (by simp), xp.get l (by simp), z1, z2, z3, z4, fun y => ?_⟩⟩
        rintro rfl
        cases y
      · exact ifF (decide_eq_false h0) (hN' _ _ ⟨ns, cell, t, x, e, l, z1, z2, z3, z4, fun y => by cases y⟩)
    · rintro k σ' H0 H' ⟨a, _, _, _, rfl, -⟩ ⟨ns, cell, t, x, e, l, z1, z2, z3, z4, z5⟩
      cases ns with
      | nil => exact absurd rfl (z5 rfl)
      | cons n r =>
      show wSs Γ i__law_draw_1a _ _ _ _
      unfold i__law_draw_1a
      refine seqP (P := fun σ3 H3 => ∃ cl : Int, 0 ≤ cl ∧ σ3 = [some (.ref s), some (.int many), none, some (.int cl), none] ∧ Ex [s, L] H H3 ∧ H3 s = some (.lst [.ref L, .int cell, .int (d + 1), .int t]) ∧ H3 L = some (.lst (r.map V.int))) (fun N' hN' => ?_) fun σ3 H3 p => ?_
      · unfold i__law_draw_1a_0
        simp only [Dq.wS, Dq.wE, Dq.wEs]
        refine ⟨_, rfl, ix_ln (n := 0) e rfl ⟨tyl l, pop0_ l (abs_i (hN' _ _ ⟨_, ?_, rfl, x.trans (Ex.wr (by simp)), by rw [upd_ne (Ne.symm hne)]; exact e, upd_same⟩))⟩⟩
        split <;> omega
      obtain ⟨cl, hcl, rfl, x3, e3, l3⟩ := p
      refine seqP (P := fun σ4 H4 => ∃ t', 0 ≤ t' ∧ t' < 2147483647 ∧ σ4 = [some (.ref s), some (.int many), none, some (.int cl), none] ∧ Ex [s, L] H H4 ∧ H4 s = some (.lst [.ref L, .int cell, .int (d + 1), .int t']) ∧ H4 L = some (.lst (r.map V.int))) (fun N' hN' => ?_) fun σ4 H4 p => ?_
      · unfold i__law_draw_1a_1
        simp only [Dq.wS, Dq.wE, Dq.wEs]
        refine ⟨_, rfl, ix_ln (n := 3) e3 rfl (mul_i (.inr ⟨by omega, by omega⟩) ⟨_, rfl, add_i (add_i (int_i (mod_i (by omega) ⟨_, rfl, .inl ⟨s, _, 3, 3, rfl, rfl, e3, rfl, hN' _ _ ⟨_, ?_, ?_, rfl, x3.trans (Ex.wr (by simp)), upd_same, by rw [upd_ne hne]; exact l3⟩⟩⟩)))⟩)⟩
        · exact Int.emod_nonneg _ (by omega)
        · exact Int.emod_lt_of_pos _ (by omega)
      obtain ⟨t', z6, z7, rfl, x4, e4, l4⟩ := p
      refine seq1 ?_
      unfold i__law_draw_1a_2
      simp only [Dq.wS, Dq.wE, Dq.wEs, Dq.wT]
      have fin : ∀ cv : Int, 0 ≤ cv → ∃ m', m' < k ∧ DrI H s L many d m' [some (.ref s), some (.int many), none, some (.int cl), none] (upd H4 s (.lst [.ref L, .int cv, .int (d + 1), .int t'])) := fun cv hcv =>
        ⟨r.length, by rw [z4]; simp, _, r, cv, t', rfl, x4.trans (Ex.wr (by simp)), upd_same, by rw [upd_ne hne]; exact l4, hcv, z6, z7, rfl⟩
      refine ⟨_, rfl, pow_i ⟨by omega, by omega, by decide⟩ (ge_i ⟨_, rfl, ?_⟩)⟩
      by_cases hg : (10 : Int) ^ (18 : Int).toNat ≤ cl
      · exact ifT (decide_eq_true hg) ⟨_, rfl, _, rfl, .inl ⟨s, _, 1, 1, rfl, rfl, e4, rfl, by unfold Dq.wSs; exact fin cl hcl⟩⟩
      · exact ifF (decide_eq_false hg) ⟨_, rfl, .inl ⟨s, _, 1, 1, rfl, rfl, e4, rfl, by unfold Dq.wSs; exact fin 0 (by omega)⟩⟩
    · rintro k σ' H0 H' ⟨a, _, _, _, rfl, -⟩ ⟨ns, cell, t, x, e, l, z1, z2, z3, z4, z5⟩
      exact hN _ _ ⟨a, ns, cell, t, rfl, x, e, l, z1, z2, z3⟩
  obtain ⟨a, ns', cell', t', rfl, x2, e2, l2, z1, z2, z3⟩ := p
  refine seqP (P := fun σ' H' => σ' = [some (.ref s), some (.int many), none, a, none] ∧ H' = H2) (fun N hN => ?_) fun σ3 H3 p => ?_
  · unfold i__law_draw_2
    refine ifP (fun b H' => H' = H2 ∧ b = decide (0 < cell')) (fun N' hN' => ?_) (fun H' p => ?_) fun H' p => ?_
    · simp only [Dq.wT, Dq.wE]
      exact ⟨_, rfl, ix_ln (n := 1) e2 rfl (gt_i ⟨_, rfl, hN' _ _ ⟨rfl, rfl⟩⟩)⟩
    · obtain ⟨rfl, hb⟩ := p
      have hpos : 0 < cell' := of_decide_eq_true hb.symm
      unfold i__law_draw_2a
      refine seqP (P := fun σ' H3 => H3 = H' ∧ σ' = [some (.ref s), some (.int many), none, a, some (.int (cell' % many))]) (fun N' hN' => ?_) fun σ3 H3 p => ?_
      · unfold i__law_draw_2a_0
        simp only [Dq.wS, Dq.wE, Dq.wEs]
        exact ⟨_, rfl, ix_ln (n := 1) e2 rfl (int_i ⟨_, rfl, mod_i (by omega) (hN' _ _ ⟨rfl, rfl⟩)⟩)⟩
      obtain ⟨rfl, rfl⟩ := p
      refine seqP (P := fun σ' H4 => σ' = [some (.ref s), some (.int many), none, a, some (.int (cell' % many))] ∧ Ex [s, L] H H4 ∧ Stm H4 s L (c + 1)) (fun N' hN' => ?_) fun σ4 H4 p => ?_
      · unfold i__law_draw_2a_1
        simp only [Dq.wS, Dq.wE, Dq.wEs]
        refine ⟨_, rfl, ix_ln (n := 1) e2 rfl ⟨_, rfl, div_i ⟨by omega, by omega⟩ ⟨_, rfl, .inl ⟨s, _, 1, 1, rfl, rfl, e2, rfl, hN' _ _ ⟨rfl, x2.trans (Ex.wr (by simp)), ns', cell' / many, d + 1, t', upd_same, by rw [upd_ne hne]; exact l2, Int.ediv_nonneg z1 (by omega), by omega, by omega, z2, z3⟩⟩⟩⟩⟩
      obtain ⟨rfl, x4, s4⟩ := p
      refine seq1 ?_
      unfold i__law_draw_2a_2
      simp only [Dq.wS, Dq.wE]
      exact ⟨_, rfl, q _ _ (Int.emod_nonneg _ (by omega)) (Int.emod_lt_of_pos _ (by omega)) x4 s4⟩
    · obtain ⟨rfl, hb⟩ := p
      unfold Dq.wSs
      exact hN _ _ ⟨rfl, rfl⟩
  obtain ⟨rfl, rfl⟩ := p
  refine seqP (P := fun σ' H' => H' = H3 ∧ ∃ mx : Int, 0 ≤ mx ∧ mx < 2147483629 ∧ σ' = [some (.ref s), some (.int many), some (.int mx), a, none]) (fun N hN => ?_) fun σ4 H4 p => ?_
  · unfold i__law_draw_3
    simp only [Dq.wS, Dq.wE, Dq.wEs]
    refine ⟨_, rfl, ix_ln (n := 3) e2 rfl ⟨_, rfl, ix_ln (n := 2) e2 rfl (mul_i (.inl ⟨by omega, by omega⟩) (add_i (add_i (pow_i ⟨by omega, by omega, ?_⟩ (int_i (mod_i (by omega) (hN _ _ ⟨rfl, _, ?_, ?_, rfl⟩)))))))⟩⟩
    · have : (t' + 7919 * (d + 1) + 104729).natAbs < 18446744073709551616 := by omega
      exact this
    · exact Int.emod_nonneg _ (by omega)
    · exact Int.emod_lt_of_pos _ (by omega)
  obtain ⟨rfl, mx, w1, w2, rfl⟩ := p
  refine seq1 ?_
  unfold i__law_draw_4
  simp only [Dq.wS, Dq.wE, Dq.wEs]
  refine ⟨_, rfl, mul_i (.inr ⟨by omega, by omega⟩) ⟨_, rfl, ix_ln (n := 2) e2 rfl (mul_i (.inl ⟨by omega, by omega⟩) (add_i (add_i (pow_i ⟨by omega, by omega, ?_⟩ (int_i (mod_i (by omega) ⟨_, rfl, mod_i (by omega) (q _ _ (Int.emod_nonneg _ (by omega)) (Int.emod_lt_of_pos _ (by omega)) x2 ⟨ns', cell', d + 1, t', e2, l2, z1, by omega, by omega, z2, z3⟩)⟩))))))⟩⟩
  have : (mx * 48271 + 30011 * (d + 1) + 29).natAbs < 18446744073709551616 := by omega
  exact this
end Hk64

set_option maxHeartbeats 2000000
namespace Hk64
open PySem PySem.Spec PyProof.Rows L2 Dq
/-! ### what the drawn things are: loose shapes -/
abbrev VP := Hp → V → Prop
/-- a sign that a mark may hold -/
def gdC (c : Nat) : Bool := decide (33 ≤ c) && decide (c ≤ 126)
/-- a good mark: some plain signs, not many -/
def gd (x : Str) : Bool := decide (1 ≤ x.length) && (decide (x.length ≤ 30) && x.cps.toList.all gdC)
def gdV : V → Bool
  | .int i => decide (-1000000000000 ≤ i) && decide (i ≤ 1000000000000)
  | .str x => gd x
  | _ => false
/-- a row: its word, its parts -/
def rowOk : List V → Bool
  | .str w :: ps => gd w && (ps.all gdV && (decide (ps.length ≤ 2) && (!(decide (w = "jump") || decide (w = "part")) || (match ps with | [.int _] => true | _ => false))))
  | _ => false
def IsInt (lo hi : Int) : VP := fun _ v => ∃ i, v = .int i ∧ lo ≤ i ∧ i ≤ hi
/-- one of some flat values -/
def IsV (p : V → Bool) : VP := fun _ v => p v = true ∧ flatV v = true
def IsRow : VP := fun H v => ∃ t r, v = .ref t ∧ H t = some (.tup r) ∧ rowOk r = true
def IsLst (s L : Addr) (P : VP) (lo hi : Nat) : VP := fun H v => ∃ a xs, v = .ref a ∧ (a ≠ s ∧ a ≠ L) ∧ H a = some (.lst xs) ∧ lo ≤ xs.length ∧ xs.length ≤ hi ∧ ∀ x ∈ xs, P H x
abbrev IsRows (s L : Addr) (n : Nat) : VP := IsLst s L IsRow 0 n
/-- kept by draws -/
def Stab (s L : Addr) (P : VP) : Prop := ∀ H H' v c, Stm H s L c → Ex [s, L] H H' → P H v → P H' v
theorem stab_int {s L : Addr} {lo hi : Int} : Stab s L (IsInt lo hi) := fun _ _ _ _ _ _ h => h
theorem stab_v {s L : Addr} {p : V → Bool} : Stab s L (IsV p) := fun _ _ _ _ _ _ h => h
theorem stab_row {s L : Addr} : Stab s L IsRow := fun H H' v c st x ⟨t, r, e, h, o⟩ => by
  obtain ⟨ns, cell, d, tt, h1, h2, _⟩ := st
  refine ⟨t, r, e, x.get h ?_, o⟩
  intro z
  simp only [List.mem_cons, List.not_mem_nil, or_false] at z
  rcases z with rfl | rfl
  · rw [h1] at h; cases h
  · rw [h2] at h; cases h
theorem stab_lst {s L : Addr} {P : VP} {lo hi : Nat} (hP : Stab s L P) : Stab s L (IsLst s L P lo hi) := fun H H' v c st x ⟨a, xs, e, n, h, l1, l2, o⟩ => ⟨a, xs, e, n, x.get h (by simp [n.1, n.2]), l1, l2, fun y hy => hP H H' y c st x (o y hy)⟩
theorem IsLst.le {s L : Addr} {P : VP} {lo hi lo' hi' : Nat} {H : Hp} {v : V} (h : IsLst s L P lo hi H v) (k1 : lo' ≤ lo) (k2 : hi ≤ hi') : IsLst s L P lo' hi' H v := by
  obtain ⟨a, xs, e, n, q, l1, l2, o⟩ := h
  exact ⟨a, xs, e, n, q, by omega, by omega, o⟩
/-! ### expressions of such shapes -/
/-- what stands while an expression of the def is walked: Hs the heap where its slots were read -/
structure Cur (Hs : Hp) (s L : Addr) (H : Hp) (d : Int) : Prop where
  sl : Ex [s, L] Hs H
  st : Stm H s L d
theorem Cur.ex {Hs : Hp} {s L : Addr} {H H' : Hp} {d : Int} (c : Cur Hs s L H d) (x : Ex [] H H') : Cur Hs s L H' d := ⟨c.sl.trans x.nil, c.st.ex x⟩
theorem Cur.new {Hs : Hp} {s L : Addr} {H : Hp} {d : Int} (c : Cur Hs s L H d) {p : Addr} (n : H p = none) : p ≠ s ∧ p ≠ L := by
  obtain ⟨ns, cell, d, tt, h1, h2, _⟩ := c.st
  exact ⟨(ne_of_none h1 n).symm, (ne_of_none h2 n).symm⟩
def TyE (Γ : Gam) (W : WX) (σ : L2.St) (Hs : Hp) (s L : Addr) (d d' : Int) (e : Dq.CE) (P : VP) : Prop := ∀ (H : Hp) (N : VK), Cur Hs s L H d → (∀ v H', Cur Hs s L H' d' → Ex [s, L] H H' → P H' v → N v H') → Dq.wE Γ e true W σ H N
def TyEs (Γ : Gam) (W : WX) (σ : L2.St) (Hs : Hp) (s L : Addr) (d d' : Int) (es : Dq.CEs) (P : Hp → List V → Prop) : Prop := ∀ (H : Hp) (N : List V → Hp → Prop), Cur Hs s L H d → (∀ vs H', Cur Hs s L H' d' → Ex [s, L] H H' → P H' vs → N vs H') → Dq.wEs Γ es true W σ H N
section
variable {Γ : Gam} {W : WX} {σ : L2.St} {Hs : Hp} {s L : Addr} {d d' d'' d3 : Int} {a b e : Dq.CE} {es : Dq.CEs} {P P' R : VP}
theorem t_imp (h : TyE Γ W σ Hs s L d d' e P) (hd : d' ≤ d'') (k : ∀ H v, P H v → P' H v) : TyE Γ W σ Hs s L d d'' e P' := fun H N c q => h H N c fun v H' c' x p => q v H' ⟨c'.sl, c'.st.le hd⟩ x (k H' v p)
theorem t_var {i : Nat} {v : V} (h : σ[i]? = some (some v)) (hp : P Hs v) (st : Stab s L P) {c0 : Int} (hst : Stm Hs s L c0) : TyE Γ W σ Hs s L d d (.var i) P := fun H N c q => by
  unfold Dq.wE
  exact ⟨v, h, q v H c Ex.refl (st Hs H v _ hst c.sl hp)⟩
theorem t_int {i : Int} : TyE Γ W σ Hs s L d d (.int i) (IsInt i i) := fun H N c q => by
  unfold Dq.wE
  exact q _ H c Ex.refl ⟨i, rfl, Int.le_refl _, Int.le_refl _⟩
theorem t_neg {lo hi : Int} (h : TyE Γ W σ Hs s L d d' a (IsInt lo hi)) : TyE Γ W σ Hs s L d d' (.neg a) (IsInt (-hi) (-lo)) := fun H N c q => by
  unfold Dq.wE
  refine h H _ c fun v H' c' x ⟨i, e, h1, h2⟩ => ⟨i, e, q _ H' c' x ⟨-i, rfl, by omega, by omega⟩⟩
theorem t_str {x : Str} : TyE Γ W σ Hs s L d d (.str x) (IsV fun v => decide (v = .str x)) := fun H N c q => by
  unfold Dq.wE
  exact q _ H c Ex.refl ⟨decide_eq_true rfl, rfl⟩
theorem t_addi {l1 h1 l2 h2 : Int} (ha : TyE Γ W σ Hs s L d d' a (IsInt l1 h1)) (hb : TyE Γ W σ Hs s L d' d'' b (IsInt l2 h2)) : TyE Γ W σ Hs s L d d'' (.bin .Add a b) (IsInt (l1 + l2) (h1 + h2)) := fun H N c q => by
  unfold Dq.wE
  refine ha H _ c fun v H' c' x ⟨i, e, k1, k2⟩ => hb H' _ c' fun u H'' c'' x' ⟨j, e', k3, k4⟩ => ?_
  subst e e'
  exact add_i (q _ H'' c'' (x.trans x') ⟨i + j, rfl, by omega, by omega⟩)
theorem t_subi {l1 h1 l2 h2 : Int} (ha : TyE Γ W σ Hs s L d d' a (IsInt l1 h1)) (hb : TyE Γ W σ Hs s L d' d'' b (IsInt l2 h2)) : TyE Γ W σ Hs s L d d'' (.bin .Sub a b) (IsInt (l1 - h2) (h1 - l2)) := fun H N c q => by
  unfold Dq.wE
  refine ha H _ c fun v H' c' x ⟨i, e, k1, k2⟩ => hb H' _ c' fun u H'' c'' x' ⟨j, e', k3, k4⟩ => ?_
  subst e e'
  exact sub_i (q _ H'' c'' (x.trans x') ⟨i - j, rfl, by omega, by omega⟩)
theorem t_draw (hf : Γ.fn "_law_draw" spDraw) (hs : σ[0]? = some (some (.ref s))) {lo hi : Int} (h : TyE Γ W σ Hs s L d d' e (IsInt lo hi)) (h1 : 1 ≤ lo) (h2 : hi ≤ 1000000) (h3 : d' ≤ 1099511627776) : TyE Γ W σ Hs s L d (d' + 1) (.call "_law_draw" (.cons (.var 0) (.cons e .nil))) (IsInt 0 (hi - 1)) := fun H N c q => by
  simp only [Dq.wE, Dq.wEs]
  refine ⟨_, hf, _, hs, h H _ c fun v H' c' x ⟨i, e, k1, k2⟩ => ⟨s, L, d', i, by rw [e], c'.st, h3, by omega, by omega, fun r H'' r1 r2 x' st => q _ H'' ⟨c'.sl.trans x', st⟩ (x.trans x') ⟨r, rfl, r1, by omega⟩⟩⟩
/-- a pick of a list -/
def spPick : Sp := fun vs H Q _ => ∃ s L c a xs, vs = [.ref s, .ref a] ∧ Stm H s L c ∧ c ≤ 1099511627776 ∧ H a = some (.lst xs) ∧ a ≠ s ∧ a ≠ L ∧ 1 ≤ xs.length ∧ xs.length ≤ 1000 ∧ ∀ x H', x ∈ xs → Ex [s, L] H H' → Stm H' s L (c + 1) → Q x H'
theorem t_pick (hf : Γ.fn "_law_pick" spPick) (hs : σ[0]? = some (some (.ref s))) {lo hi : Nat} (h : TyE Γ W σ Hs s L d d' e (IsLst s L P lo hi)) (st : Stab s L P) (h1 : 1 ≤ lo) (h2 : hi ≤ 1000) (h3 : d' ≤ 1099511627776) : TyE Γ W σ Hs s L d (d' + 1) (.call "_law_pick" (.cons (.var 0) (.cons e .nil))) P := fun H N c q => by
  simp only [Dq.wE, Dq.wEs]
  refine ⟨_, hf, _, hs, h H _ c fun v H' c' x ⟨a, xs, e, n, ha, l1, l2, o⟩ => ?_⟩
  exact ⟨s, L, d', a, xs, by rw [e], c'.st, h3, ha, n.1, n.2, by omega, by omega, fun y H'' hy x' st' => q _ H'' ⟨c'.sl.trans x', st'⟩ (x.trans x') (st _ _ _ _ c'.st x' (o y hy))⟩
theorem t_len {lo hi : Nat} (h : TyE Γ W σ Hs s L d d' e (IsLst s L P lo hi)) : TyE Γ W σ Hs s L d d' (.bf .len (.cons e .nil)) (IsInt lo hi) := fun H N c q => by
  simp only [Dq.wE, Dq.wEs]
  refine h H _ c fun v H' c' x ⟨a, xs, e, n, ha, l1, l2, o⟩ => ?_
  subst e
  exact len_lst ha (q _ H' c' x ⟨_, rfl, by omega, by omega⟩)
theorem ts_nil : TyEs Γ W σ Hs s L d d .nil (fun _ vs => vs = []) := fun H N c q => by
  unfold Dq.wEs
  exact q [] H c Ex.refl rfl
theorem ts_cons {Ps : Hp → List V → Prop} (h : TyE Γ W σ Hs s L d d' e P) (st : Stab s L P) (hs : TyEs Γ W σ Hs s L d' d'' es Ps) : TyEs Γ W σ Hs s L d d'' (.cons e es) (fun H vs => ∃ v r, vs = v :: r ∧ P H v ∧ Ps H r) := fun H N c q => by
  unfold Dq.wEs
  exact h H _ c fun v H' c' x p => hs H' _ c' fun vs H'' c'' x' p' => q _ H'' c'' (x.trans x') ⟨v, vs, rfl, st _ _ _ _ c'.st x' p, p'⟩
/-- a row of a word and some parts -/
theorem t_row {Ps : Hp → List V → Prop} (h : TyEs Γ W σ Hs s L d d' es Ps) (k : ∀ H vs, Ps H vs → rowOk vs = true) : TyE Γ W σ Hs s L d d' (.tup es) (IsRow) := fun H N c q => by
  unfold Dq.wE
  refine h H _ c fun vs H' c' x p => ⟨?_, fun t nt => q _ _ (c'.ex (Ex.new nt)) (x.trans (Ex.new nt)) ⟨t, vs, rfl, upd_same, k _ _ p⟩⟩
  have r := k _ _ p
  have hb := sizeBig
  match vs, r with
  | .str w :: ps, r =>
    unfold rowOk at r
    simp only [Bool.and_eq_true] at r
    have := of_decide_eq_true r.2.2.1
    rw [List.length_cons]; omega
/-- a list of things of one shape -/
theorem t_lst {Ps : Hp → List V → Prop} {lo hi : Nat} (h : TyEs Γ W σ Hs s L d d' es Ps) (st : Stab s L P) (hh : hi ≤ 100000) (k : ∀ H vs, Ps H vs → lo ≤ vs.length ∧ vs.length ≤ hi ∧ ∀ x ∈ vs, P H x) : TyE Γ W σ Hs s L d d' (.lst es) (IsLst s L P lo hi) := fun H N c q => by
  unfold Dq.wE
  have hb := sizeBig
  refine h H _ c fun vs H' c' x p => ?_
  obtain ⟨k1, k2, k3⟩ := k _ _ p
  refine ⟨by omega, fun t nt => q _ _ (c'.ex (Ex.new nt)) (x.trans (Ex.new nt)) ⟨t, vs, rfl, c'.new nt, upd_same, k1, k2, fun y hy => st _ _ _ _ c'.st (Ex.new nt) (k3 y hy)⟩⟩
theorem t_addl {l1 h1 l2 h2 : Nat} (ha : TyE Γ W σ Hs s L d d' a (IsLst s L P l1 h1)) (hb : TyE Γ W σ Hs s L d' d'' b (IsLst s L P l2 h2)) (st : Stab s L P) (hh : h1 + h2 ≤ 100000) : TyE Γ W σ Hs s L d d'' (.bin .Add a b) (IsLst s L P (l1 + l2) (h1 + h2)) := fun H N c q => by
  unfold Dq.wE
  have hbig := sizeBig
  refine ha H _ c fun v H' c' x pv => hb H' _ c' fun u H'' c'' x' ⟨b', ys, e', m, hb', k3, k4, o'⟩ => ?_
  obtain ⟨a', xs, e, n, ha', k1, k2, o⟩ := stab_lst st _ _ _ _ c'.st x' pv
  subst e e'
  refine add_l ha' hb' (by omega) fun p np => q _ _ (c''.ex (Ex.new np)) ((x.trans x').trans (Ex.new np)) ⟨p, xs ++ ys, rfl, c''.new np, upd_same, by rw [List.length_append]; omega, by rw [List.length_append]; omega, fun y hy => ?_⟩
  rcases List.mem_append.mp hy with z | z
  · exact st _ _ _ _ c''.st (Ex.new np) (o y z)
  · exact st _ _ _ _ c''.st (Ex.new np) (o' y z)
/-- a test of two ints -/
theorem t_ifx {op : CmpOp} {l1 h1 l2 h2 : Int} {t u : Dq.CE} (hop : ∀ (i j : Int) (H : Hp) (Q : VK), (∀ k, Q (.bl k) H) → qCmp Γ.K Γ.w op (.int i) (.int j) H Q) (ha : TyE Γ W σ Hs s L d d' a (IsInt l1 h1)) (hb : TyE Γ W σ Hs s L d' d'' b (IsInt l2 h2)) (ht : TyE Γ W σ Hs s L d'' d3 t P) (hu : TyE Γ W σ Hs s L d'' d3 u P) :
    TyE Γ W σ Hs s L d d3 (.ifx (.cmp op a b) t u) P := fun H N c q => by
  simp only [Dq.wE, Dq.wT]
  refine ha H _ c fun v H' c' x ⟨i, e, _⟩ => hb H' _ c' fun w H'' c'' x' ⟨j, e', _⟩ => ?_
  subst e e'
  refine hop i j H'' _ fun k => ⟨k, rfl, ?_⟩
  cases k with
  | true => exact ifT rfl (ht H'' N c'' fun v H3 c3 x3 p => q v H3 c3 ((x.trans x').trans x3) p)
  | false => exact ifF rfl (hu H'' N c'' fun v H3 c3 x3 p => q v H3 c3 ((x.trans x').trans x3) p)
theorem any_gt {K : PySem.W.Frag} {w : World} (i j : Int) (H : Hp) (Q : VK) (q : ∀ k, Q (.bl k) H) : qCmp K w .Gt (.int i) (.int j) H Q := gt_i (q _)
theorem any_lt {K : PySem.W.Frag} {w : World} (i j : Int) (H : Hp) (Q : VK) (q : ∀ k, Q (.bl k) H) : qCmp K w .Lt (.int i) (.int j) H Q := lt_i (q _)
theorem any_eq {K : PySem.W.Frag} {w : World} (i j : Int) (H : Hp) (Q : VK) (q : ∀ k, Q (.bl k) H) : qCmp K w .Eq (.int i) (.int j) H Q := eq_i (q _)
/-- a call of a def that draws rows, at a depth -/
def spGen (C : Int) (lo hi : Nat) (deep : Int) : Sp := fun vs H Q _ => ∃ s L c, vs = [.ref s, .int deep] ∧ Stm H s L c ∧ c + C ≤ 1099511627776 ∧ ∀ v H', Ex [s, L] H H' → Stm H' s L (c + C) → IsLst s L IsRow lo hi H' v → Q v H'
theorem t_gen {f : Str} {C : Int} {lo hi : Nat} {deep : Int} (hf : Γ.fn f (spGen C lo hi deep)) (hs : σ[0]? = some (some (.ref s))) (h : TyE Γ W σ Hs s L d d' e (IsInt deep deep)) (h3 : d' + C ≤ 1099511627776) : TyE Γ W σ Hs s L d (d' + C) (.call f (.cons (.var 0) (.cons e .nil))) (IsLst s L IsRow lo hi) := fun H N c q => by
  simp only [Dq.wE, Dq.wEs]
  refine ⟨_, hf, _, hs, h H _ c fun v H' c' x ⟨i, e, k1, k2⟩ => ?_⟩
  have : i = deep := by omega
  subst this
  subst e
  exact ⟨s, L, d', rfl, c'.st, h3, fun v H'' x' st p => q v H'' ⟨c'.sl.trans x', st⟩ (x.trans x') p⟩
end
end Hk64

set_option maxHeartbeats 2000000
namespace Hk64
open PySem PySem.Spec PyProof.Rows L2 Dq
variable {Γ : Gam} {W : WX} {D : Ends} {σ : L2.St} {H : Hp} {s L : Addr} {d d' : Int} {e : Dq.CE} {P : VP}
theorem set_t {i : Nat} {N : L2.St → Hp → Prop} (st : Stm H s L d) (h : TyE Γ W σ H s L d d' e P) (q : ∀ v H', Ex [s, L] H H' → Stm H' s L d' → P H' v → N (σ.set i (some v)) H') : wS Γ (.set i e) W { D with nx := N } σ H := by
  unfold Dq.wS
  exact h H _ ⟨Ex.refl, st⟩ fun v H' c x p => q v H' x c.st p
theorem ret_t (st : Stm H s L d) (h : TyE Γ W σ H s L d d' e P) (q : ∀ v H', Ex [s, L] H H' → Stm H' s L d' → P H' v → D.rt v H') : wS Γ (.ret e) W D σ H := by
  unfold Dq.wS
  exact h H _ ⟨Ex.refl, st⟩ fun v H' c x p => q v H' x c.st p
/-- if x < k, x a slot -/
theorem if_lt {i : Nat} {k x : Int} {a b : Dq.CSs} (h : σ[i]? = some (some (.int x))) (h1 : x < k → wSs Γ a W D σ H) (h2 : ¬ x < k → wSs Γ b W D σ H) : wS Γ (.ifs (.cmp .Lt (.var i) (.int k)) a b) W D σ H := by
  refine ifP (fun t H' => H' = H ∧ t = decide (x < k)) (fun N hN => ?_) (fun H' p => ?_) fun H' p => ?_
  · simp only [Dq.wT, Dq.wE]
    exact ⟨_, h, lt_i ⟨_, rfl, hN _ _ ⟨rfl, rfl⟩⟩⟩
  · obtain ⟨rfl, t⟩ := p
    exact h1 (of_decide_eq_true t.symm)
  · obtain ⟨rfl, t⟩ := p
    exact h2 (of_decide_eq_false t.symm)
theorem if_eq {i : Nat} {k x : Int} {a b : Dq.CSs} (h : σ[i]? = some (some (.int x))) (h1 : x = k → wSs Γ a W D σ H) (h2 : ¬ x = k → wSs Γ b W D σ H) : wS Γ (.ifs (.cmp .Eq (.var i) (.int k)) a b) W D σ H := by
  refine ifP (fun t H' => H' = H ∧ t = decide (x = k)) (fun N hN => ?_) (fun H' p => ?_) fun H' p => ?_
  · simp only [Dq.wT, Dq.wE]
    exact ⟨_, h, eq_i ⟨_, rfl, hN _ _ ⟨rfl, rfl⟩⟩⟩
  · obtain ⟨rfl, t⟩ := p
    exact h1 (of_decide_eq_true t.symm)
  · obtain ⟨rfl, t⟩ := p
    exact h2 (of_decide_eq_false t.symm)
/-! ### rows by their words -/
theorem r1 {Hs : Hp} {w : Str} (h : rowOk [.str w] = true) : TyE Γ W σ Hs s L d d (.tup (.cons (.str w) .nil)) IsRow :=
  t_row (ts_cons t_str stab_v ts_nil) fun H vs ⟨v, r, e, ⟨p, _⟩, e'⟩ => by
    subst e'; subst e
    rw [of_decide_eq_true p]; exact h
theorem r2i {Hs : Hp} {w : Str} {lo hi : Int} (hw : gd w = true) (he : TyE Γ W σ Hs s L d d' e (IsInt lo hi)) (h1 : -1000000000000 ≤ lo) (h2 : hi ≤ 1000000000000) : TyE Γ W σ Hs s L d d' (.tup (.cons (.str w) (.cons e .nil))) IsRow :=
  t_row (ts_cons t_str stab_v (ts_cons he stab_int ts_nil)) fun H vs ⟨v, r, e, ⟨p, _⟩, v2, r2, e2, ⟨i, ei, k1, k2⟩, e'⟩ => by
    subst e'; subst e2; subst e; subst ei
    rw [of_decide_eq_true p]
    have g : gdV (.int i) = true := by
      show (decide _ && decide _) = true
      rw [decide_eq_true (by omega), decide_eq_true (by omega)]; rfl
    show (gd w && (([V.int i].all gdV) && (decide (([V.int i] : List V).length ≤ 2) && (!(decide (w = "jump") || decide (w = "part")) || true)))) = true
    rw [hw, List.all_cons, g]; simp
theorem r2v {Hs : Hp} {w : Str} {p : V → Bool} (hw : gd w = true) (hj : (decide (w = "jump") || decide (w = "part")) = false) (he : TyE Γ W σ Hs s L d d' e (IsV p)) (hp : ∀ v, p v = true → gdV v = true) : TyE Γ W σ Hs s L d d' (.tup (.cons (.str w) (.cons e .nil))) IsRow :=
  t_row (ts_cons t_str stab_v (ts_cons he stab_v ts_nil)) fun H vs ⟨v, r, e, ⟨p1, _⟩, v2, r2, e2, ⟨p2, _⟩, e'⟩ => by
    subst e'; subst e2; subst e
    rw [of_decide_eq_true p1]
    show (gd w && (([v2].all gdV) && (decide (([v2] : List V).length ≤ 2) && (!(decide (w = "jump") || decide (w = "part")) || _)))) = true
    rw [hw, List.all_cons, hp v2 p2, hj]; simp
/-- lists of rows -/
theorem l1 {Hs : Hp} (h : TyE Γ W σ Hs s L d d' e IsRow) : TyE Γ W σ Hs s L d d' (.lst (.cons e .nil)) (IsRows s L 1) :=
  t_lst (ts_cons h stab_row ts_nil) stab_row (by omega) fun H vs ⟨v, r, e1, p, e2⟩ => by
    subst e2; subst e1
    exact ⟨Nat.zero_le _, Nat.le_refl _, fun x hx => by rw [List.mem_singleton.mp hx]; exact p⟩
theorem addR {Hs : Hp} {a b : Dq.CE} {d'' : Int} {n m : Nat} (ha : TyE Γ W σ Hs s L d d' a (IsRows s L n)) (hb : TyE Γ W σ Hs s L d' d'' b (IsRows s L m)) (h : n + m ≤ 100000) : TyE Γ W σ Hs s L d d'' (.bin .Add a b) (IsRows s L (n + m)) := by
  have := t_addl ha hb stab_row h
  exact this
/-- picks of flat values -/
theorem lsV {Hs : Hp} {es : Dq.CEs} {Ps : Hp → List V → Prop} {p : V → Bool} {n : Nat} (h : TyEs Γ W σ Hs s L d d' es Ps) (hn : 1 ≤ n) (hn2 : n ≤ 1000) (k : ∀ H vs, Ps H vs → vs.length = n ∧ ∀ x ∈ vs, p x = true ∧ flatV x = true) : TyE Γ W σ Hs s L d d' (.lst es) (IsLst s L (IsV p) n n) :=
  t_lst h stab_v (by omega) fun H vs q => by
    obtain ⟨k1, k2⟩ := k H vs q
    exact ⟨by omega, by omega, k2⟩
/-- a list of literals -/
def litV : Dq.CE → Option V
  | .int i => some (.int i)
  | .str x => some (.str x)
  | .neg (.int i) => some (.int (-i))
  | _ => none
def litVs : Dq.CEs → Option (List V)
  | .nil => some []
  | .cons e es => (litV e).bind fun v => (litVs es).map (v :: ·)
theorem ts_lit {Hs : Hp} : ∀ {es : Dq.CEs} {vs : List V}, litVs es = some vs → TyEs Γ W σ Hs s L d d es (fun _ us => us = vs)
  | .nil, vs, h => by
    cases h
    exact ts_nil
  | .cons e es, vs, h => by
    obtain ⟨v, hv, h⟩ := Option.bind_eq_some_iff.mp h
    obtain ⟨r, hr, rfl⟩ := Option.map_eq_some_iff.mp h
    intro H N c q
    unfold Dq.wEs
    have he : ∀ N : VK, N v H → Dq.wE Γ e true W σ H N := by
      intro N hN
      cases e <;> first | cases hv | skip
      · unfold Dq.wE; exact hN
      · unfold Dq.wE; exact hN
      · rename_i a
        cases a <;> first | cases hv | skip
        unfold Dq.wE
        unfold Dq.wE
        exact ⟨_, rfl, hN⟩
    refine he _ (ts_lit hr H _ c fun us H' c' x p => ?_)
    subst p
    exact q _ H' c' x rfl
theorem pickV (hf : Γ.fn "_law_pick" spPick) (hs : σ[0]? = some (some (.ref s))) {Hs : Hp} {es : Dq.CEs} {vs : List V} (h : litVs es = some vs) {p : V → Bool} (h1 : 1 ≤ vs.length) (h2 : vs.length ≤ 1000) (hp : (vs.all fun v => p v && flatV v) = true) (h3 : d ≤ 1099511627776) : TyE Γ W σ Hs s L d (d + 1) (.call "_law_pick" (.cons (.var 0) (.cons (.lst es) .nil))) (IsV p) :=
  t_pick hf hs (lsV (p := p) (n := vs.length) (ts_lit h) h1 h2 fun H us e => by
    subst e
    exact ⟨rfl, fun x hx => Bool.and_eq_true_iff.mp (List.all_eq_true.mp hp x hx)⟩) stab_v h1 h2 h3
/-! ### the defs -/
theorem w_pick (h1 : Γ.fn "_law_draw" spDraw) (vs : List V) (H : Hp) (Q : VK) (E : XK) (h : spPick vs H Q E) : wSs Γ i__law_pick (dE E) (dD Q) (start l__law_pick.N vs) H := by
  obtain ⟨s, L, c, a, xs, rfl, st, hc, ha, n1, n2, l1, l2, q⟩ := h
  simp only [i__law_pick, Dq.wSs, Dq.wS, Dq.wE, Dq.wEs, tSeq]
  refine ⟨_, rfl, _, h1, _, rfl, _, rfl, len_lst ha ⟨s, L, c, xs.length, rfl, st, hc, by omega, by omega, fun r H' r1 r2 x st' => ?_⟩⟩
  have ha' := x.get ha (by simp [n1, n2])
  obtain ⟨n, rfl⟩ : ∃ n : Nat, r = n := ⟨r.toNat, by omega⟩
  have hn : n < xs.length := by omega
  exact ix_ln ha' (List.getElem?_eq_getElem hn) (q _ H' (List.getElem_mem hn) x st')
def spIdx (n : Nat) : Sp := fun vs H Q _ => ∃ s L c v, vs = [.ref s, v] ∧ Stm H s L c ∧ c + 6 ≤ 1099511627776 ∧ IsRows s L n H v ∧ ∀ v H', Ex [s, L] H H' → Stm H' s L (c + 6) → IsRows s L (n + 3) H' v → Q v H'
theorem gdw {w : Str} (h : gd w = true) : gd w = true := h
structure GenFns (Γ : Gam) : Prop where
  draw : Γ.fn "_law_draw" spDraw
  pick : Γ.fn "_law_pick" spPick
theorem w_index (F : GenFns Γ) (hn : Γ.fn "_law_w_number" (spGen 4 0 1 0)) {n : Nat} (hb : n + 3 ≤ 100000) (vs : List V) (H : Hp) (Q : VK) (E : XK) (h : spIdx n vs H Q E) : wSs Γ i__law_w_index (dE E) (dD Q) (start l__law_w_index.N vs) H := by
  obtain ⟨s, L, c, v, rfl, st, hc, hv, q⟩ := h
  unfold i__law_w_index
  refine seqP (P := fun σ' H' => ∃ w : Int, σ' = [some (.ref s), some v, some (.int w)] ∧ Ex [s, L] H H' ∧ Stm H' s L (c + 1)) (fun N hN => ?_) fun σ1 H1 p => ?_
  · refine set_t st (t_draw F.draw rfl t_int (by omega) (by omega) (by omega)) fun v1 H' x st' ⟨w, e, _⟩ => ?_
    subst e
    exact hN _ _ ⟨w, rfl, x, st'⟩
  obtain ⟨w, rfl, x1, st1⟩ := p
  have hv1 := stab_lst stab_row _ _ _ _ st x1 hv
  refine seqP (P := fun σ' H' => σ' = [some (.ref s), some v, some (.int w)] ∧ H' = H1) (fun N hN => ?_) fun σ2 H2 p => ?_
  · refine if_lt rfl (fun hw => seq1 ?_) fun hw => ?_
    · refine ret_t st1 (l1 (r2i (by decide +kernel) (t_draw F.draw rfl t_int (by omega) (by omega) (by omega)) (by omega) (by omega))) fun v2 H2 x2 st2 p2 => q v2 H2 (x1.trans x2) (st2.le (by omega)) (p2.le (Nat.le_refl _) (by omega))
    · unfold Dq.wSs
      exact hN _ _ ⟨rfl, rfl⟩
  obtain ⟨rfl, rfl⟩ := p
  refine seq1 ?_
  have hvar : TyE Γ (dE E) [some (.ref s), some v, some (.int w)] H2 s L (c + 1) (c + 1) (.var 2) (IsInt w w) := t_var rfl ⟨w, rfl, Int.le_refl _, Int.le_refl _⟩ stab_int st1
  have tail : TyE Γ (dE E) [some (.ref s), some v, some (.int w)] H2 s L (c + 1 + 1) (c + 1 + 1) (.lst (.cons (.tup (.cons (.str "len") .nil)) (.cons (.tup (.cons (.str "two") (.cons (.str "rem") .nil))) .nil))) (IsRows s L 2) := by
    refine t_lst (ts_cons (r1 (by decide +kernel)) stab_row (ts_cons (r2v (by decide +kernel) (by decide +kernel) t_str (fun v hv => by rw [of_decide_eq_true hv]; decide +kernel)) stab_row ts_nil)) stab_row (by omega) fun H vs ⟨v, r, e1, p1, v', r', e2, p2, e3⟩ => ?_
    subst e3; subst e2; subst e1
    refine ⟨Nat.zero_le _, Nat.le_refl _, fun x hx => ?_⟩
    rcases List.mem_cons.mp hx with rfl | hx
    · exact p1
    · rw [List.mem_singleton.mp hx]; exact p2
  exact ret_t st1 (t_ifx (P := IsRows s L (n + 3)) any_eq hvar t_int (d3 := c + 6) (t_imp (t_gen hn rfl t_int (by omega)) (by omega) fun H v p => p.le (Nat.le_refl _) (by omega))
    (t_imp (addR (addR (l1 (r2i (by decide +kernel) (t_draw F.draw rfl t_int (by omega) (by omega) (by omega)) (by omega) (by omega))) (t_var rfl hv1 (stab_lst stab_row) st1) (by omega)) tail (by omega)) (by omega) fun H v p => p.le (Nat.le_refl _) (by omega)))
    fun v2 H2 x2 st2 p2 => q v2 H2 (x1.trans x2) (st2.le (by omega)) p2
end Hk64

set_option maxHeartbeats 2000000
namespace Hk64
open PySem PySem.Spec PyProof.Rows L2 Dq
variable {Γ : Gam} {W : WX} {D : Ends} {σ : L2.St} {H : Hp} {s L : Addr} {d d' : Int} {e : Dq.CE} {P : VP}
/-- a slot's int -/
theorem v_int {Hs : Hp} {i : Nat} {x c0 : Int} (h : σ[i]? = some (some (.int x))) (st : Stm Hs s L c0) {lo hi : Int} (h1 : lo ≤ x) (h2 : x ≤ hi) : TyE Γ W σ Hs s L d d (.var i) (IsInt lo hi) := t_var h ⟨x, rfl, h1, h2⟩ stab_int st
theorem v_rows {Hs : Hp} {i : Nat} {v : V} {c0 : Int} {n : Nat} (h : σ[i]? = some (some v)) (st : Stm Hs s L c0) (hv : IsRows s L n Hs v) : TyE Γ W σ Hs s L d d (.var i) (IsRows s L n) := t_var h hv (stab_lst stab_row) st
theorem w_listed (F : GenFns Γ) (hn : Γ.fn "_law_w_number" (spGen 4 0 1 0)) {C : Int} {hi : Nat} {deep : Int} (hC : 2 ≤ C) (hh : 1 ≤ hi) (hb : 1 ≤ deep → 16 ≤ C ∧ 4 ≤ hi) (vs : List V) (H : Hp) (Q : VK) (E : XK) (h : spGen C 0 hi deep vs H Q E) : wSs Γ i__law_w_listed (dE E) (dD Q) (start l__law_w_listed.N vs) H := by
  obtain ⟨s, L, c, rfl, st, hc, q⟩ := h
  unfold i__law_w_listed
  refine seqP (P := fun σ' H' => 1 ≤ deep ∧ σ' = [some (.ref s), some (.int deep), none, none, none] ∧ Ex [s, L] H H' ∧ Stm H' s L (c + 1)) (fun N hN => ?_) fun σ1 H1 p => ?_
  · refine ifP (fun b H' => Ex [s, L] H H' ∧ Stm H' s L (c + 1) ∧ (b = false → 1 ≤ deep)) (fun N' hN' => ?_) (fun H' p => ?_) fun H' p => ?_
    · simp only [Dq.wT, Dq.wE, Dq.wEs]
      refine ⟨_, F.draw, _, rfl, s, L, c, 4, rfl, st, by omega, by omega, by omega, fun r H' _ _ x st' => gt_i ⟨_, rfl, ?_⟩⟩
      by_cases h1 : (0 : Int) < r
      · exact ifT (decide_eq_true h1) (hN' _ _ ⟨x, st', fun y => by cases y⟩)
      · refine ifF (decide_eq_false h1) ⟨_, rfl, lt_i ⟨_, rfl, hN' _ _ ⟨x, st', fun y => ?_⟩⟩⟩
        have := of_decide_eq_false y
        omega
    · obtain ⟨x, st', _⟩ := p
      refine seq1 (ret_t st' (l1 (r2i (by decide +kernel) (t_addi t_int (t_draw F.draw rfl t_int (by omega) (by omega) (by omega))) (by omega) (by omega))) fun v H2 x2 st2 p => q v H2 (x.trans x2) (st2.le (by omega)) (p.le (Nat.le_refl _) (by omega)))
    · obtain ⟨x, st', hd⟩ := p
      unfold Dq.wSs
      exact hN _ _ ⟨hd rfl, rfl, x, st'⟩
  obtain ⟨hd, rfl, x1, st1⟩ := p
  obtain ⟨hC16, hh4⟩ := hb hd
  refine seqP (P := fun σ' H' => ∃ many v, 1 ≤ many ∧ many ≤ 3 ∧ σ' = [some (.ref s), some (.int deep), none, some (.int many), some v] ∧ Ex [s, L] H H' ∧ Stm H' s L (c + 2) ∧ IsRows s L 0 H' v) (fun N hN => ?_) fun σ2 H2 p => ?_
  · simp only [Dq.wS, tPar, tCons, tNil]
    have t1 : TyE Γ (dE E) [some (.ref s), some (.int deep), none, none, none] H1 s L (c + 1) (c + 1 + 1) (.bin .Add (.int 1) (.call "_law_draw" (.cons (.var 0) (.cons (.int 3) .nil)))) (IsInt (1 + 0) (1 + (3 - 1))) := t_addi t_int (t_draw F.draw rfl t_int (by omega) (by omega) (by omega))
    refine t1 H1 _ ⟨Ex.refl, st1⟩ fun v H' cu x ⟨i, ei, k1, k2⟩ => ?_
    subst ei
    simp only [Dq.wE, Dq.wEs]
    refine ⟨by decide, fun p np => ⟨_, _, rfl, hN _ _ ⟨i, .ref p, by omega, by omega, rfl, (x1.trans x).trans (Ex.new np), ?_, p, [], rfl, cu.new np, upd_same, by decide, by decide, fun y hy => by cases hy⟩⟩⟩
    have := cu.st.ex (Ex.new (o := .lst []) np)
    exact this.le (by omega)
  obtain ⟨many, v, m1, m2, rfl, x2, st2, hv⟩ := p
  refine seqP (P := fun σ' H' => ∃ k v, σ' = [some (.ref s), some (.int deep), k, some (.int many), some v] ∧ Ex [s, L] H H' ∧ Stm H' s L (c + 2 + 12) ∧ IsRows s L 3 H' v) (fun N hN => ?_) fun σ3 H3 p => ?_
  · simp only [Dq.wS, tFor_eq, Dq.wI, iRng1, tCons, tNil, Dq.wE, gOf]
    refine .inl ⟨_, rfl, many, rfl, by omega, by omega, ?_⟩
    refine for_r (n := many.toNat) (fun i σ' H' => i ≤ 3 ∧ ∃ k v, σ' = [some (.ref s), some (.int deep), k, some (.int many), some v] ∧ Ex [s, L] H H' ∧ Stm H' s L (c + 2 + 4 * i) ∧ IsRows s L i H' v) ⟨by omega, none, v, rfl, x2, st2.le (by omega), hv⟩ (fun σ' H' p => ?_) fun i σ' H' hi p => ?_
    · obtain ⟨i3, k, v, e, x, st, r⟩ := p
      exact hN _ _ ⟨k, v, e, x, st.le (by omega), r.le (Nat.le_refl _) i3⟩
    · obtain ⟨i3, k, v, rfl, x, st, r⟩ := p
      show wSs Γ _ _ _ _ _
      refine seq1 ?_
      refine set_t (d' := c + 2 + 4 * i + 4) (N := wSs Γ .nil (dE E) _) st (addR (v_rows (n := i) rfl st r) (t_gen hn rfl t_int (by omega)) (by omega)) fun v' H'' x' st' p' => ?_
      unfold Dq.wSs
      exact ⟨by omega, _, v', rfl, x.trans x', st'.le (by omega), p'⟩
  obtain ⟨k, v3, rfl, x3, st3, hv3⟩ := p
  refine seq1 (ret_t st3 (addR (v_rows rfl st3 hv3) (l1 (r2i (by decide +kernel) (v_int (lo := 1) (hi := 3) rfl st3 m1 m2) (by omega) (by omega))) (by omega)) fun v H4 x4 st4 p => q v H4 (x3.trans x4) (st4.le (by omega)) (p.le (Nat.le_refl _) (by omega)))
set_option maxHeartbeats 4000000 in
/-- _law_w_number at a depth: what it leans on is asked only where it gets there -/
theorem w_gnum (F : GenFns Γ) {C C1 CL : Int} {hi n1 nl : Nat} {deep : Int} (hC : 4 ≤ C) (hh : 1 ≤ hi) (hb : 1 ≤ deep → Γ.fn "_law_w_number" (spGen C1 0 n1 (deep - 1)) ∧ Γ.fn "_law_w_listed" (spGen CL 0 nl (deep - 1)) ∧ Γ.fn "_law_w_index" (spIdx nl) ∧ 0 ≤ C1 ∧ 0 ≤ CL ∧ C1 + C1 + 2 ≤ C ∧ CL + 7 ≤ C ∧ CL + C1 + 2 ≤ C ∧ n1 + n1 + 1 ≤ hi ∧ nl + (nl + 3) + 1 ≤ hi ∧ n1 + nl + 1 ≤ hi ∧ hi ≤ 1000 ∧ C ≤ 100000)
    (vs : List V) (H : Hp) (Q : VK) (E : XK) (h : spGen C 0 hi deep vs H Q E) : wSs Γ i__law_w_number (dE E) (dD Q) (start l__law_w_number.N vs) H := by
  obtain ⟨s, L, c, rfl, st, hc, q⟩ := h
  unfold i__law_w_number
  refine seqP (P := fun σ' H' => ∃ w : Int, 0 ≤ w ∧ w ≤ 10 ∧ (deep ≤ 0 → w ≤ 4) ∧ σ' = [some (.ref s), some (.int deep), some (.int w), none, none] ∧ Ex [s, L] H H' ∧ Stm H' s L (c + 1)) (fun N hN => ?_) fun σ1 H1 p => ?_
  · unfold i__law_w_number_0
    simp only [Dq.wS, Dq.wE, Dq.wEs, Dq.wT]
    refine ⟨_, rfl, gt_i ⟨_, rfl, ?_⟩⟩
    by_cases hd : 0 < deep
    · exact ifT (decide_eq_true hd) ⟨_, F.draw, _, rfl, s, L, c, 11, rfl, st, by omega, by omega, by omega, fun r H' r1 r2 x st' => hN _ _ ⟨r, r1, by omega, fun y => by omega, rfl, x, st'⟩⟩
    · exact ifF (decide_eq_false hd) ⟨_, F.draw, _, rfl, s, L, c, 5, rfl, st, by omega, by omega, by omega, fun r H' r1 r2 x st' => hN _ _ ⟨r, r1, by omega, fun y => by omega, rfl, x, st'⟩⟩
  obtain ⟨w, w0, w10, wd, rfl, x1, st1⟩ := p
  refine seqP (P := fun σ' H' => 2 ≤ w ∧ σ' = [some (.ref s), some (.int deep), some (.int w), none, none] ∧ H' = H1) (fun N hN => ?_) fun σ2 H2 p => ?_
  · unfold i__law_w_number_1
    refine if_lt rfl (fun hw => ?_) fun hw => ?_
    · unfold i__law_w_number_1a
      refine seq1 ?_
      unfold i__law_w_number_1a_0
      refine ret_t st1 (l1 (t_row (ts_cons t_str stab_v (ts_cons (pickV (vs := [.int 0, .int 1, .int 1, .int 2, .int 3, .int 7, .int 2147483647, .int (-1)]) (p := gdV) F.pick rfl rfl (by decide) (by decide) (by decide +kernel) (by omega)) stab_v ts_nil)) fun H vs ⟨v, r, e, ⟨p1, _⟩, v2, r2, e2, ⟨p2, _⟩, e'⟩ => ?_)) fun v H2 x2 st2 p => q v H2 (x1.trans x2) (st2.le (by omega)) (p.le (Nat.le_refl _) (by omega))
      subst e'; subst e2; subst e
      rw [of_decide_eq_true p1]
      show (gd "push" && (([v2].all gdV) && (decide (([v2] : List V).length ≤ 2) && (!(decide (("push" : Str) = "jump") || decide (("push" : Str) = "part")) || _)))) = true
      rw [List.all_cons, p2, show gd "push" = true from by decide +kernel, show (decide (("push" : Str) = "jump") || decide (("push" : Str) = "part")) = false from by decide +kernel]; simp
    · unfold Dq.wSs
      exact hN _ _ ⟨by omega, rfl, rfl⟩
  obtain ⟨hw2, rfl, rfl⟩ := p
  refine seqP (P := fun σ' H' => 5 ≤ w ∧ σ' = [some (.ref s), some (.int deep), some (.int w), none, none] ∧ H' = H2) (fun N hN => ?_) fun σ3 H3 p => ?_
  · unfold i__law_w_number_2
    refine if_lt rfl (fun hw => ?_) fun hw => ?_
    · unfold i__law_w_number_2a
      refine seq1 ?_
      unfold i__law_w_number_2a_0
      have pk : TyE Γ (dE E) [some (.ref s), some (.int deep), some (.int w), none, none] H2 s L (c + 1 + 1) (c + 1 + 1 + 1) (.call "_law_pick" (.cons (.var 0) (.cons (.lst (.cons (.int 0) (.cons (.int 1) (.cons (.int 2) (.cons (.int 0) (.cons (.int 1) (.cons (.int 2) (.cons (.int 2) (.cons (.int 3) .nil))))))))) .nil))) (IsInt 0 3) :=
        t_imp (pickV (vs := [.int 0, .int 1, .int 2, .int 0, .int 1, .int 2, .int 2, .int 3]) (p := fun v => match v with | .int i => decide (0 ≤ i) && decide (i ≤ 3) | _ => false) F.pick rfl rfl (by decide) (by decide) (by decide +kernel) (by omega)) (by omega) fun H v ⟨p, _⟩ => by
          cases v with
          | int i =>
            have := Bool.and_eq_true_iff.mp p
            exact ⟨i, rfl, of_decide_eq_true this.1, of_decide_eq_true this.2⟩
          | _ => cases p
      have dr : TyE Γ (dE E) [some (.ref s), some (.int deep), some (.int w), none, none] H2 s L (c + 1 + 1) (c + 1 + 1 + 1) (.call "_law_draw" (.cons (.var 0) (.cons (.int 3) .nil))) (IsInt 0 3) :=
        t_imp (t_draw F.draw rfl t_int (by omega) (by omega) (by omega)) (by omega) fun H v ⟨i, e, a, b⟩ => ⟨i, e, a, by omega⟩
      exact ret_t st1 (l1 (r2i (by decide +kernel) (t_ifx any_eq (t_draw F.draw rfl t_int (by omega) (by omega) (by omega)) t_int pk dr) (by omega) (by omega))) fun v H2 x2 st2 p => q v H2 (x1.trans x2) (st2.le (by omega)) (p.le (Nat.le_refl _) (by omega))
    · unfold Dq.wSs
      exact hN _ _ ⟨by omega, rfl, rfl⟩
  obtain ⟨hw5, rfl, rfl⟩ := p
  have hd : 1 ≤ deep := Int.not_lt.mp fun y => by have := wd (by omega); omega
  obtain ⟨hn, hl, hx, c1p, clp, b1, b2, b3, b4, b5, b6, b7, b8⟩ := hb hd
  have arg : ∀ {σ : L2.St} {Hs : Hp} {c0 d : Int}, σ[1]? = some (some (.int deep)) → Stm Hs s L c0 → TyE Γ (dE E) σ Hs s L d d (.bin .Sub (.var 1) (.int 1)) (IsInt (deep - 1) (deep - 1)) := fun h st => t_subi (v_int h st (Int.le_refl _) (Int.le_refl _)) t_int
  refine seqP (P := fun σ' H' => 8 ≤ w ∧ σ' = [some (.ref s), some (.int deep), some (.int w), none, none] ∧ H' = H3) (fun N hN => ?_) fun σ4 H4 p => ?_
  · unfold i__law_w_number_3
    refine if_lt rfl (fun hw => ?_) fun hw => ?_
    · unfold i__law_w_number_3a
      refine seqP (P := fun σ' H' => ∃ op, gdV op = true ∧ flatV op = true ∧ σ' = [some (.ref s), some (.int deep), some (.int w), none, some op] ∧ Ex [s, L] H3 H' ∧ Stm H' s L (c + 1 + 1)) (fun N hN => ?_) fun σ5 H5 p => ?_
      · unfold i__law_w_number_3a_0
        exact set_t st1 (pickV (vs := [.str "+", .str "-", .str "+", .str "-", .str "*", .str "/", .str "rem", .str "==", .str "<", .str "<="]) (p := gdV) F.pick rfl rfl (by decide) (by decide) (by decide +kernel) (by omega)) fun v H' x st' ⟨p1, p2⟩ => hN _ _ ⟨v, p1, p2, rfl, x, st'⟩
      obtain ⟨op, o1, o2, rfl, x5, st5⟩ := p
      refine seq1 ?_
      unfold i__law_w_number_3a_1
      have opv : ∀ {d : Int}, TyE Γ (dE E) [some (.ref s), some (.int deep), some (.int w), none, some op] H5 s L d d (.var 4) (IsV gdV) := t_var rfl ⟨o1, o2⟩ stab_v st5
      exact ret_t st5 (addR (addR (t_gen hn rfl (arg rfl st5) (by omega)) (t_gen hn rfl (arg rfl st5) (by omega)) (by omega)) (l1 (r2v (by decide +kernel) (by decide +kernel) opv fun _ h => h)) (by omega)) fun v H6 x6 st6 p => q v H6 ((x1.trans x5).trans x6) (st6.le (by omega)) (p.le (Nat.le_refl _) (by omega))
    · unfold Dq.wSs
      exact hN _ _ ⟨by omega, rfl, rfl⟩
  obtain ⟨hw8, rfl, rfl⟩ := p
  refine seqP (P := fun σ' H' => 9 ≤ w ∧ σ' = [some (.ref s), some (.int deep), some (.int w), none, none] ∧ H' = H4) (fun N hN => ?_) fun σ5 H5 p => ?_
  · unfold i__law_w_number_4
    refine if_eq rfl (fun hw => ?_) fun hw => ?_
    · unfold i__law_w_number_4a
      refine seq1 ?_
      unfold i__law_w_number_4a_0
      have three : TyE Γ (dE E) [some (.ref s), some (.int deep), some (.int w), none, none] H4 s L (c + 1 + C1) (c + 1 + C1) (.lst (.cons (.tup (.cons (.str "one") (.cons (.str "-") .nil))) (.cons (.tup (.cons (.str "one") (.cons (.str "not") .nil))) (.cons (.tup (.cons (.str "truth") .nil)) .nil)))) (IsLst s L IsRow 3 3) := by
        refine t_lst (ts_cons (r2v (by decide +kernel) (by decide +kernel) t_str (fun v hv => by rw [of_decide_eq_true hv]; decide +kernel)) stab_row (ts_cons (r2v (by decide +kernel) (by decide +kernel) t_str (fun v hv => by rw [of_decide_eq_true hv]; decide +kernel)) stab_row (ts_cons (r1 (by decide +kernel)) stab_row ts_nil))) stab_row (by omega) fun H vs ⟨v, r, e1, p1, v', r', e2, p2, v3, r3, e3, p3, e4⟩ => ?_
        subst e4; subst e3; subst e2; subst e1
        refine ⟨Nat.le_refl _, Nat.le_refl _, fun x hx => ?_⟩
        simp only [List.mem_cons, List.not_mem_nil, or_false] at hx
        rcases hx with rfl | rfl | rfl
        · exact p1
        · exact p2
        · exact p3
      exact ret_t st1 (addR (t_gen hn rfl (arg rfl st1) (by omega)) (l1 (t_pick F.pick rfl three stab_row (by omega) (by omega) (by omega))) (by omega)) fun v H6 x6 st6 p => q v H6 (x1.trans x6) (st6.le (by omega)) (p.le (Nat.le_refl _) (by omega))
    · unfold Dq.wSs
      exact hN _ _ ⟨by omega, rfl, rfl⟩
  obtain ⟨hw9, rfl, rfl⟩ := p
  refine seqP (P := fun σ' H' => ∃ sm, σ' = [some (.ref s), some (.int deep), some (.int w), some sm, none] ∧ Ex [s, L] H5 H' ∧ Stm H' s L (c + 1 + CL) ∧ IsRows s L nl H' sm) (fun N hN => ?_) fun σ6 H6 p => ?_
  · unfold i__law_w_number_5
    exact set_t st1 (t_gen hl rfl (arg rfl st1) (by omega)) fun v H' x st' p => hN _ _ ⟨v, rfl, x, st', p⟩
  obtain ⟨sm, rfl, x6, st6, hsm⟩ := p
  refine seqP (P := fun σ' H' => σ' = [some (.ref s), some (.int deep), some (.int w), some sm, none] ∧ H' = H6) (fun N hN => ?_) fun σ7 H7 p => ?_
  · unfold i__law_w_number_6
    refine if_eq rfl (fun hw => ?_) fun hw => ?_
    · unfold i__law_w_number_6a
      refine seq1 ?_
      unfold i__law_w_number_6a_0
      have ti : TyE Γ (dE E) [some (.ref s), some (.int deep), some (.int w), some sm, none] H6 s L (c + 1 + CL) (c + 1 + CL + 6) (.call "_law_w_index" (.cons (.var 0) (.cons (.var 3) .nil))) (IsRows s L (nl + 3)) := fun H N cu qq => by
        simp only [Dq.wE, Dq.wEs]
        exact ⟨_, hx, _, rfl, _, rfl, s, L, _, sm, rfl, cu.st, by omega, stab_lst stab_row _ _ _ _ st6 cu.sl hsm, fun v H' x st' p => qq v H' ⟨cu.sl.trans x, st'⟩ x p⟩
      exact ret_t st6 (addR (addR (v_rows rfl st6 hsm) ti (by omega)) (l1 (r1 (by decide +kernel))) (by omega)) fun v H8 x8 st8 p => q v H8 ((x1.trans x6).trans x8) (st8.le (by omega)) (p.le (Nat.le_refl _) (by omega))
    · unfold Dq.wSs
      exact hN _ _ ⟨rfl, rfl⟩
  obtain ⟨rfl, rfl⟩ := p
  refine seq1 ?_
  unfold i__law_w_number_7
  have call3 : ∀ {d : Int}, TyE Γ (dE E) [some (.ref s), some (.int deep), some (.int w), some sm, none] H7 s L d d (.tup (.cons (.str "call") (.cons (.str "gg") (.cons (.int 2) .nil)))) IsRow := fun {d} => by
    refine t_row (ts_cons t_str stab_v (ts_cons t_str stab_v (ts_cons t_int stab_int ts_nil))) fun H vs ⟨v, r, e1, ⟨p1, _⟩, v', r', e2, ⟨p2, _⟩, v3, r3, e3, ⟨i, ei, a1, a2⟩, e4⟩ => ?_
    subst e4; subst e3; subst e2; subst e1; subst ei
    rw [of_decide_eq_true p1, of_decide_eq_true p2, show i = 2 from by omega]
    decide +kernel
  exact ret_t st6 (t_ifx (P := IsRows s L hi) (d3 := c + C) any_eq (t_draw F.draw rfl t_int (by omega) (by omega) (by omega)) t_int
    (t_imp (addR (v_rows rfl st6 hsm) (l1 (r1 (by decide +kernel))) (by omega)) (by omega) fun H v p => p.le (Nat.le_refl _) (by omega))
    (t_imp (addR (addR (t_gen hn rfl (arg rfl st6) (by omega)) (v_rows rfl st6 hsm) (by omega)) (l1 call3) (by omega)) (by omega) fun H v p => p.le (Nat.le_refl _) (by omega)))
    fun v H8 x8 st8 p => q v H8 ((x1.trans x6).trans x8) (st8.le (by omega)) p
end Hk64

set_option maxHeartbeats 2000000
namespace Hk64
open PySem PySem.Spec PyProof.Rows L2 Dq
variable {Γ : Gam} {W : WX} {D : Ends} {σ : L2.St} {H : Hp} {s L : Addr} {d d' : Int} {e : Dq.CE} {P : VP}
structure GenAll (Γ : Gam) : Prop where
  base : GenFns Γ
  num2 : Γ.fn "_law_w_number" (spGen 28 0 13 2)
  num1 : Γ.fn "_law_w_number" (spGen 10 0 6 1)
  lst1 : Γ.fn "_law_w_listed" (spGen 16 0 4 1)
  lst2 : Γ.fn "_law_w_listed" (spGen 16 0 4 2)
  idx : Γ.fn "_law_w_index" (spIdx 4)
theorem gdL {x : Str} (hx : gd x = true) : ∀ v : V, (decide (v = .str x)) = true → gdV v = true := fun v hv => by rw [of_decide_eq_true hv]; exact hx
/-- four rows -/
theorem l4 {Hs : Hp} {a b c e : Dq.CE} {d1 d2 d3 d4 : Int} (ha : TyE Γ W σ Hs s L d d1 a IsRow) (hb : TyE Γ W σ Hs s L d1 d2 b IsRow) (hc : TyE Γ W σ Hs s L d2 d3 c IsRow) (he : TyE Γ W σ Hs s L d3 d4 e IsRow) : TyE Γ W σ Hs s L d d4 (.lst (.cons a (.cons b (.cons c (.cons e .nil))))) (IsRows s L 4) :=
  t_lst (ts_cons ha stab_row (ts_cons hb stab_row (ts_cons hc stab_row (ts_cons he stab_row ts_nil)))) stab_row (by omega) fun H vs ⟨v, r, e1, p1, v2, r2, e2, p2, v3, r3, e3, p3, v4, r4, e4, p4, e5⟩ => by
    subst e5; subst e4; subst e3; subst e2; subst e1
    refine ⟨Nat.zero_le _, Nat.le_refl _, fun x hx => ?_⟩
    simp only [List.mem_cons, List.not_mem_nil, or_false] at hx
    rcases hx with rfl | rfl | rfl | rfl
    · exact p1
    · exact p2
    · exact p3
    · exact p4
/-- one turn of _law_w_rows -/
theorem rows_turn (F : GenAll Γ) {C0 : Int} {R0 B : Nat} {CB : Int} {deep way c : Int} {k a5 a6 a7 a8 a9 : Option V} {fv : V} {n : Nat} (hR : 6 ≤ way → Γ.fn "_law_w_rows" (spGen C0 0 R0 0) ∧ deep = 1) (hB : 18 ≤ B) (hCB : 40 ≤ CB) (hR0 : 6 ≤ way → 0 ≤ C0 ∧ C0 + C0 + 12 ≤ CB ∧ 8 + R0 + R0 ≤ B ∧ 10 + R0 ≤ B) (hn : n + B ≤ 10000) (st : Stm H s L c) (hc : c + CB ≤ 1099511627776) (hf : IsRows s L n H fv)
    {N : L2.St → Hp → Prop} (hN : ∀ v b5 b6 b7 b8 b9 H', Ex [s, L] H H' → Stm H' s L (c + CB) → IsRows s L (n + B) H' v → N [some (.ref s), some (.int deep), some v, k, some (.int way), b5, b6, b7, b8, b9] H') :
    wS Γ i__law_w_rows_1a_1 W { D with nx := N } [some (.ref s), some (.int deep), some fv, k, some (.int way), a5, a6, a7, a8, a9] H := by
  have G := F.base
  have fin : ∀ {b5 b6 b7 b8 b9 : Option V} {e : Dq.CE} {H1 : Hp} {c1 c2 : Int} {m : Nat} {M : L2.St → Hp → Prop} {D' : Ends}, (∀ σ H, N σ H → M σ H) → Ex [s, L] H H1 → Stm H1 s L c1 → c2 ≤ c + CB → m ≤ n + B → TyE Γ W [some (.ref s), some (.int deep), some fv, k, some (.int way), b5, b6, b7, b8, b9] H1 s L c1 c2 e (IsRows s L m) → wS Γ (.set 2 e) W { D' with nx := M } [some (.ref s), some (.int deep), some fv, k, some (.int way), b5, b6, b7, b8, b9] H1 := by
    intro b5 b6 b7 b8 b9 e H1 c1 c2 m M D' hM x1 st1 h1 h2 h
    exact set_t (N := M) st1 h fun v H' x st' p => hM _ _ (hN v _ _ _ _ _ H' (x1.trans x) (st'.le h1) (p.le (Nat.le_refl _) h2))
  have nilS : ∀ {D' : Ends} (σ : L2.St) (H : Hp), D'.nx σ H → wSs Γ .nil W D' σ H := fun σ H h => by unfold Dq.wSs; exact h
  have fvar : ∀ {b5 b6 b7 b8 b9 : Option V} {H1 : Hp} {c1 d : Int}, Ex [s, L] H H1 → Stm H1 s L c1 → TyE Γ W [some (.ref s), some (.int deep), some fv, k, some (.int way), b5, b6, b7, b8, b9] H1 s L d d (.var 2) (IsRows s L n) := fun x st1 => v_rows rfl st1 (stab_lst stab_row _ _ _ _ st x hf)
  have dr : ∀ {τ : L2.St} {H1 : Hp} {d m : Int}, τ[0]? = some (some (.ref s)) → 1 ≤ m → m ≤ 100 → d ≤ 1099511627776 → TyE Γ W τ H1 s L d (d + 1) (.call "_law_draw" (.cons (.var 0) (.cons (.int m) .nil))) (IsInt 0 (m - 1)) := fun h h1 h2 h3 => t_draw G.draw h t_int h1 (by omega) h3
  unfold i__law_w_rows_1a_1
  refine if_lt rfl (fun hw => ?_) fun hw => ?_
  · unfold i__law_w_rows_1a_1a
    refine seqP (P := N) (fun M hM => ?_) fun σ' H' p => nilS _ _ p
    unfold i__law_w_rows_1a_1a_0
    exact fin hM Ex.refl st (by omega) (by omega) (addR (addR (fvar Ex.refl st) (t_gen F.num2 rfl t_int (by omega)) (by omega)) (l1 (r2i (by decide +kernel) (dr rfl (by omega) (by omega) (by omega)) (by omega) (by omega))) (by omega))
  unfold i__law_w_rows_1a_1b
  refine seqP (P := N) (fun M hM => ?_) fun σ' H' p => nilS _ _ p
  unfold i__law_w_rows_1a_1b_0
  refine if_eq rfl (fun hw2 => ?_) fun hw2 => ?_
  · unfold i__law_w_rows_1a_1b_0a
    refine seqP (P := N) (fun M' hM' => ?_) fun σ' H' p => nilS _ _ (hM _ _ p)
    unfold i__law_w_rows_1a_1b_0a_0
    exact fin hM' Ex.refl st (by omega) (by omega) (addR (addR (fvar Ex.refl st) (t_ifx (P := IsRows s L 6) (d3 := c + 17) any_gt (dr rfl (by omega) (by omega) (by omega)) t_int (t_imp (t_gen F.num1 rfl t_int (by omega)) (by omega) fun H v p => p) (t_imp (t_gen F.lst1 rfl t_int (by omega)) (by omega) fun H v p => p.le (Nat.le_refl _) (by omega))) (by omega)) (l1 (r1 (by decide +kernel))) (by omega))
  unfold i__law_w_rows_1a_1b_0b
  refine seqP (P := N) (fun M1 hM1 => ?_) fun σ' H' p => nilS _ _ (hM _ _ p)
  unfold i__law_w_rows_1a_1b_0b_0
  refine if_eq rfl (fun hw3 => ?_) fun hw3 => ?_
  · unfold i__law_w_rows_1a_1b_0b_0a
    refine seqP (P := fun σ' H' => ∃ sv, σ' = [some (.ref s), some (.int deep), some fv, k, some (.int way), some sv, a6, a7, a8, a9] ∧ Ex [s, L] H H' ∧ Stm H' s L (c + 16) ∧ IsRows s L 4 H' sv) (fun M' hM' => ?_) fun σ1 H1 p => ?_
    · unfold i__law_w_rows_1a_1b_0b_0a_0
      exact set_t st (t_gen F.lst1 rfl t_int (by omega)) fun v H' x st' p => hM' _ _ ⟨v, rfl, x, st', p⟩
    obtain ⟨sv, rfl, x1, st1, hsv⟩ := p
    refine seqP (P := N) (fun M' hM' => ?_) fun σ' H' p => nilS _ _ (hM1 _ _ p)
    unfold i__law_w_rows_1a_1b_0b_0a_1
    have ti : TyE Γ W [some (.ref s), some (.int deep), some fv, k, some (.int way), some sv, a6, a7, a8, a9] H1 s L (c + 16) (c + 16 + 6) (.call "_law_w_index" (.cons (.var 0) (.cons (.var 5) .nil))) (IsRows s L (4 + 3)) := fun H N cu qq => by
      simp only [Dq.wE, Dq.wEs]
      exact ⟨_, F.idx, _, rfl, _, rfl, s, L, _, sv, rfl, cu.st, by omega, stab_lst stab_row _ _ _ _ st1 cu.sl hsv, fun v H' x st' p => qq v H' ⟨cu.sl.trans x, st'⟩ x p⟩
    exact fin hM' x1 st1 (by omega) (by omega) (addR (addR (addR (addR (fvar x1 st1) (v_rows rfl st1 hsv) (by omega)) ti (by omega)) (t_gen F.num1 rfl t_int (by omega)) (by omega)) (l1 (r1 (by decide +kernel))) (by omega))
  unfold i__law_w_rows_1a_1b_0b_0b
  refine seqP (P := N) (fun M2 hM2 => ?_) fun σ' H' p => nilS _ _ (hM1 _ _ p)
  unfold i__law_w_rows_1a_1b_0b_0b_0
  refine if_eq rfl (fun hw4 => ?_) fun hw4 => ?_
  · unfold i__law_w_rows_1a_1b_0b_0b_0a
    refine seqP (P := N) (fun M' hM' => ?_) fun σ' H' p => nilS _ _ (hM2 _ _ p)
    unfold i__law_w_rows_1a_1b_0b_0b_0a_0
    exact fin hM' Ex.refl st (by omega) (by omega) (addR (addR (fvar Ex.refl st) (t_gen F.lst2 rfl t_int (by omega)) (by omega)) (l1 (r2i (by decide +kernel) (t_addi t_int (dr rfl (by omega) (by omega) (by omega))) (by omega) (by omega))) (by omega))
  unfold i__law_w_rows_1a_1b_0b_0b_0b
  refine seqP (P := N) (fun M3 hM3 => ?_) fun σ' H' p => nilS _ _ (hM2 _ _ p)
  unfold i__law_w_rows_1a_1b_0b_0b_0b_0
  refine if_eq rfl (fun hw5 => ?_) fun hw5 => ?_
  · unfold i__law_w_rows_1a_1b_0b_0b_0b_0a
    refine seqP (P := N) (fun M' hM' => ?_) fun σ' H' p => nilS _ _ (hM3 _ _ p)
    unfold i__law_w_rows_1a_1b_0b_0b_0b_0a_0
    exact fin hM' Ex.refl st (by omega) (by omega) (addR (addR (fvar Ex.refl st) (t_gen F.num1 rfl t_int (by omega)) (by omega)) (l1 (r1 (by decide +kernel))) (by omega))
  have w6 : 6 ≤ way := by omega
  obtain ⟨hrec, rfl⟩ := hR w6
  obtain ⟨C0p, q1, q2, q3⟩ := hR0 w6
  unfold i__law_w_rows_1a_1b_0b_0b_0b_0b
  refine seqP (P := N) (fun M4 hM4 => ?_) fun σ' H' p => nilS _ _ (hM3 _ _ p)
  unfold i__law_w_rows_1a_1b_0b_0b_0b_0b_0
  refine if_lt rfl (fun hw8 => ?_) fun hw8 => ?_
  · unfold i__law_w_rows_1a_1b_0b_0b_0b_0b_0a
    refine seqP (P := fun σ' H' => ∃ bv ov, σ' = [some (.ref s), some (.int 1), some fv, k, some (.int way), a5, some bv, a7, a8, some ov] ∧ Ex [s, L] H H' ∧ Stm H' s L (c + C0 + C0) ∧ IsRows s L R0 H' bv ∧ IsRows s L R0 H' ov) (fun M' hM' => ?_) fun σ1 H1 p => ?_
    · unfold i__law_w_rows_1a_1b_0b_0b_0b_0b_0a_0
      simp only [Dq.wS, tPar, tCons, tNil]
      have t1 : TyE Γ W [some (.ref s), some (.int 1), some fv, k, some (.int way), a5, a6, a7, a8, a9] H s L c (c + C0) (.call "_law_w_rows" (.cons (.var 0) (.cons (.bin .Sub (.var 1) (.int 1)) .nil))) (IsRows s L R0) := t_gen hrec rfl (t_imp (t_subi (v_int (lo := 1) (hi := 1) rfl st (by omega) (by omega)) t_int) (Int.le_refl _) fun H v ⟨i, e, a, b⟩ => ⟨i, e, by omega, by omega⟩) (by omega)
      have t2 : TyE Γ W [some (.ref s), some (.int 1), some fv, k, some (.int way), a5, a6, a7, a8, a9] H s L (c + C0) (c + C0 + C0) (.call "_law_w_rows" (.cons (.var 0) (.cons (.int 0) .nil))) (IsRows s L R0) := t_gen hrec rfl t_int (by omega)
      refine t1 H _ ⟨Ex.refl, st⟩ fun v H' cu x p => t2 H' _ cu fun v2 H2 cu2 x2 p2 => ⟨v, v2, rfl, hM' _ _ ⟨v, v2, rfl, x.trans x2, cu2.st, stab_lst stab_row _ _ _ _ cu.st x2 p, p2⟩⟩
    obtain ⟨bv, ov, rfl, x1, st1, hbv, hov⟩ := p
    refine seqP (P := N) (fun M' hM' => ?_) fun σ' H' p => nilS _ _ (hM4 _ _ p)
    unfold i__law_w_rows_1a_1b_0b_0b_0b_0b_0a_1
    exact fin hM' x1 st1 (by omega) (by omega) (addR (addR (addR (addR (addR (fvar x1 st1) (t_gen F.num1 rfl t_int (by omega)) (by omega)) (l1 (r2i (by decide +kernel) (t_addi (t_len (v_rows rfl st1 hbv)) t_int) (by omega) (by omega))) (by omega)) (v_rows rfl st1 hbv) (by omega)) (l1 (r2i (by decide +kernel) (t_len (v_rows rfl st1 hov)) (by omega) (by omega))) (by omega)) (v_rows rfl st1 hov) (by omega))
  · unfold i__law_w_rows_1a_1b_0b_0b_0b_0b_0b
    refine seqP (P := fun σ' H' => ∃ bv, σ' = [some (.ref s), some (.int 1), some fv, k, some (.int way), a5, some bv, a7, a8, a9] ∧ Ex [s, L] H H' ∧ Stm H' s L (c + C0) ∧ IsRows s L R0 H' bv) (fun M' hM' => ?_) fun σ1 H1 p => ?_
    · unfold i__law_w_rows_1a_1b_0b_0b_0b_0b_0b_0
      exact set_t st (t_gen hrec rfl t_int (by omega)) fun v H' x st' p => hM' _ _ ⟨v, rfl, x, st', p⟩
    obtain ⟨bv, rfl, x1, st1, hbv⟩ := p
    refine seqP (P := fun σ' H' => ∃ tv, σ' = [some (.ref s), some (.int 1), some fv, k, some (.int way), a5, some bv, some tv, a8, a9] ∧ Ex [s, L] H1 H' ∧ Stm H' s L (c + C0) ∧ IsRows s L 4 H' tv) (fun M' hM' => ?_) fun σ2 H2 p => ?_
    · unfold i__law_w_rows_1a_1b_0b_0b_0b_0b_0b_1
      exact set_t st1 (l4 (r2i (by decide +kernel) t_int (by omega) (by omega)) (r2i (by decide +kernel) t_int (by omega) (by omega)) (r2v (by decide +kernel) (by decide +kernel) t_str (gdL (by decide +kernel))) (r2i (by decide +kernel) t_int (by omega) (by omega))) fun v H' x st' p => hM' _ _ ⟨v, rfl, x, st', p⟩
    obtain ⟨tv, rfl, x2, st2, htv⟩ := p
    have hbv2 := stab_lst stab_row _ _ _ _ st1 x2 hbv
    refine seqP (P := fun σ' H' => ∃ av, σ' = [some (.ref s), some (.int 1), some fv, k, some (.int way), a5, some bv, some tv, some av, a9] ∧ Ex [s, L] H2 H' ∧ Stm H' s L (c + C0 + 1) ∧ IsRows s L 4 H' av) (fun M' hM' => ?_) fun σ3 H3 p => ?_
    · unfold i__law_w_rows_1a_1b_0b_0b_0b_0b_0b_2
      exact set_t st2 (l4 (r2i (by decide +kernel) t_int (by omega) (by omega)) (r2i (by decide +kernel) (t_addi t_int (dr rfl (by omega) (by omega) (by omega))) (by omega) (by omega)) (r2v (by decide +kernel) (by decide +kernel) t_str (gdL (by decide +kernel))) (r2i (by decide +kernel) (t_addi (t_len (v_rows rfl st2 hbv2)) t_int) (by omega) (by omega))) fun v H' x st' p => hM' _ _ ⟨v, rfl, x, st', p⟩
    obtain ⟨av, rfl, x3, st3, hav⟩ := p
    have hbv3 := stab_lst stab_row _ _ _ _ st2 x3 hbv2
    have htv3 := stab_lst stab_row _ _ _ _ st2 x3 htv
    refine seqP (P := N) (fun M' hM' => ?_) fun σ' H' p => nilS _ _ (hM4 _ _ p)
    unfold i__law_w_rows_1a_1b_0b_0b_0b_0b_0b_3
    have xx := (x1.trans x2).trans x3
    exact fin hM' xx st3 (by omega) (by omega) (addR (addR (addR (addR (addR (fvar xx st3) (l1 (r2i (by decide +kernel) t_int (by omega) (by omega))) (by omega)) (v_rows rfl st3 hav) (by omega)) (v_rows rfl st3 hbv3) (by omega)) (v_rows rfl st3 htv3) (by omega)) (l1 (r2i (by decide +kernel) (t_subi (t_subi t_int (t_len (v_rows rfl st3 hbv3))) t_int) (by omega) (by omega))) (by omega))
/-- _law_w_rows at a depth -/
theorem w_grows (F : GenAll Γ) {C0 C CB : Int} {R0 R B : Nat} {deep : Int} (hd : deep = 0 ∨ deep = 1) (hR : deep = 1 → Γ.fn "_law_w_rows" (spGen C0 0 R0 0) ∧ 0 ≤ C0 ∧ C0 + C0 + 12 ≤ CB ∧ 8 + R0 + R0 ≤ B ∧ 10 + R0 ≤ B) (hB : 18 ≤ B) (hB2 : B ≤ 2000) (hCB : 40 ≤ CB) (hCB2 : CB ≤ 100000) (h1 : 1 + 3 * (CB + 1) ≤ C) (h2 : 3 * B ≤ R)
    (vs : List V) (H : Hp) (Q : VK) (E : XK) (h : spGen C 0 R deep vs H Q E) : wSs Γ i__law_w_rows (dE E) (dD Q) (start l__law_w_rows.N vs) H := by
  obtain ⟨s, L, c, rfl, st, hc, q⟩ := h
  have G := F.base
  unfold i__law_w_rows
  refine seqP (P := fun σ' H' => ∃ v, σ' = [some (.ref s), some (.int deep), some v, none, none, none, none, none, none, none] ∧ Ex [s, L] H H' ∧ Stm H' s L c ∧ IsRows s L 0 H' v) (fun N hN => ?_) fun σ1 H1 p => ?_
  · unfold i__law_w_rows_0
    refine set_t st (t_lst (P := IsRow) (lo := 0) (hi := 0) ts_nil stab_row (by omega) fun H vs e => ?_) fun v H' x st' p => hN _ _ ⟨v, rfl, x, st', p⟩
    subst e
    exact ⟨Nat.le_refl _, Nat.le_refl _, fun x hx => by cases hx⟩
  obtain ⟨v, rfl, x1, st1, hv⟩ := p
  refine seqP (P := fun σ' H' => ∃ v b3 b4 b5 b6 b7 b8 b9, σ' = [some (.ref s), some (.int deep), some v, b3, b4, b5, b6, b7, b8, b9] ∧ Ex [s, L] H H' ∧ Stm H' s L (c + C) ∧ IsRows s L R H' v) (fun N hN => ?_) fun σ2 H2 p => ?_
  · unfold i__law_w_rows_1
    simp only [Dq.wS, tFor_eq, Dq.wI, iRng1, tCons, tNil, gOf]
    refine .inl ?_
    have tn : TyE Γ (dE E) [some (.ref s), some (.int deep), some v, none, none, none, none, none, none, none] H1 s L c (c + 1) (.bin .Add (.int 1) (.call "_law_draw" (.cons (.var 0) (.cons (.int 3) .nil)))) (IsInt (1 + 0) (1 + (3 - 1))) := t_addi t_int (t_draw G.draw rfl t_int (by omega) (by omega) (by omega))
    refine tn H1 _ ⟨Ex.refl, st1⟩ fun nv Hn cn xn ⟨many, em, m1, m2⟩ => ?_
    subst em
    refine ⟨many, rfl, by omega, by omega, ?_⟩
    refine for_r (n := many.toNat) (fun i σ' H' => i ≤ 3 ∧ ∃ v b3 b4 b5 b6 b7 b8 b9, σ' = [some (.ref s), some (.int deep), some v, b3, b4, b5, b6, b7, b8, b9] ∧ Ex [s, L] H H' ∧ Stm H' s L (c + 1 + (CB + 1) * i) ∧ IsRows s L (B * i) H' v) ⟨by omega, v, _, _, _, _, _, _, _, rfl, x1.trans xn, cn.st.le (by simp), stab_lst stab_row _ _ _ _ st1 xn hv⟩ (fun σ' H' p => ?_) fun i σ' H' hi p => ?_
    · obtain ⟨i3, v, b3, b4, b5, b6, b7, b8, b9, e, x, st, r⟩ := p
      have k1 : (CB + 1) * (many.toNat : Int) ≤ (CB + 1) * 3 := Int.mul_le_mul_of_nonneg_left (by omega) (by omega)
      have k2 : B * many.toNat ≤ B * 3 := Nat.mul_le_mul_left _ i3
      exact hN _ _ ⟨v, b3, b4, b5, b6, b7, b8, b9, e, x, st.le (by omega), r.le (Nat.le_refl _) (by omega)⟩
    · obtain ⟨i3, v, b3, b4, b5, b6, b7, b8, b9, rfl, x, st, r⟩ := p
      have i2 : i ≤ 2 := by omega
      have k1 : (CB + 1) * (i : Int) ≤ (CB + 1) * 2 := Int.mul_le_mul_of_nonneg_left (by omega) (by omega)
      have k2 : B * i ≤ B * 2 := Nat.mul_le_mul_left _ i2
      have k3 : (CB + 1) * ((i + 1 : Nat) : Int) = (CB + 1) * (i : Int) + (CB + 1) := by
        rw [show ((i + 1 : Nat) : Int) = (i : Int) + 1 from rfl, Int.mul_add, Int.mul_one]
      have k4 : B * (i + 1) = B * i + B := Nat.mul_succ _ _
      show wSs Γ i__law_w_rows_1a _ _ _ _
      unfold i__law_w_rows_1a
      refine seqP (P := fun σ' H'' => ∃ way : Int, 0 ≤ way ∧ way ≤ 8 ∧ (deep = 0 → way ≤ 5) ∧ σ' = [some (.ref s), some (.int deep), some v, some (.int (0 + (i : Nat))), some (.int way), b5, b6, b7, b8, b9] ∧ Ex [s, L] H' H'' ∧ Stm H'' s L (c + 1 + (CB + 1) * i + 1)) (fun M hM => ?_) fun σ3 H3 p => ?_
      · unfold i__law_w_rows_1a_0
        simp only [Dq.wS, Dq.wE, Dq.wEs, Dq.wT]
        refine ⟨_, G.draw, _, rfl, _, rfl, gt_i ⟨_, rfl, ?_⟩⟩
        rcases hd with rfl | rfl
        · exact ifF (by decide) ⟨s, L, _, 6, rfl, st, by omega, by omega, by omega, fun w H'' w1 w2 xw stw => hM _ _ ⟨w, w1, by omega, fun _ => by omega, rfl, xw, stw⟩⟩
        · exact ifT (by decide) ⟨s, L, _, 9, rfl, st, by omega, by omega, by omega, fun w H'' w1 w2 xw stw => hM _ _ ⟨w, w1, by omega, fun y => by omega, rfl, xw, stw⟩⟩
      obtain ⟨way, w1, w2, w3, rfl, x3, st3⟩ := p
      refine seq1 ?_
      have d1 : 6 ≤ way → deep = 1 := fun h6 => by
        rcases hd with rfl | h
        · have := w3 rfl; omega
        · exact h
      refine rows_turn (B := B) (CB := CB) F (fun h6 => ⟨(hR (d1 h6)).1, d1 h6⟩) hB hCB (fun h6 => (hR (d1 h6)).2) (by omega) st3 (by omega) (stab_lst stab_row _ _ _ _ st x3 r) fun v' c5 c6 c7 c8 c9 H'' x4 st4 r4 => ?_
      unfold Dq.wSs
      exact ⟨by omega, v', _, _, _, _, _, _, _, rfl, (x.trans x3).trans x4, st4.le (by omega), by rw [k4]; exact r4⟩
  obtain ⟨v2, b3, b4, b5, b6, b7, b8, b9, rfl, x2, st2, hv2⟩ := p
  refine seq1 ?_
  unfold i__law_w_rows_2
  exact ret_t st2 (v_rows (n := R) rfl st2 hv2) fun v H3 x3 st3 p => q v H3 (x2.trans x3) st3 p
end Hk64

set_option maxHeartbeats 2000000
namespace Hk64
open PySem PySem.Spec PyProof.Rows L2 Dq
variable {Γ : Gam} {W : WX} {D : Ends} {σ : L2.St} {H : Hp} {s L : Addr} {d d' : Int} {e : Dq.CE} {P : VP}
/-- as gdV, rowOk, a little wider -/
def gdW : V → Bool
  | .int i => decide (-2000000000000 ≤ i) && decide (i ≤ 2000000000000)
  | .str x => gd x
  | _ => false
def rowW : List V → Bool
  | .str w :: ps => gd w && (ps.all gdW && decide (ps.length ≤ 2))
  | _ => false
theorem gdVW {v : V} (h : gdV v = true) : gdW v = true := by
  cases v with
  | int i =>
    have := Bool.and_eq_true_iff.mp h
    have h1 := of_decide_eq_true this.1
    have h2 := of_decide_eq_true this.2
    show (decide _ && decide _) = true
    rw [decide_eq_true (by omega), decide_eq_true (by omega)]; rfl
  | str x => exact h
  | _ => cases h
theorem row_cases {r : List V} (h : rowOk r = true) : ∃ w ps, r = .str w :: ps ∧ gd w = true ∧ ps.all gdV = true ∧ ps.length ≤ 2 ∧ ((w = "jump" ∨ w = "part") → ∃ i, ps = [.int i]) := by
  match r, h with
  | .str w :: ps, h =>
    unfold rowOk at h
    simp only [Bool.and_eq_true] at h
    obtain ⟨h1, h2, h3, h4⟩ := h
    refine ⟨w, ps, rfl, h1, h2, of_decide_eq_true h3, fun hw => ?_⟩
    have hj : (decide (w = "jump") || decide (w = "part")) = true := by
      rcases hw with e | e <;> simp [e]
    rw [hj] at h4
    match ps, h4 with
    | [.int i], _ => exact ⟨i, rfl⟩
theorem row_w {r : List V} (h : rowOk r = true) : rowW r = true := by
  obtain ⟨w, ps, rfl, h1, h2, h3, _⟩ := row_cases h
  show (gd w && (ps.all gdW && decide (ps.length ≤ 2))) = true
  rw [h1, decide_eq_true h3]
  have : ps.all gdW = true := List.all_eq_true.mpr fun x hx => gdVW (List.all_eq_true.mp h2 x hx)
  rw [this]; rfl
def IsRowW : VP := fun H v => ∃ t r, v = .ref t ∧ H t = some (.tup r) ∧ rowW r = true
theorem IsRow.ex {H H' : Hp} {v : V} (h : IsRow H v) (x : Ex [] H H') : IsRow H' v := by
  obtain ⟨t, r, e, h, o⟩ := h
  exact ⟨t, r, e, x.get h (by simp), o⟩
/-- a list may change, a tuple stays -/
theorem IsRowW.ex {H H' : Hp} {D : Addr} {v : V} {acc : List V} (h : IsRowW H v) (hD : H D = some (.lst acc)) (x : Ex [D] H H') : IsRowW H' v := by
  obtain ⟨t, r, e, h, o⟩ := h
  refine ⟨t, r, e, x.get h ?_, o⟩
  intro z
  rw [List.mem_singleton.mp z, hD] at h
  cases h
theorem IsRow.exD {H H' : Hp} {D : Addr} {v : V} {acc : List V} (h : IsRow H v) (hD : H D = some (.lst acc)) (x : Ex [D] H H') : IsRow H' v := by
  obtain ⟨t, r, e, h, o⟩ := h
  refine ⟨t, r, e, x.get h ?_, o⟩
  intro z
  rw [List.mem_singleton.mp z, hD] at h
  cases h
def spPlaced : Sp := fun vs H Q _ => ∃ a xs, vs = [.ref a] ∧ H a = some (.lst xs) ∧ xs.length ≤ 2000 ∧ (∀ x ∈ xs, IsRow H x) ∧ ∀ p ys H', Ex [] H H' → H p = none → H' p = some (.lst ys) → ys.length = xs.length → (∀ y ∈ ys, IsRowW H' y) → Q (.ref p) H'
theorem wipe12 {σ : L2.St} {x y : Option V} : wipe (((wipe σ [1, 2]).set 1 x).set 2 y) [1, 2] = wipe σ [1, 2] := by
  unfold wipe wipe
  show (((((σ.set 2 none).set 1 none).set 1 x).set 2 y).set 2 none).set 1 none = (σ.set 2 none).set 1 none
  apply List.ext_getElem?
  intro i
  simp only [List.getElem?_set, List.length_set]
  repeat' split
  all_goals first | rfl | simp_all
theorem w_placed (vs : List V) (H : Hp) (Q : VK) (E : XK) (h : spPlaced vs H Q E) : wSs Γ i__law_w_placed (dE E) (dD Q) (start l__law_w_placed.N vs) H := by
  obtain ⟨a, xs, rfl, ha, hl, hx, q⟩ := h
  have hb := sizeBig
  simp only [i__law_w_placed, Dq.wSs, Dq.wS, Dq.wE, Dq.wEs, Dq.wT, Dq.wC, Dq.wI, tSeq, tLc_eq, iEnum, tCons, tNil, gOf, gsOf]
  refine ⟨_, rfl, a, xs, rfl, .inl (.inl ha), fun dl hdl => ?_⟩
  have hda : a ≠ dl := ne_of_none ha hdl
  refine lc_e (I := fun i H' => ∃ ys, H' dl = some (.lst ys) ∧ ys.length = i ∧ i ≤ xs.length ∧ Ex [dl] (upd H dl (.lst [])) H' ∧ H' a = some (.lst xs) ∧ ∀ y ∈ ys, IsRowW H' y) ⟨[], upd_same, rfl, Nat.zero_le _, Ex.refl, by rw [upd_ne hda]; exact ha, fun y hy => by cases hy⟩ (fun i H' p => .inl (.inl p.choose_spec.2.2.2.2.1)) (fun H' p => ?_) fun i H' x T hx' p nT => ?_
  · obtain ⟨ys, h1, h2, _, h3, h4, h5⟩ := p
    exact q dl ys H' (((Ex.new hdl).trans h3).drop fun b hb => .inr (by rw [List.mem_singleton.mp hb]; exact hdl)) hdl h1 h2 h5
  · obtain ⟨ys, h1, h2, h3, h4, h5, h6⟩ := p
    have hi : i < xs.length := (List.getElem?_eq_some_iff.mp hx').1
    obtain ⟨t, r, rfl, hr, hok⟩ := hx x (List.mem_of_getElem? hx')
    have tD : t ∉ [dl] := by
      intro z
      rw [List.mem_singleton.mp z] at hr
      rw [hdl] at hr; cases hr
    have hr' : H' t = some (.tup r) := h4.get (by rw [upd_ne (fun z => tD (by rw [z]; simp))]; exact hr) tD
    have xT : Ex [] H' (upd H' T (.tup [.int (i : Nat), .ref t])) := Ex.new nT
    have eT : upd H' T (HO.tup [.int (i : Nat), .ref t]) T = some (.tup [.int (i : Nat), .ref t]) := upd_same
    generalize upd H' T (HO.tup [.int (i : Nat), .ref t]) = H2 at xT eT
    have hr2 := xT.get hr' (by simp)
    refine ⟨T, _, rfl, .inl (.inl (.inl eT)), rfl, _, _, rfl, _, _, rfl, rfl, wipe12, ifT rfl ?_⟩
    obtain ⟨w, ps, rfl, w1, w2, w3, w4⟩ := row_cases hok
    -- behind the element
    have fin : ∀ v H3, Ex [] H2 H3 → IsRowW H3 v → ∃ acc, H3 dl = some (.lst acc) ∧ acc.length < sizeLine ∧ ∃ ys, (upd H3 dl (.lst (acc ++ [v]))) dl = some (.lst ys) ∧ ys.length = i + 1 ∧ i + 1 ≤ xs.length ∧ Ex [dl] (upd H dl (.lst [])) (upd H3 dl (.lst (acc ++ [v]))) ∧ (upd H3 dl (.lst (acc ++ [v]))) a = some (.lst xs) ∧ ∀ y ∈ ys, IsRowW (upd H3 dl (.lst (acc ++ [v]))) y := by
      intro v H3 x3 hv
      have d3 := x3.get (xT.get h1 (by simp)) (by simp)
      have xw : Ex [dl] H3 (upd H3 dl (.lst (ys ++ [v]))) := Ex.wr (by simp)
      refine ⟨ys, d3, by omega, ys ++ [v], upd_same, by rw [List.length_append, h2]; rfl, hi, ((h4.trans xT.nil).trans x3.nil).trans xw, by rw [upd_ne hda]; exact x3.get (xT.get h5 (by simp)) (by simp), fun y hy => ?_⟩
      rcases List.mem_append.mp hy with z | z
      · exact (h6 y z).ex h1 ((xT.trans x3).nil.trans xw)
      · rw [List.mem_singleton.mp z]
        exact hv.ex d3 xw
    refine ⟨_, rfl, ix_tn (n := 0) hr2 rfl ⟨by decide, fun p1 n1 => ?_⟩⟩
    have xp : Ex [] H2 (upd H2 p1 (.tup [.str "jump", .str "part"])) := Ex.new n1
    have ep : upd H2 p1 (HO.tup [.str "jump", .str "part"]) p1 = some (.tup [.str "jump", .str "part"]) := upd_same
    generalize upd H2 p1 (HO.tup [.str "jump", .str "part"]) = H3 at xp ep
    have hr3 := xp.get hr2 (by simp)
    refine in_ _ (inV_t (xs := (["jump", "part"] : List Str).map V.str) (.inl (.inl ep)) rfl flat_strs) ⟨_, rfl, ?_⟩
    rw [inV_strs]
    by_cases hj : w = "jump" ∨ w = "part"
    · obtain ⟨j, rfl⟩ := w4 hj
      refine ifT (by rcases hj with e | e <;> simp [e]) ⟨_, rfl, ix_tn (n := 0) hr3 rfl ⟨_, rfl, add_i ⟨_, rfl, ix_tn (n := 1) hr3 rfl (add_i ⟨by show 2 ≤ sizeLine; omega, fun p2 n2 => fin _ _ (xp.trans (Ex.new n2)) ⟨p2, _, rfl, upd_same, ?_⟩⟩)⟩⟩⟩
      have g : -1000000000000 ≤ j ∧ j ≤ 1000000000000 := by
        have : gdV (.int j) = true := by simpa using w2
        have := Bool.and_eq_true_iff.mp this
        exact ⟨of_decide_eq_true this.1, of_decide_eq_true this.2⟩
      have gw : gdW (.int ((i : Int) + 1 + j)) = true := by
        show (decide _ && decide _) = true
        rw [decide_eq_true (by omega), decide_eq_true (by omega)]; rfl
      show (gd w && (([V.int ((i : Int) + 1 + j)].all gdW) && decide (([V.int ((i : Int) + 1 + j)] : List V).length ≤ 2))) = true
      rw [w1, List.all_cons, gw]; simp
    · refine ifF ?_ ⟨_, rfl, fin _ _ xp ⟨t, _, rfl, hr3, row_w hok⟩⟩
      have n1 : ¬ w = "jump" := fun e => hj (.inl e)
      have n2 : ¬ w = "part" := fun e => hj (.inr e)
      simp [n1, n2]
end Hk64

set_option maxHeartbeats 2000000
namespace Hk64
open PySem PySem.Spec PyProof.Rows L2 Dq
variable {Γ : Gam} {W : WX} {D : Ends} {σ : L2.St} {H : Hp} {s L : Addr} {d d' : Int} {e : Dq.CE} {P : VP}
def IsPlace : VP := fun H v => ∃ t a b, v = .ref t ∧ H t = some (.tup [.int a, .int b]) ∧ 0 ≤ a ∧ a ≤ 100000 ∧ 0 ≤ b ∧ b ≤ 100000
def IsCode : VP := fun H v => ∃ (t : Addr) (pr : Int) (na rw pl : Addr) (ns : List Str) (rs ps : List V), v = .ref t ∧ H t = some (.tup [.int pr, .ref na, .ref rw, .ref pl]) ∧ 0 ≤ pr ∧ pr ≤ 100 ∧ H na = some (.lst (ns.map V.str)) ∧ ns.length ≤ 10 ∧ (∀ n ∈ ns, gd n = true) ∧
  H rw = some (.lst rs) ∧ rs.length ≤ 1000 ∧ (∀ r ∈ rs, IsRowW H r) ∧ H pl = some (.lst ps) ∧ ps.length = rs.length ∧ (∀ p ∈ ps, IsPlace H p)
def CodesAt (H : Hp) (p : Addr) (n : Nat) : Prop := ∃ kvs : List (Key × V), H p = some (.dK kvs) ∧ kvs.length ≤ n ∧ ∀ q ∈ kvs, (∃ x, q.1 = .inr x ∧ gd x = true) ∧ IsCode H q.2
theorem IsCode.ex {H H' : Hp} {bad : List Addr} {v : V} (h : IsCode H v) (x : Ex bad H H') (k : ∀ a ∈ bad, ∀ o, H a = some o → (∀ xs, o ≠ .lst xs) ∧ ∀ xs, o ≠ .tup xs) : IsCode H' v := by
  obtain ⟨t, pr, na, rw, pl, ns, rs, ps, e, ht, p0, p1, hn, n1, n2, hr, r1, r2, hp, q1, q2⟩ := h
  have kl : ∀ {a : Addr} {xs : List V}, H a = some (.lst xs) → H' a = some (.lst xs) := fun e => x.get e fun z => (k _ z _ e).1 _ rfl
  have kt : ∀ {a : Addr} {xs : List V}, H a = some (.tup xs) → H' a = some (.tup xs) := fun e => x.get e fun z => (k _ z _ e).2 _ rfl
  refine ⟨t, pr, na, rw, pl, ns, rs, ps, e, kt ht, p0, p1, kl hn, n1, n2, kl hr, r1, fun r h => ?_, kl hp, q1, fun p h => ?_⟩
  · obtain ⟨t, l, e, h, o⟩ := r2 r h
    exact ⟨t, l, e, kt h, o⟩
  · obtain ⟨t, a, b, e, h, o⟩ := q2 p h
    exact ⟨t, a, b, e, kt h, o⟩
theorem CodesAt.ex {H H' : Hp} {p : Addr} {n : Nat} (h : CodesAt H p n) (x : Ex [] H H') : CodesAt H' p n := by
  obtain ⟨kvs, e, l, o⟩ := h
  exact ⟨kvs, x.get e (by simp), l, fun q hq => ⟨(o q hq).1, (o q hq).2.ex x (fun _ z => by cases z)⟩⟩
theorem CodesAt.put {H : Hp} {p : Addr} {n : Nat} {x : Str} {v : V} (h : CodesAt H p n) (hn : n ≤ 1000) (hx : gd x = true) (hv : IsCode H v) : ∃ H', DPut H p (.str x) v H' ∧ CodesAt H' p (n + 1) ∧ Ex [p] H H' := by
  obtain ⟨kvs, e, l, o⟩ := h
  have hb := sizeBig
  have xw : Ex [p] H (upd H p (.dK (putK kvs (.inr x) v))) := Ex.wr (by simp)
  have kp : ∀ a ∈ [p], ∀ o, H a = some o → (∀ xs, o ≠ .lst xs) ∧ ∀ xs, o ≠ .tup xs := by
    intro a ha o ho
    rw [List.mem_singleton.mp ha, e] at ho
    cases ho
    exact ⟨fun xs z => (by cases z), fun xs z => (by cases z)⟩
  refine ⟨upd H p (.dK (putK kvs (.inr x) v)), DPut.k (k := .inr x) e (by omega), ⟨putK kvs (.inr x) v, upd_same, ?_, fun q hq => ?_⟩, xw⟩
  · unfold putK
    split
    · rw [List.length_map]; omega
    · rw [List.length_append]; simp; omega
  · unfold putK at hq
    split at hq
    · obtain ⟨r, hr, rfl⟩ := List.mem_map.mp hq
      split
      · rename_i hk
        exact ⟨(o r hr).1, hv.ex xw kp⟩
      · exact ⟨(o r hr).1, (o r hr).2.ex xw kp⟩
    · rcases List.mem_append.mp hq with hr | hr
      · exact ⟨(o q hr).1, (o q hr).2.ex xw kp⟩
      · rw [List.mem_singleton.mp hr]
        exact ⟨⟨x, rfl, hx⟩, hv.ex xw kp⟩
/-- [('call', other, 2) if row[0] == 'call' else row for row in own], behind the walker -/
theorem named_lc {W' : WX} {i j : Nat} {a : Addr} {xs : List V} {oth : Str} {Q : VK} (hij : i ≠ j) (hi : i < σ.length) (hj : σ[j]? = some (some (.str oth))) (ho : gd oth = true) (ha : H a = some (.lst xs)) (hl : xs.length ≤ 2000) (hx : ∀ x ∈ xs, IsRow H x) {dl : Addr} (hdl : H dl = none)
    (q : ∀ ys H', Ex [] H H' → H' dl = some (.lst ys) → ys.length = xs.length → (∀ y ∈ ys, IsRow H' y) → Q (.ref dl) H') :
    LcR (Itl Γ.K a) (gName i) (fun _ H Q => Q true H) (Dq.wE Γ (.ifx (.cmp .Eq (.ix (.var i) (.int 0)) (.str "call")) (.tup (.cons (.str "call") (.cons (.var j) (.cons (.int 2) .nil)))) (.var i)) false W') [i] σ Q dl H := by
  have hb := sizeBig
  have hda : a ≠ dl := ne_of_none ha hdl
  refine lc_l (xs := xs) (I := fun n H' => ∃ ys, H' dl = some (.lst ys) ∧ ys.length = n ∧ n ≤ xs.length ∧ Ex [dl] (upd H dl (.lst [])) H' ∧ H' a = some (.lst xs) ∧ ∀ y ∈ ys, IsRow H' y) ⟨[], upd_same, rfl, Nat.zero_le _, Ex.refl, by rw [upd_ne hda]; exact ha, fun y hy => by cases hy⟩ (fun n H' p => .inl (.inl p.choose_spec.2.2.2.2.1)) (fun H' p => ?_) fun n H' x hx' p => ?_
  · obtain ⟨ys, h1, h2, _, h3, h4, h5⟩ := p
    exact q ys H' (((Ex.new hdl).trans h3).drop fun b hb => .inr (by rw [List.mem_singleton.mp hb]; exact hdl)) h1 h2 h5
  · obtain ⟨ys, h1, h2, h3, h4, h5, h6⟩ := p
    have hn : n < xs.length := (List.getElem?_eq_some_iff.mp hx').1
    obtain ⟨t, r, rfl, hr, hok⟩ := hx x (List.mem_of_getElem? hx')
    have tD : t ∉ [dl] := by
      intro z
      rw [List.mem_singleton.mp z] at hr
      rw [hdl] at hr; cases hr
    have hr' : H' t = some (.tup r) := h4.get (by rw [upd_ne (fun z => tD (by rw [z]; simp))]; exact hr) tD
    refine ⟨wipe1 (y := none), ifT rfl ?_⟩
    have fin : ∀ v H3, Ex [] H' H3 → IsRow H3 v → ∃ acc, H3 dl = some (.lst acc) ∧ acc.length < sizeLine ∧ ∃ ys, (upd H3 dl (.lst (acc ++ [v]))) dl = some (.lst ys) ∧ ys.length = n + 1 ∧ n + 1 ≤ xs.length ∧ Ex [dl] (upd H dl (.lst [])) (upd H3 dl (.lst (acc ++ [v]))) ∧ (upd H3 dl (.lst (acc ++ [v]))) a = some (.lst xs) ∧ ∀ y ∈ ys, IsRow (upd H3 dl (.lst (acc ++ [v]))) y := by
      intro v H3 x3 hv
      have d3 := x3.get h1 (by simp)
      have xw : Ex [dl] H3 (upd H3 dl (.lst (ys ++ [v]))) := Ex.wr (by simp)
      refine ⟨ys, d3, by omega, ys ++ [v], upd_same, by rw [List.length_append, h2]; rfl, hn, (h4.trans x3.nil).trans xw, by rw [upd_ne hda]; exact x3.get h5 (by simp), fun y hy => ?_⟩
      rcases List.mem_append.mp hy with z | z
      · exact (h6 y z).exD h1 (x3.nil.trans xw)
      · rw [List.mem_singleton.mp z]
        exact hv.exD d3 xw
    obtain ⟨w, ps, rfl, w1, w2, w3, w4⟩ := row_cases hok
    have vi : ((wipe σ [i]).set i (some (V.ref t)))[i]? = some (some (.ref t)) := wipe_get hi
    have vj : ((wipe σ [i]).set i (some (V.ref t)))[j]? = some (some (.str oth)) := by
      unfold wipe
      show ((σ.set i none).set i _)[j]? = _
      rw [List.getElem?_set_ne hij, List.getElem?_set_ne hij]; exact hj
    simp only [Dq.wE, Dq.wEs, Dq.wT]
    refine ⟨_, vi, ix_tn (n := 0) hr' rfl (eq_s ⟨_, rfl, ?_⟩)⟩
    by_cases hc : w = "call"
    · refine ifT (decide_eq_true hc) ⟨_, vj, by show 3 ≤ sizeLine; omega, fun p np => fin _ _ (Ex.new np) ⟨p, _, rfl, upd_same, ?_⟩⟩
      have hgo : gdV (.str oth) = true := ho
      show (gd "call" && (([V.str oth, .int 2].all gdV) && (decide (([V.str oth, .int 2] : List V).length ≤ 2) && (!(decide (("call" : Str) = "jump") || decide (("call" : Str) = "part")) || _)))) = true
      rw [List.all_cons, hgo, show gd "call" = true from by decide +kernel, show (decide (("call" : Str) = "jump") || decide (("call" : Str) = "part")) = false from by decide +kernel, show ([V.int 2].all gdV) = true from by decide +kernel]; simp
    · exact ifF (decide_eq_false hc) ⟨_, vi, fin _ _ Ex.refl ⟨t, _, rfl, hr', hok⟩⟩
/-- [(1 + at // 9, 1 + at) for at in range(n)], behind the walker -/
theorem places_lc {W' : WX} {i : Nat} {n : Nat} {Q : VK} (hi : i < σ.length) (hn : n ≤ 2000) {dl : Addr} (hdl : H dl = none)
    (q : ∀ ys H', Ex [] H H' → H' dl = some (.lst ys) → ys.length = n → (∀ y ∈ ys, IsPlace H' y) → Q (.ref dl) H') :
    LcR (Itr 0 n) (gName i) (fun _ H Q => Q true H) (Dq.wE Γ (.tup (.cons (.bin .Add (.int 1) (.bin .FloorDiv (.var i) (.int 9))) (.cons (.bin .Add (.int 1) (.var i)) .nil))) false W') [i] σ Q dl H := by
  have hb := sizeBig
  refine lc_r (I := fun k H' => ∃ ys, H' dl = some (.lst ys) ∧ ys.length = k ∧ k ≤ n ∧ Ex [dl] (upd H dl (.lst [])) H' ∧ ∀ y ∈ ys, IsPlace H' y) ⟨[], upd_same, rfl, Nat.zero_le _, Ex.refl, fun y hy => by cases hy⟩ (fun H' p => ?_) fun k H' hk p => ?_
  · obtain ⟨ys, h1, h2, _, h3, h5⟩ := p
    exact q ys H' (((Ex.new hdl).trans h3).drop fun b hb => .inr (by rw [List.mem_singleton.mp hb]; exact hdl)) h1 h2 h5
  · obtain ⟨ys, h1, h2, h3, h4, h6⟩ := p
    refine ⟨wipe1 (y := none), ifT rfl ?_⟩
    have vi : ((wipe σ [i]).set i (some (V.int (0 + (k : Nat)))))[i]? = some (some (.int (0 + (k : Nat)))) := wipe_get hi
    simp only [Dq.wE, Dq.wEs]
    refine ⟨_, vi, div_i ⟨by omega, by omega⟩ (add_i ⟨_, vi, add_i ⟨by show 2 ≤ sizeLine; omega, fun p np => ?_⟩⟩)⟩
    have x3 : Ex [] H' (upd H' p (.tup [.int (1 + (0 + (k : Int)) / 9), .int (1 + (0 + (k : Int)))])) := Ex.new np
    have e3 : upd H' p (HO.tup [.int (1 + (0 + (k : Int)) / 9), .int (1 + (0 + (k : Int)))]) p = some (.tup [.int (1 + (0 + (k : Int)) / 9), .int (1 + (0 + (k : Int)))]) := upd_same
    generalize upd H' p (HO.tup [.int (1 + (0 + (k : Int)) / 9), .int (1 + (0 + (k : Int)))]) = H3 at x3 e3
    have d3 := x3.get h1 (by simp)
    have xw : Ex [dl] H3 (upd H3 dl (.lst (ys ++ [.ref p]))) := Ex.wr (by simp)
    have pd : ∀ {y : V} {Ha Hb : Hp}, IsPlace Ha y → Ha dl = some (.lst ys) → Ex [dl] Ha Hb → IsPlace Hb y := by
      rintro y Ha Hb ⟨t, a, b, e, h, o⟩ hd x
      refine ⟨t, a, b, e, x.get h ?_, o⟩
      intro z
      rw [List.mem_singleton.mp z, hd] at h; cases h
    refine ⟨ys, d3, by omega, ys ++ [.ref p], upd_same, by rw [List.length_append, h2]; rfl, hk, (h4.trans x3.nil).trans xw, fun y hy => ?_⟩
    rcases List.mem_append.mp hy with z | z
    · exact pd (h6 y z) h1 (x3.nil.trans xw)
    · rw [List.mem_singleton.mp z]
      exact pd ⟨p, _, _, rfl, e3, by omega, by omega, by omega, by omega⟩ d3 xw
end Hk64

set_option maxHeartbeats 2000000
namespace Hk64
open PySem PySem.Spec PyProof.Rows L2 Dq
variable {Γ : Gam} {W : WX} {D : Ends} {σ : L2.St} {H : Hp} {s L : Addr} {d d' d'' : Int} {e : Dq.CE} {es : Dq.CEs} {P : VP}
section
variable {f : Bool} {Q : VK} {R : List V → Hp → Prop}
theorem e_lc {own : List Nat} {g : CG} {it : CI} {ifs : CC} (h : Dq.wI Γ it f W σ H fun J H1 => ∀ D, H1 D = none → LcR J (gOf Γ.K g) (Dq.wC Γ ifs (cond f (atS W σ) noW)) (Dq.wE Γ e false (cond f (atS W σ) noW)) own σ Q D H1) : Dq.wE Γ (.lc own g it ifs e) f W σ H Q := by
  unfold Dq.wE
  exact h
theorem e_var {i : Nat} {v : V} (h : σ[i]? = some (some v)) (q : Q v H) : Dq.wE Γ (.var i) f W σ H Q := by unfold Dq.wE; exact ⟨v, h, q⟩
theorem e_tup (h : Dq.wEs Γ es f W σ H fun xs H1 => xs.length ≤ sizeLine ∧ ∀ p, H1 p = none → Q (.ref p) (upd H1 p (.tup xs))) : Dq.wE Γ (.tup es) f W σ H Q := by unfold Dq.wE; exact h
theorem e_lst (h : Dq.wEs Γ es f W σ H fun xs H1 => xs.length ≤ sizeLine ∧ ∀ p, H1 p = none → Q (.ref p) (upd H1 p (.lst xs))) : Dq.wE Γ (.lst es) f W σ H Q := by unfold Dq.wE; exact h
theorem e_call {x : Str} {sp : Sp} (h : Γ.fn x sp) (q : Dq.wEs Γ es f W σ H fun vs H1 => sp vs H1 Q (WE W σ)) : Dq.wE Γ (.call x es) f W σ H Q := by unfold Dq.wE; exact ⟨sp, h, q⟩
theorem e_bf {b : BF} (q : Dq.wEs Γ es f W σ H fun vs H1 => qF Γ.K b vs H1 Q) : Dq.wE Γ (.bf b es) f W σ H Q := by unfold Dq.wE; exact q
theorem es_nil (h : R [] H) : Dq.wEs Γ .nil f W σ H R := by unfold Dq.wEs; exact h
theorem es_cons (h : Dq.wE Γ e f W σ H fun x H1 => Dq.wEs Γ es f W σ H1 fun xs H2 => R (x :: xs) H2) : Dq.wEs Γ (.cons e es) f W σ H R := by unfold Dq.wEs; exact h
theorem i_val {RI : It → Hp → Prop} (h : Dq.wE Γ e f W σ H fun x H1 => ItV Γ.K x H1 RI) : Dq.wI Γ (.val e) f W σ H RI := by unfold Dq.wI; exact h
theorem i_rng {RI : It → Hp → Prop} (h : Dq.wE Γ e f W σ H fun x H1 => ∃ j : Int, x = .int j ∧ -(2 ^ 62) ≤ j ∧ j < 2 ^ 62 ∧ RI (Itr 0 j.toNat) H1) : Dq.wI Γ (.rng e) f W σ H RI := by
  unfold Dq.wI
  show Dq.wE Γ e f W σ H fun x H1 => ∃ j : Int, [x] = [.int j] ∧ _
  have key : (fun x H1 => ∃ j : Int, ([x] : List V) = [V.int j] ∧ -(2 ^ 62) ≤ j ∧ j < 2 ^ 62 ∧ RI (Itr 0 j.toNat) H1) = fun x H1 => ∃ j : Int, x = .int j ∧ -(2 ^ 62) ≤ j ∧ j < 2 ^ 62 ∧ RI (Itr 0 j.toNat) H1 := by
    funext x H1
    apply propext
    constructor
    · rintro ⟨j, e, r⟩; exact ⟨j, (List.cons.inj e).1, r⟩
    · rintro ⟨j, e, r⟩; exact ⟨j, by rw [e], r⟩
  exact (congrArg (Dq.wE Γ e f W σ H) key).mpr h
end
def RowsL (n : Nat) : Hp → List V → Prop := fun H vs => vs.length ≤ n ∧ ∀ x ∈ vs, IsRow H x
theorem ts_r0 {Hs : Hp} : TyEs Γ W σ Hs s L d d .nil (RowsL 0) := fun H N c q => ts_nil H N c fun vs H' c' x p => q vs H' c' x (by subst p; exact ⟨Nat.le_refl _, fun x hx => by cases hx⟩)
theorem ts_rc {Hs : Hp} {n : Nat} (h : TyE Γ W σ Hs s L d d' e IsRow) (hs : TyEs Γ W σ Hs s L d' d'' es (RowsL n)) : TyEs Γ W σ Hs s L d d'' (.cons e es) (RowsL (n + 1)) := fun H N c q => ts_cons h stab_row hs H N c fun vs H' c' x ⟨v, r, e, p, p2⟩ => q vs H' c' x (by
  subst e
  refine ⟨by rw [List.length_cons]; have := p2.1; omega, fun y hy => ?_⟩
  rcases List.mem_cons.mp hy with rfl | hy
  · exact p
  · exact p2.2 y hy)
theorem l_rows {Hs : Hp} {n : Nat} (h : TyEs Γ W σ Hs s L d d' es (RowsL n)) (hn : n ≤ 100000) : TyE Γ W σ Hs s L d d' (.lst es) (IsRows s L n) := t_lst h stab_row hn fun H vs p => ⟨Nat.zero_le _, p.1, p.2⟩
theorem ri {Hs : Hp} {w : Str} {i : Int} (hw : gd w = true) (h1 : -1000000000000 ≤ i) (h2 : i ≤ 1000000000000) : TyE Γ W σ Hs s L d d (.tup (.cons (.str w) (.cons (.int i) .nil))) IsRow := r2i hw t_int h1 h2
theorem rs {Hs : Hp} {w x : Str} (hw : gd w = true) (hj : (decide (w = "jump") || decide (w = "part")) = false) (hx : gd x = true) : TyE Γ W σ Hs s L d d (.tup (.cons (.str w) (.cons (.str x) .nil))) IsRow := r2v hw hj t_str (gdL hx)
def IsPair : VP := fun H v => ∃ t a b, v = .ref t ∧ H t = some (.tup [.str a, .str b]) ∧ gd a = true ∧ gd b = true
theorem stab_pair : Stab s L IsPair := fun H H' v c st x ⟨t, a, b, e, h, o⟩ => by
  obtain ⟨ns, cell, d, tt, h1, h2, _⟩ := st
  refine ⟨t, a, b, e, x.get h ?_, o⟩
  intro z
  simp only [List.mem_cons, List.not_mem_nil, or_false] at z
  rcases z with rfl | rfl
  · rw [h1] at h; cases h
  · rw [h2] at h; cases h
theorem t_pair {Hs : Hp} {a b : Str} (ha : gd a = true) (hb : gd b = true) : TyE Γ W σ Hs s L d d (.tup (.cons (.str a) (.cons (.str b) .nil))) IsPair := fun H N c q => by
  simp only [Dq.wE, Dq.wEs]
  refine ⟨by have := sizeBig; show 2 ≤ sizeLine; omega, fun p np => q _ _ (c.ex (Ex.new np)) (Ex.new np) ⟨p, a, b, rfl, upd_same, ha, hb⟩⟩
theorem stab_code {n : Nat} : Stab s L (IsRows s L n) := stab_lst stab_row
structure CdFns (Γ : Gam) : Prop where
  base : GenFns Γ
  num1 : Γ.fn "_law_w_number" (spGen 10 0 6 1)
  rows1 : Γ.fn "_law_w_rows" (spGen 784 0 348 1)
  placed : Γ.fn "_law_w_placed" spPlaced
def spCodes : Sp := fun vs H Q _ => ∃ s L c, vs = [.ref s] ∧ Stm H s L c ∧ c + 800 ≤ 1099511627776 ∧ ∀ p H', Ex [s, L] H H' → Stm H' s L (c + 800) → CodesAt H' p 2 → Q (.ref p) H'
theorem Stm.exD {H H' : Hp} {p s L : Addr} {c : Int} (h : Stm H s L c) {kvs : List (Key × V)} (hp : H p = some (.dK kvs)) (x : Ex [p] H H') : Stm H' s L c := by
  obtain ⟨ns, cell, d, t, h1, h2, h3⟩ := h
  refine ⟨ns, cell, d, t, x.get h1 ?_, x.get h2 ?_, h3⟩
  · intro z; rw [List.mem_singleton.mp z, hp] at h1; cases h1
  · intro z; rw [List.mem_singleton.mp z, hp] at h2; cases h2
/-- one turn of the codes' loop: a code is laid and put -/
theorem codes_turn (F : CdFns Γ) {σ0 : Option V → L2.St} {p na ow : Addr} {nm oth : Str} {ns : List Str} {xs : List V} {n : Nat} {b12 a0 a1 a2 a3 a4 a5 a6 b15 b16 a13 : Option V} (hp : CodesAt H p n) (hn : n ≤ 5) (hnm : gd nm = true) (ho : gd oth = true) (hna : H na = some (.lst (ns.map V.str))) (h10 : ns.length ≤ 10) (hgn : ∀ n ∈ ns, gd n = true)
    (how : H ow = some (.lst xs)) (hl : xs.length ≤ 1000) (hx : ∀ x ∈ xs, IsRow H x)
    (hd : ∀ v12 H', Ex [p] H H' → CodesAt H' p (n + 1) → D.nx [a0, a1, a2, a3, a4, a5, a6, some (.ref p), some (.str nm), some (.int 2), some (.ref na), some (.ref ow), v12, a13, some (.str oth), b15, b16] H') :
    wSs Γ i__law_w_codes_8a W D [a0, a1, a2, a3, a4, a5, a6, some (.ref p), some (.str nm), some (.int 2), some (.ref na), some (.ref ow), b12, a13, some (.str oth), b15, b16] H := by
  have hb := sizeBig
  unfold i__law_w_codes_8a
  refine seqP (P := fun σ' H' => ∃ nd ys, σ' = [a0, a1, a2, a3, a4, a5, a6, some (.ref p), some (.str nm), some (.int 2), some (.ref na), some (.ref ow), some (.ref nd), a13, some (.str oth), b15, b16] ∧ Ex [] H H' ∧ H' nd = some (.lst ys) ∧ ys.length = xs.length ∧ ∀ y ∈ ys, IsRow H' y) (fun N hN => ?_) fun σ1 H1 q => ?_
  · unfold i__law_w_codes_8a_0
    unfold Dq.wS
    refine e_lc (i_val (e_var rfl (itv_l (.inl (.inl how)) fun dl hdl => ?_)))
    exact named_lc (j := 14) (by decide) (by show 15 < 17; decide) rfl ho how (by omega) hx hdl fun ys H' x h1 h2 h3 => hN _ _ ⟨dl, ys, rfl, x, h1, h2, h3⟩
  obtain ⟨nd, ys, rfl, x1, hnd, hyl, hy⟩ := q
  refine seq1 ?_
  unfold i__law_w_codes_8a_1
  unfold Dq.wS
  refine e_tup (es_cons (e_var rfl (es_cons (e_var rfl (es_cons (e_call F.placed (es_cons (e_var rfl (es_nil ⟨nd, ys, rfl, hnd, by omega, hy, fun pd zs H2 x2 npd hpd hzl hz => ?_⟩)))))))))
  refine es_cons (e_lc (i_rng (e_bf (es_cons (e_var rfl (es_nil (len_lst (x2.get (x1.get how (by simp)) (by simp)) ⟨_, rfl, by omega, by omega, fun dl hdl => ?_⟩)))))))
  have e0 : ((xs.length : Nat) : Int).toNat = xs.length := by omega
  rw [e0]
  refine places_lc (by show 16 < 17; decide) (by omega) hdl fun ps H3 x3 h3 h4 h5 => es_nil ⟨by show 4 ≤ sizeLine; omega, fun t nt => ?_⟩
  have xt : Ex [] H3 (upd H3 t (.tup [.int 2, .ref na, .ref pd, .ref dl])) := Ex.new nt
  have et : upd H3 t (HO.tup [.int 2, .ref na, .ref pd, .ref dl]) t = some (.tup [.int 2, .ref na, .ref pd, .ref dl]) := upd_same
  generalize upd H3 t (HO.tup [.int 2, .ref na, .ref pd, .ref dl]) = H4 at xt et
  have xx : Ex [] H H4 := ((x1.trans x2).trans x3).trans xt
  have x24 : Ex [] H2 H4 := x3.trans xt
  have code : IsCode H4 (.ref t) := ⟨t, 2, na, pd, dl, ns, zs, ps, rfl, et, by omega, by omega, xx.get hna (by simp), h10, hgn, x24.get hpd (by simp), by omega, fun r hr => by
      obtain ⟨t, l, e, h, o⟩ := hz r hr
      exact ⟨t, l, e, x24.get h (by simp), o⟩, xt.get h3 (by simp), by omega, fun r hr => by
      obtain ⟨t, a, b, e, h, o⟩ := h5 r hr
      exact ⟨t, a, b, e, xt.get h (by simp), o⟩⟩
  obtain ⟨H5, put, c5, x5⟩ := (hp.ex xx).put (by omega) hnm code
  refine e_var rfl (e_var rfl (.inr ⟨p, H5, rfl, put, ?_⟩))
  unfold Dq.wSs
  exact hd _ H5 (xx.nil.trans x5) c5
end Hk64

set_option maxHeartbeats 4000000
namespace Hk64
open PySem PySem.Spec PyProof.Rows L2 Dq
variable {Γ : Gam} {W : WX} {D : Ends} {σ : L2.St} {H : Hp} {s L : Addr} {d d' d'' : Int} {e : Dq.CE} {es : Dq.CEs} {P : VP}
theorem IsLst.rows {v : V} {n : Nat} (h : IsRows s L n H v) : ∃ a xs, v = .ref a ∧ H a = some (.lst xs) ∧ xs.length ≤ n ∧ ∀ x ∈ xs, IsRow H x := by
  obtain ⟨a, xs, e, _, h, _, l, o⟩ := h
  exact ⟨a, xs, e, h, l, o⟩
theorem w_codes (F : CdFns Γ) (vs : List V) (H : Hp) (Q : VK) (E : XK) (h : spCodes vs H Q E) : wSs Γ i__law_w_codes (dE E) (dD Q) (start l__law_w_codes.N vs) H := by
  obtain ⟨s, L, c, rfl, st, hc, q⟩ := h
  have G := F.base
  have hb := sizeBig
  have dr : ∀ {τ : L2.St} {H1 : Hp} {d m : Int}, τ[0]? = some (some (.ref s)) → 1 ≤ m → m ≤ 100 → d ≤ 1099511627776 → TyE Γ (dE E) τ H1 s L d (d + 1) (.call "_law_draw" (.cons (.var 0) (.cons (.int m) .nil))) (IsInt 0 (m - 1)) := fun h h1 h2 h3 => t_draw G.draw h t_int h1 (by omega) h3
  unfold i__law_w_codes
  -- body
  refine seqP (P := fun σ' H' => ∃ v1, σ' = [some (.ref s), some v1, none, none, none, none, none, none, none, none, none, none, none, none, none, none, none] ∧ Ex [s, L] H H' ∧ Stm H' s L (c + 784) ∧ IsRows s L 348 H' v1) (fun N hN => ?_) fun σ1 H1 p => ?_
  · unfold i__law_w_codes_0
    exact set_t st (t_gen F.rows1 rfl t_int (by omega)) fun v H' x st' p => hN _ _ ⟨v, rfl, x, st', p⟩
  obtain ⟨v1, rfl, x1, st1, p1⟩ := p
  -- step
  refine seqP (P := fun σ' H' => ∃ v2, σ' = [some (.ref s), some v1, some v2, none, none, none, none, none, none, none, none, none, none, none, none, none, none] ∧ Ex [s, L] H H' ∧ Stm H' s L (c + 784) ∧ IsRows s L 348 H' v1 ∧ IsRows s L 4 H' v2) (fun N hN => ?_) fun σ2 H2 p => ?_
  · unfold i__law_w_codes_1
    exact set_t st1 (l4 (ri (by decide +kernel) (by omega) (by omega)) (ri (by decide +kernel) (by omega) (by omega)) (rs (by decide +kernel) (by decide +kernel) (by decide +kernel)) (ri (by decide +kernel) (by omega) (by omega))) fun v H' x st' p => hN _ _ ⟨v, rfl, x1.trans x, st', stab_code _ _ _ _ st1 x p1, p⟩
  obtain ⟨v2, rfl, x2, st2, p12, p2⟩ := p
  -- asked
  refine seqP (P := fun σ' H' => ∃ v3, σ' = [some (.ref s), some v1, some v2, some v3, none, none, none, none, none, none, none, none, none, none, none, none, none] ∧ Ex [s, L] H H' ∧ Stm H' s L (c + 785) ∧ IsRows s L 348 H' v1 ∧ IsRows s L 4 H' v2 ∧ IsRows s L 4 H' v3) (fun N hN => ?_) fun σ3 H3 p => ?_
  · unfold i__law_w_codes_2
    exact set_t st2 (l4 (ri (by decide +kernel) (by omega) (by omega)) (r2i (by decide +kernel) (t_addi t_int (dr rfl (by omega) (by omega) (by omega))) (by omega) (by omega)) (rs (by decide +kernel) (by decide +kernel) (by decide +kernel)) (r2i (by decide +kernel) (t_addi (t_len (v_rows rfl st2 p12)) t_int) (by omega) (by omega))) fun v H' x st' p => hN _ _ ⟨v, rfl, x2.trans x, st'.le (by omega), stab_code _ _ _ _ st2 x p12, stab_code _ _ _ _ st2 x p2, p⟩
  obtain ⟨v3, rfl, x3, st3, p13, p23, p33⟩ := p
  -- ahead
  refine seqP (P := fun σ' H' => ∃ v4, σ' = [some (.ref s), some v1, some v2, some v3, some v4, none, none, none, none, none, none, none, none, none, none, none, none] ∧ Ex [s, L] H H' ∧ Stm H' s L (c + 786) ∧ IsRows s L 348 H' v1 ∧ IsRows s L 4 H' v2 ∧ IsRows s L 4 H' v3 ∧ IsRows s L 8 H' v4) (fun N hN => ?_) fun σ4 H4 p => ?_
  · unfold i__law_w_codes_3
    have pk : TyE Γ (dE E) [some (.ref s), some v1, some v2, some v3, none, none, none, none, none, none, none, none, none, none, none, none, none] H3 s L (c + 785) (c + 785 + 1) (.call "_law_pick" (.cons (.var 0) (.cons (.lst (.cons (.int 3) (.cons (.int 3) (.cons (.int 3) (.cons (.int 4) .nil))))) .nil))) (IsInt 3 4) :=
      t_imp (pickV (vs := [.int 3, .int 3, .int 3, .int 4]) (p := fun v => match v with | .int i => decide (3 ≤ i) && decide (i ≤ 4) | _ => false) G.pick rfl rfl (by decide) (by decide) (by decide +kernel) (by omega)) (by omega) fun H v ⟨p, _⟩ => by
        cases v with
        | int i =>
          have := Bool.and_eq_true_iff.mp p
          exact ⟨i, rfl, of_decide_eq_true this.1, of_decide_eq_true this.2⟩
        | _ => cases p
    refine set_t st3 (l_rows (ts_rc (ri (by decide +kernel) (by omega) (by omega)) (ts_rc (ri (by decide +kernel) (by omega) (by omega)) (ts_rc (ri (by decide +kernel) (by omega) (by omega)) (ts_rc (ri (by decide +kernel) (by omega) (by omega)) (ts_rc (ri (by decide +kernel) (by omega) (by omega)) (ts_rc (ri (by decide +kernel) (by omega) (by omega)) (ts_rc (r2i (by decide +kernel) pk (by omega) (by omega)) (ts_rc (ri (by decide +kernel) (by omega) (by omega)) ts_r0)))))))) (by omega)) fun v H' x st' p => hN _ _ ⟨v, rfl, x3.trans x, st'.le (by omega), stab_code _ _ _ _ st3 x p13, stab_code _ _ _ _ st3 x p23, stab_code _ _ _ _ st3 x p33, p⟩
  obtain ⟨v4, rfl, x4, st4, p14, p24, p34, p44⟩ := p
  -- rows
  refine seqP (P := fun σ' H' => ∃ v5, σ' = [some (.ref s), some v1, some v2, some v3, some v4, some v5, none, none, none, none, none, none, none, none, none, none, none] ∧ Ex [s, L] H H' ∧ Stm H' s L (c + 796) ∧ IsRows s L 373 H' v5) (fun N hN => ?_) fun σ5 H5 p => ?_
  · unfold i__law_w_codes_4
    exact set_t st4 (addR (addR (addR (addR (addR (addR (addR (v_rows rfl st4 p44) (l1 (ri (by decide +kernel) (by omega) (by omega))) (by omega)) (v_rows rfl st4 p34) (by omega)) (v_rows rfl st4 p14) (by omega)) (v_rows rfl st4 p24) (by omega)) (l1 (r2i (by decide +kernel) (t_subi (t_subi t_int (t_len (v_rows rfl st4 p14))) t_int) (by omega) (by omega))) (by omega)) (t_gen F.num1 rfl t_int (by omega)) (by omega)) (l1 (r1 (by decide +kernel))) (by omega)) fun v H' x st' p => hN _ _ ⟨v, rfl, x4.trans x, st'.le (by omega), p.le (Nat.le_refl _) (by omega)⟩
  obtain ⟨v5, rfl, x5, st5, p55⟩ := p
  -- small
  refine seqP (P := fun σ' H' => ∃ v6, σ' = [some (.ref s), some v1, some v2, some v3, some v4, some v5, some v6, none, none, none, none, none, none, none, none, none, none] ∧ Ex [s, L] H H' ∧ Stm H' s L (c + 797) ∧ IsRows s L 373 H' v5 ∧ IsRows s L 7 H' v6) (fun N hN => ?_) fun σ6 H6 p => ?_
  · unfold i__law_w_codes_5
    have ra : TyE Γ (dE E) [some (.ref s), some v1, some v2, some v3, some v4, some v5, none, none, none, none, none, none, none, none, none, none, none] H5 s L (c + 796) (c + 796) (.lst (.cons (.tup (.cons (.str "load") (.cons (.int 0) .nil))) (.cons (.tup (.cons (.str "push") (.cons (.int 1) .nil))) (.cons (.tup (.cons (.str "two") (.cons (.str "+") .nil))) (.cons (.tup (.cons (.str "give") .nil)) .nil))))) (IsRows s L 7) :=
      t_imp (l_rows (ts_rc (ri (by decide +kernel) (by omega) (by omega)) (ts_rc (ri (by decide +kernel) (by omega) (by omega)) (ts_rc (rs (by decide +kernel) (by decide +kernel) (by decide +kernel)) (ts_rc (r1 (by decide +kernel)) ts_r0)))) (by omega)) (by omega) fun H v p => p.le (Nat.le_refl _) (by omega)
    have rb : TyE Γ (dE E) [some (.ref s), some v1, some v2, some v3, some v4, some v5, none, none, none, none, none, none, none, none, none, none, none] H5 s L (c + 796) (c + 796) (.lst (.cons (.tup (.cons (.str "load") (.cons (.int 1) .nil))) (.cons (.tup (.cons (.str "push") (.cons (.int 0) .nil))) (.cons (.tup (.cons (.str "get") .nil)) (.cons (.tup (.cons (.str "load") (.cons (.int 2) .nil))) (.cons (.tup (.cons (.str "two") (.cons (.str "+") .nil))) (.cons (.tup (.cons (.str "give") .nil)) .nil))))))) (IsRows s L 7) :=
      t_imp (l_rows (ts_rc (ri (by decide +kernel) (by omega) (by omega)) (ts_rc (ri (by decide +kernel) (by omega) (by omega)) (ts_rc (r1 (by decide +kernel)) (ts_rc (ri (by decide +kernel) (by omega) (by omega)) (ts_rc (rs (by decide +kernel) (by decide +kernel) (by decide +kernel)) (ts_rc (r1 (by decide +kernel)) ts_r0)))))) (by omega)) (by omega) fun H v p => p.le (Nat.le_refl _) (by omega)
    have two : TyE Γ (dE E) [some (.ref s), some v1, some v2, some v3, some v4, some v5, none, none, none, none, none, none, none, none, none, none, none] H5 s L (c + 796) (c + 796) (.lst (.cons (.lst (.cons (.tup (.cons (.str "load") (.cons (.int 0) .nil))) (.cons (.tup (.cons (.str "push") (.cons (.int 1) .nil))) (.cons (.tup (.cons (.str "two") (.cons (.str "+") .nil))) (.cons (.tup (.cons (.str "give") .nil)) .nil))))) (.cons (.lst (.cons (.tup (.cons (.str "load") (.cons (.int 1) .nil))) (.cons (.tup (.cons (.str "push") (.cons (.int 0) .nil))) (.cons (.tup (.cons (.str "get") .nil)) (.cons (.tup (.cons (.str "load") (.cons (.int 2) .nil))) (.cons (.tup (.cons (.str "two") (.cons (.str "+") .nil))) (.cons (.tup (.cons (.str "give") .nil)) .nil))))))) .nil))) (IsLst s L (IsRows s L 7) 2 2) := by
      refine t_lst (ts_cons ra stab_code (ts_cons rb stab_code ts_nil)) stab_code (by omega) fun H vs ⟨v, r, e1, p1, v', r', e2, p2, e3⟩ => ?_
      subst e3; subst e2; subst e1
      refine ⟨Nat.le_refl _, Nat.le_refl _, fun x hx => ?_⟩
      rcases List.mem_cons.mp hx with rfl | hx
      · exact p1
      · rw [List.mem_singleton.mp hx]; exact p2
    exact set_t st5 (t_pick G.pick rfl two stab_code (by omega) (by omega) (by omega)) fun v H' x st' p => hN _ _ ⟨v, rfl, x5.trans x, st'.le (by omega), stab_code _ _ _ _ st5 x p55, p⟩
  obtain ⟨v6, rfl, x6, st6, p56, p66⟩ := p
  refine seqP (P := fun σ' H' => ∃ v6, σ' = [some (.ref s), some v1, some v2, some v3, some v4, some v5, some v6, none, none, none, none, none, none, none, none, none, none] ∧ Ex [s, L] H H' ∧ Stm H' s L (c + 798) ∧ IsRows s L 373 H' v5 ∧ IsRows s L 7 H' v6) (fun N hN => ?_) fun σ7 H7 p => ?_
  · unfold i__law_w_codes_6
    have other : TyE Γ (dE E) [some (.ref s), some v1, some v2, some v3, some v4, some v5, some v6, none, none, none, none, none, none, none, none, none, none] H6 s L (c + 797 + 1) (c + 797 + 1) (.lst (.cons (.tup (.cons (.str "load") (.cons (.int 0) .nil))) (.cons (.tup (.cons (.str "part") (.cons (.int 2) .nil))) (.cons (.tup (.cons (.str "push") (.cons (.int 7) .nil))) (.cons (.tup (.cons (.str "give") .nil)) (.cons (.tup (.cons (.str "load") (.cons (.int 1) .nil))) (.cons (.tup (.cons (.str "len") .nil)) (.cons (.tup (.cons (.str "give") .nil)) .nil)))))))) (IsRows s L 7) :=
      l_rows (ts_rc (ri (by decide +kernel) (by omega) (by omega)) (ts_rc (ri (by decide +kernel) (by omega) (by omega)) (ts_rc (ri (by decide +kernel) (by omega) (by omega)) (ts_rc (r1 (by decide +kernel)) (ts_rc (ri (by decide +kernel) (by omega) (by omega)) (ts_rc (r1 (by decide +kernel)) (ts_rc (r1 (by decide +kernel)) ts_r0))))))) (by omega)
    exact set_t st6 (t_ifx any_gt (dr rfl (by omega) (by omega) (by omega)) t_int (v_rows rfl st6 p66) other) fun v H' x st' p => hN _ _ ⟨v, rfl, x6.trans x, st'.le (by omega), stab_code _ _ _ _ st6 x p56, p⟩
  obtain ⟨v7, rfl, x7, st7, p57, p67⟩ := p
  -- the dict, the names
  refine seqP (P := fun σ' H' => ∃ fd n1 n2, gd n1 = true ∧ gd n2 = true ∧ σ' = [some (.ref s), some v1, some v2, some v3, some v4, some v5, some v7, some (.ref fd), none, none, none, none, none, some (.str n1), some (.str n2), none, none] ∧ Ex [s, L] H H' ∧ Stm H' s L (c + 799) ∧ IsRows s L 373 H' v5 ∧ IsRows s L 7 H' v7 ∧ H' fd = some (.dK []) ∧ H fd = none) (fun N hN => ?_) fun σ8 H8 p => ?_
  · unfold i__law_w_codes_7
    unfold Dq.wS
    refine e_tup (es_cons ?_)
    unfold Dq.wE
    refine ifT rfl (.inl fun fd nfd => es_cons ?_)
    have xf : Ex [] H7 (upd H7 fd (.dK [])) := Ex.new nfd
    have ef : upd H7 fd (HO.dK []) fd = some (.dK []) := upd_same
    generalize upd H7 fd (HO.dK []) = H7' at xf ef
    have st7' := st7.ex xf
    have four : TyE Γ (dE E) [some (.ref s), some v1, some v2, some v3, some v4, some v5, some v7, none, none, none, none, none, none, none, none, none, none] H7' s L (c + 798) (c + 798) (.lst (.cons (.tup (.cons (.str "f") (.cons (.str "gg") .nil))) (.cons (.tup (.cons (.str "main") (.cons (.str "aid") .nil))) (.cons (.tup (.cons (.str "loop") (.cons (.str "main") .nil))) (.cons (.tup (.cons (.str "a1") (.cons (.str "zz") .nil))) .nil))))) (IsLst s L IsPair 4 4) := by
      refine t_lst (ts_cons (t_pair (by decide +kernel) (by decide +kernel)) stab_pair (ts_cons (t_pair (by decide +kernel) (by decide +kernel)) stab_pair (ts_cons (t_pair (by decide +kernel) (by decide +kernel)) stab_pair (ts_cons (t_pair (by decide +kernel) (by decide +kernel)) stab_pair ts_nil)))) stab_pair (by omega) fun H vs ⟨v, r, e1, p1, v', r', e2, p2, v3, r3, e3, p3, v4, r4, e4, p4, e5⟩ => ?_
      subst e5; subst e4; subst e3; subst e2; subst e1
      refine ⟨Nat.le_refl _, Nat.le_refl _, fun x hx => ?_⟩
      simp only [List.mem_cons, List.not_mem_nil, or_false] at hx
      rcases hx with rfl | rfl | rfl | rfl
      · exact p1
      · exact p2
      · exact p3
      · exact p4
    refine t_pick G.pick rfl four stab_pair (by omega) (by omega) (by omega) H7' _ ⟨Ex.refl, st7'⟩ fun v H8 cu x8 ⟨tp, n1, n2, ev, htp, g1, g2⟩ => ?_
    subst ev
    refine es_nil ⟨by show 2 ≤ sizeLine; omega, fun t nt => ?_⟩
    have xt : Ex [] H8 (upd H8 t (.tup [.ref fd, .ref tp])) := Ex.new nt
    have et : upd H8 t (HO.tup [.ref fd, .ref tp]) t = some (.tup [.ref fd, .ref tp]) := upd_same
    generalize upd H8 t (HO.tup [.ref fd, .ref tp]) = H9 at xt et
    have fsl : fd ∉ [s, L] := by
      obtain ⟨ns, cell, dd, tt, h1, h2, _⟩ := st7'
      intro z
      simp only [List.mem_cons, List.not_mem_nil, or_false] at z
      rcases z with z | z
      · rw [z, h1] at ef; cases ef
      · rw [z, h2] at ef; cases ef
    simp only [gOf, gsOf]
    have k5 := stab_code _ _ _ _ cu.st (xt.nil (bad := [s, L])) (stab_code _ _ _ _ st7' x8 (stab_code _ _ _ _ st7 (xf.nil (bad := [s, L])) p57))
    have k6 := stab_code _ _ _ _ cu.st (xt.nil (bad := [s, L])) (stab_code _ _ _ _ st7' x8 (stab_code _ _ _ _ st7 (xf.nil (bad := [s, L])) p67))
    exact ⟨t, _, rfl, .inl (.inl (.inl et)), rfl, _, _, rfl, _, _, rfl, ⟨tp, _, rfl, .inl (.inl (.inl (xt.get htp (by simp)))), rfl, _, _, rfl, _, _, rfl, rfl, rfl, hN _ _ ⟨fd, n1, n2, g1, g2, rfl, ((x7.trans xf.nil).trans x8).trans xt.nil, (cu.st.ex xt).le (by omega), k5, k6, xt.get (x8.get ef fsl) (by simp), x7.dom nfd⟩⟩⟩
  obtain ⟨fd, n1, n2, g1, g2, rfl, x8, st8, p58, p68, e8, nfd⟩ := p
  refine seqP (P := fun σ' H' => (∃ p5 p6 a b c' d' e' f' g', σ' = [some (.ref s), some v1, some v2, some v3, some v4, p5, p6, some (.ref fd), a, b, c', d', e', some (.str n1), some (.str n2), f', g']) ∧ Ex [s, L] H H' ∧ Stm H' s L (c + 799) ∧ CodesAt H' fd 2) (fun N hN => ?_) fun σ9 H9 p => ?_
  · obtain ⟨aw, xs5, rfl, h5, l5, o5⟩ := p58.rows
    obtain ⟨as, xs6, rfl, h6, l6, o6⟩ := p68.rows
    unfold i__law_w_codes_8
    unfold Dq.wS
    refine .inl ?_
    rw [tFor_eq]
    refine i_val (e_tup (es_cons (e_tup (es_cons (e_var rfl (es_cons ?_))))))
    unfold Dq.wE
    refine es_cons (e_lst ?_)
    simp only [Dq.wEs, Dq.wE]
    refine ⟨by decide, fun na nna => ⟨_, rfl, by show 4 ≤ sizeLine; omega, fun t1 nt1 => ⟨_, rfl, by decide, fun nb nnb => ⟨_, rfl, by show 4 ≤ sizeLine; omega, fun t2 nt2 => ⟨by show 2 ≤ sizeLine; omega, fun tt ntt => ?_⟩⟩⟩⟩⟩
    have xa : Ex [] H8 (upd H8 na (.lst [.str "n", .str "a", .str "i", .str "p", .str "q"])) := Ex.new nna
    have ea : upd H8 na (HO.lst [.str "n", .str "a", .str "i", .str "p", .str "q"]) na = some (.lst [.str "n", .str "a", .str "i", .str "p", .str "q"]) := upd_same
    generalize upd H8 na (HO.lst [.str "n", .str "a", .str "i", .str "p", .str "q"]) = Ha at xa ea nt1 nnb nt2 ntt
    have xb : Ex [] Ha (upd Ha t1 (.tup [.str n1, .int 2, .ref na, .ref aw])) := Ex.new nt1
    have eb : upd Ha t1 (HO.tup [.str n1, .int 2, .ref na, .ref aw]) t1 = some (.tup [.str n1, .int 2, .ref na, .ref aw]) := upd_same
    generalize upd Ha t1 (HO.tup [.str n1, .int 2, .ref na, .ref aw]) = Hb at xb eb nnb nt2 ntt
    have xc : Ex [] Hb (upd Hb nb (.lst [.str "x", .str "p", .str "y"])) := Ex.new nnb
    have ec : upd Hb nb (HO.lst [.str "x", .str "p", .str "y"]) nb = some (.lst [.str "x", .str "p", .str "y"]) := upd_same
    generalize upd Hb nb (HO.lst [.str "x", .str "p", .str "y"]) = Hc at xc ec nt2 ntt
    have xd : Ex [] Hc (upd Hc t2 (.tup [.str n2, .int 2, .ref nb, .ref as])) := Ex.new nt2
    have ed : upd Hc t2 (HO.tup [.str n2, .int 2, .ref nb, .ref as]) t2 = some (.tup [.str n2, .int 2, .ref nb, .ref as]) := upd_same
    generalize upd Hc t2 (HO.tup [.str n2, .int 2, .ref nb, .ref as]) = Hd at xd ed ntt
    have xe : Ex [] Hd (upd Hd tt (.tup [.ref t1, .ref t2])) := Ex.new ntt
    have ee : upd Hd tt (HO.tup [.ref t1, .ref t2]) tt = some (.tup [.ref t1, .ref t2]) := upd_same
    generalize upd Hd tt (HO.tup [.ref t1, .ref t2]) = He at xe ee
    have x8e : Ex [] H8 He := (((xa.trans xb).trans xc).trans xd).trans xe
    have fdn : fd ∉ ([] : List Addr) := by simp
    -- what both turns lean on
    let Al : Hp → Prop := fun K => K tt = some (.tup [.ref t1, .ref t2]) ∧ K t1 = some (.tup [.str n1, .int 2, .ref na, .ref aw]) ∧ K t2 = some (.tup [.str n2, .int 2, .ref nb, .ref as]) ∧ K na = some (.lst [.str "n", .str "a", .str "i", .str "p", .str "q"]) ∧ K nb = some (.lst [.str "x", .str "p", .str "y"]) ∧ K aw = some (.lst xs5) ∧ K as = some (.lst xs6) ∧ (∀ x ∈ xs5, IsRow K x) ∧ (∀ x ∈ xs6, IsRow K x)
    have ale : Al He := ⟨ee, xe.get (xd.get (xc.get eb (by simp)) (by simp)) (by simp), xe.get ed (by simp), xe.get (xd.get (xc.get (xb.get ea (by simp)) (by simp)) (by simp)) (by simp), xe.get (xd.get ec (by simp)) (by simp), x8e.get h5 (by simp), x8e.get h6 (by simp), fun x hx => (o5 x hx).ex x8e, fun x hx => (o6 x hx).ex x8e⟩
    have alk : ∀ {K K' : Hp} {kvs : List (Key × V)}, Al K → K fd = some (.dK kvs) → Ex [fd] K K' → Al K' := by
      rintro K K' kvs ⟨b1, b2, b3, b4, b5, b6, b7, b8, b9⟩ hk x
      have kt : ∀ {a : Addr} {o : HO}, K a = some o → (∀ kvs, o ≠ .dK kvs) → K' a = some o := fun e n => x.get e fun z => by
        rw [List.mem_singleton.mp z, hk] at e
        cases e
        exact n _ rfl
      have kr : ∀ {x : V}, IsRow K x → IsRow K' x := by
        rintro x ⟨t, r, e, h, o⟩
        exact ⟨t, r, e, kt h (fun _ z => by cases z), o⟩
      exact ⟨kt b1 (fun _ z => by cases z), kt b2 (fun _ z => by cases z), kt b3 (fun _ z => by cases z), kt b4 (fun _ z => by cases z), kt b5 (fun _ z => by cases z), kt b6 (fun _ z => by cases z), kt b7 (fun _ z => by cases z), fun x hx => kr (b8 x hx), fun x hx => kr (b9 x hx)⟩
    refine itv_t (.inl (.inl ee)) (for_t (fun i σ' K => (∃ a b c' d' e' f' g', σ' = [some (.ref s), some v1, some v2, some v3, some v4, some (.ref aw), some (.ref as), some (.ref fd), a, b, c', d', e', some (.str n1), some (.str n2), f', g']) ∧ Ex [s, L] H K ∧ Stm K s L (c + 799) ∧ CodesAt K fd i ∧ Al K) ⟨⟨_, _, _, _, _, _, _, rfl⟩, x8.trans x8e.nil, st8.ex x8e, ⟨[], x8e.get e8 (by simp), by simp, fun q hq => by cases hq⟩, ale⟩ (fun i σ' K p => .inl (.inl p.2.2.2.2.1)) (fun σ' K p => hN _ _ ⟨⟨_, _, p.1⟩, p.2.1, p.2.2.1, p.2.2.2.1⟩) fun i σ' K x hx p => ?_)
    obtain ⟨⟨a, b, c', d', e', f', g', rfl⟩, xK, stK, cK, al⟩ := p
    obtain ⟨kvs, ek, lk, ok⟩ := id cK
    obtain ⟨b1, b2, b3, b4, b5, b6, b7, b8, b9⟩ := id al
    simp only [gOf, gsOf]
    have xsl : ∀ {K' : Hp}, Ex [fd] K K' → Ex [s, L] H K' := fun x => ((xK.imp (bad' := [s, L, fd]) (by intro a ha; simp at ha ⊢; rcases ha with h | h <;> simp [h])).trans (x.imp (by simp))).drop fun a ha => by
      simp only [List.mem_cons, List.not_mem_nil, or_false] at ha
      rcases ha with h | h | h
      · exact .inl (by simp [h])
      · exact .inl (by simp [h])
      · exact .inr (by rw [h]; exact nfd)
    match i, hx with
    | 0, hx =>
      cases hx
      refine ⟨t1, _, rfl, .inl (.inl (.inl b2)), rfl, _, _, rfl, _, _, rfl, _, _, rfl, _, _, rfl, rfl, ?_⟩
      refine codes_turn (σ0 := fun _ => []) (ns := ["n", "a", "i", "p", "q"]) F cK (by omega) g1 g2 b4 (by decide) (by decide +kernel) b6 (by omega) b8 fun v12 K' x' c2 => ?_
      exact ⟨⟨_, _, _, _, _, _, _, rfl⟩, xsl x', stK.exD ek x', c2, alk al ek x'⟩
    | 1, hx =>
      cases hx
      refine ⟨t2, _, rfl, .inl (.inl (.inl b3)), rfl, _, _, rfl, _, _, rfl, _, _, rfl, _, _, rfl, rfl, ?_⟩
      refine codes_turn (σ0 := fun _ => []) (ns := ["x", "p", "y"]) F cK (by omega) g2 g2 b5 (by decide) (by decide +kernel) b7 (by omega) b9 fun v12 K' x' c2 => ?_
      exact ⟨⟨_, _, _, _, _, _, _, rfl⟩, xsl x', stK.exD ek x', c2, alk al ek x'⟩
    | i + 2, hx => simp at hx
  obtain ⟨⟨p5, p6, a, b, c', d', e', f', g', rfl⟩, x9, st9, c9⟩ := p
  refine seq1 ?_
  unfold i__law_w_codes_9
  unfold Dq.wS
  exact e_var rfl (q fd H9 x9 (st9.le (by omega)) c9)
end Hk64

set_option maxHeartbeats 4000000
namespace Hk64
open PySem PySem.Spec PyProof.Rows L2 Dq
variable {Γ : Gam} {W : WX} {D : Ends} {σ : L2.St} {H : Hp} {s L : Addr} {d d' d'' : Int} {e : Dq.CE} {es : Dq.CEs} {P : VP}
/-! ### lists of good marks -/
def gdS : V → Bool
  | .str x => gd x
  | _ => false
abbrev IsMk (s L : Addr) (n : Nat) : VP := IsLst s L (IsV gdS) 0 n
/-- some of the items -/
def Sub (xs ys : List V) : Prop := ∀ y ∈ ys, y ∈ xs
def TyO (Γ : Gam) (W : WX) (σ : L2.St) (Hs : Hp) (s L : Addr) (d d' : Int) (o : Dq.CO) (R : Option Int → Prop) : Prop := ∀ (H : Hp) (N : Option Int → Hp → Prop), Cur Hs s L H d → (∀ i H', Cur Hs s L H' d' → Ex [s, L] H H' → R i → N i H') → Dq.wO Γ o true W σ H N
theorem o_no {Hs : Hp} : TyO Γ W σ Hs s L d d .no (fun o => o = none) := fun H N c q => by
  unfold Dq.wO
  exact q none H c Ex.refl rfl
theorem o_some {Hs : Hp} {lo hi : Int} (h : TyE Γ W σ Hs s L d d' e (IsInt lo hi)) : TyO Γ W σ Hs s L d d' (.some e) (fun o => ∃ i, o = some i ∧ lo ≤ i ∧ i ≤ hi) := fun H N c q => by
  unfold Dq.wO
  exact h H _ c fun v H' c' x ⟨i, e, k1, k2⟩ => ⟨i, e, q _ H' c' x ⟨i, rfl, k1, k2⟩⟩
theorem cut_sub {xs : List V} {lo hi : Option Int} : Sub xs (cutV xs lo hi) := fun y hy => List.mem_of_mem_drop (List.mem_of_mem_take hy)
/-- a slice of a list, with the length that it has -/
theorem t_sl {Hs : Hp} {a : Dq.CE} {lo hi : Dq.CO} {R1 R2 : Option Int → Prop} {l h m : Nat} (ha : TyE Γ W σ Hs s L d d' a (IsLst s L P l h)) (h1 : TyO Γ W σ Hs s L d' d'' lo R1) {d3 : Int} (h2 : TyO Γ W σ Hs s L d'' d3 hi R2) (st : Stab s L P) (hm : ∀ (xs : List V) (i j : Option Int), xs.length ≤ h → R1 i → R2 j → (cutV xs i j).length ≤ m) : TyE Γ W σ Hs s L d d3 (.sl a lo hi) (IsLst s L P 0 m) := fun H N c q => by
  unfold Dq.wE
  refine ha H _ c fun v H' c' x pv => h1 H' _ c' fun i H2 c2 x2 ri => h2 H2 _ c2 fun j H3 c3 x3 rj => ?_
  obtain ⟨a', xs, e, n, hx, k1, k2, o⟩ := stab_lst st _ _ _ _ c2.st x3 (stab_lst st _ _ _ _ c'.st x2 pv)
  subst e
  refine sl_l (.inl (.inl hx)) fun p np => q _ _ (c3.ex (Ex.new np)) (((x.trans x2).trans x3).trans (Ex.new np)) ⟨p, _, rfl, c3.new np, upd_same, Nat.zero_le _, hm xs i j k2 ri rj, fun y hy => st _ _ _ _ c3.st (Ex.new np) (o y (cut_sub y hy))⟩
theorem addM {Hs : Hp} {a b : Dq.CE} {n m : Nat} (ha : TyE Γ W σ Hs s L d d' a (IsMk s L n)) (hb : TyE Γ W σ Hs s L d' d'' b (IsMk s L m)) (h : n + m ≤ 100000) : TyE Γ W σ Hs s L d d'' (.bin .Add a b) (IsMk s L (n + m)) := t_addl ha hb stab_v h
theorem v_mk {Hs : Hp} {i : Nat} {v : V} {c0 : Int} {n : Nat} (h : σ[i]? = some (some v)) (st : Stm Hs s L c0) (hv : IsMk s L n Hs v) : TyE Γ W σ Hs s L d d (.var i) (IsMk s L n) := t_var h hv (stab_lst stab_v) st
theorem l1m {Hs : Hp} (h : TyE Γ W σ Hs s L d d' e (IsV gdS)) : TyE Γ W σ Hs s L d d' (.lst (.cons e .nil)) (IsMk s L 1) :=
  t_lst (ts_cons h stab_v ts_nil) stab_v (by omega) fun H vs ⟨v, r, e1, p, e2⟩ => by
    subst e2; subst e1
    exact ⟨Nat.zero_le _, Nat.le_refl _, fun x hx => by rw [List.mem_singleton.mp hx]; exact p⟩
theorem cut_len {xs : List V} {lo hi : Option Int} : (cutV xs lo hi).length ≤ xs.length := cutV_length xs lo hi
/-- ahead of a place -/
theorem cut_to {xs : List V} {i : Int} {k : Nat} (h0 : 0 ≤ i) (hi : i ≤ k) : (cutV xs none (some i)).length ≤ k := by
  obtain ⟨n, rfl⟩ : ∃ n : Nat, i = n := ⟨i.toNat, by omega⟩
  unfold cutV
  rw [List.length_take, HT.sIx_nat, HT.sIx_none]
  omega
/-- behind a place -/
theorem cut_from {xs : List V} {i : Int} {k n : Nat} (h0 : (k : Int) ≤ i) (hn : xs.length ≤ n) : (cutV xs (some i) none).length ≤ n - k := by
  obtain ⟨m, rfl⟩ : ∃ m : Nat, i = m := ⟨i.toNat, by omega⟩
  unfold cutV
  rw [List.length_take, HT.sIx_nat, HT.sIx_none]
  omega
theorem cut_last {xs : List V} : (cutV xs (some (-3)) none).length ≤ 3 := by
  unfold cutV
  rw [List.length_take, HT.sIx_none]
  have : HT.sIx xs.length 0 (some (-3)) = ((-3 : Int) + (xs.length : Int)).toNat := rfl
  rw [this]
  omega
theorem cut_one {xs : List V} {i : Int} (h0 : 0 ≤ i) : (cutV xs (some i) (some (i + 1))).length ≤ 1 := by
  obtain ⟨m, rfl⟩ : ∃ m : Nat, i = m := ⟨i.toNat, by omega⟩
  have e : ((m : Int) + 1) = ((m + 1 : Nat) : Int) := rfl
  unfold cutV
  rw [List.length_take, e, HT.sIx_nat, HT.sIx_nat]
  omega
theorem gd_lay {x : Str} (h : gd x = true) : PyData.canLay0 (.str x) = true := by
  unfold gd at h
  simp only [Bool.and_eq_true] at h
  show x.cps.all (fun c => decide (c < 0x110000)) = true
  rw [← Array.all_toList, List.all_eq_true]
  intro c hc
  have := List.all_eq_true.mp h.2.2 c hc
  unfold gdC at this
  simp only [Bool.and_eq_true, decide_eq_true_eq] at this
  exact decide_eq_true (by omega)
theorem gdS_ok {v : V} (h : gdS v = true) : okV v = true := by
  cases v with
  | str x => exact gd_lay h
  | _ => cases h
/-- marks against [] -/
theorem ne_nilM {K : PySem.W.Frag} {w : World} {Q : VK} {a b : Addr} {xs : List V} (h : H a = some (.lst xs)) (hx : ∀ x ∈ xs, gdS x = true) (h' : H b = some (.lst [])) (q : Q (.bl (!xs.isEmpty)) H) : qCmp K w .NotEq (.ref a) (.ref b) H Q := by
  obtain ⟨c1, c2, c3⟩ := dp_vs (K := K) (H := H) (vs := xs) (List.all_eq_true.mpr fun x h => gdS_ok (hx x h))
  refine ne_d (d := .list (xs.map pyV)) (e := .list []) (.lst (.inl (.inl h)) c1) (.lst (.inl (.inl h')) .nil) ?_ (by decide) ?_
  · show (PyData.canLayAll0 (xs.map pyV) && decide (PyData.depthAll (xs.map pyV) + 1 ≤ 64)) = true
    rw [c2, c3]; rfl
  · cases xs with
    | nil => exact q
    | cons i r => exact q
def spChanged : Sp := fun vs H Q _ => ∃ s L c n m so, vs = [.ref s, m, so] ∧ Stm H s L c ∧ c + 4 ≤ 1099511627776 ∧ n ≤ 90000 ∧ IsMk s L n H m ∧ IsLst s L (IsV gdS) 1 100 H so ∧ ∀ v H', Ex [s, L] H H' → Stm H' s L (c + 4) → IsMk s L (n + 3) H' v → Q v H'
theorem w_changed (G : GenFns Γ) (vs : List V) (H : Hp) (Q : VK) (E : XK) (h : spChanged vs H Q E) : wSs Γ i__law_x_changed (dE E) (dD Q) (start l__law_x_changed.N vs) H := by
  obtain ⟨s, L, c, n, m, so, rfl, st, hc, hn, hm, hso, q⟩ := h
  have hb := sizeBig
  unfold i__law_x_changed
  obtain ⟨am, xs, rfl, nm, hxs, _, lxs, oxs⟩ := id hm
  have hm' : IsLst s L (IsV gdS) xs.length xs.length H (.ref am) := ⟨am, xs, rfl, nm, hxs, Nat.le_refl _, Nat.le_refl _, oxs⟩
  generalize hk : xs.length = k at hm' lxs
  refine seqP (P := fun σ' H' => ∃ at_ way : Int, 0 ≤ at_ ∧ at_ ≤ k ∧ 0 ≤ way ∧ way ≤ 8 ∧ σ' = [some (.ref s), some (.ref am), some so, none, some (.int at_), some (.int way)] ∧ Ex [s, L] H H' ∧ Stm H' s L (c + 2)) (fun N hN => ?_) fun σ1 H1 p => ?_
  · unfold i__law_x_changed_0
    simp only [Dq.wS, tPar, tCons, tNil]
    have t1 : TyE Γ (dE E) (start l__law_x_changed.N [.ref s, .ref am, so]) H s L c (c + 1) (.call "_law_draw" (.cons (.var 0) (.cons (.bin .Add (.bf .len (.cons (.var 1) .nil)) (.int 1)) .nil))) (IsInt 0 ((k : Int) + 1 - 1)) := t_draw G.draw rfl (t_addi (t_len (t_var rfl hm' (stab_lst stab_v) st)) t_int) (by omega) (by omega) (by omega)
    have t2 : TyE Γ (dE E) (start l__law_x_changed.N [.ref s, .ref am, so]) H s L (c + 1) (c + 1 + 1) (.call "_law_draw" (.cons (.var 0) (.cons (.int 9) .nil))) (IsInt 0 (9 - 1)) := t_draw G.draw rfl t_int (by omega) (by omega) (by omega)
    refine t1 H _ ⟨Ex.refl, st⟩ fun v H' cu x ⟨i, e, k1, k2⟩ => t2 H' _ cu fun v2 H2 cu2 x2 ⟨j, e2, k3, k4⟩ => ?_
    subst e e2
    exact ⟨_, _, rfl, hN _ _ ⟨i, j, k1, by omega, k3, by omega, rfl, x.trans x2, cu2.st.le (by omega)⟩⟩
  obtain ⟨at_, way, a0, a1, w0, w8, rfl, x1, st1⟩ := p
  have hm1 : IsMk s L k H1 (.ref am) := (stab_lst stab_v _ _ _ _ st x1 hm').le (Nat.zero_le _) (Nat.le_refl _)
  have hml := stab_lst stab_v _ _ _ _ st x1 hm'
  have hs1 := stab_lst stab_v _ _ _ _ st x1 hso
  have fin : ∀ {v : V} {H' : Hp} {mm : Nat} {dd : Int}, Ex [s, L] H1 H' → Stm H' s L dd → dd ≤ c + 4 → IsMk s L mm H' v → mm ≤ n + 3 → Q v H' := fun x st h1 p h2 => q _ _ (x1.trans x) (st.le h1) (p.le (Nat.le_refl _) h2)
  have va : ∀ {τ : L2.St} {dd : Int}, τ[4]? = some (some (.int at_)) → TyE Γ (dE E) τ H1 s L dd dd (.var 4) (IsInt at_ at_) := fun h => v_int h st1 (Int.le_refl _) (Int.le_refl _)
  obtain ⟨ak, rfl⟩ : ∃ n : Nat, at_ = n := ⟨at_.toNat, by omega⟩
  -- the parts
  have pre : ∀ {τ : L2.St} {dd : Int}, τ[1]? = some (some (.ref am)) → τ[4]? = some (some (.int ak)) → TyE Γ (dE E) τ H1 s L dd dd (.sl (.var 1) .no (.some (.var 4))) (IsMk s L ak) := fun h h4 => t_sl (v_mk h st1 hm1) o_no (o_some (va h4)) stab_v fun xs i j hl e ⟨i', e', k1, k2⟩ => by subst e e'; exact cut_to (by omega) (by omega)
  have suf1 : ∀ {τ : L2.St} {dd : Int}, τ[1]? = some (some (.ref am)) → τ[4]? = some (some (.int ak)) → TyE Γ (dE E) τ H1 s L dd dd (.sl (.var 1) (.some (.bin .Add (.var 4) (.int 1))) .no) (IsMk s L (k - (ak + 1))) := fun h h4 => t_sl (v_mk h st1 hm1) (o_some (t_addi (va h4) t_int)) o_no stab_v fun xs i j hl ⟨i', e', k1, k2⟩ e => by subst e e'; exact cut_from (by omega) hl
  have suf0 : ∀ {τ : L2.St} {dd : Int}, τ[1]? = some (some (.ref am)) → τ[4]? = some (some (.int ak)) → TyE Γ (dE E) τ H1 s L dd dd (.sl (.var 1) (.some (.var 4)) .no) (IsMk s L (k - ak)) := fun h h4 => t_sl (v_mk h st1 hm1) (o_some (va h4)) o_no stab_v fun xs i j hl ⟨i', e', k1, k2⟩ e => by subst e e'; exact cut_from (by omega) hl
  have pk : ∀ {τ : L2.St} {dd : Int}, τ[0]? = some (some (.ref s)) → τ[2]? = some (some so) → dd ≤ c + 3 → TyE Γ (dE E) τ H1 s L dd (dd + 1) (.lst (.cons (.call "_law_pick" (.cons (.var 0) (.cons (.var 2) .nil))) .nil)) (IsMk s L 1) := fun h h2 h3 => l1m (t_pick G.pick h (t_var h2 hs1 (stab_lst stab_v) st1) stab_v (by omega) (by omega) (by omega))
  refine seqP (P := fun σ' H' => σ' = [some (.ref s), some (.ref am), some so, none, some (.int ak), some (.int way)] ∧ H' = H1) (fun N hN => ?_) fun σ2 H2 p => ?_
  · unfold i__law_x_changed_1
    refine if_eq rfl (fun hw => ?_) fun hw => ?_
    · unfold i__law_x_changed_1a
      refine seq1 ?_
      unfold i__law_x_changed_1a_0
      exact ret_t st1 (addM (pre rfl rfl) (suf1 rfl rfl) (by omega)) fun v H' x st' p => fin x st' (by omega) p (by omega)
    · unfold Dq.wSs
      exact hN _ _ ⟨rfl, rfl⟩
  obtain ⟨rfl, rfl⟩ := p
  refine seqP (P := fun σ' H' => σ' = [some (.ref s), some (.ref am), some so, none, some (.int ak), some (.int way)] ∧ H' = H2) (fun N hN => ?_) fun σ3 H3 p => ?_
  · unfold i__law_x_changed_2
    refine if_lt rfl (fun hw => ?_) fun hw => ?_
    · unfold i__law_x_changed_2a
      refine seq1 ?_
      unfold i__law_x_changed_2a_0
      exact ret_t st1 (addM (addM (pre rfl rfl) (pk rfl rfl (by omega)) (by omega)) (suf1 rfl rfl) (by omega)) fun v H' x st' p => fin x st' (by omega) p (by omega)
    · unfold Dq.wSs
      exact hN _ _ ⟨rfl, rfl⟩
  obtain ⟨rfl, rfl⟩ := p
  refine seqP (P := fun σ' H' => σ' = [some (.ref s), some (.ref am), some so, none, some (.int ak), some (.int way)] ∧ H' = H3) (fun N hN => ?_) fun σ4 H4 p => ?_
  · unfold i__law_x_changed_3
    refine if_lt rfl (fun hw => ?_) fun hw => ?_
    · unfold i__law_x_changed_3a
      refine seq1 ?_
      unfold i__law_x_changed_3a_0
      exact ret_t st1 (addM (addM (pre rfl rfl) (pk rfl rfl (by omega)) (by omega)) (suf0 rfl rfl) (by omega)) fun v H' x st' p => fin x st' (by omega) p (by omega)
    · unfold Dq.wSs
      exact hN _ _ ⟨rfl, rfl⟩
  obtain ⟨rfl, rfl⟩ := p
  refine seqP (P := fun σ' H' => σ' = [some (.ref s), some (.ref am), some so, none, some (.int ak), some (.int way)] ∧ H' = H4) (fun N hN => ?_) fun σ5 H5 p => ?_
  · unfold i__law_x_changed_4
    refine if_eq rfl (fun hw => ?_) fun hw => ?_
    · unfold i__law_x_changed_4a
      refine seq1 ?_
      unfold i__law_x_changed_4a_0
      have l3 : TyE Γ (dE E) [some (.ref s), some (.ref am), some so, none, some (.int ak), some (.int way)] H4 s L (c + 2) (c + 2) (.sl (.var 1) (.some (.neg (.int 3))) .no) (IsMk s L 3) := t_sl (v_mk rfl st1 hm1) (o_some (t_neg t_int)) o_no stab_v fun xs i j hl ⟨i', e', k1, k2⟩ e => by
        subst e e'
        have : i' = -3 := by omega
        rw [this]; exact cut_last
      exact ret_t st1 (addM (v_mk rfl st1 hm1) l3 (by omega)) fun v H' x st' p => fin x st' (by omega) p (by omega)
    · unfold Dq.wSs
      exact hN _ _ ⟨rfl, rfl⟩
  obtain ⟨rfl, rfl⟩ := p
  refine seqP (P := fun σ' H' => σ' = [some (.ref s), some (.ref am), some so, none, some (.int ak), some (.int way)] ∧ H' = H5) (fun N hN => ?_) fun σ6 H6 p => ?_
  · unfold i__law_x_changed_5
    refine if_eq rfl (fun hw => ?_) fun hw => ?_
    · unfold i__law_x_changed_5a
      refine seq1 ?_
      unfold i__law_x_changed_5a_0
      exact ret_t st1 (pre rfl rfl) fun v H' x st' p => fin x st' (by omega) p (by omega)
    · unfold Dq.wSs
      exact hN _ _ ⟨rfl, rfl⟩
  obtain ⟨rfl, rfl⟩ := p
  refine seqP (P := fun σ' H' => ∃ ot : Int, 0 ≤ ot ∧ ot ≤ 100000 ∧ σ' = [some (.ref s), some (.ref am), some so, some (.int ot), some (.int ak), some (.int way)] ∧ Ex [s, L] H6 H' ∧ Stm H' s L (c + 3)) (fun N hN => ?_) fun σ7 H7 p => ?_
  · unfold i__law_x_changed_6
    simp only [Dq.wS, Dq.wE, Dq.wEs, Dq.wT]
    obtain ⟨am', xs', e', nm', hx6, l6, l6', o6⟩ := id hml
    cases e'
    refine ⟨_, rfl, by decide, fun p np => ?_⟩
    have xp : Ex [] H6 (upd H6 p (.lst [])) := Ex.new np
    refine ne_nilM (xp.get hx6 (by simp)) (fun x hx => (o6 x hx).1) upd_same ⟨_, rfl, ?_⟩
    cases xs' with
    | nil => exact ifF rfl (hN _ _ ⟨0, by omega, by omega, rfl, xp.nil, (st1.ex xp).le (by omega)⟩)
    | cons y r =>
      refine ifT rfl ⟨_, G.draw, _, rfl, _, rfl, len_lst (xp.get hx6 (by simp)) ⟨s, L, _, _, rfl, st1.ex xp, by omega, by simp; omega, by omega, fun r' H' r1 r2 x st' => hN _ _ ⟨r', r1, by omega, rfl, xp.nil.trans x, st'.le (by omega)⟩⟩⟩
  obtain ⟨ot, o0, o1, rfl, x7, st7⟩ := p
  obtain ⟨ok, rfl⟩ : ∃ n : Nat, ot = n := ⟨ot.toNat, by omega⟩
  have hm7 : IsMk s L k H7 (.ref am) := stab_lst stab_v _ _ _ _ st1 x7 hm1
  refine seq1 ?_
  unfold i__law_x_changed_7
  have va7 : ∀ {dd : Int}, TyE Γ (dE E) [some (.ref s), some (.ref am), some so, some (.int ok), some (.int ak), some (.int way)] H7 s L dd dd (.var 4) (IsInt ak ak) := v_int rfl st7 (Int.le_refl _) (Int.le_refl _)
  have vo7 : ∀ {dd : Int}, TyE Γ (dE E) [some (.ref s), some (.ref am), some so, some (.int ok), some (.int ak), some (.int way)] H7 s L dd dd (.var 3) (IsInt ok ok) := v_int rfl st7 (Int.le_refl _) (Int.le_refl _)
  have p7 : TyE Γ (dE E) [some (.ref s), some (.ref am), some so, some (.int ok), some (.int ak), some (.int way)] H7 s L (c + 3) (c + 3) (.sl (.var 1) .no (.some (.var 4))) (IsMk s L ak) := t_sl (v_mk rfl st7 hm7) o_no (o_some va7) stab_v fun xs i j hl e ⟨i', e', k1, k2⟩ => by subst e e'; exact cut_to (by omega) (by omega)
  have m7 : TyE Γ (dE E) [some (.ref s), some (.ref am), some so, some (.int ok), some (.int ak), some (.int way)] H7 s L (c + 3) (c + 3) (.sl (.var 1) (.some (.var 3)) (.some (.bin .Add (.var 3) (.int 1)))) (IsMk s L 1) := t_sl (v_mk rfl st7 hm7) (o_some vo7) (o_some (t_addi vo7 t_int)) stab_v fun xs i j hl ⟨i', e', k1, k2⟩ ⟨j', e2, k3, k4⟩ => by
    subst e' e2
    have : j' = i' + 1 := by omega
    rw [this]; exact cut_one (by omega)
  have s7 : TyE Γ (dE E) [some (.ref s), some (.ref am), some so, some (.int ok), some (.int ak), some (.int way)] H7 s L (c + 3) (c + 3) (.sl (.var 1) (.some (.bin .Add (.var 4) (.int 1))) .no) (IsMk s L (k - (ak + 1))) := t_sl (v_mk rfl st7 hm7) (o_some (t_addi va7 t_int)) o_no stab_v fun xs i j hl ⟨i', e', k1, k2⟩ e => by subst e e'; exact cut_from (by omega) hl
  exact ret_t st7 (addM (addM p7 m7 (by omega)) s7 (by omega)) fun v H' x st' p => fin (x7.trans x) st' (by omega) p (by omega)
end Hk64

set_option maxHeartbeats 4000000
namespace Hk64
open PySem PySem.Spec PyProof.Rows L2 Dq
variable {Γ : Gam} {W : WX} {D : Ends} {σ : L2.St} {H : Hp} {s L : Addr} {d d' d'' : Int} {e : Dq.CE} {es : Dq.CEs} {P : VP}
theorem gd_of {x : Str} (h1 : 1 ≤ x.length) (h2 : x.length ≤ 30) (h : ∀ c ∈ x.cps.toList, 33 ≤ c ∧ c ≤ 126) : gd x = true := by
  unfold gd
  rw [decide_eq_true h1, decide_eq_true h2]
  have : x.cps.toList.all gdC = true := List.all_eq_true.mpr fun c hc => by
    obtain ⟨a, b⟩ := h c hc
    unfold gdC
    rw [decide_eq_true a, decide_eq_true b]; rfl
  rw [this]; rfl
theorem gd_nat (n : Nat) (h : n ≤ 2000000000000) : gd (Str.ofString (toString ((n : Nat) : Int))) = true ∧ (Str.ofString (toString ((n : Nat) : Int))).length ≤ 13 := by
  have e : (Str.ofString (toString ((n : Nat) : Int))).cps.toList = (Nat.toDigits 10 n).map Char.toNat := PySem.W.KIN.signs_num n
  have hd : NumText.AllDigits ((Nat.toDigits 10 n).map Char.toNat) := TL.numL_digits n
  have hne : (Nat.toDigits 10 n).map Char.toNat ≠ [] := TL.numL_ne n
  have hl : ((Nat.toDigits 10 n).map Char.toNat).length ≤ 13 := TL.numL_len (by omega) (by omega)
  have len : (Str.ofString (toString ((n : Nat) : Int))).length = ((Nat.toDigits 10 n).map Char.toNat).length := by
    rw [← e]; exact Array.length_toList.symm
  refine ⟨gd_of ?_ (by omega) fun c hc => ?_, by omega⟩
  · rw [len]; exact List.length_pos_iff.mpr hne
  · rw [e] at hc
    have := hd c hc
    omega
theorem gd_int {i : Int} (h1 : -2000000000000 ≤ i) (h2 : i ≤ 2000000000000) : gd (Str.ofString (toString i)) = true := by
  by_cases h : i < 0
  · obtain ⟨n, hn⟩ : ∃ n : Nat, 0 - i = n := ⟨(0 - i).toNat, by omega⟩
    have ht := toString_neg h
    obtain ⟨g, gl⟩ := gd_nat n (by omega)
    rw [hn] at ht
    have e : (Str.ofString (toString i)).cps.toList = 45 :: (Str.ofString (toString ((n : Nat) : Int))).cps.toList := by
      rw [ht]
      have key : ∀ t : String, (Str.ofString ("-" ++ t)).cps.toList = 45 :: (Str.ofString t).cps.toList := by
        intro t
        simp [Str.ofString]
        rfl
      exact key _
    have hl : (Str.ofString (toString i)).length = 1 + (Str.ofString (toString ((n : Nat) : Int))).length := by
      have := congrArg List.length e
      rw [List.length_cons] at this
      have l1 : (Str.ofString (toString i)).cps.toList.length = (Str.ofString (toString i)).length := Array.length_toList
      have l2 : (Str.ofString (toString ((n : Nat) : Int))).cps.toList.length = (Str.ofString (toString ((n : Nat) : Int))).length := Array.length_toList
      omega
    refine gd_of (by omega) (by omega) fun c hc => ?_
    rw [e] at hc
    rcases List.mem_cons.mp hc with rfl | hc
    · omega
    · have hd : NumText.AllDigits (Str.ofString (toString ((n : Nat) : Int))).cps.toList := by
        rw [show (Str.ofString (toString ((n : Nat) : Int))).cps.toList = (Nat.toDigits 10 n).map Char.toNat from PySem.W.KIN.signs_num n]
        exact TL.numL_digits n
      have := hd c hc
      omega
  · obtain ⟨n, rfl⟩ : ∃ n : Nat, i = n := ⟨i.toNat, by omega⟩
    exact (gd_nat n (by omega)).1
theorem log_ok {i : Int} (h1 : -2000000000000 ≤ i) (h2 : i ≤ 2000000000000) : i.natAbs.log2 < 1920 := by
  have : i.natAbs < 2 ^ 1920 := by
    have : (2000000000001 : Nat) ≤ 2 ^ 1920 := by
      have : (2 : Nat) ^ 41 ≤ 2 ^ 1920 := Nat.pow_le_pow_right (by omega) (by omega)
      omega
    omega
  by_cases h0 : i.natAbs = 0
  · rw [h0]; decide
  · exact (Nat.log2_lt h0).mpr this
end Hk64

set_option maxHeartbeats 1000000
namespace Hk64
open PySem PySem.Spec PyProof.Rows L2 Dq
variable {Γ : Gam} {W : WX} {D : Ends} {σ : L2.St} {H : Hp} {s L : Addr} {d d' d'' : Int} {e : Dq.CE} {es : Dq.CEs} {P : VP}
theorem str_w {K : PySem.W.Frag} {Q : VK} {v : V} (h : gdW v = true) (q : ∀ x, gd x = true → Q (.str x) H) : qF K .str [v] H Q := by
  cases v with
  | int i =>
    have := Bool.and_eq_true_iff.mp h
    have h1 := of_decide_eq_true this.1
    have h2 := of_decide_eq_true this.2
    exact str_i (log_ok h1 h2) (q _ (gd_int h1 h2))
  | str x => exact str_s (q x h)
  | _ => cases h
/-- [str(part) for part in row], behind the walker; row a tuple -/
theorem parts_lc {W' : WX} {i : Nat} {t : Addr} {xs : List V} {Q : VK} (hi : i < σ.length) (ht : H t = some (.tup xs)) (hl : xs.length ≤ 100) (hx : xs.all gdW = true) {dl : Addr} (hdl : H dl = none)
    (q : ∀ (ms : List Str) H', Ex [] H H' → H' dl = some (.lst (ms.map V.str)) → ms.length = xs.length → (∀ m ∈ ms, gd m = true) → Q (.ref dl) H') :
    LcR (Itt Γ.K t) (gName i) (fun _ H Q => Q true H) (Dq.wE Γ (.bf .str (.cons (.var i) .nil)) false W') [i] σ Q dl H := by
  have hb := sizeBig
  have htd : t ≠ dl := ne_of_none ht hdl
  refine lc_t (xs := xs) (I := fun n H' => ∃ ms : List Str, H' dl = some (.lst (ms.map V.str)) ∧ ms.length = n ∧ n ≤ xs.length ∧ Ex [dl] (upd H dl (.lst [])) H' ∧ H' t = some (.tup xs) ∧ ∀ m ∈ ms, gd m = true) ⟨[], upd_same, rfl, Nat.zero_le _, Ex.refl, by rw [upd_ne htd]; exact ht, fun y hy => by cases hy⟩ (fun n H' p => .inl (.inl p.choose_spec.2.2.2.2.1)) (fun H' p => ?_) fun n H' x hx' p => ?_
  · obtain ⟨ms, h1, h2, _, h3, h4, h5⟩ := p
    exact q ms H' (((Ex.new hdl).trans h3).drop fun b hb => .inr (by rw [List.mem_singleton.mp hb]; exact hdl)) h1 h2 h5
  · obtain ⟨ms, h1, h2, h3, h4, h5, h6⟩ := p
    have hn : n < xs.length := (List.getElem?_eq_some_iff.mp hx').1
    refine ⟨wipe1 (y := none), ifT rfl (e_bf (es_cons (e_var (wipe_get hi) (es_nil (str_w (List.all_eq_true.mp hx x (List.mem_of_getElem? hx')) fun z hz => ⟨_, h1, by rw [List.length_map]; omega, ms ++ [z], by rw [upd_same]; simp, by rw [List.length_append, h2]; rfl, hn, h4.trans (Ex.wr (by simp)), by rw [upd_ne htd]; exact h5, fun m hm => ?_⟩)))))⟩
    rcases List.mem_append.mp hm with z' | z'
    · exact h6 m z'
    · rw [List.mem_singleton.mp z']; exact hz
theorem add_ll {K : PySem.W.Frag} {Q : VK} {a b : Addr} {xs ys : List Str} (h : H a = some (.lst (xs.map V.str))) (h' : H b = some (.lst (ys.map V.str))) (hl : xs.length + ys.length ≤ 100000) (q : ∀ p, H p = none → Q (.ref p) (upd H p (.lst ((xs ++ ys).map V.str)))) : qBin K .Add (.ref a) (.ref b) H Q := by
  have hb := sizeBig
  refine add_l h h' (by rw [List.length_map, List.length_map]; omega) fun p np => ?_
  have := q p np
  rw [List.map_append] at this
  exact this
theorem gdW_rowW {r : List V} (h : rowW r = true) : r.all gdW = true ∧ r.length ≤ 3 := by
  match r, h with
  | .str w :: ps, h =>
    unfold rowW at h
    simp only [Bool.and_eq_true] at h
    refine ⟨?_, by rw [List.length_cons]; have := of_decide_eq_true h.2.2; omega⟩
    rw [List.all_cons, h.2.1, Bool.and_true]
    exact h.1
/-- one row's marks -/
theorem marks_row {a0 a1 a2 a3 a4 a5 a6 a9 : Option V} {fm : Addr} {ms : List Str} {rt pt : Addr} {r : List V} {x y : Int} (ha1 : a1 = some (.ref fm)) (hf : H fm = some (.lst (ms.map V.str))) (hl : ms.length ≤ 90000) (hr : H rt = some (.tup r)) (hw : rowW r = true) (hp : H pt = some (.tup [.int x, .int y])) (x0 : 0 ≤ x) (x1 : x ≤ 100000) (y0 : 0 ≤ y) (y1 : y ≤ 100000)
    (hN : ∀ ns H', Ex [fm] H H' → H' fm = some (.lst ((ms ++ ns).map V.str)) → ns.length ≤ 5 → (∀ m ∈ ns, gd m = true) → D.nx [a0, a1, a2, a3, a4, a5, a6, some (.ref rt), some (.ref pt), a9] H') :
    wSs Γ i__law_x_code_marks_1a_2a W D [a0, a1, a2, a3, a4, a5, a6, some (.ref rt), some (.ref pt), a9] H := by
  subst ha1
  have hb := sizeBig
  obtain ⟨w1, w2⟩ := gdW_rowW hw
  have gi : ∀ {i : Int}, 0 ≤ i → i ≤ 100000 → gdW (.int i) = true := fun h h' => by
    show (decide _ && decide _) = true
    rw [decide_eq_true (by omega), decide_eq_true (by omega)]; rfl
  unfold i__law_x_code_marks_1a_2a
  refine seq1 ?_
  unfold i__law_x_code_marks_1a_2a_0
  unfold Dq.wS
  rw [Dq.wE]
  refine e_var rfl ⟨tyl hf, es_cons ?_⟩
  rw [Dq.wE]
  refine e_lst (es_cons (e_bf (es_cons ?_)))
  rw [Dq.wE]
  refine e_var rfl ?_
  rw [Dq.wE]
  refine ix_tn (n := 0) hp rfl (es_nil (str_w (gi x0 x1) fun z1 g1 => es_cons (e_bf (es_cons ?_))))
  rw [Dq.wE]
  refine e_var rfl ?_
  rw [Dq.wE]
  refine ix_tn (n := 1) hp rfl (es_nil (str_w (gi y0 y1) fun z2 g2 => es_nil ⟨by show 2 ≤ sizeLine; omega, fun p1 n1 => ?_⟩))
  have xa : Ex [] H (upd H p1 (.lst (([z1, z2] : List Str).map V.str))) := Ex.new n1
  have ea : upd H p1 (HO.lst (([z1, z2] : List Str).map V.str)) p1 = some (.lst (([z1, z2] : List Str).map V.str)) := upd_same
  have eq1 : upd H p1 (HO.lst [V.str z1, V.str z2]) = upd H p1 (HO.lst (([z1, z2] : List Str).map V.str)) := rfl
  rw [eq1]
  generalize upd H p1 (HO.lst (([z1, z2] : List Str).map V.str)) = Ha at xa ea
  refine e_lc (i_val (e_var rfl (itv_t (.inl (.inl (xa.get hr (by simp)))) fun dl hdl => ?_)))
  refine parts_lc (by show 9 < 10; decide) (xa.get hr (by simp)) (by omega) w1 hdl fun ps Hb xb hpb hpl hpg => ?_
  refine add_ll (xb.get ea (by simp)) hpb (by simp; omega) fun p2 n2 => es_nil ?_
  have xc : Ex [] Hb (upd Hb p2 (.lst (([z1, z2] ++ ps).map V.str))) := Ex.new n2
  have ec : upd Hb p2 (HO.lst (([z1, z2] ++ ps).map V.str)) p2 = some (.lst (([z1, z2] ++ ps).map V.str)) := upd_same
  generalize upd Hb p2 (HO.lst (([z1, z2] ++ ps).map V.str)) = Hc at xc ec
  have xx : Ex [] H Hc := (xa.trans xb).trans xc
  refine ext_ (xx.get hf (by simp)) ec (by rw [List.length_map, List.length_map, List.length_append]; simp; omega) ?_
  unfold Dq.wSs
  refine hN ([z1, z2] ++ ps) _ (xx.nil.trans (Ex.wr (by simp))) (by rw [upd_same]; simp) (by rw [List.length_append]; simp; omega) fun m hm => ?_
  rcases List.mem_append.mp hm with z | z
  · simp only [List.mem_cons, List.not_mem_nil, or_false] at z
    rcases z with rfl | rfl
    · exact g1
    · exact g2
  · exact hpg m z
def spMarks : Sp := fun vs H Q _ => ∃ p n, vs = [.ref p] ∧ CodesAt H p n ∧ n ≤ 10 ∧ ∀ q (ms : List Str) H', Ex [] H H' → H q = none → H' q = some (.lst (ms.map V.str)) → ms.length ≤ n * 6000 → (∀ m ∈ ms, gd m = true) → Q (.ref q) H'
/-- what all turns over the codes lean on -/
def CdK (H : Hp) (kvs : List (Key × V)) : Prop := ∀ q ∈ kvs, (∃ x, q.1 = .inr x ∧ gd x = true) ∧ IsCode H q.2
theorem valV_mem {kvs : List (Key × V)} {k : Key} {v : V} (h : (k, v) ∈ kvs) : ∃ u, valV kvs k = some u ∧ (k, u) ∈ kvs := by
  unfold valV
  cases e : kvs.find? fun kv => decide (kv.1 = k) with
  | none => exact absurd (List.find?_eq_none.mp e (k, v) h) (by simp)
  | some p =>
    have h1 := List.find?_some e
    have h2 := List.mem_of_find?_eq_some e
    have h3 : p.1 = k := by simpa using h1
    exact ⟨p.2, rfl, by rw [← h3]; exact h2⟩
theorem ix_df {K : PySem.W.Frag} {w : World} {Q : VK} {a : Addr} {o : Obj} {kvs : List (Key × V)} {k : Key} {v : V} (h : H a = some (.frz o (.dK kvs))) (g : valV kvs k = some v) (q : Q v H) : qIx K w (.ref a) (kV k) H Q :=
  .inr (.inr (.inr (.inl ⟨a, v, rfl, .inl ⟨kvs, k, .inr ⟨o, h⟩, rfl, g.symm⟩, q⟩)))
/-- one code's marks; H0: the heap ahead of the new list -/
theorem marks_code {a3 a4 a5 a6 a7 a8 a9 : Option V} {p fm : Addr} {o : Obj} {kvs : List (Key × V)} {nm : Str} {v : V} {ms : List Str} {H0 : Hp} (n0 : H0 fm = none) (e0 : H0 p = some (.dK kvs)) (x0 : Ex [fm, p] H0 H) (hp : H p = some (.frz o (.dK kvs))) (hv : valV kvs (.inr nm) = some v) (hn : gd nm = true) (hc : IsCode H0 v) (hf : H fm = some (.lst (ms.map V.str))) (hl : ms.length ≤ 60000)
    (hN : ∀ b3 b4 b5 b6 b7 b8 b9 ns H', Ex [fm] H H' → H' fm = some (.lst ((ms ++ ns).map V.str)) → ns.length ≤ 6000 → (∀ m ∈ ns, gd m = true) → D.nx [some (.ref p), some (.ref fm), some (.str nm), b3, b4, b5, b6, b7, b8, b9] H') :
    wSs Γ i__law_x_code_marks_1a W D [some (.ref p), some (.ref fm), some (.str nm), a3, a4, a5, a6, a7, a8, a9] H := by
  obtain ⟨t, pr, na, rw', pl, ns, rs, ps, rfl, ht, p0, p1, hna, n1, n2, hrw, r1, r2, hpl, q1, q2⟩ := id hc
  have hb := sizeBig
  have kl : ∀ {K : Hp} {a : Addr} {l : List V}, Ex [fm] H K → H0 a = some (.lst l) → K a = some (.lst l) := fun {K a l} x h => by
    have na : a ∉ [fm, p] := by
      intro z
      simp only [List.mem_cons, List.not_mem_nil, or_false] at z
      rcases z with rfl | rfl
      · rw [n0] at h; cases h
      · rw [e0] at h; cases h
    exact x.get (x0.get h na) (by simp at na ⊢; exact na.1)
  have kt : ∀ {K : Hp} {a : Addr} {l : List V}, Ex [fm] H K → H0 a = some (.tup l) → K a = some (.tup l) := fun {K a l} x h => by
    have na : a ∉ [fm, p] := by
      intro z
      simp only [List.mem_cons, List.not_mem_nil, or_false] at z
      rcases z with rfl | rfl
      · rw [n0] at h; cases h
      · rw [e0] at h; cases h
    exact x.get (x0.get h na) (by simp at na ⊢; exact na.1)
  unfold i__law_x_code_marks_1a
  refine seqP (P := fun σ' H' => σ' = [some (.ref p), some (.ref fm), some (.str nm), some (.int pr), some (.ref na), some (.ref rw'), some (.ref pl), a7, a8, a9] ∧ H' = H) (fun M hM => ?_) fun σ1 H1 z => ?_
  · unfold i__law_x_code_marks_1a_0
    unfold Dq.wS
    rw [Dq.wE]
    refine e_var rfl (e_var rfl (ix_df (k := .inr nm) hp hv ?_))
    simp only [gOf, gsOf]
    exact ⟨t, _, rfl, .inl (.inl (.inl (kt Ex.refl ht))), rfl, _, _, rfl, _, _, rfl, _, _, rfl, _, _, rfl, rfl, hM _ _ ⟨rfl, rfl⟩⟩
  obtain ⟨rfl, rfl⟩ := z
  refine seqP (P := fun σ' H' => σ' = [some (.ref p), some (.ref fm), some (.str nm), some (.int pr), some (.ref na), some (.ref rw'), some (.ref pl), a7, a8, a9] ∧ Ex [fm] H1 H' ∧ ∃ xs : List Str, H' fm = some (.lst ((ms ++ xs).map V.str)) ∧ xs.length ≤ 14 ∧ ∀ m ∈ xs, gd m = true) (fun M hM => ?_) fun σ2 H2 z => ?_
  · unfold i__law_x_code_marks_1a_1
    unfold Dq.wS
    rw [Dq.wE]
    refine e_var rfl ⟨tyl hf, es_cons ?_⟩
    rw [Dq.wE]
    rw [Dq.wE]
    refine e_lst (es_cons ?_)
    rw [Dq.wE]
    refine es_cons (e_var rfl (es_cons (e_bf (es_cons (e_var rfl (es_nil (str_i (log_ok (by omega) (by omega)) (es_nil ⟨by show 3 ≤ sizeLine; omega, fun l1 nl1 => ?_⟩))))))))
    have gp : gd (Str.ofString (toString pr)) = true := gd_int (by omega) (by omega)
    have gC : gd "Code" = true := by decide +kernel
    obtain ⟨h3, eh3⟩ : ∃ l : List Str, l = [("Code" : Str), nm, Str.ofString (toString pr)] := ⟨_, rfl⟩
    have g3 : ∀ m ∈ h3, gd m = true := by
      intro m hm
      rw [eh3] at hm
      simp only [List.mem_cons, List.not_mem_nil, or_false] at hm
      rcases hm with rfl | rfl | rfl
      · exact gC
      · exact hn
      · exact gp
    have l3e : h3.length = 3 := by rw [eh3]; rfl
    have xa : Ex [] H1 (upd H1 l1 (HO.lst [V.str "Code", V.str nm, V.str (Str.ofString (toString pr))])) := Ex.new nl1
    have ea : upd H1 l1 (HO.lst [V.str "Code", V.str nm, V.str (Str.ofString (toString pr))]) l1 = some (.lst (h3.map V.str)) := by rw [eh3]; exact upd_same
    generalize upd H1 l1 (HO.lst [V.str "Code", V.str nm, V.str (Str.ofString (toString pr))]) = Ha at xa ea ⊢
    refine e_bf (es_cons (e_var rfl (es_nil (list_l (.inl (.inl (xa.get (kl Ex.refl hna) (by simp)))) fun l2 nl2 => ?_))))
    have xb : Ex [] Ha (upd Ha l2 (.lst (ns.map V.str))) := Ex.new nl2
    have eb : upd Ha l2 (HO.lst (ns.map V.str)) l2 = some (.lst (ns.map V.str)) := upd_same
    generalize upd Ha l2 (HO.lst (ns.map V.str)) = Hb at xb eb ⊢
    refine add_ll (xb.get ea (by simp)) eb (by omega) fun l3 nl3 => ?_
    have xc : Ex [] Hb (upd Hb l3 (.lst ((h3 ++ ns).map V.str))) := Ex.new nl3
    have ec : upd Hb l3 (HO.lst ((h3 ++ ns).map V.str)) l3 = some (.lst ((h3 ++ ns).map V.str)) := upd_same
    generalize upd Hb l3 (HO.lst ((h3 ++ ns).map V.str)) = Hc at xc ec ⊢
    refine e_lst (es_cons ?_)
    rw [Dq.wE]
    refine es_nil ⟨by show 1 ≤ sizeLine; omega, fun l4 nl4 => ?_⟩
    have xd : Ex [] Hc (upd Hc l4 (HO.lst [V.str ";"])) := Ex.new nl4
    have ed : upd Hc l4 (HO.lst [V.str ";"]) l4 = some (.lst (([";"] : List Str).map V.str)) := upd_same
    generalize upd Hc l4 (HO.lst [V.str ";"]) = Hd at xd ed ⊢
    refine add_ll (xd.get ec (by simp)) ed (by rw [List.length_append]; simp; omega) fun l5 nl5 => es_nil ?_
    have xe : Ex [] Hd (upd Hd l5 (.lst (((h3 ++ ns) ++ [(";" : Str)]).map V.str))) := Ex.new nl5
    have ee : upd Hd l5 (HO.lst (((h3 ++ ns) ++ [(";" : Str)]).map V.str)) l5 = some (.lst (((h3 ++ ns) ++ [(";" : Str)]).map V.str)) := upd_same
    generalize upd Hd l5 (HO.lst (((h3 ++ ns) ++ [(";" : Str)]).map V.str)) = He at xe ee ⊢
    have xx : Ex [] H1 He := (((xa.trans xb).trans xc).trans xd).trans xe
    refine ext_ (xx.get hf (by simp)) ee (by rw [List.length_map, List.length_map, List.length_append, List.length_append]; simp; omega) (hM _ _ ⟨rfl, xx.nil.trans (Ex.wr (by simp)), (h3 ++ ns) ++ [(";" : Str)], by rw [upd_same]; simp, by rw [List.length_append, List.length_append]; simp; omega, fun m hm => ?_⟩)
    rcases List.mem_append.mp hm with hm | hm
    · rcases List.mem_append.mp hm with hm | hm
      · exact g3 m hm
      · exact n2 m hm
    · rw [List.mem_singleton.mp hm]; decide +kernel
  obtain ⟨rfl, x2, xs, hf2, hxl, hxg⟩ := z
  -- the rows
  refine seqP (P := fun σ' H' => (∃ b7 b8 b9, σ' = [some (.ref p), some (.ref fm), some (.str nm), some (.int pr), some (.ref na), some (.ref rw'), some (.ref pl), b7, b8, b9]) ∧ Ex [fm] H1 H' ∧ ∃ xs : List Str, H' fm = some (.lst ((ms ++ xs).map V.str)) ∧ xs.length ≤ 14 + 5 * 1000 ∧ ∀ m ∈ xs, gd m = true) (fun M hM => ?_) fun σ3 H3 z => ?_
  · unfold i__law_x_code_marks_1a_2
    unfold Dq.wS
    refine .inl ?_
    rw [tFor_eq]
    simp only [Dq.wI, RZ.iZipA, tCons, tNil]
    refine e_var rfl (e_var rfl ⟨rw', pl, rs, ps, rfl, .inl ⟨.inl (.inl (kl x2 hrw)), .inl (.inl (kl x2 hpl)), ?_⟩⟩)
    refine for_z (xs := rs) (ys := ps) (by omega) (fun i σ' H' => (∃ b7 b8 b9, σ' = [some (.ref p), some (.ref fm), some (.str nm), some (.int pr), some (.ref na), some (.ref rw'), some (.ref pl), b7, b8, b9]) ∧ i ≤ rs.length ∧ Ex [fm] H1 H' ∧ ∃ xs : List Str, H' fm = some (.lst ((ms ++ xs).map V.str)) ∧ xs.length ≤ 14 + 5 * i ∧ ∀ m ∈ xs, gd m = true) ⟨⟨_, _, _, rfl⟩, Nat.zero_le _, x2, xs, hf2, by omega, hxg⟩ (fun i σ' H' q => ⟨.inl (.inl (kl q.2.2.1 hrw)), .inl (.inl (kl q.2.2.1 hpl))⟩) (fun σ' H' q => ?_) fun i σ' H' x y T hx hy q nT => ?_
    · obtain ⟨a, b, c, xs, e1, e2, e3⟩ := q
      exact hM _ _ ⟨a, c, xs, e1, by omega, e3⟩
    · obtain ⟨⟨b7, b8, b9, rfl⟩, il, xi, xs, e1, e2, e3⟩ := q
      have hi : i < rs.length := (List.getElem?_eq_some_iff.mp hx).1
      obtain ⟨rt, r, rfl, hr, hw⟩ := r2 x (List.mem_of_getElem? hx)
      obtain ⟨pt, u, w, rfl, hpt, u0, u1, w0, w1⟩ := q2 y (List.mem_of_getElem? hy)
      have xT : Ex [] H' (upd H' T (.tup [.ref rt, .ref pt])) := Ex.new nT
      have eT : upd H' T (HO.tup [.ref rt, .ref pt]) T = some (.tup [.ref rt, .ref pt]) := upd_same
      generalize upd H' T (HO.tup [.ref rt, .ref pt]) = Ht at xT eT ⊢
      simp only [gOf, gsOf]
      refine ⟨T, _, rfl, .inl (.inl (.inl eT)), rfl, _, _, rfl, _, _, rfl, rfl, ?_⟩
      have xit : Ex [fm] H1 Ht := xi.trans xT.nil
      exact marks_row (x := u) (y := w) rfl (xT.get e1 (by simp)) (by rw [List.length_append]; omega) (kt xit hr) hw (kt xit hpt) u0 u1 w0 w1 fun ns' H'' x'' e'' l'' g'' => ⟨⟨_, _, _, rfl⟩, hi, xit.trans x'', xs ++ ns', by rw [e'', List.append_assoc], by rw [List.length_append]; omega, fun m hm => (List.mem_append.mp hm).elim (e3 m) (g'' m)⟩
  obtain ⟨⟨b7, b8, b9, rfl⟩, x3, xs3, e1, e2, e3⟩ := z
  refine seq1 ?_
  unfold i__law_x_code_marks_1a_3
  unfold Dq.wS
  rw [Dq.wE]
  refine e_var rfl ⟨tyl e1, es_cons ?_⟩
  rw [Dq.wE]
  refine es_nil (app_ e1 (by rw [List.length_map, List.length_append]; omega) ?_)
  unfold Dq.wSs
  refine hN _ _ _ _ _ _ _ (xs3 ++ [("End" : Str)]) _ (x3.trans (Ex.wr (by simp))) (by rw [upd_same]; simp) (by rw [List.length_append]; simp; omega) fun m hm => ?_
  rcases List.mem_append.mp hm with hm | hm
  · exact e3 m hm
  · rw [List.mem_singleton.mp hm]; decide +kernel
theorem w_marks (vs : List V) (H : Hp) (Q : VK) (E : XK) (h : spMarks vs H Q E) : wSs Γ i__law_x_code_marks (dE E) (dD Q) (start l__law_x_code_marks.N vs) H := by
  obtain ⟨p, n, rfl, ⟨kvs, hp, hl, ho⟩, hn, q⟩ := h
  have hb := sizeBig
  unfold i__law_x_code_marks
  refine seqP (P := fun σ' H' => ∃ fm, σ' = [some (.ref p), some (.ref fm), none, none, none, none, none, none, none, none] ∧ Ex [] H H' ∧ H fm = none ∧ H' fm = some (.lst [])) (fun M hM => ?_) fun σ1 H1 z => ?_
  · unfold i__law_x_code_marks_0
    unfold Dq.wS
    exact e_lst (es_nil ⟨by decide, fun fm nf => hM _ _ ⟨fm, rfl, Ex.new nf, nf, upd_same⟩⟩)
  obtain ⟨fm, rfl, x1, nf, hf⟩ := z
  have pf : p ≠ fm := ne_of_none hp nf
  refine seqP (P := fun σ' H' => (∃ b2 b3 b4 b5 b6 b7 b8 b9, σ' = [some (.ref p), some (.ref fm), b2, b3, b4, b5, b6, b7, b8, b9]) ∧ Ex [fm] H1 H' ∧ ∃ ms : List Str, H' fm = some (.lst (ms.map V.str)) ∧ ms.length ≤ n * 6000 ∧ ∀ m ∈ ms, gd m = true) (fun M hM => ?_) fun σ2 H2 z => ?_
  · unfold i__law_x_code_marks_1
    unfold Dq.wS
    refine .inr ⟨p, .dK kvs, x1.get hp (by simp), True.intro, fun od => ?_⟩
    rw [tFor_eq]
    have lp : upd H1 p (.frz od (.dK kvs)) p = some (.frz od (.dK kvs)) := upd_same
    refine i_val (e_var rfl (itv_d lp ?_))
    refine for_d (fun i σ' H' => (∃ b2 b3 b4 b5 b6 b7 b8 b9, σ' = [some (.ref p), some (.ref fm), b2, b3, b4, b5, b6, b7, b8, b9]) ∧ i ≤ kvs.length ∧ Ex [fm] (upd H1 p (.frz od (.dK kvs))) H' ∧ ∃ ms : List Str, H' fm = some (.lst (ms.map V.str)) ∧ ms.length ≤ i * 6000 ∧ ∀ m ∈ ms, gd m = true) ⟨⟨_, _, _, _, _, _, _, _, rfl⟩, Nat.zero_le _, Ex.refl, [], by rw [upd_ne (Ne.symm pf)]; exact hf, by simp, fun m hm => by cases hm⟩ (fun i σ' H' q => q.2.2.1.get lp (by simpa using pf)) (fun σ' H' q => ?_) fun i σ' H' k v hkv q => ?_
    · obtain ⟨a, b, c, ms, e1, e2, e3⟩ := q
      refine ⟨c.get lp (by simpa using pf), hM _ _ ⟨a, ?_, ms, ?_, ?_, e3⟩⟩
      · intro b o eb
        by_cases hbp : b = p
        · subst hbp
          rw [x1.get hp (by simp)] at eb
          cases eb
          exact ⟨_, upd_same, fun _ => rfl⟩
        · obtain ⟨o', eo, ko⟩ := c b o (by rw [upd_ne hbp]; exact eb)
          exact ⟨o', by rw [upd_ne hbp]; exact eo, ko⟩
      · rw [upd_ne (Ne.symm pf)]; exact e1
      · have : kvs.length * 6000 ≤ n * 6000 := Nat.mul_le_mul_right _ hl
        omega
    · obtain ⟨⟨b2, b3, b4, b5, b6, b7, b8, b9, rfl⟩, il, xi, ms, e1, e2, e3⟩ := q
      have hi : i < kvs.length := (List.getElem?_eq_some_iff.mp hkv).1
      have hmem : (k, v) ∈ kvs := List.mem_of_getElem? hkv
      obtain ⟨⟨nm, ek, gn⟩, _⟩ := ho _ hmem
      have ek : k = .inr nm := ek
      subst ek
      obtain ⟨u, hu, hum⟩ := valV_mem hmem
      have x0 : Ex [fm, p] H H' := ((x1.nil).trans (Ex.wr (by simp))).trans (xi.imp (by simp))
      have i10 : i * 6000 ≤ 9 * 6000 := Nat.mul_le_mul_right _ (by omega)
      exact marks_code nf hp x0 (xi.get lp (by simpa using pf)) hu gn (ho _ hum).2 e1 (by omega) fun c3 c4 c5 c6 c7 c8 c9 ns H'' x'' e'' l'' g'' => ⟨⟨_, _, _, _, _, _, _, _, rfl⟩, hi, xi.trans x'', ms ++ ns, e'', by rw [List.length_append, Nat.add_mul]; omega, fun m hm => (List.mem_append.mp hm).elim (e3 m) (g'' m)⟩
  obtain ⟨⟨b2, b3, b4, b5, b6, b7, b8, b9, rfl⟩, x2, ms, e1, e2, e3⟩ := z
  refine seq1 ?_
  unfold i__law_x_code_marks_2
  unfold Dq.wS
  exact e_var rfl (q fm ms H2 ((x1.nil.trans x2).drop fun a ha => .inr (by rw [List.mem_singleton.mp ha]; exact nf)) nf e1 e2 e3)
end Hk64

set_option maxHeartbeats 1000000
namespace Hk64
open PySem PySem.Spec PyProof.Rows L2 Dq
variable {Γ : Gam} {W : WX} {D : Ends} {σ : L2.St} {H : Hp}
/-! ### _law_same of a thing and the same thing -/
def itemsD (ks : List (Str × DD)) : List DD := ks.map fun q => .tup [.at (.str q.1), q.2]
mutual
/-- how deep _law_same goes into it -/
def dep : DD → Nat
  | .at _ => 0
  | .lst ds => depL ds + 1
  | .tup ds => depL ds + 1
  | .dic ks => depD ks + 3
def depL : List DD → Nat
  | [] => 0
  | d :: ds => max (dep d) (depL ds)
def depD : List (Str × DD) → Nat
  | [] => 0
  | (_, d) :: ds => max (dep d) (depD ds)
end
mutual
def wd : DD → Prop
  | .at _ => True
  | .lst ds => ds.length ≤ 200000 ∧ wdL ds
  | .tup ds => ds.length ≤ 200000 ∧ wdL ds
  | .dic ks => ks.length ≤ 200000 ∧ wdD ks
def wdL : List DD → Prop
  | [] => True
  | d :: ds => wd d ∧ wdL ds
def wdD : List (Str × DD) → Prop
  | [] => True
  | (_, d) :: ds => wd d ∧ wdD ds
end
theorem wdL_iff : ∀ {ds : List DD}, wdL ds ↔ ∀ d ∈ ds, wd d
  | [] => by unfold wdL; simp
  | d :: ds => by unfold wdL; rw [wdL_iff]; simp
theorem wdD_iff : ∀ {ds : List (Str × DD)}, wdD ds ↔ ∀ q ∈ ds, wd q.2
  | [] => by unfold wdD; simp
  | (k, d) :: ds => by unfold wdD; rw [wdD_iff]; simp
/-- small things -/
def Sd (n : Nat) (d : DD) : Prop := dep d ≤ n ∧ wd d
theorem depL_le {ds : List DD} {d : DD} (h : d ∈ ds) : dep d ≤ depL ds := by
  induction ds with
  | nil => cases h
  | cons c r ih =>
    rw [depL]
    rcases List.mem_cons.mp h with rfl | h
    · omega
    · have := ih h; omega
theorem dep_items (ks : List (Str × DD)) : dep (.lst (itemsD ks)) ≤ depD ks + 2 := by
  rw [dep]
  have : depL (itemsD ks) ≤ depD ks + 1 := by
    induction ks with
    | nil => unfold itemsD; rw [List.map_nil, depL]; omega
    | cons q r ih =>
      obtain ⟨k, d⟩ := q
      show depL (.tup [.at (.str k), d] :: itemsD r) ≤ depD ((k, d) :: r) + 1
      rw [depL, depD, dep, depL, depL, depL, dep]
      omega
  omega
def spSame (n : Nat) : Sp := fun vs H Q _ => ∃ f d D H0 H1, vs = [f, d] ∧ Sd n D ∧ Rep H0 H D f ∧ Rep H1 H D d ∧ ∀ H', Ex [] H H' → Q (.bl true) H'
theorem isi_t {K : PySem.W.Frag} {Q : VK} {x : V} {a b : String} {r : Bool} (ty : TyOf K H x (.type a)) (h : kitB a b = some r) (q : Q (.bl r) H) : qF K .isi [x, .ty b] H Q := .inl ⟨x, .ty b, .type a, .type b, r, rfl, .ty b, .base ty, kit_ty h, q⟩
/-- isinstance(x, (b, c)), the tuple just laid -/
theorem isi_2 {K : PySem.W.Frag} {Q : VK} {x : V} {tp : Addr} {a b c : String} {r1 r2 : Bool} (ty : TyOf K H x (.type a)) (hT : H tp = some (.tup [.ty b, .ty c])) (h1 : kitB a b = some r1) (h2 : kitB a c = some r2) (q : Q (.bl (r1 || r2)) H) : qF K .isi [x, .ref tp] H Q := by
  refine .inr (.inl ⟨x, tp, [.ty b, .ty c], .type a, [.type b, .type c], r1 || r2, rfl, hT, .cons (.ty b) (.cons (.ty c) .nil), .base ty, ?_, q⟩)
  refine kitAny_cons (kit_ty h1) (fun e => ?_) fun e => by rw [e]; rfl
  rw [e, Bool.false_or]
  exact kitAny_cons (kit_ty h2) (fun e => by rw [kitAny_nil, e]) fun e => e
theorem isi_3 {K : PySem.W.Frag} {Q : VK} {x : V} {tp : Addr} {a b c e : String} {r1 r2 r3 : Bool} (ty : TyOf K H x (.type a)) (hT : H tp = some (.tup [.ty b, .ty c, .ty e])) (h1 : kitB a b = some r1) (h2 : kitB a c = some r2) (h3 : kitB a e = some r3) (q : Q (.bl (r1 || (r2 || r3))) H) : qF K .isi [x, .ref tp] H Q := by
  refine .inr (.inl ⟨x, tp, [.ty b, .ty c, .ty e], .type a, [.type b, .type c, .type e], r1 || (r2 || r3), rfl, hT, .cons (.ty b) (.cons (.ty c) (.cons (.ty e) .nil)), .base ty, ?_, q⟩)
  refine kitAny_cons (kit_ty h1) (fun e => ?_) fun e => by rw [e]; rfl
  rw [e, Bool.false_or]
  refine kitAny_cons (kit_ty h2) (fun e => ?_) fun e => by rw [e]; rfl
  rw [e, Bool.false_or]
  exact kitAny_cons (kit_ty h3) (fun e => by rw [kitAny_nil, e]) fun e => e
end Hk64

set_option maxHeartbeats 1000000
namespace Hk64
open PySem PySem.Spec PyProof.Rows L2 Dq
variable {Γ : Gam} {W : WX} {D : Ends} {σ : L2.St} {H : Hp}
theorem wipe23 {σ : L2.St} {x y : Option V} : wipe (((wipe σ [2, 3]).set 2 x).set 3 y) [2, 3] = wipe σ [2, 3] := by
  unfold wipe wipe
  show (((((σ.set 3 none).set 2 none).set 2 x).set 3 y).set 3 none).set 2 none = (σ.set 3 none).set 2 none
  apply List.ext_getElem?
  intro i
  simp only [List.getElem?_set, List.length_set]
  repeat' split
  all_goals first | rfl | simp_all
/-- one pair of the walk -/
theorem same_pair {W' : WX} {n i : Nat} (hs : Γ.fn "_law_same" (spSame n)) {ds : List DD} {xs ys : List V} {H0 H1 H' : Hp} {T dl : Addr} {x y : V} {K : Hp → Prop} (hσ : 3 < σ.length) (r0 : RepL H0 H ds xs) (r1 : RepL H1 H ds ys) (hd : depL ds ≤ n) (hw : wdL ds) (hx : xs[i]? = some x) (hy : ys[i]? = some y) (hdl : H dl = none) (xe : Ex [dl] (upd H dl (.lst [])) H') (hacc : H' dl = some (.lst ((List.replicate i true).map V.bl))) (hi : i < 200000) (nT : H' T = none)
    (hK : ∀ H2, Ex [dl] H' H2 → H2 dl = some (.lst ((List.replicate (i + 1) true).map V.bl)) → K H2) :
    gOf Γ.K (.tup (.cons (.nm 2) (.cons (.nm 3) .nil))) (.ref T) (wipe σ [2, 3]) (upd H' T (.tup [x, y])) fun σ2 H2 => wipe σ2 [2, 3] = wipe σ [2, 3] ∧ (fun (_ : L2.St) (H : Hp) (Q : Bool → Hp → Prop) => Q true H) σ2 H2 fun b H3 =>
      if b = true then Dq.wE Γ (.call "_law_same" (.cons (.var 2) (.cons (.var 3) .nil))) false W' σ2 H3 fun y H4 => ∃ acc, H4 dl = some (.lst acc) ∧ acc.length < sizeLine ∧ K (upd H4 dl (.lst (acc ++ [y]))) else K H3 := by
  have hb : (200000 : Nat) < sizeLine := by rw [sizeLine_eq]; omega
  obtain ⟨d, hdi, rx⟩ := r0.get hx
  obtain ⟨d', hdi', ry⟩ := r1.get hy
  rw [hdi] at hdi'
  cases hdi'
  have stay : ∀ {a : Addr} {o : HO}, H a = some o → H' a = some o := fun {a o} h => xe.get (by rw [upd_ne (fun z => by rw [z, hdl] at h; cases h)]; exact h) (by
    intro z
    rw [List.mem_singleton.mp z, hdl] at h; cases h)
  have xT : Ex [] H' (upd H' T (.tup [x, y])) := Ex.new nT
  have eT : upd H' T (HO.tup [x, y]) T = some (.tup [x, y]) := upd_same
  generalize upd H' T (HO.tup [x, y]) = Ht at xT eT
  simp only [gOf, gsOf]
  refine ⟨T, _, rfl, .inl (.inl (.inl eT)), rfl, _, _, rfl, _, _, rfl, rfl, wipe23, (e_call hs (es_cons (e_var ?_ (es_cons (e_var ?_ (es_nil ⟨x, y, d, H0, H1, rfl, ⟨Nat.le_trans (depL_le (List.mem_of_getElem? hdi)) hd, wdL_iff.mp hw _ (List.mem_of_getElem? hdi)⟩, rx.keep fun a o _ h => xT.get (stay h) (by simp), ry.keep fun a o _ h => xT.get (stay h) (by simp), fun H2 x2 => ?_⟩))))))⟩
  · unfold wipe
    show ((((σ.set 3 none).set 2 none).set 2 _).set 3 _)[2]? = _
    rw [List.getElem?_set_ne (by decide), List.getElem?_set_self (by simp; omega)]
  · unfold wipe
    show ((((σ.set 3 none).set 2 none).set 2 _).set 3 _)[3]? = _
    rw [List.getElem?_set_self (by simp; omega)]
  · have e2 := x2.get (xT.get hacc (by simp)) (by simp)
    refine ⟨_, e2, by rw [List.length_map, List.length_replicate]; omega, hK _ ((xT.nil.trans x2.nil).trans (Ex.wr (by simp))) ?_⟩
    rw [upd_same, List.replicate_succ', List.map_append]
    rfl
end Hk64

set_option maxHeartbeats 1000000
namespace Hk64
open PySem PySem.Spec PyProof.Rows L2 Dq
variable {Γ : Gam} {W : WX} {D : Ends} {σ : L2.St} {H : Hp}
/-- all([_law_same(mine, theirs) for mine, theirs in zip(found, due)]) of two lists of the same things -/
theorem same_lists {n : Nat} (hs : Γ.fn "_law_same" (spSame n)) {f : Bool} {a b : Addr} {ds : List DD} {xs ys : List V} {H0 H1 : Hp} {Q : VK} (hσ : 3 < σ.length) (s0 : σ[0]? = some (some (.ref a))) (s1 : σ[1]? = some (some (.ref b))) (ha : H a = some (.lst xs)) (hb : H b = some (.lst ys)) (r0 : RepL H0 H ds xs) (r1 : RepL H1 H ds ys) (hd : depL ds ≤ n) (hw : wdL ds) (hl : ds.length ≤ 200000)
    (q : ∀ H', Ex [] H H' → Q (.bl true) H') : Dq.wE Γ (.bf .all (.cons (.lc [2, 3] (.tup (.cons (.nm 2) (.cons (.nm 3) .nil))) (.zip (.var 0) (.var 1)) .no (.call "_law_same" (.cons (.var 2) (.cons (.var 3) .nil)))) .nil)) f W σ H Q := by
  refine e_bf (es_cons (e_lc ?_))
  simp only [Dq.wI, RZ.iZipA, tCons, tNil]
  refine e_var s0 (e_var s1 ⟨a, b, xs, ys, rfl, .inl ⟨.inl (.inl ha), .inl (.inl hb), fun dl hdl => ?_⟩⟩)
  have e1 := r0.len
  have e2 := r1.len
  have na : a ≠ dl := ne_of_none ha hdl
  have nb : b ≠ dl := ne_of_none hb hdl
  refine lc_z (xs := xs) (ys := ys) (by omega) (fun i H' => i ≤ xs.length ∧ Ex [dl] (upd H dl (.lst [])) H' ∧ H' dl = some (.lst ((List.replicate i true).map V.bl))) ⟨Nat.zero_le _, Ex.refl, upd_same⟩ (fun i H' p => ⟨.inl (.inl (p.2.1.get (by rw [upd_ne na]; exact ha) (by simpa using na))), .inl (.inl (p.2.1.get (by rw [upd_ne nb]; exact hb) (by simpa using nb)))⟩) (fun H' p => ?_) fun i H' x y T hx hy p nT => ?_
  · refine es_nil (all_bs p.2.2 ?_)
    have : (List.replicate xs.length true).all id = true := by simp
    rw [this]
    exact q H' (((Ex.new hdl).trans p.2.1).drop fun c hc => .inr (by rw [List.mem_singleton.mp hc]; exact hdl))
  · have hi : i < xs.length := (List.getElem?_eq_some_iff.mp hx).1
    exact same_pair (K := fun H' => i + 1 ≤ xs.length ∧ Ex [dl] (upd H dl (.lst [])) H' ∧ H' dl = some (.lst ((List.replicate (i + 1) true).map V.bl))) hs hσ r0 r1 hd hw hx hy hdl p.2.1 p.2.2 (by omega) nT fun H2 x2 e => ⟨hi, p.2.1.trans x2, e⟩
/-- all([_law_same(mine, theirs) for mine, theirs in zip(found, due)]) of two tuples of the same things -/
theorem same_tuples {n : Nat} (hs : Γ.fn "_law_same" (spSame n)) {f : Bool} {a b : Addr} {ds : List DD} {xs ys : List V} {H0 H1 : Hp} {Q : VK} (hσ : 3 < σ.length) (s0 : σ[0]? = some (some (.ref a))) (s1 : σ[1]? = some (some (.ref b))) (ha : H a = some (.tup xs)) (hb : H b = some (.tup ys)) (r0 : RepL H0 H ds xs) (r1 : RepL H1 H ds ys) (hd : depL ds ≤ n) (hw : wdL ds) (hl : ds.length ≤ 200000)
    (q : ∀ H', Ex [] H H' → Q (.bl true) H') : Dq.wE Γ (.bf .all (.cons (.lc [2, 3] (.tup (.cons (.nm 2) (.cons (.nm 3) .nil))) (.zip (.var 0) (.var 1)) .no (.call "_law_same" (.cons (.var 2) (.cons (.var 3) .nil)))) .nil)) f W σ H Q := by
  refine e_bf (es_cons (e_lc ?_))
  simp only [Dq.wI, RZ.iZipA, tCons, tNil]
  refine e_var s0 (e_var s1 ⟨a, b, xs, ys, rfl, .inr ⟨.inl (.inl ha), .inl (.inl hb), fun dl hdl => ?_⟩⟩)
  have e1 := r0.len
  have e2 := r1.len
  have na : a ≠ dl := ne_of_none ha hdl
  have nb : b ≠ dl := ne_of_none hb hdl
  refine lc_zt (xs := xs) (ys := ys) (by omega) (fun i H' => i ≤ xs.length ∧ Ex [dl] (upd H dl (.lst [])) H' ∧ H' dl = some (.lst ((List.replicate i true).map V.bl))) ⟨Nat.zero_le _, Ex.refl, upd_same⟩ (fun i H' p => ⟨.inl (.inl (p.2.1.get (by rw [upd_ne na]; exact ha) (by simpa using na))), .inl (.inl (p.2.1.get (by rw [upd_ne nb]; exact hb) (by simpa using nb)))⟩) (fun H' p => ?_) fun i H' x y T hx hy p nT => ?_
  · refine es_nil (all_bs p.2.2 ?_)
    have : (List.replicate xs.length true).all id = true := by simp
    rw [this]
    exact q H' (((Ex.new hdl).trans p.2.1).drop fun c hc => .inr (by rw [List.mem_singleton.mp hc]; exact hdl))
  · have hi : i < xs.length := (List.getElem?_eq_some_iff.mp hx).1
    exact same_pair (K := fun H' => i + 1 ≤ xs.length ∧ Ex [dl] (upd H dl (.lst [])) H' ∧ H' dl = some (.lst ((List.replicate (i + 1) true).map V.bl))) hs hσ r0 r1 hd hw hx hy hdl p.2.1 p.2.2 (by omega) nT fun H2 x2 e => ⟨hi, p.2.1.trans x2, e⟩
end Hk64

set_option maxHeartbeats 1000000
namespace Hk64
open PySem PySem.Spec PyProof.Rows L2 Dq
variable {Γ : Gam} {W : WX} {D : Ends} {σ : L2.St} {H : Hp}
/-- the type of a thing -/
def tyD : DD → V → String
  | .lst _, _ => "list"
  | .tup _, _ => "tuple"
  | .dic _, _ => "dict"
  | .at _, .non => "NoneType"
  | .at _, .bl _ => "bool"
  | .at _, .int _ => "int"
  | .at _, _ => "str"
theorem ty_of {K : PySem.W.Frag} {H0 : Hp} {d : DD} {v : V} (h : Rep H0 H d v) : TyOf K H v (.type (tyD d v)) := by
  cases d with
  | lst ds =>
    unfold Rep at h
    obtain ⟨a, xs, rfl, _, e, _⟩ := h
    exact .lst e
  | tup ds =>
    unfold Rep at h
    obtain ⟨a, xs, rfl, _, e, _⟩ := h
    exact .tup e
  | dic ks =>
    unfold Rep at h
    obtain ⟨a, xs, rfl, _, e, _⟩ := h
    exact .dK e
  | «at» u =>
    unfold Rep at h
    obtain ⟨rfl, hf⟩ := h
    cases v with
    | non => exact .non
    | bl b => exact .bl b
    | int i => exact .int i
    | str x => exact .str x
    | _ => cases hf
end Hk64

set_option maxHeartbeats 1000000
namespace Hk64
open PySem PySem.Spec PyProof.Rows L2 Dq
/-! ### how wide and deep what is due may be -/
theorem depL_of {n : Nat} : ∀ {ds : List DD}, (∀ d ∈ ds, dep d ≤ n) → depL ds ≤ n
  | [], _ => by unfold depL; omega
  | d :: ds, h => by
    unfold depL
    have h1 := h d List.mem_cons_self
    have h2 := depL_of (ds := ds) fun c hc => h c (List.mem_cons_of_mem _ hc)
    omega
theorem depD_of {n : Nat} : ∀ {ds : List (Str × DD)}, (∀ q ∈ ds, dep q.2 ≤ n) → depD ds ≤ n
  | [], _ => by unfold depD; omega
  | (k, d) :: ds, h => by
    unfold depD
    have h1 := h (k, d) List.mem_cons_self
    have h2 := depD_of (ds := ds) fun c hc => h c (List.mem_cons_of_mem _ hc)
    have h1 : dep d ≤ n := h1
    omega
theorem wd_items {ks : List (Str × DD)} (h : wd (.dic ks)) : wd (.lst (itemsD ks)) := by
  unfold wd at h ⊢
  obtain ⟨h1, h2⟩ := h
  refine ⟨by unfold itemsD; rw [List.length_map]; exact h1, wdL_iff.mpr fun d hd => ?_⟩
  obtain ⟨q, hq, rfl⟩ := List.mem_map.mp hd
  unfold wd
  refine ⟨by show 2 ≤ 200000; omega, ?_⟩
  unfold wdL wdL wdL
  exact ⟨by unfold wd; trivial, wdD_iff.mp h2 q hq, trivial⟩
theorem sd_ats {vs : List V} (h : vs.length ≤ 200000) : Sd 1 (.tup (vs.map .at)) ∧ Sd 1 (.lst (vs.map .at)) := by
  have a : ∀ d ∈ vs.map DD.at, dep d ≤ 0 ∧ wd d := fun d hd => by
    obtain ⟨v, _, rfl⟩ := List.mem_map.mp hd
    exact ⟨by unfold dep; omega, by unfold wd; trivial⟩
  have b := depL_of fun d hd => (a d hd).1
  have c := wdL_iff.mpr fun d hd => (a d hd).2
  constructor
  · exact ⟨by unfold dep; omega, by unfold wd; exact ⟨by rw [List.length_map]; exact h, c⟩⟩
  · exact ⟨by unfold dep; omega, by unfold wd; exact ⟨by rw [List.length_map]; exact h, c⟩⟩
theorem pNames_len {ms : List Str} {params : Int} : ∀ {n : Nat} {found : List Str} {i : Nat} {ns : List Str} {j : Nat}, pNames ms params n found i = .ok (ns, j) → ns.length ≤ found.length + n
  | 0, _, _, _, _, h => by unfold pNames at h; cases h
  | n + 1, found, i, ns, j, h => by
    unfold pNames at h
    split at h
    · split at h
      · have := pNames_len h
        rw [List.length_append] at this
        simp at this
        omega
      · cases h
    · cases h; omega
theorem pParts_len {ms : List Str} : ∀ {cs : List Nat} {acc : List V} {i : Nat} {vs : List V} {j : Nat}, pParts ms cs acc i = .ok (vs, j) → vs.length ≤ acc.length + cs.length
  | [], acc, i, vs, j, h => by unfold pParts at h; cases h; omega
  | c :: r, acc, i, vs, j, h => by
    unfold pParts at h
    split at h
    · cases h
    · have := pParts_len h
      rw [List.length_append] at this
      simp at this ⊢
      omega
theorem pRows_sd {ms : List Str} : ∀ {n : Nat} {rows places : List DD} {i : Nat} {rs ps : List DD} {j : Nat}, (∀ d ∈ rows, Sd 1 d) → (∀ d ∈ places, Sd 1 d) → pRows ms n rows places i = .ok (rs, ps, j) → (∀ d ∈ rs, Sd 1 d) ∧ (∀ d ∈ ps, Sd 1 d) ∧ rs.length ≤ rows.length + n ∧ ps.length ≤ places.length + n
  | 0, _, _, _, _, _, _, _, _, h => by unfold pRows at h; cases h
  | n + 1, rows, places, i, rs, ps, j, hr, hp, h => by
    unfold pRows at h
    split at h
    · split at h
      · cases h
      · rename_i l el
        split at h
        · cases h
        · rename_i p ep
          split at h
          · cases h
          · rename_i cs ecs
            cases ev : pParts ms cs.cps.toList [] (i + 3) with
            | error e => rw [ev] at h; cases h
            | ok q =>
              obtain ⟨vs, k⟩ := q
              rw [ev] at h
              have lv := pParts_len ev
              have lc : cs.length ≤ 10 := sorts_len ecs
              have lc2 : cs.cps.toList.length = cs.length := Array.length_toList
              have h' : pRows ms n (rows ++ [rowD (atM ms (i + 2)) vs]) (places ++ [placeD l p]) k = .ok (rs, ps, j) := h
              have key := pRows_sd (fun d hd => ?_) (fun d hd => ?_) h'
              · obtain ⟨k1, k2, k3, k4⟩ := key
                rw [List.length_append] at k3 k4
                simp at k3 k4
                exact ⟨k1, k2, by omega, by omega⟩
              · rcases List.mem_append.mp hd with z | z
                · exact hr d z
                · rw [List.mem_singleton.mp z]
                  unfold rowD
                  refine (sd_ats ?_).1
                  rw [List.length_nil] at lv
                  rw [List.length_cons]
                  omega
              · rcases List.mem_append.mp hd with z | z
                · exact hp d z
                · rw [List.mem_singleton.mp z]
                  exact (sd_ats (vs := [.int l, .int p]) (by show 2 ≤ 200000; omega)).1
    · cases h
      exact ⟨hr, hp, by omega, by omega⟩
theorem codeD_sd {params : Int} {names : List Str} {rows places : List DD} (h1 : names.length ≤ 200000) (h2 : rows.length ≤ 200000) (h3 : places.length ≤ 200000) (hr : ∀ d ∈ rows, Sd 1 d) (hp : ∀ d ∈ places, Sd 1 d) : Sd 3 (codeD params names rows places) := by
  have a := (sd_ats (vs := names.map V.str) (by rw [List.length_map]; exact h1)).2
  rw [List.map_map] at a
  have hrD := depL_of fun d hd => (hr d hd).1
  have hpD := depL_of fun d hd => (hp d hd).1
  have e : codeD params names rows places = .tup [.at (.int params), .lst (names.map (DD.at ∘ V.str)), .lst rows, .lst places] := rfl
  rw [e]
  have b : Sd 2 (.lst rows) := ⟨by unfold dep; omega, by unfold wd; exact ⟨h2, wdL_iff.mpr fun d hd => (hr d hd).2⟩⟩
  have c : Sd 2 (.lst places) := ⟨by unfold dep; omega, by unfold wd; exact ⟨h3, wdL_iff.mpr fun d hd => (hp d hd).2⟩⟩
  have all : ∀ d ∈ [DD.at (.int params), .lst (names.map (DD.at ∘ V.str)), .lst rows, .lst places], dep d ≤ 2 ∧ wd d := by
    intro d hd
    simp only [List.mem_cons, List.not_mem_nil, or_false] at hd
    rcases hd with rfl | rfl | rfl | rfl
    · exact ⟨by unfold dep; omega, by unfold wd; trivial⟩
    · exact ⟨Nat.le_trans a.1 (by omega), a.2⟩
    · exact b
    · exact c
  have t := depL_of fun d hd => (all d hd).1
  exact ⟨by rw [dep]; omega, by rw [wd]; exact ⟨by show 4 ≤ 200000; omega, wdL_iff.mpr fun d hd => (all d hd).2⟩⟩
theorem pCodes_sd {ms : List Str} (hm : ms.length ≤ 100000) : ∀ {n : Nat} {found : Found} {i : Nat} {ks : Found}, (∀ q ∈ found, Sd 3 q.2) → pCodes ms n found i = .ok ks → (∀ q ∈ ks, Sd 3 q.2) ∧ ks.length ≤ found.length + n
  | 0, _, _, _, _, h => by unfold pCodes at h; cases h
  | n + 1, found, i, ks, hf, h => by
    unfold pCodes at h
    split at h
    · split at h
      · split at h
        · split at h
          · cases h
          · rename_i params ep
            cases en : pNames ms params (ms.length + 1) [] (i + 3) with
            | error e => rw [en] at h; cases h
            | ok q =>
              obtain ⟨names, j⟩ := q
              rw [en] at h
              have ln := pNames_len en
              cases er : pRows ms (ms.length + 1) [] [] (j + 1) with
              | error e =>
                have h' : kRows (fun rows places k => pCodes ms n (found ++ [(atM ms (i + 1), codeD params names rows places)]) (k + 1)) (pRows ms (ms.length + 1) [] [] (j + 1)) = .ok ks := h
                rw [er] at h'
                cases h'
              | ok q =>
                obtain ⟨rows, places, k⟩ := q
                have h' : kRows (fun rows places k => pCodes ms n (found ++ [(atM ms (i + 1), codeD params names rows places)]) (k + 1)) (pRows ms (ms.length + 1) [] [] (j + 1)) = .ok ks := h
                rw [er] at h'
                have h' : pCodes ms n (found ++ [(atM ms (i + 1), codeD params names rows places)]) (k + 1) = .ok ks := h'
                obtain ⟨r1, r2, r3, r4⟩ := pRows_sd (fun d hd => by cases hd) (fun d hd => by cases hd) er
                simp at r3 r4 ln
                have key := pCodes_sd hm (fun q hq => ?_) h'
                · obtain ⟨k1, k2⟩ := key
                  rw [List.length_append] at k2
                  simp at k2
                  exact ⟨k1, by omega⟩
                · rcases List.mem_append.mp hq with z | z
                  · exact hf q z
                  · rw [List.mem_singleton.mp z]
                    exact codeD_sd (by omega) (by omega) (by omega) r1 r2
        · cases h
      · cases h
    · cases h
      exact ⟨hf, by omega⟩
theorem due_sd {ms : List Str} (hm : ms.length ≤ 100000) : Sd 7 (dueD ms) := by
  unfold dueD
  cases e : rd ms with
  | error i =>
    have a := (sd_ats (vs := [.str "mark", .int (i : Nat)]) (by show 2 ≤ 200000; omega)).1
    exact ⟨Nat.le_trans a.1 (by omega), a.2⟩
  | ok ks =>
    obtain ⟨k1, k2⟩ := pCodes_sd hm (fun q hq => by cases hq) (show pCodes ms (ms.length + 1) [] 0 = .ok ks from e)
    have d1 := depD_of fun q hq => (k1 q hq).1
    show Sd 7 (.tup [.at (.str "told"), .dic ks])
    have all : ∀ d ∈ [DD.at (.str "told"), .dic ks], dep d ≤ 6 ∧ wd d := by
      intro d hd
      simp only [List.mem_cons, List.not_mem_nil, or_false] at hd
      rcases hd with rfl | rfl
      · exact ⟨by unfold dep; omega, by unfold wd; trivial⟩
      · refine ⟨by unfold dep; omega, ?_⟩
        unfold wd
        exact ⟨by simp at k2; omega, wdD_iff.mpr fun q hq => (k1 q hq).2⟩
    have t := depL_of fun d hd => (all d hd).1
    exact ⟨by rw [dep]; omega, by rw [wd]; exact ⟨by show 2 ≤ 200000; omega, wdL_iff.mpr fun d hd => (all d hd).2⟩⟩
theorem sd_pair {n : Nat} {a b : DD} (h1 : Sd n a) (h2 : Sd n b) : Sd (n + 1) (.lst [a, b]) := by
  have all : ∀ d ∈ [a, b], dep d ≤ n ∧ wd d := by
    intro d hd
    simp only [List.mem_cons, List.not_mem_nil, or_false] at hd
    rcases hd with rfl | rfl
    · exact h1
    · exact h2
  have t := depL_of fun d hd => (all d hd).1
  exact ⟨by rw [dep]; omega, by rw [wd]; exact ⟨by show 2 ≤ 200000; omega, wdL_iff.mpr fun d hd => (all d hd).2⟩⟩
end Hk64

set_option maxHeartbeats 1000000
namespace Hk64
open PySem PySem.Spec PyProof.Rows L2 Dq
/-! ### marks that are joined, read again -/
theorem joinL_mem {c : Nat} {S : List Nat} : ∀ {ps : List (List Nat)}, c ∈ TL.joinL S ps → c ∈ S ∨ ∃ p ∈ ps, c ∈ p
  | [], h => by simp [TL.joinL] at h
  | [p], h => .inr ⟨p, List.mem_singleton.mpr rfl, h⟩
  | p :: q :: r, h => by
    rw [TL.joinL] at h
    rcases List.mem_append.mp h with z | z
    · exact .inr ⟨p, List.mem_cons_self, z⟩
    · rcases List.mem_append.mp z with z | z
      · exact .inl z
      · rcases joinL_mem z with z | ⟨p', hp, hc⟩
        · exact .inl z
        · exact .inr ⟨p', List.mem_cons_of_mem _ hp, hc⟩
theorem gd_signs {m : Str} (h : gd m = true) : ∀ c ∈ m.cps.toList, 33 ≤ c ∧ c ≤ 126 := fun c hc => by
  unfold gd at h
  simp only [Bool.and_eq_true] at h
  have := List.all_eq_true.mp h.2.2 c hc
  unfold gdC at this
  simpa using this
theorem gd_ne {m : Str} (h : gd m = true) : m ≠ "" := fun e => by
  rw [e] at h
  revert h
  decide +kernel
theorem gd_len {m : Str} (h : gd m = true) : m.length ≤ 30 := by
  unfold gd at h
  simp only [Bool.and_eq_true] at h
  exact of_decide_eq_true h.2.1
/-- the marks' separators -/
def SepOk (z : Str) : Prop := z = " " ∨ z = "\n" ∨ z = "  "
theorem split_one {x : Str} {y : Str} {s : Nat} (ey : TL.tl y = [s]) (hk : y.cps.all (· < 256) = true) (h : s ∉ TL.tl x) : Txt.split x y = [x] := by
  have := TL.split_join (y := y) (S := []) (s := s) ey hk (parts := [x]) (by simp) (fun p hp => by rw [List.mem_singleton.mp hp]; exact h)
  rw [TL.join_eq] at this
  exact this
theorem gd_not {ms : List Str} (h : ∀ m ∈ ms, gd m = true) {s : Nat} (hs : s < 33) : ∀ m ∈ ms, s ∉ TL.tl m := fun m hm hc => by
  have := gd_signs (h m hm) s hc
  omega
theorem keep_all {ms : List Str} (h : ∀ m ∈ ms, gd m = true) : (ms.filter fun m : Str => !decide (m = "")) = ms :=
  List.filter_eq_self.mpr fun m hm => by simp [gd_ne (h m hm)]
theorem flat_ones {ms : List Str} (h : ∀ m ∈ ms, (32 : Nat) ∉ TL.tl m) : ms.flatMap (fun l => Txt.split l " ") = ms := by
  induction ms with
  | nil => rfl
  | cons m r ih =>
    rw [List.flatMap_cons, ih fun x hx => h x (List.mem_cons_of_mem _ hx), split_one (s := 32) rfl (by decide +kernel) (h m List.mem_cons_self)]
    rfl
/-- empty marks between -/
def gaps : List Str → List Str
  | [] => []
  | [m] => [m]
  | m :: k :: r => m :: "" :: gaps (k :: r)
theorem gaps_ne : ∀ {ms : List Str}, ms ≠ [] → gaps ms ≠ []
  | [], h => absurd rfl h
  | [m], _ => by simp [gaps]
  | m :: k :: r, _ => by simp [gaps]
theorem gaps_join : ∀ ms : List Str, TL.tl (Str.join "  " ms) = TL.tl (Str.join " " (gaps ms))
  | [] => rfl
  | [m] => rfl
  | m :: k :: r => by
    have ih := gaps_join (k :: r)
    rw [TL.tl_join, TL.tl_join] at ih ⊢
    show TL.tl m ++ (TL.tl "  " ++ TL.joinL (TL.tl "  ") ((k :: r).map TL.tl)) = TL.joinL (TL.tl " ") ((m :: "" :: gaps (k :: r)).map TL.tl)
    rw [ih]
    obtain ⟨g, gs, hg⟩ : ∃ g gs, gaps (k :: r) = g :: gs := by
      cases e : gaps (k :: r) with
      | nil => exact absurd e (gaps_ne (by simp))
      | cons g gs => exact ⟨g, gs, rfl⟩
    rw [hg]
    show _ = TL.tl m ++ (TL.tl " " ++ (TL.tl "" ++ (TL.tl " " ++ TL.joinL (TL.tl " ") ((g :: gs).map TL.tl))))
    rfl
theorem gaps_mem : ∀ {ms : List Str} {m : Str}, m ∈ gaps ms → m = "" ∨ m ∈ ms
  | [], m, h => by simp [gaps] at h
  | [k], m, h => .inr h
  | k :: l :: r, m, h => by
    rw [gaps] at h
    rcases List.mem_cons.mp h with rfl | h
    · exact .inr List.mem_cons_self
    · rcases List.mem_cons.mp h with rfl | h
      · exact .inl rfl
      · exact (gaps_mem h).imp id (List.mem_cons_of_mem _)
theorem gaps_filter : ∀ {ms : List Str}, (∀ m ∈ ms, gd m = true) → ((gaps ms).filter fun m : Str => !decide (m = "")) = ms
  | [], _ => rfl
  | [m], h => keep_all h
  | m :: k :: r, h => by
    have ih := gaps_filter (ms := k :: r) fun x hx => h x (List.mem_cons_of_mem _ hx)
    rw [gaps, List.filter_cons_of_pos (by simp [gd_ne (h m List.mem_cons_self)]), List.filter_cons_of_neg (by simp), ih]
theorem marks_empty : marksOf "" = [] := by decide +kernel
theorem join_nil (z : Str) : Txt.join z [] = "" := by
  rw [TL.join_eq]; rfl
theorem marks_join {z : Str} (hz : SepOk z) {ms : List Str} (h : ∀ m ∈ ms, gd m = true) : marksOf (Txt.join z ms) = ms := by
  by_cases he : ms = []
  · subst he
    rw [join_nil]; exact marks_empty
  have no10 : ∀ {y : Str} {ps : List Str}, (10 : Nat) ∉ TL.tl y → (∀ p ∈ ps, (10 : Nat) ∉ TL.tl p) → Txt.split (Txt.join y ps) "\n" = [Txt.join y ps] := fun {y ps} hy hp => by
    refine split_one (s := 10) rfl (by decide +kernel) fun hc => ?_
    rw [TL.join_eq, TL.tl_join] at hc
    rcases joinL_mem hc with q | ⟨p, q1, q2⟩
    · exact hy q
    · obtain ⟨x, hx, rfl⟩ := List.mem_map.mp q1
      exact hp x hx q2
  unfold marksOf
  rcases hz with rfl | rfl | rfl
  · rw [no10 (by decide +kernel) (gd_not h (by omega))]
    show ((Txt.split (Txt.join " " ms) " " ++ []).filter _) = ms
    rw [List.append_nil, TL.split_join (s := 32) (S := []) rfl (by decide +kernel) he (gd_not h (by omega))]
    exact keep_all h
  · rw [TL.split_join (s := 10) (S := []) rfl (by decide +kernel) he (gd_not h (by omega)), flat_ones (gd_not h (by omega))]
    exact keep_all h
  · have e : Txt.join "  " ms = Txt.join " " (gaps ms) := by
      rw [TL.join_eq, TL.join_eq]
      exact TL.ext_tl (gaps_join ms)
    rw [e]
    have g10 : ∀ {s : Nat}, s < 33 → ∀ p ∈ gaps ms, s ∉ TL.tl p := fun {s} hs p hp => by
      rcases gaps_mem hp with rfl | hp
      · intro z; cases z
      · exact gd_not h hs p hp
    rw [no10 (by decide +kernel) (g10 (by omega))]
    show ((Txt.split (Txt.join " " (gaps ms)) " " ++ []).filter _) = ms
    rw [List.append_nil, TL.split_join (s := 32) (S := []) rfl (by decide +kernel) (gaps_ne he) (g10 (by omega))]
    exact gaps_filter h
theorem gd_mks {ms : List Str} (h : ∀ m ∈ ms, gd m = true) (hl : ms.length ≤ 100000) : Mks ms :=
  ⟨fun m hm => Nat.le_trans (gd_len (h m hm)) (by omega), hl, fun m hm => gd_lay (h m hm)⟩
theorem sum_len {ms : List Str} (h : ∀ m ∈ ms, gd m = true) : (ms.map (·.length)).sum ≤ ms.length * 30 := by
  induction ms with
  | nil => exact Nat.le_refl _
  | cons m r ih =>
    rw [List.map_cons, List.sum_cons, List.length_cons]
    have := gd_len (h m List.mem_cons_self)
    have := ih fun x hx => h x (List.mem_cons_of_mem _ hx)
    omega
theorem joinL_len {S : List Nat} : ∀ {ps : List (List Nat)}, (TL.joinL S ps).length ≤ (ps.map (·.length)).sum + ps.length * S.length
  | [] => by simp [TL.joinL]
  | [p] => by simp [TL.joinL]
  | p :: q :: r => by
    have := joinL_len (S := S) (ps := q :: r)
    rw [TL.joinL]
    simp only [List.length_append, List.map_cons, List.sum_cons, List.length_cons, Nat.add_mul] at this ⊢
    omega
theorem join_ok {z : Str} (hz : SepOk z) {ms : List Str} (h : ∀ m ∈ ms, gd m = true) (hl : ms.length ≤ 100000) : TextOk (Txt.join z ms) := by
  refine ⟨by rw [marks_join hz h]; exact gd_mks h hl, ?_⟩
  have a := joinL_len (S := TL.tl z) (ps := ms.map TL.tl)
  rw [← TL.tl_join, ← TL.join_eq, ← TL.len_tl] at a
  have b := sum_len h
  have c : ((ms.map TL.tl).map (·.length)) = ms.map (·.length) := by
    rw [List.map_map]
    exact List.map_congr_left fun m _ => (TL.len_tl m).symm
  have d : (TL.tl z).length ≤ 2 := by rcases hz with rfl | rfl | rfl <;> decide +kernel
  rw [c, List.length_map] at a
  have e : ms.length * (TL.tl z).length ≤ ms.length * 2 := Nat.mul_le_mul_left _ d
  omega
end Hk64

set_option maxHeartbeats 1000000
namespace Hk64
open PySem PySem.Spec PyProof.Rows L2 Dq
variable {Γ : Gam} {W : WX} {D : Ends} {σ : L2.St} {H : Hp}
theorem e_ty {f : Bool} {x : String} {Q : VK} (q : Q (.ty x) H) : Dq.wE Γ (.ty x) f W σ H Q := by unfold Dq.wE; exact q
theorem e_isi {f : Bool} {i : Nat} {v : V} {a b : String} {r : Bool} {Q : VK} (s : σ[i]? = some (some v)) (ty : TyOf Γ.K H v (.type a)) (h : kitB a b = some r) (q : Q (.bl r) H) : Dq.wE Γ (.bf .isi (.cons (.var i) (.cons (.ty b) .nil))) f W σ H Q :=
  e_bf (es_cons (e_var s (es_cons (e_ty (es_nil (isi_t ty h q))))))
theorem e_isi2 {f : Bool} {i : Nat} {v : V} {a b c : String} {r1 r2 : Bool} {Q : VK} (s : σ[i]? = some (some v)) (ty : ∀ H', Ex [] H H' → TyOf Γ.K H' v (.type a)) (h1 : kitB a b = some r1) (h2 : kitB a c = some r2) (q : ∀ H', Ex [] H H' → Q (.bl (r1 || r2)) H') :
    Dq.wE Γ (.bf .isi (.cons (.var i) (.cons (.tup (.cons (.ty b) (.cons (.ty c) .nil))) .nil))) f W σ H Q := by
  have hb := sizeBig
  exact e_bf (es_cons (e_var s (es_cons (e_tup (es_cons (e_ty (es_cons (e_ty (es_nil ⟨by show 2 ≤ sizeLine; omega, fun p np => es_nil (isi_2 (ty _ (Ex.new np)) upd_same h1 h2 (q _ (Ex.new np)))⟩)))))))))
theorem e_isi3 {f : Bool} {i : Nat} {v : V} {a b c e : String} {r1 r2 r3 : Bool} {Q : VK} (s : σ[i]? = some (some v)) (ty : ∀ H', Ex [] H H' → TyOf Γ.K H' v (.type a)) (h1 : kitB a b = some r1) (h2 : kitB a c = some r2) (h3 : kitB a e = some r3) (q : ∀ H', Ex [] H H' → Q (.bl (r1 || (r2 || r3))) H') :
    Dq.wE Γ (.bf .isi (.cons (.var i) (.cons (.tup (.cons (.ty b) (.cons (.ty c) (.cons (.ty e) .nil)))) .nil))) f W σ H Q := by
  have hb := sizeBig
  exact e_bf (es_cons (e_var s (es_cons (e_tup (es_cons (e_ty (es_cons (e_ty (es_cons (e_ty (es_nil ⟨by show 3 ≤ sizeLine; omega, fun p np => es_nil (isi_3 (ty _ (Ex.new np)) upd_same h1 h2 h3 (q _ (Ex.new np)))⟩)))))))))))
/-- [f, d] with the slots of the walk -/
abbrev sm (f d : V) : L2.St := [some f, some d, none, none]
/-- the first test, of two things of one type -/
theorem same_t0 {f d : V} {t : String} {r1 r2 : Bool} {N : Bool → Hp → Prop} (td : ∀ H', Ex [] H H' → TyOf Γ.K H' d (.type t)) (h1 : kitB t "list" = some r1) (h2 : kitB t "tuple" = some r2) (q : ∀ H', Ex [] H H' → N (r1 || r2) H') :
    Dq.wT Γ (.tr (.bf .isi (.cons (.var 1) (.cons (.tup (.cons (.ty "list") (.cons (.ty "tuple") .nil))) .nil)))) true W (sm f d) H N := by
  unfold Dq.wT
  exact e_isi2 rfl td h1 h2 fun H' x => tru_b (q H' x)
/-- the test of lists and tuples: the types are the same -/
theorem same_lt {f d : V} {t : String} {r1 r2 : Bool} {N : Bool → Hp → Prop} (tf : TyOf Γ.K H f (.type t)) (td : TyOf Γ.K H d (.type t)) (h1 : kitB t "list" = some r1) (h2 : kitB t "tuple" = some r2) (q : N false H) :
    Dq.wT Γ (.or (.cmp .NotEq (.bf .isi (.cons (.var 0) (.cons (.ty "list") .nil))) (.bf .isi (.cons (.var 1) (.cons (.ty "list") .nil)))) (.cmp .NotEq (.bf .isi (.cons (.var 0) (.cons (.ty "tuple") .nil))) (.bf .isi (.cons (.var 1) (.cons (.ty "tuple") .nil))))) true W (sm f d) H N := by
  unfold Dq.wT Dq.wT
  refine e_isi rfl tf h1 (e_isi rfl td h1 (ne_b ⟨_, rfl, ifF (by cases r1 <;> rfl) ?_⟩))
  unfold Dq.wT
  refine e_isi rfl tf h2 (e_isi rfl td h2 (ne_b ⟨_, rfl, ?_⟩))
  have e : (!decide (r2 = r2)) = false := by cases r2 <;> rfl
  rw [e]; exact q
theorem wS_ifs {t : CT} {a b : CSs} (h : Dq.wT Γ t true W σ H fun k H1 => if k = true then wSs Γ a W D σ H1 else wSs Γ b W D σ H1) : wS Γ (.ifs t a b) W D σ H := by
  unfold wS; exact h
theorem wSs_nil (h : D.nx σ H) : wSs Γ .nil W D σ H := by unfold wSs; exact h
theorem wS_ret {e : Dq.CE} (h : Dq.wE Γ e true W σ H D.rt) : wS Γ (.ret e) W D σ H := by unfold wS; exact h
/-- a list against the same list, a tuple against the same tuple -/
theorem same_seq {f d : Addr} {t : String} {r1 r2 : Bool} {ds : List DD} {Q : VK} {E : XK} (tf : ∀ H', Ex [] H H' → TyOf Γ.K H' (.ref f) (.type t)) (td : ∀ H', Ex [] H H' → TyOf Γ.K H' (.ref d) (.type t)) (h1 : kitB t "list" = some r1) (h2 : kitB t "tuple" = some r2) (h3 : (r1 || r2) = true)
    (hl : ∀ H' (N : VK), Ex [] H H' → N (.int ds.length) H' → Dq.wE Γ (.bf .len (.cons (.var 0) .nil)) true (dE E) (sm (.ref f) (.ref d)) H' N ∧ Dq.wE Γ (.bf .len (.cons (.var 1) .nil)) true (dE E) (sm (.ref f) (.ref d)) H' N)
    (ha : ∀ H' (N : VK), Ex [] H H' → (∀ H2, Ex [] H' H2 → N (.bl true) H2) → Dq.wE Γ (.bf .all (.cons (.lc [2, 3] (.tup (.cons (.nm 2) (.cons (.nm 3) .nil))) (.zip (.var 0) (.var 1)) .no (.call "_law_same" (.cons (.var 2) (.cons (.var 3) .nil)))) .nil)) true (dE E) (sm (.ref f) (.ref d)) H' N)
    (q : ∀ H', Ex [] H H' → Q (.bl true) H') : wSs Γ i__law_same (dE E) (dD Q) (sm (.ref f) (.ref d)) H := by
  unfold i__law_same
  refine seq1 ?_
  unfold i__law_same_0
  refine wS_ifs (same_t0 td h1 h2 fun H1 x1 => ifT h3 ?_)
  unfold i__law_same_0a
  refine seq1 ?_
  unfold i__law_same_0a_0
  refine wS_ifs (same_lt (tf H1 x1) (td H1 x1) h1 h2 (ifF rfl (wSs_nil ?_)))
  refine seq1 ?_
  unfold i__law_same_0a_1
  refine wS_ret ?_
  rw [Dq.wE, Dq.wE]
  refine (hl H1 _ x1 ((hl H1 _ x1 (eq_i ⟨_, rfl, ifT (by simp) (ha H1 _ x1 fun H2 x2 => q H2 (x1.trans x2))⟩)).2)).1
/-- a flat thing against itself -/
theorem same_flat {v : V} {t : String} {r1 r2 : Bool} {Q : VK} {E : XK} (ty : ∀ H', TyOf Γ.K H' v (.type t)) (sc : scal v v = true) (hl : kitB t "list" = some false) (ht : kitB t "tuple" = some false) (hd : kitB t "dict" = some false) (hb : kitB t "bool" = some r1) (hi : kitB t "int" = some r2)
    (hs : ∃ r, kitB t "str" = some r) (hn : r1 = true → v ≠ .non) (q : ∀ H', Ex [] H H' → Q (.bl true) H') : wSs Γ i__law_same (dE E) (dD Q) (sm v v) H := by
  obtain ⟨r3, hs⟩ := hs
  unfold i__law_same
  refine seq1 ?_
  unfold i__law_same_0
  refine wS_ifs (same_t0 (fun H' _ => ty H') hl ht fun H1 x1 => ifF rfl (wSs_nil ?_))
  refine seq1 ?_
  unfold i__law_same_1
  refine wS_ifs ?_
  unfold Dq.wT
  refine e_isi rfl (ty H1) hd ⟨_, rfl, ifF rfl (wSs_nil ?_)⟩
  refine seq1 ?_
  unfold i__law_same_2
  refine wS_ifs ?_
  unfold Dq.wT Dq.wT
  refine e_isi rfl (ty H1) hb ⟨_, rfl, ?_⟩
  have rest3 : wSs Γ (.cons i__law_same_3 (.cons i__law_same_4 (.cons i__law_same_5 .nil))) (dE E) (dD Q) (sm v v) H1 := by
    refine seq1 ?_
    unfold i__law_same_3
    refine wS_ifs ?_
    unfold Dq.wT Dq.wT
    refine e_var rfl ?_
    rw [Dq.wE]
    refine is_n ⟨_, rfl, ?_⟩
    by_cases hv : v = .non
    · refine ifT (decide_eq_true hv) (ifT rfl ?_)
      unfold i__law_same_3a
      refine seq1 ?_
      unfold i__law_same_3a_0
      refine wS_ret ?_
      rw [Dq.wE, Dq.wE]
      refine e_var rfl ?_
      rw [Dq.wE]
      refine is_n ⟨true, by rw [decide_eq_true hv]; rfl, ifT rfl ?_⟩
      rw [Dq.wE]
      refine e_var rfl ?_
      rw [Dq.wE]
      refine is_n ?_
      rw [decide_eq_true hv]
      exact q H1 x1
    · refine ifF (decide_eq_false hv) ?_
      unfold Dq.wT
      refine e_var rfl ?_
      rw [Dq.wE]
      refine is_n ⟨_, rfl, ifF (decide_eq_false hv) (wSs_nil ?_)⟩
      refine seq1 ?_
      unfold i__law_same_4
      refine wS_ifs ?_
      unfold Dq.wT Dq.wT
      refine e_isi rfl (ty H1) hi (e_isi rfl (ty H1) hi (ne_b ⟨_, rfl, ifF (by simp) ?_⟩))
      unfold Dq.wT
      refine e_isi rfl (ty H1) hs (e_isi rfl (ty H1) hs (ne_b ⟨_, rfl, ifF (by simp) (wSs_nil ?_)⟩))
      refine seq1 ?_
      unfold i__law_same_5
      refine wS_ret ?_
      rw [Dq.wE, Dq.wE]
      refine e_isi3 rfl (fun H' _ => ty H') hl ht hd fun H2 x2 => ⟨false, rfl, true, rfl, ifT rfl ?_⟩
      rw [Dq.wE]
      refine e_var rfl (e_var rfl (eq_v sc ?_))
      rw [decide_eq_true rfl]
      exact q H2 (x1.trans x2)
  cases r1 with
  | true =>
    refine ifT rfl (ifT rfl ?_)
    unfold i__law_same_2a
    refine seq1 ?_
    unfold i__law_same_2a_0
    refine wS_ret ?_
    rw [Dq.wE]
    refine e_isi rfl (ty H1) hb ⟨true, rfl, ifT rfl ?_⟩
    rw [Dq.wE]
    refine e_isi rfl (ty H1) hb ⟨true, rfl, ifT rfl ?_⟩
    rw [Dq.wE]
    refine e_var rfl (e_var rfl (eq_v sc ?_))
    rw [decide_eq_true rfl]
    exact q H1 x1
  | false =>
    refine ifF rfl ?_
    unfold Dq.wT
    exact e_isi rfl (ty H1) hb ⟨_, rfl, ifF rfl (wSs_nil rest3)⟩
theorem items_rep {H0 H H' : Hp} : ∀ {ks : List (Str × DD)} {kvs : List (Key × V)} {ts : List Addr}, RepD H0 H ks kvs → (∀ b o, H b = some o → H' b = some o) → (∀ t ∈ ts, H t = none) → (∀ a, H a = none → H0 a = none) → Paired (fun (t : Addr) (q : Key × V) => H' t = some (.tup [kV q.1, q.2])) ts kvs → RepL H0 H' (itemsD ks) (ts.map V.ref)
  | [], kvs, ts, h, _, _, _, p => by
    unfold RepD at h
    subst h
    cases p
    exact RepL.nil
  | (k, d) :: ks, kvs, ts, h, e, n, x, p => by
    unfold RepD at h
    obtain ⟨v, r, rfl, h1, h2⟩ := h
    cases p with
    | cons p1 p2 =>
      rename_i t ts
      refine RepL.cons ?_ (items_rep h2 e (fun t ht => n t (List.mem_cons_of_mem _ ht)) x p2)
      unfold Rep
      exact ⟨t, _, rfl, x t (n t List.mem_cons_self), p1, RepL.cons (.flat rfl) (RepL.cons (h1.keep fun a o _ q => e a o q) RepL.nil)⟩
theorem w_same {n : Nat} (hs : ∀ m, n = m + 1 → Γ.fn "_law_same" (spSame m)) (vs : List V) (H : Hp) (Q : VK) (E : XK) (h : spSame n vs H Q E) : wSs Γ i__law_same (dE E) (dD Q) (start l__law_same.N vs) H := by
  obtain ⟨f, d, D, H0, H1, rfl, ⟨hd, hw⟩, rf, rd, q⟩ := h
  show wSs Γ i__law_same (dE E) (dD Q) (sm f d) H
  have hb := sizeBig
  cases D with
  | «at» v =>
    have e1 : f = v ∧ flatV v = true := by unfold Rep at rf; exact rf
    have e2 : d = v ∧ flatV v = true := by unfold Rep at rd; exact rd
    obtain ⟨rfl, fl⟩ := e1
    obtain ⟨rfl, _⟩ := e2
    have ty : ∀ H', TyOf Γ.K H' d (.type (tyD (.at d) d)) := fun H' => ty_of (H0 := H0) (Rep.flat fl)
    cases d with
    | non => exact same_flat ty rfl rfl rfl rfl rfl rfl ⟨_, rfl⟩ (fun z => nomatch z) q
    | bl b => exact same_flat ty rfl rfl rfl rfl rfl rfl ⟨_, rfl⟩ (fun _ z => nomatch z) q
    | int i => exact same_flat ty rfl rfl rfl rfl rfl rfl ⟨_, rfl⟩ (fun z => nomatch z) q
    | str x => exact same_flat ty rfl rfl rfl rfl rfl rfl ⟨_, rfl⟩ (fun z => nomatch z) q
    | _ => cases fl
  | lst ds =>
    unfold Rep at rf rd
    obtain ⟨a, xs, rfl, _, ea, ra⟩ := rf
    obtain ⟨b, ys, rfl, _, eb, rb⟩ := rd
    unfold dep at hd
    unfold wd at hw
    obtain ⟨m, rfl⟩ : ∃ m, n = m + 1 := ⟨n - 1, by omega⟩
    have g : ∀ {H' : Hp} {c : Addr} {zs : List V}, Ex [] H H' → H c = some (.lst zs) → H' c = some (.lst zs) := fun x e => x.get e (by simp)
    refine same_seq (ds := ds) (t := "list") (fun H' x => .lst (g x ea)) (fun H' x => .lst (g x eb)) rfl rfl rfl (fun H' N x q' => ?_) (fun H' N x q' => ?_) q
    · refine ⟨e_bf (es_cons (e_var rfl (es_nil (len_lst (g x ea) ?_)))), e_bf (es_cons (e_var rfl (es_nil (len_lst (g x eb) ?_))))⟩
      · rw [ra.len]; exact q'
      · rw [rb.len]; exact q'
    · exact same_lists (hs m rfl) (by show 3 < 4; decide) rfl rfl (g x ea) (g x eb) (ra.ex x (by simp)) (rb.ex x (by simp)) (by omega) hw.2 hw.1 q'
  | tup ds =>
    unfold Rep at rf rd
    obtain ⟨a, xs, rfl, _, ea, ra⟩ := rf
    obtain ⟨b, ys, rfl, _, eb, rb⟩ := rd
    unfold dep at hd
    unfold wd at hw
    obtain ⟨m, rfl⟩ : ∃ m, n = m + 1 := ⟨n - 1, by omega⟩
    have g : ∀ {H' : Hp} {c : Addr} {zs : List V}, Ex [] H H' → H c = some (.tup zs) → H' c = some (.tup zs) := fun x e => x.get e (by simp)
    refine same_seq (ds := ds) (t := "tuple") (fun H' x => .tup (g x ea)) (fun H' x => .tup (g x eb)) rfl rfl rfl (fun H' N x q' => ?_) (fun H' N x q' => ?_) q
    · refine ⟨e_bf (es_cons (e_var rfl (es_nil (len_t (.inl (.inl (g x ea))) ?_)))), e_bf (es_cons (e_var rfl (es_nil (len_t (.inl (.inl (g x eb))) ?_))))⟩
      · rw [ra.len]; exact q'
      · rw [rb.len]; exact q'
    · exact same_tuples (hs m rfl) (by show 3 < 4; decide) rfl rfl (g x ea) (g x eb) (ra.ex x (by simp)) (rb.ex x (by simp)) (by omega) hw.2 hw.1 q'
  | dic ks =>
    unfold Rep at rf rd
    obtain ⟨a, xs, rfl, _, ea, ra⟩ := rf
    obtain ⟨b, ys, rfl, _, eb, rb⟩ := rd
    have hw' := wd_items hw
    have hd' := dep_items ks
    unfold dep at hd
    obtain ⟨m, rfl⟩ : ∃ m, n = m + 1 := ⟨n - 1, by omega⟩
    have g : ∀ {H' : Hp} {c : Addr} {zs : List (Key × V)}, Ex [] H H' → H c = some (.dK zs) → H' c = some (.dK zs) := fun x e => x.get e (by simp)
    unfold i__law_same
    refine seq1 ?_
    unfold i__law_same_0
    refine wS_ifs (same_t0 (t := "dict") (fun H' x => .dK (g x eb)) rfl rfl fun H1 x1 => ifF rfl (wSs_nil ?_))
    refine seq1 ?_
    unfold i__law_same_1
    refine wS_ifs ?_
    unfold Dq.wT
    refine e_isi (a := "dict") rfl (.dK (g x1 eb)) rfl ⟨_, rfl, ifT rfl ?_⟩
    unfold i__law_same_1a
    refine seq1 ?_
    unfold i__law_same_1a_0
    refine wS_ret ?_
    rw [Dq.wE]
    refine e_isi (a := "dict") rfl (.dK (g x1 ea)) rfl ⟨true, rfl, ifT rfl (e_call (hs m rfl) (es_cons ?_))⟩
    rw [Dq.wE]
    refine e_var rfl ⟨a, xs, rfl, g x1 ea, fun H2 p ts k2 np nt _ ep pr => es_cons ?_⟩
    rw [Dq.wE]
    have x2 : Ex [] H1 H2 := fun c o e => ⟨o, k2 c o e, fun _ => rfl⟩
    refine e_var rfl ⟨b, ys, rfl, g (x1.trans x2) eb, fun H3 p' ts' k3 np' nt' _ ep' pr' => es_nil ?_⟩
    have x3 : Ex [] H2 H3 := fun c o e => ⟨o, k3 c o e, fun _ => rfl⟩
    refine ⟨.ref p, .ref p', .lst (itemsD ks), fun _ => none, fun _ => none, rfl, ⟨by omega, hw'⟩, ?_, ?_, fun H4 x4 => q H4 (((x1.trans x2).trans x3).trans x4)⟩
    · unfold Rep
      exact ⟨p, _, rfl, rfl, k3 _ _ ep, (items_rep ((ra.ex x1 (by simp)).base fun _ _ => rfl) k2 nt (fun _ _ => rfl) pr).keep fun c o _ e => k3 c o e⟩
    · unfold Rep
      exact ⟨p', _, rfl, rfl, ep', items_rep ((rb.ex (x1.trans x2) (by simp)).base fun _ _ => rfl) k3 nt' (fun _ _ => rfl) pr'⟩
end Hk64

set_option maxHeartbeats 1000000
namespace Hk64
open PySem PySem.Spec PyProof.Rows L2 Dq
variable {Γ : Gam} {W : WX} {D : Ends} {σ : L2.St} {H : Hp}
/-! ### LineMarks.__init__ -/
def stAt (ss : List Stmt) (i : Nat) : Stmt := ss.getD i (.Pass ⟨0, 0, 0, 0⟩)
def aVal : Stmt → Expr
  | .Assign _ e _ => e
  | _ => .Name "" ⟨0, 0, 0, 0⟩
def aObj : Stmt → Expr
  | .Assign [.Attribute o _ _] _ _ => o
  | _ => .Name "" ⟨0, 0, 0, 0⟩
def aP1 : Stmt → Pos
  | .Assign [.Attribute _ _ p] _ _ => p
  | _ => ⟨0, 0, 0, 0⟩
def aP2 : Stmt → Pos
  | .Assign _ _ p => p
  | _ => ⟨0, 0, 0, 0⟩
abbrev bI : List Stmt := defBody s_LineMarks_init
theorem bI_eq : bI = [stAt bI 0, .Assign [.Attribute (aObj (stAt bI 1)) "marks" (aP1 (stAt bI 1))] (aVal (stAt bI 1)) (aP2 (stAt bI 1)), stAt bI 2] := by kernel_rfl
def i0_init : Dq.CS := .ifs (.nt (.tr (.bf .isi (.cons (.var 1) (.cons (.ty "str") .nil))))) (.cons (.raise "BadMark" (.cons (.int 0) .nil)) .nil) .nil
def i2_init : Dq.CS := .fld (.var 0) "at" (.int 0)
def l_init : L2c := ⟨.nm 2, .val (.bm .split (.var 1) (.cons (.str "\n") .nil)), .no, .nm 3, .val (.bm .split (.var 2) (.cons (.str " ") .nil)), .some (.cmp .NotEq (.var 3) (.str "")), .var 3, [2, 3], [3]⟩
theorem c0_init : Dq.cS l_LineMarks_init 60 (defScope s_LineMarks_init) (stAt bI 0) = some i0_init := by kernel_rfl
theorem c2_init : Dq.cS l_LineMarks_init 60 (defScope s_LineMarks_init) (stAt bI 2) = some i2_init := by kernel_rfl
theorem c1_init : cL2 l_LineMarks_init 60 (defScope s_LineMarks_init) (aVal (stAt bI 1)) = some l_init := by kernel_rfl
theorem co_init : Dq.cE l_LineMarks_init 60 (defScope s_LineMarks_init) (aObj (stAt bI 1)) = some (.var 0) := by kernel_rfl
/-- what a line's turn adds -/
def lnM (l : Str) : List Str := (Txt.split l " ").filter fun m : Str => !decide (m = "")
theorem marksOf_eq (t : Str) : marksOf t = (Txt.split t "\n").flatMap lnM := by
  unfold marksOf lnM
  induction Txt.split t "\n" with
  | nil => rfl
  | cons l r ih => rw [List.flatMap_cons, List.flatMap_cons, List.filter_append, ih]
theorem upto_le {ls : List Str} {l : Str} {i j : Nat} (h : ls[i]? = some l) : ((ls.take i).flatMap lnM ++ ((Txt.split l " ").take j).filter fun m : Str => !decide (m = "")).length ≤ (ls.flatMap lnM).length := by
  have e : ls = ls.take i ++ l :: ls.drop (i + 1) := by
    have hi := (List.getElem?_eq_some_iff.mp h)
    obtain ⟨hi, rfl⟩ := hi
    rw [List.getElem_cons_drop hi, List.take_append_drop]
  have a : (((Txt.split l " ").take j).filter fun m : Str => !decide (m = "")).length ≤ (lnM l).length := (List.Sublist.filter _ (List.take_sublist j _)).length_le
  conv => rhs; rw [e]
  rw [List.flatMap_append, List.flatMap_cons, List.length_append, List.length_append, List.length_append]
  omega
section
variable {C BM : Addr}
theorem split_new {f : Bool} {i : Nat} {z b : Str} {RI : It → Hp → Prop} (s : σ[i]? = some (some (.str z))) (hb : (b.length == 0) = false) (hz : z.length ≤ 10000000) (q : ∀ p, H p = none → RI (Itl Γ.K p) (upd H p (.lst ((Txt.split z b).map V.str)))) :
    Dq.wI Γ (.val (.bm .split (.var i) (.cons (.str b) .nil))) f W σ H RI := by
  have hs : (10000000 : Nat) + 2 ≤ sizeLine := by rw [sizeLine_eq]; omega
  refine i_val ?_
  rw [Dq.wE]
  refine e_var s ⟨rfl, es_cons ?_⟩
  rw [Dq.wE]
  exact es_nil ⟨z, b, rfl, rfl, hb, by omega, fun p np => itv_l (.inl (.inl upd_same)) (q p np)⟩

theorem r_init {E : XK} {m dx : Addr} {t : Str} {D' : Ends} (ht : TextOk t) (hm : H m = some (.ins C dx [])) (hc : Cls Γ.K C) (hn : NoAttr Γ.K C "marks") (q : ∀ L H', Ex [m] H H' → H L = none → H' m = some (.ins C dx [("marks", .ref L)]) → H' L = some (.lst ((marksOf t).map V.str)) → D'.nx [some (.ref m), some (.str t), none, none] H') :
    sFld Γ.K (Dq.wE Γ (.var 0) true W) (wL2 Γ l_init true W) "marks" D' [some (.ref m), some (.str t), none, none] H := by
  have hs : (100000 : Nat) < sizeLine := by rw [sizeLine_eq]; omega
  have few := ht.mks.few
  have hlen := ht.len
  rw [marksOf_eq] at few
  unfold sFld wL2 tLc2
  refine split_new rfl (by decide +kernel) hlen fun pl npl dl ndl => ?_
  generalize hls : Txt.split t "\n" = ls at few
  have hal : upd H pl (HO.lst (ls.map V.str)) pl = some (.lst (ls.map V.str)) := upd_same
  have x0 : Ex [] H (upd H pl (HO.lst (ls.map V.str))) := Ex.new npl
  rw [← hls] at hal x0 few ⊢
  rw [hls] at hal x0 few ndl ⊢
  generalize upd H pl (HO.lst (ls.map V.str)) = Ha at hal x0 ndl ⊢
  have nd : pl ≠ dl := ne_of_none hal ndl
  -- what stands ahead of the outer turn i
  refine ⟨fun i n H' => n = ls.length - i ∧ i ≤ ls.length ∧ Ex [dl] (upd Ha dl (.lst [])) H' ∧ H' dl = some (.lst (((ls.take i).flatMap lnM).map V.str)), ⟨_, rfl, Nat.zero_le _, Ex.refl, by rw [upd_same]; rfl⟩, ?_⟩
  rintro i n H1 ⟨rfl, hi, x1, e1⟩
  have pl1 : ∀ {H' : Hp}, Ex [dl] (upd Ha dl (.lst [])) H' → SqL Γ.K H' pl (ls.map V.str) := fun x => .inl (.inl (x.get (by rw [upd_ne nd]; exact hal) (by simpa using nd)))
  by_cases hlt : i < ls.length
  · refine .inr ⟨⟨_, _, pl1 x1, by rw [List.getElem?_map, List.getElem?_eq_getElem hlt]; rfl⟩, fun H' => Ex [dl] (upd Ha dl (.lst [])) H' ∧ H' dl = some (.lst (((ls.take (i + 1)).flatMap lnM).map V.str)), fun H' z => ⟨_, by omega, rfl, hlt, z.1, z.2⟩, ?_⟩
    rintro x H1 ⟨rfl, hx⟩
    have hl : ls[i]? = some ls[i] := List.getElem?_eq_getElem hlt
    have hx := hx _ (pl1 x1)
    rw [List.getElem?_map, hl] at hx
    cases hx
    generalize ls[i] = l at hl
    have hll : l.length ≤ 10000000 := Nat.le_trans (PyProof.Rows.part_short (x := t) (y := "\n") (by rw [hls]; exact List.mem_of_getElem? hl)) hlen
    refine ⟨rfl, ?_⟩
    show Dq.wC Γ .no noW _ _ _
    unfold Dq.wC
    refine ifT rfl ?_
    refine split_new rfl (by decide +kernel) hll fun pp npp => ?_
    have x2 : Ex [dl] (upd Ha dl (.lst [])) (upd H1 pp (HO.lst ((Txt.split l " ").map V.str))) := x1.trans (Ex.new npp)
    have e2 : upd H1 pp (HO.lst ((Txt.split l " ").map V.str)) pp = some (.lst ((Txt.split l " ").map V.str)) := upd_same
    have np : pp ≠ dl := (ne_of_none e1 npp).symm
    have e3 : upd H1 pp (HO.lst ((Txt.split l " ").map V.str)) dl = some (.lst (((ls.take i).flatMap lnM).map V.str)) := by rw [upd_ne np.symm]; exact e1
    generalize upd H1 pp (HO.lst ((Txt.split l " ").map V.str)) = H2 at x2 e2 e3
    refine ⟨fun j n H' => n = (Txt.split l " ").length - j ∧ j ≤ (Txt.split l " ").length ∧ Ex [dl] H2 H' ∧ H' dl = some (.lst (((ls.take i).flatMap lnM ++ ((Txt.split l " ").take j).filter fun m : Str => !decide (m = "")).map V.str)), ⟨_, rfl, Nat.zero_le _, Ex.refl, by rw [List.take_zero, List.filter_nil, List.append_nil]; exact e3⟩, ?_⟩
    rintro j n H3 ⟨rfl, hj, x3, e4⟩
    have pp1 : SqL Γ.K H3 pp ((Txt.split l " ").map V.str) := .inl (.inl (x3.get e2 (by simpa using np)))
    by_cases hjt : j < (Txt.split l " ").length
    · refine .inr ⟨⟨_, _, pp1, by rw [List.getElem?_map, List.getElem?_eq_getElem hjt]; rfl⟩, fun H' => Ex [dl] H2 H' ∧ H' dl = some (.lst (((ls.take i).flatMap lnM ++ ((Txt.split l " ").take (j + 1)).filter fun m : Str => !decide (m = "")).map V.str)), fun H' z => ⟨_, by omega, rfl, hjt, z.1, z.2⟩, ?_⟩
      rintro x H3 ⟨rfl, hx⟩
      have hk : (Txt.split l " ")[j]? = some (Txt.split l " ")[j] := List.getElem?_eq_getElem hjt
      have hx := hx _ pp1
      rw [List.getElem?_map, hk] at hx
      cases hx
      generalize (Txt.split l " ")[j] = k at hk
      have tk : (Txt.split l " ").take (j + 1) = (Txt.split l " ").take j ++ [k] := by rw [List.take_succ, hk]; rfl
      refine ⟨rfl, ?_⟩
      show Dq.wC Γ (.some (.cmp .NotEq (.var 3) (.str ""))) noW _ _ _
      unfold Dq.wC
      unfold Dq.wT
      refine e_var rfl ?_
      rw [Dq.wE]
      refine ne_s ⟨_, rfl, ?_⟩
      by_cases hk0 : k = ""
      · refine ifF (by simp [hk0]) ⟨x3, ?_⟩
        rw [tk, List.filter_append, List.filter_cons_of_neg (by simp [hk0]), List.filter_nil, List.append_nil]
        exact e4
      · refine ifT (by simp [hk0]) (e_var rfl ⟨_, e4, ?_, x3.trans (Ex.wr (by simp)), ?_⟩)
        · have := upto_le (j := j) hl
          rw [List.length_map]
          omega
        · rw [upd_same, tk, List.filter_append, List.filter_cons_of_pos (by simp [hk0]), List.filter_nil, ← List.append_assoc, List.map_append (l₂ := [k])]
          rfl
    · have ej : j = (Txt.split l " ").length := by omega
      subst ej
      refine .inl ⟨⟨_, pp1, by rw [List.length_map]; exact Nat.le_refl _⟩, x2.trans x3, ?_⟩
      rw [e4, List.take_succ, hl, List.take_length]
      show _ = some (HO.lst (((ls.take i ++ [l]).flatMap lnM).map V.str))
      rw [List.flatMap_append]
      show _ = some (HO.lst (((ls.take i).flatMap lnM ++ (lnM l ++ [])).map V.str))
      rw [List.append_nil]
      rfl
  · have ei : i = ls.length := by omega
    subst ei
    refine .inl ⟨⟨_, pl1 x1, by rw [List.length_map]; exact Nat.le_refl _⟩, ?_⟩
    have xx : Ex [dl] H H1 := (x0.nil.trans (Ex.new ndl)).trans x1
    have xH : Ex [] H H1 := xx.drop fun a ha => .inr (by rw [List.mem_singleton.mp ha]; exact x0.dom ndl)
    have em := xH.get hm (by simp)
    refine e_var rfl ⟨m, C, dx, [], rfl, em, hc, hn, by show 0 < 1000; omega, q dl _ (xH.nil.trans (Ex.wr (by simp))) (x0.dom ndl) upd_same ?_⟩
    have ndm : dl ≠ m := fun z => by rw [z] at ndl; rw [x0.get hm (by simp)] at ndl; cases ndl
    rw [upd_ne ndm, e1, List.take_length, marksOf_eq, hls]
end
end Hk64

set_option maxHeartbeats 1000000
namespace Hk64
open PySem PySem.Spec PyProof.Rows L2 Dq
section
variable {Γ : Gam} {P : Program} {w : World} {K : PySem.W.Frag} {mg : Str → Option Value} {base : Heap} {k : Nat} {f C : Addr} {fd : FuncData}
theorem sc_init : FnScope l_LineMarks_init.N ["self", "text"] (defScope s_LineMarks_init) := ⟨rfl, rfl, rfl, by decide +kernel, rfl, by decide +kernel, by decide +kernel⟩
theorem ok_init (F : FunD K "__init__" "LineMarks.__init__" (defArgs s_LineMarks_init) (defBody s_LineMarks_init) (defScope s_LineMarks_init) [] [] f fd) (g : ∀ A, Room k A → GOk Γ P w K mg base A) (eK : Γ.K = K) (h1 : Γ.fd C "marks") (h2 : Γ.fd C "at") :
    FnOk P w K mg base (L2.CX P w) (k + 1) f fd ["self", "text"] (spInit C) := by
  refine def_fs F sc_init g (fun vs H Q E h => ?_) fun X vs H Q E S _ _ _ eX _ _ h => ?_
  · obtain ⟨m, dx, t, rfl, _⟩ := h
    rfl
  obtain ⟨m, dx, t, rfl, ht, hm, q⟩ := h
  have e := bI_eq
  unfold bI at e
  rw [e]
  obtain ⟨cl, na⟩ := S.F.g.fd C "marks" h1
  have eG := S.F.g.eK
  refine ⟨_, pss_cons ((snds_all 60).s X _ c0_init S) (pss_cons (fld_l2 c1_init co_init S sw_attr) (pss_one ((snds_all 60).s X _ c2_init S))), ?_⟩
  show wS Γ i0_init _ _ _ _
  unfold i0_init
  refine wS_ifs ?_
  unfold Dq.wT Dq.wT
  refine e_isi (v := .str t) (a := "str") rfl (.str t) rfl ⟨_, rfl, ifF rfl (wSs_nil ?_)⟩
  rw [eG] at cl na
  dsimp only [tSeq]
  rw [eG]
  refine r_init (E := E) ht hm cl na fun L H' x nL em eL => ?_
  show wS Γ i2_init (dE E) (dD Q) _ _
  unfold i2_init
  unfold Dq.wS
  rw [Dq.wE]
  refine e_var rfl ⟨m, C, dx, _, rfl, em, h2, by show 1 < 1000; omega, ?_⟩
  have hLm : L ≠ m := fun z => by rw [z, em] at eL; cases eL
  refine q L _ (x.trans (Ex.wr (by simp))) nL ⟨upd_same, ?_⟩
  rw [upd_ne hLm]; exact eL
/-! ### BadMark.__init__ -/
def spBad (C : Addr) : Sp := fun vs H Q _ => ∃ a v H1, vs = [.ref a, v] ∧ H1 a = none ∧ H = upd H1 a (exo a C none) ∧ ∀ d, H1 d = none → d ≠ a → Q .non (upd (upd (upd H1 a (exo a C none)) d (exd d [("index", v)])) a (exo a C (some d)))
abbrev bB : List Stmt := defBody s_BadMark_init
theorem bB_eq : bB = [.Assign [.Attribute (aObj (stAt bB 0)) "index" (aP1 (stAt bB 0))] (aVal (stAt bB 0)) (aP2 (stAt bB 0))] := by kernel_rfl
theorem co_bad : Dq.cE l_BadMark_init 60 (defScope s_BadMark_init) (aObj (stAt bB 0)) = some (.var 0) := by kernel_rfl
theorem ce_bad : Dq.cE l_BadMark_init 60 (defScope s_BadMark_init) (aVal (stAt bB 0)) = some (.var 1) := by kernel_rfl
theorem sc_bad : FnScope l_BadMark_init.N ["self", "index"] (defScope s_BadMark_init) := ⟨rfl, rfl, rfl, by decide +kernel, rfl, by decide +kernel, by decide +kernel⟩
theorem ok_bad (F : FunD K "__init__" "BadMark.__init__" (defArgs s_BadMark_init) (defBody s_BadMark_init) (defScope s_BadMark_init) [] [] f fd) (g : ∀ A, Room k A → GOk Γ P w K mg base A) (T : OexC K C) (hno : PySem.W.findIn K (.ref C) "index" = some none) :
    FnOk P w K mg base (L2.CX P w) (k + 1) f fd ["self", "index"] (spBad C) := by
  refine def_fs F sc_bad g (fun vs H Q E h => ?_) fun X vs H Q E S _ _ _ eX _ _ h => ?_
  · obtain ⟨a, v, H1, rfl, _⟩ := h
    rfl
  obtain ⟨a, v, H1, rfl, na, rfl, q⟩ := h
  have e := bB_eq
  unfold bB at e
  rw [e]
  refine ⟨_, pss_one (ps_ost (S.eok co_bad) (S.eok ce_bad) sw_attr), ?_⟩
  show tOst X.K _ _ _ _ _ _
  rw [eX]
  unfold tOst
  refine e_var rfl (e_var rfl ⟨a, C, rfl, T, hno, .inl ⟨upd_same, fun dx nd ne => ?_⟩⟩)
  refine q dx ?_ ne
  rw [upd_ne ne] at nd
  exact nd
theorem kn_bad {cB : Addr} {j : Nat} (hm : mg "BadMark" = some (.ref cB)) (T : OexC K cB) (hI : PySem.W.findIn K (.ref cB) "__init__" = some (some (.ref f))) (ht : PySem.W.typeIn K (.ref f) = some (.type "function")) (hF : FnOk P w K mg base (L2.CX P w) j f fd ["self", "index"] (spBad cB)) (hb : Binds K fd ["self", "index"] []) : KnR P w K mg base j "BadMark" cB "index" :=
  ⟨hm, T, f, fd, _, _, hI, ht, hF, hb, fun a v H1 Q E na q => ⟨a, v, H1, rfl, na, rfl, q⟩⟩
end
/-! ### the stream -/
variable {Γ : Gam} {W : WX} {D : Ends} {σ : L2.St} {H : Hp}
def spStream : Sp := fun vs H Q _ => ∃ a, ∃ ns : List Int, vs = [.ref a] ∧ SqL Γ.K H a (ns.map V.int) ∧ ns.length ≤ 63 ∧ ∀ s L H', Ex [] H H' → H s = none → H L = none → Stm H' s L 0 → Q (.ref s) H'
theorem w_stream (vs : List V) (H : Hp) (Q : VK) (E : XK) (h : spStream (Γ := Γ) vs H Q E) : wSs Γ i__law_stream (dE E) (dD Q) (start l__law_stream.N vs) H := by
  obtain ⟨a, ns, rfl, hq, hl, q⟩ := h
  have hb := sizeBig
  unfold i__law_stream
  refine seq1 (wS_ret (e_lst (es_cons (e_bf (es_cons (e_var rfl (es_nil (list_l hq fun L nL => ?_))))))))
  have x1 : Ex [] H (upd H L (.lst (ns.map V.int))) := Ex.new nL
  have e1 : upd H L (HO.lst (ns.map V.int)) L = some (.lst (ns.map V.int)) := upd_same
  generalize upd H L (HO.lst (ns.map V.int)) = H1 at x1 e1
  simp only [Dq.wEs, Dq.wE]
  refine ⟨by show 4 ≤ sizeLine; omega, fun s nS => ?_⟩
  have ne : L ≠ s := ne_of_none e1 nS
  exact q s L _ (x1.trans (Ex.new nS)) (x1.dom nS) nL ⟨ns, 0, 0, 17, upd_same, by rw [upd_ne ne]; exact e1, by omega, by omega, by omega, by omega, by omega⟩
end Hk64

set_option maxHeartbeats 1000000
namespace Hk64
open PySem PySem.Spec PyProof.Rows L2 Dq
section
variable {Γ : Gam} {W : WX} {σ : L2.St}
/-! ### written codes -/
/-- a closed expression that gives such a thing, all else kept -/
def Wr (Γ : Gam) (W : WX) (σ : L2.St) (e : Dq.CE) (P : VP) : Prop := ∀ (H : Hp) (N : VK), (∀ v H', Ex [] H H' → P H' v → N v H') → Dq.wE Γ e true W σ H N
def Wrs (Γ : Gam) (W : WX) (σ : L2.St) (es : Dq.CEs) (P : Hp → List V → Prop) : Prop := ∀ (H : Hp) (N : List V → Hp → Prop), (∀ vs H', Ex [] H H' → P H' vs → N vs H') → Dq.wEs Γ es true W σ H N
def StE (P : VP) : Prop := ∀ H H' v, Ex [] H H' → P H v → P H' v
def IsL (P : VP) (n : Nat) : VP := fun H v => ∃ a xs, v = .ref a ∧ H a = some (.lst xs) ∧ xs.length = n ∧ ∀ x ∈ xs, P H x
def IsF (p : V → Bool) : VP := fun _ v => p v = true
theorem st_f {p : V → Bool} : StE (IsF p) := fun _ _ _ _ h => h
theorem st_row : StE IsRowW := fun H H' v x ⟨t, r, e, h, o⟩ => ⟨t, r, e, x.get h (by simp), o⟩
theorem st_place : StE IsPlace := fun H H' v x ⟨t, a, b, e, h, o⟩ => ⟨t, a, b, e, x.get h (by simp), o⟩
theorem st_l {P : VP} {n : Nat} (h : StE P) : StE (IsL P n) := fun H H' v x ⟨a, xs, e, ha, l, o⟩ => ⟨a, xs, e, x.get ha (by simp), l, fun y hy => h _ _ _ x (o y hy)⟩
theorem wr_str {x : Str} {p : V → Bool} (h : p (.str x) = true) : Wr Γ W σ (.str x) (IsF p) := fun H N q => by
  rw [Dq.wE]; exact q _ H Ex.refl h
theorem wr_int {i : Int} {p : V → Bool} (h : p (.int i) = true) : Wr Γ W σ (.int i) (IsF p) := fun H N q => by
  rw [Dq.wE]; exact q _ H Ex.refl h
theorem wr_neg {i : Int} {p : V → Bool} (h : p (.int (-i)) = true) : Wr Γ W σ (.neg (.int i)) (IsF p) := fun H N q => by
  rw [Dq.wE, Dq.wE]; exact ⟨i, rfl, q _ H Ex.refl h⟩
theorem wrs_nil : Wrs Γ W σ .nil (fun _ vs => vs = []) := fun H N q => es_nil (q [] H Ex.refl rfl)
theorem wrs_cons {e : Dq.CE} {es : Dq.CEs} {P : VP} {R : Hp → List V → Prop} (h : Wr Γ W σ e P) (st : StE P) (hs : Wrs Γ W σ es R) : Wrs Γ W σ (.cons e es) (fun H vs => ∃ v r, vs = v :: r ∧ P H v ∧ R H r) := fun H N q =>
  es_cons (h H _ fun v H1 x1 p => hs H1 _ fun r H2 x2 pr => q _ H2 (x1.trans x2) ⟨v, r, rfl, st _ _ _ x2 p, pr⟩)
theorem wr_lst {es : Dq.CEs} {R : Hp → List V → Prop} {P : VP} {n : Nat} (h : Wrs Γ W σ es R) (st : StE P) (hn : n ≤ 1000) (k : ∀ H vs, R H vs → vs.length = n ∧ ∀ x ∈ vs, P H x) : Wr Γ W σ (.lst es) (IsL P n) := fun H N q => by
  have hb := sizeBig
  refine e_lst (h H _ fun vs H1 x1 r => ?_)
  obtain ⟨k1, k2⟩ := k _ _ r
  exact ⟨by omega, fun p np => q _ _ (x1.trans (Ex.new np)) ⟨p, vs, rfl, upd_same, k1, fun y hy => st _ _ _ (Ex.new np) (k2 y hy)⟩⟩
theorem wr_row {es : Dq.CEs} {R : Hp → List V → Prop} (h : Wrs Γ W σ es R) (k : ∀ H vs, R H vs → rowW vs = true) : Wr Γ W σ (.tup es) IsRowW := fun H N q => by
  have hb := sizeBig
  refine e_tup (h H _ fun vs H1 x1 r => ?_)
  have k1 := k _ _ r
  have := (gdW_rowW k1).2
  exact ⟨by omega, fun p np => q _ _ (x1.trans (Ex.new np)) ⟨p, vs, rfl, upd_same, k1⟩⟩
theorem wr_place {a b : Int} (h : 0 ≤ a ∧ a ≤ 100000 ∧ 0 ≤ b ∧ b ≤ 100000) : Wr Γ W σ (.tup (.cons (.int a) (.cons (.int b) .nil))) IsPlace := fun H N q => by
  have hb := sizeBig
  simp only [Dq.wE, Dq.wEs]
  exact ⟨by show 2 ≤ sizeLine; omega, fun p np => q _ _ (Ex.new np) ⟨p, a, b, rfl, upd_same, h⟩⟩
theorem wr_mul {e : Dq.CE} {P : VP} {n k : Nat} (h : Wr Γ W σ e (IsL P n)) (st : StE P) (hk : n * k ≤ 1000) (hk2 : k ≤ 1000) : Wr Γ W σ (.bin .Mult e (.int k)) (IsL P (k * n)) := fun H N q => by
  have hb := sizeBig
  rw [Dq.wE]
  refine h H _ fun v H1 x1 ⟨a, xs, e, ha, l, o⟩ => ?_
  subst e
  rw [Dq.wE]
  refine .inr (.inl ⟨a, k, xs, rfl, rfl, ha, by omega, by omega, by rw [l, Int.toNat_natCast]; omega, fun p np => q _ _ (x1.trans (Ex.new np)) ⟨p, _, rfl, upd_same, ?_, fun y hy => ?_⟩⟩)
  · rw [Int.toNat_natCast, List.length_flatten, List.map_replicate, List.sum_replicate_nat, l]
  · obtain ⟨l', hl', hy'⟩ := List.mem_flatten.mp hy
    rw [(List.mem_replicate.mp hl').2] at hy'
    exact st _ _ _ (Ex.new np) (o y hy')
theorem strs_of {xs : List V} (h : ∀ x ∈ xs, gdS x = true) : ∃ ns : List Str, xs = ns.map V.str ∧ ∀ n ∈ ns, gd n = true := by
  induction xs with
  | nil => exact ⟨[], rfl, fun n hn => by cases hn⟩
  | cons x r ih =>
    obtain ⟨ns, rfl, hn⟩ := ih fun y hy => h y (List.mem_cons_of_mem _ hy)
    have hx := h x List.mem_cons_self
    cases x with
    | str z =>
      refine ⟨z :: ns, rfl, fun n hm => ?_⟩
      rcases List.mem_cons.mp hm with rfl | hm
      · exact hx
      · exact hn n hm
    | _ => cases hx
theorem wr_code {en er ep : Dq.CE} {pr : Int} {n m : Nat} (h0 : 0 ≤ pr ∧ pr ≤ 100) (hn : Wr Γ W σ en (IsL (IsF gdS) n)) (n10 : n ≤ 10) (hr : Wr Γ W σ er (IsL IsRowW m)) (m10 : m ≤ 1000) (hp : Wr Γ W σ ep (IsL IsPlace m)) : Wr Γ W σ (.tup (.cons (.int pr) (.cons en (.cons er (.cons ep .nil))))) IsCode := fun H N q => by
  have hb := sizeBig
  refine e_tup (es_cons ?_)
  rw [Dq.wE]
  refine es_cons (hn H _ fun v1 H1 x1 ⟨a, xs, e, ha, l, o⟩ => es_cons (hr H1 _ fun v2 H2 x2 ⟨b, ys, e2, hb2, l2, o2⟩ => es_cons (hp H2 _ fun v3 H3 x3 ⟨c, zs, e3, hc, l3, o3⟩ => es_nil ⟨by show 4 ≤ sizeLine; omega, fun p np => ?_⟩)))
  subst e e2 e3
  obtain ⟨ns, rfl, hns⟩ := strs_of o
  have xp : Ex [] H3 (upd H3 p (.tup [.int pr, .ref a, .ref b, .ref c])) := Ex.new np
  refine q _ _ (((x1.trans x2).trans x3).trans xp) ⟨p, pr, a, b, c, ns, ys, zs, rfl, upd_same, h0.1, h0.2, ((x2.trans x3).trans xp).get ha (by simp), by rw [List.length_map] at l; omega, hns, (x3.trans xp).get hb2 (by simp), by omega, fun r h => st_row _ _ _ (x3.trans xp) (o2 r h), xp.get hc (by simp), by omega, fun r h => st_place _ _ _ xp (o3 r h)⟩
/-- {k1: code, k2: code} -/
theorem wr_codes {k1 k2 : Str} {e1 e2 : Dq.CE} (g1 : gd k1 = true) (g2 : gd k2 = true) (hk : k1 ≠ k2) (h1 : Wr Γ W σ e1 IsCode) (h2 : Wr Γ W σ e2 IsCode) : Wr Γ W σ (.dict (.cons (.str k1) e1 (.cons (.str k2) e2 .nil))) (fun H v => ∃ p, v = .ref p ∧ CodesAt H p 2) := fun H N q => by
  rw [Dq.wE]
  show ∀ p, H p = none → _
  intro p np
  simp only [Dq.wP, tPairs]
  rw [Dq.wE]
  refine h1 _ _ fun v1 H1 x1 c1 => ?_
  rw [Dq.wE]
  refine h2 _ _ fun v2 H2 x2 c2 => ⟨x2.get (x1.get upd_same (by simp)) (by simp), [(.inr k1, v1), (.inr k2, v2)], rfl, by show 2 ≤ 15; omega, ?_⟩
  have e : mergeK [] [((.inr k1 : Key), v1), ((.inr k2 : Key), v2)] = [((.inr k1 : Key), v1), ((.inr k2 : Key), v2)] := by
    show putK [((.inr k1 : Key), v1)] (.inr k2 : Key) v2 = _
    unfold putK
    rw [if_neg]
    · rfl
    · simp
      exact hk
  rw [e]
  have kp : H2 p = some (.dK []) := x2.get (x1.get upd_same (by simp)) (by simp)
  have xw : Ex [p] H2 (upd H2 p (.dK [(.inr k1, v1), (.inr k2, v2)])) := Ex.wr (by simp)
  have bad : ∀ a ∈ [p], ∀ o, H2 a = some o → (∀ xs, o ≠ .lst xs) ∧ ∀ xs, o ≠ .tup xs := by
    intro a ha o ho
    rw [List.mem_singleton.mp ha, kp] at ho
    cases ho
    exact ⟨fun xs z => (by cases z), fun xs z => (by cases z)⟩
  have x02 : Ex [p] H (upd H2 p (.dK [(.inr k1, v1), (.inr k2, v2)])) := (((Ex.new np).trans x1).trans x2).nil.trans xw
  refine q _ _ (x02.drop fun a ha => .inr (by rw [List.mem_singleton.mp ha]; exact np)) ⟨p, rfl, _, upd_same, by show 2 ≤ 2; omega, fun r hr => ?_⟩
  simp only [List.mem_cons, List.not_mem_nil, or_false] at hr
  rcases hr with rfl | rfl
  · exact ⟨⟨k1, rfl, g1⟩, (c1.ex x2 (fun _ z => by cases z)).ex xw bad⟩
  · exact ⟨⟨k2, rfl, g2⟩, c2.ex xw bad⟩
theorem wr_three : Wr Γ W σ (.dict (.cons (.str "f") (.tup (.cons (.int 1) (.cons (.lst (.cons (.str "n") .nil)) (.cons (.lst (.cons (.tup (.cons (.str "load") (.cons (.int 0) .nil))) (.cons (.tup (.cons (.str "two") (.cons (.str "rem") .nil))) (.cons (.tup (.cons (.str "call") (.cons (.str "gg") (.cons (.int 2) .nil)))) (.cons (.tup (.cons (.str "give") .nil)) .nil))))) (.cons (.bin .Mult (.lst (.cons (.tup (.cons (.int 1) (.cons (.int 1) .nil))) .nil)) (.int 4)) .nil))))) (.cons (.str "gg") (.tup (.cons (.int 0) (.cons (.lst .nil) (.cons (.lst (.cons (.tup (.cons (.str "push") (.cons (.neg (.int 5)) .nil))) .nil)) (.cons (.lst (.cons (.tup (.cons (.int 9) (.cons (.int 9) .nil))) .nil)) .nil))))) .nil)))
    (fun H v => ∃ p, v = .ref p ∧ CodesAt H p 2) := by
  have row1 : ∀ {w : Str}, gd w = true → Wr Γ W σ (.tup (.cons (.str w) .nil)) IsRowW := fun {w} g => wr_row (wrs_cons (wr_str (p := fun v => decide (v = .str w)) (decide_eq_true rfl)) st_f wrs_nil) fun H vs ⟨v, r, e, p, e2⟩ => by
    have p : decide (v = .str w) = true := p
    subst e e2
    rw [of_decide_eq_true p]
    show (gd w && ([].all gdW && decide (0 ≤ 2))) = true
    rw [g]; rfl
  have row2 : ∀ {w : Str} {e : Dq.CE}, gd w = true → Wr Γ W σ e (IsF gdW) → Wr Γ W σ (.tup (.cons (.str w) (.cons e .nil))) IsRowW := fun {w e} g he => wr_row (wrs_cons (wr_str (p := fun v => decide (v = .str w)) (decide_eq_true rfl)) st_f (wrs_cons he st_f wrs_nil)) fun H vs ⟨v, r, e, p, u, r', e2, p2, e3⟩ => by
    have p : decide (v = .str w) = true := p
    subst e e2 e3
    rw [of_decide_eq_true p]
    show (gd w && ((gdW u && true) && decide (1 ≤ 2))) = true
    rw [g, show gdW u = true from p2]; rfl
  have row3 : ∀ {w : Str} {e e' : Dq.CE}, gd w = true → Wr Γ W σ e (IsF gdW) → Wr Γ W σ e' (IsF gdW) → Wr Γ W σ (.tup (.cons (.str w) (.cons e (.cons e' .nil)))) IsRowW := fun {w e e'} g he he' => wr_row (wrs_cons (wr_str (p := fun v => decide (v = .str w)) (decide_eq_true rfl)) st_f (wrs_cons he st_f (wrs_cons he' st_f wrs_nil))) fun H vs ⟨v, r, e, p, u, r', e2, p2, u', r'', e3, p3, e4⟩ => by
    have p : decide (v = .str w) = true := p
    subst e e2 e3 e4
    rw [of_decide_eq_true p]
    show (gd w && ((gdW u && (gdW u' && true)) && decide (2 ≤ 2))) = true
    rw [g, show gdW u = true from p2, show gdW u' = true from p3]; rfl
  have one : ∀ {e : Dq.CE} {P : VP}, Wr Γ W σ e P → StE P → Wr Γ W σ (.lst (.cons e .nil)) (IsL P 1) := fun {e P} h st => wr_lst (wrs_cons h st wrs_nil) st (by omega) fun H vs ⟨v, r, e1, p, e2⟩ => by
    subst e1 e2
    exact ⟨rfl, fun x hx => by rw [List.mem_singleton.mp hx]; exact p⟩
  have none' : ∀ {P : VP}, StE P → Wr Γ W σ (.lst .nil) (IsL P 0) := fun {P} st => wr_lst wrs_nil st (by omega) fun H vs e => by
    subst e
    exact ⟨rfl, fun x hx => by cases hx⟩
  have G : ∀ {x : Str}, gd x = true → Wr Γ W σ (.str x) (IsF gdW) := fun h => wr_str h
  have four : Wr Γ W σ (.lst (.cons (.tup (.cons (.str "load") (.cons (.int 0) .nil))) (.cons (.tup (.cons (.str "two") (.cons (.str "rem") .nil))) (.cons (.tup (.cons (.str "call") (.cons (.str "gg") (.cons (.int 2) .nil)))) (.cons (.tup (.cons (.str "give") .nil)) .nil))))) (IsL IsRowW 4) :=
    wr_lst (wrs_cons (row2 (by decide +kernel) (wr_int (by decide))) st_row (wrs_cons (row2 (by decide +kernel) (G (by decide +kernel))) st_row (wrs_cons (row3 (by decide +kernel) (G (by decide +kernel)) (wr_int (by decide))) st_row (wrs_cons (row1 (by decide +kernel)) st_row wrs_nil)))) st_row (by omega) fun H vs ⟨v1, r1, e1, p1, v2, r2, e2, p2, v3, r3, e3, p3, v4, r4, e4, p4, e5⟩ => by
      subst e1 e2 e3 e4 e5
      refine ⟨rfl, fun x hx => ?_⟩
      simp only [List.mem_cons, List.not_mem_nil, or_false] at hx
      rcases hx with rfl | rfl | rfl | rfl <;> assumption
  refine wr_codes (by decide +kernel) (by decide +kernel) (by decide +kernel) (wr_code (n := 1) (m := 4) (by omega) (one (wr_str (by decide +kernel)) st_f) (by omega) four (by omega) ?_) (wr_code (n := 0) (m := 1) (by omega) (none' st_f) (by omega) (one (row2 (by decide +kernel) (wr_neg (by decide))) st_row) (by omega) (one (wr_place (by omega)) st_place))
  exact wr_mul (n := 1) (k := 4) (one (wr_place (by omega)) st_place) st_place (by omega) (by omega)
end
end Hk64

set_option maxHeartbeats 1000000
namespace Hk64
open PySem PySem.Spec PyProof.Rows L2 Dq LamX
section
variable {Γ : Gam} {σ : L2.St} {H H' : Hp}
/-! ### what stays while tables grow -/
theorem ExtN.lst {a : Addr} {xs : List V} (h : ExtN H H') (e : H a = some (.lst xs)) : H' a = some (.lst xs) := h a _ e fun ps z => by cases z
theorem ExtN.tup {a : Addr} {xs : List V} (h : ExtN H H') (e : H a = some (.tup xs)) : H' a = some (.tup xs) := h a _ e fun ps z => by cases z
theorem ExtN.dK {a : Addr} {xs : List (Key × V)} (h : ExtN H H') (e : H a = some (.dK xs)) : H' a = some (.dK xs) := h a _ e fun ps z => by cases z
theorem ExtN.ex (h : Ex [] H H') : ExtN H H' := fun a o e _ => h.get e (by simp)
/-- data, laid anywhere -/
abbrev RepA (H : Hp) (d : DD) (v : V) : Prop := Rep (fun _ => none) H d v
mutual
theorem rep_n {H0 H H' : Hp} (k : ExtN H H') : ∀ {d : DD} {v : V}, Rep H0 H d v → Rep H0 H' d v
  | .at x, v, h => by unfold Rep at h ⊢; exact h
  | .lst ds, v, h => by unfold Rep at h ⊢; obtain ⟨a, xs, e, n, q, r⟩ := h; exact ⟨a, xs, e, n, ExtN.lst k q, repL_n k r⟩
  | .tup ds, v, h => by unfold Rep at h ⊢; obtain ⟨a, xs, e, n, q, r⟩ := h; exact ⟨a, xs, e, n, ExtN.tup k q, repL_n k r⟩
  | .dic ks, v, h => by unfold Rep at h ⊢; obtain ⟨a, xs, e, n, q, r⟩ := h; exact ⟨a, xs, e, n, ExtN.dK k q, repD_n k r⟩
theorem repL_n {H0 H H' : Hp} (k : ExtN H H') : ∀ {ds : List DD} {vs : List V}, RepL H0 H ds vs → RepL H0 H' ds vs
  | [], vs, h => by unfold RepL at h ⊢; exact h
  | d :: ds, vs, h => by unfold RepL at h ⊢; obtain ⟨x, r, e, h1, h2⟩ := h; exact ⟨x, r, e, rep_n k h1, repL_n k h2⟩
theorem repD_n {H0 H H' : Hp} (k : ExtN H H') : ∀ {ds : List (Str × DD)} {vs : List (Key × V)}, RepD H0 H ds vs → RepD H0 H' ds vs
  | [], vs, h => by unfold RepD at h ⊢; exact h
  | (q, d) :: ds, vs, h => by unfold RepD at h ⊢; obtain ⟨x, r, e, h1, h2⟩ := h; exact ⟨x, r, e, rep_n k h1, repD_n k h2⟩
end
theorem Stm.n {s L : Addr} {c : Int} (h : Stm H s L c) (k : ExtN H H') : Stm H' s L c := by
  obtain ⟨ns, cell, d, t, h1, h2, h3⟩ := h
  exact ⟨ns, cell, d, t, ExtN.lst k h1, ExtN.lst k h2, h3⟩
theorem mk_n {s L : Addr} {n m : Nat} {v : V} (h : IsLst s L (IsV gdS) n m H v) (k : ExtN H H') : IsLst s L (IsV gdS) n m H' v := by
  obtain ⟨a, xs, e, n, q, l1, l2, o⟩ := h
  exact ⟨a, xs, e, n, ExtN.lst k q, l1, l2, o⟩
theorem Tabs.x {T : List (Addr × Str)} (t : Tabs T H) (x : Ex [] H H') : Tabs T H' := t.ext fun b o e => x.get e (by simp)
/-- draws leave the tables -/
theorem Tabs.draw {T : List (Addr × Str)} {s L : Addr} {c : Int} (t : Tabs T H) (st : Stm H s L c) (x : Ex [s, L] H H') : Tabs T H' := by
  obtain ⟨ns, cell, d, tt, h1, h2, _⟩ := st
  have nb : ∀ {b : Addr} {o : HO}, H b = some o → (∀ xs, o ≠ .lst xs) → b ∉ [s, L] := fun {b o} e k z => by
    simp only [List.mem_cons, List.not_mem_nil, or_false] at z
    rcases z with rfl | rfl
    · rw [h1] at e; exact k _ (Option.some.inj e).symm
    · rw [h2] at e; exact k _ (Option.some.inj e).symm
  intro p hp
  obtain ⟨ps, e1, e2, e3⟩ := t p hp
  refine ⟨ps, x.get e1 (nb e1 fun xs z => by cases z), e2, fun pos cv hc => ?_⟩
  obtain ⟨c', ec, hco⟩ := e3 pos cv hc
  exact ⟨c', ec, x.get hco (nb hco fun xs z => by unfold CodeO at z; cases z)⟩
/-! ### what a met call tells -/
theorem rep_res {H0 : Hp} {b : Str} {d : DD} {v : V} {p : Addr} (r : RepA H d v) (np : H p = none) : RepA (upd H p (.tup [.str b, v])) (.tup [.at (.str b), d]) (.ref p) := by
  show Rep _ _ _ _
  unfold Rep
  exact ⟨p, _, rfl, rfl, upd_same, RepL.cons (.flat rfl) (RepL.cons (r.ex (bad := []) (Ex.new np) (by simp)) RepL.nil)⟩
variable {T : List (Addr × Str)} {CS : Addr} {kwk : Str → Str → Sp → Prop} {t : Str} {Q : VK}
/-- read_codes at a text -/
theorem read_met {W : XK} (ht : TextOk t) (hW : W = fun cls d H' => cls = .ref CS ∧ ∃ (dd : Addr) (v : V), d = some dd ∧ H' dd = some (.xd [("index", v)]) ∧ ∀ p, H' p = none → Q (.ref p) (upd H' p (.tup [.str "mark", v])))
    (q : ∀ v H', Ex [] H H' → RepA H' (dueD (marksOf t)) v → Q v H') : spRead CS [.str t] H (fun v H' => [V.str "told", v].length ≤ sizeLine ∧ ∀ p, H' p = none → Q (.ref p) (upd H' p (.tup [.str "told", v]))) W := by
  have hb := sizeBig
  refine ⟨t, rfl, ht, fun ks e v H' x r => ⟨by show 2 ≤ sizeLine; omega, fun p np => q _ _ (x.trans (Ex.new np)) ?_⟩, fun i e d H' x nd ed => ?_⟩
  · unfold dueD
    rw [e]
    exact rep_res (H0 := H) (r.base fun _ _ => rfl) np
  · rw [hW]
    refine ⟨rfl, d, _, rfl, ed, fun p np => q _ _ (x.trans (Ex.new np)) ?_⟩
    unfold dueD
    rw [e]
    exact rep_res (H0 := H) (.flat rfl) np
/-- the lambdas of the law -/
def lamE (e : Dq.CE) : LB := .e (.call "read_codes" (.cons e .nil))
theorem lam_pos {e : Dq.CE} (hR : Γ.fn "read_codes" (spRead CS)) (ht : TextOk t) (hT : Tabs T H) (he : ∀ (W : WX) (H' : Hp) (N : VK), N (.str t) H' → Dq.wE Γ e false W σ H' N)
    (q : ∀ v H', ExtN H H' → Tabs T H' → RepA H' (dueD (marksOf t)) v → Q v H') : tLam T (TTm CS "index" "told" "mark") (wLB Γ kwk (lamE e)) σ H Q := by
  refine ⟨hT, fun H1 x1 t1 => ?_⟩
  unfold TTm lamE wLB
  refine e_call hR (es_cons (he _ _ _ (es_nil (read_met ht ?_ fun v H' x r => q v H' (x1.trans (ExtN.ex x)) (Tabs.x t1 x) r))))
  rfl
theorem lam_kw {e : Dq.CE} (hR : kwk "read_codes" "text" (spRead CS)) (ht : TextOk t) (hT : Tabs T H) (he : ∀ (W : WX) (H' : Hp) (N : VK), N (.str t) H' → Dq.wE Γ e false W σ H' N)
    (q : ∀ v H', ExtN H H' → Tabs T H' → RepA H' (dueD (marksOf t)) v → Q v H') : tLam T (TTm CS "index" "told" "mark") (wLB Γ kwk (.kw "read_codes" "text" e)) σ H Q := by
  refine ⟨hT, fun H1 x1 t1 => ?_⟩
  unfold TTm wLB
  exact ⟨_, hR, he _ _ _ (read_met ht rfl fun v H' x r => q v H' (x1.trans (ExtN.ex x)) (Tabs.x t1 x) r)⟩
end
end Hk64

set_option maxHeartbeats 1000000
namespace Hk64
open PySem PySem.Spec PyProof.Rows L2 Dq LamX
/-! ### the law's inner turn -/
def xi_0 : Dq.CS := .set 7 (.ifx (.cmp .Gt (.var 6) (.int 0)) (.call "_law_x_changed" (.cons (.var 1) (.cons (.var 5) (.cons (.var 2) .nil)))) (.var 5))
def xi_1 : Dq.CS := .unp (.tup (.cons (.nm 8) (.cons (.nm 9) .nil))) (.tup (.cons (.bm .join (.call "_law_pick" (.cons (.var 1) (.cons (.lst (.cons (.str " ") (.cons (.str "\n") (.cons (.str "  ") .nil)))) .nil))) (.cons (.var 7) .nil)) (.cons (.call "_law_due" (.cons (.var 7) .nil)) .nil)))
def xi_2 : Dq.XS := .lams 4 [lamE (.var 8), .kw "read_codes" "text" (.var 8)]
def xi_3 : Dq.CS := .ifs (.nt (.tr (.call "_law_same" (.cons (.var 4) (.cons (.lst (.cons (.var 9) (.cons (.var 9) .nil))) .nil))))) (.cons (.ret (.bl false)) .nil) .nil
def xi_4 : Dq.CS := .set 5 (.ifx (.cmp .Eq (.call "_law_draw" (.cons (.var 1) (.cons (.int 3) .nil))) (.int 0)) (.var 7) (.var 5))
def xl_in : Dq.XSs := .cons (.d xi_0) (.cons (.d xi_1) (.cons xi_2 (.cons (.d xi_3) (.cons (.d xi_4) .nil))))
structure LawFns (Γ : Gam) (CS : Addr) (kwk : Str → Str → Sp → Prop) : Prop where
  stream : Γ.fn "_law_stream" (spStream (Γ := Γ))
  draw : Γ.fn "_law_draw" spDraw
  pick : Γ.fn "_law_pick" spPick
  codes : Γ.fn "_law_w_codes" spCodes
  marks : Γ.fn "_law_x_code_marks" spMarks
  changed : Γ.fn "_law_x_changed" spChanged
  due : Γ.fn "_law_due" spDue
  same : Γ.fn "_law_same" (spSame 8)
  read : Γ.fn "read_codes" (spRead CS)
  kw : kwk "read_codes" "text" (spRead CS)
section
variable {Γ : Gam} {kwk : Str → Str → Sp → Prop} {T : List (Addr × Str)} {TT : (XK → Hp → VK → Prop) → Hp → VK → Prop} {W : WX} {D : Ends} {σ : L2.St} {H : Hp} {CS s L : Addr}
theorem xseqP {x : XS} {xs : XSs} (P : L2.St → Hp → Prop) (h1 : ∀ N : L2.St → Hp → Prop, (∀ σ' H', P σ' H' → N σ' H') → wX Γ kwk T TT x W { D with nx := N } σ H) (h2 : ∀ σ' H', P σ' H' → wXs Γ kwk T TT xs W D σ' H') : wXs Γ kwk T TT (.cons x xs) W D σ H := by
  unfold wXs
  exact h1 _ h2
theorem xseq1 {x : XS} {xs : XSs} (h : wX Γ kwk T TT x W { D with nx := wXs Γ kwk T TT xs W D } σ H) : wXs Γ kwk T TT (.cons x xs) W D σ H := by
  unfold wXs
  exact h
theorem xd {c : Dq.CS} (h : wS Γ c W D σ H) : wX Γ kwk T TT (.d c) W D σ H := by
  unfold wX; exact h
theorem xnil (h : D.nx σ H) : wXs Γ kwk T TT .nil W D σ H := by
  unfold wXs; exact h
theorem mk_strs {n : Nat} {v : V} (h : IsMk s L n H v) : ∃ a, ∃ ms : List Str, v = .ref a ∧ H a = some (.lst (ms.map V.str)) ∧ ms.length ≤ n ∧ ∀ m ∈ ms, gd m = true := by
  obtain ⟨a, xs, e, _, q, _, l2, o⟩ := h
  obtain ⟨ms, rfl, hm⟩ := strs_of fun x hx => (o x hx).1
  exact ⟨a, ms, e, q, by rw [List.length_map] at l2; exact l2, hm⟩
theorem in_turn (F : LawFns Γ CS kwk) {c k : Int} {n : Nat} {a0 b3 b4 b7 b8 b9 : Option V} {so mk : V} (st : Stm H s L c) (hc : c + 10 ≤ 1099511627776) (hn : n ≤ 80000) (hm : IsMk s L n H mk) (hso : IsLst s L (IsV gdS) 1 100 H so) (hT : Tabs T H)
    (hN : ∀ c4 mk' c7 c8 c9 H', Stm H' s L (c + 10) → IsMk s L (n + 3) H' mk' → IsLst s L (IsV gdS) 1 100 H' so → Tabs T H' → D.nx [a0, some (.ref s), some so, b3, c4, some mk', some (.int k), c7, c8, c9] H') :
    wXs Γ kwk T (TTm CS "index" "told" "mark") xl_in W D [a0, some (.ref s), some so, b3, b4, some mk, some (.int k), b7, b8, b9] H := by
  have hb := sizeBig
  unfold xl_in
  refine xseqP (P := fun σ' H' => ∃ ch, σ' = [a0, some (.ref s), some so, b3, b4, some mk, some (.int k), some ch, b8, b9] ∧ Stm H' s L (c + 4) ∧ IsMk s L n H' mk ∧ IsMk s L (n + 3) H' ch ∧ IsLst s L (IsV gdS) 1 100 H' so ∧ Tabs T H') (fun N hN' => xd ?_) fun σ1 H1 p => ?_
  · unfold xi_0
    unfold Dq.wS
    rw [Dq.wE, Dq.wT]
    refine e_var rfl ?_
    rw [Dq.wE]
    refine gt_i ⟨_, rfl, ?_⟩
    by_cases hk : (0 : Int) < k
    · refine ifT (decide_eq_true hk) (e_call F.changed (es_cons (e_var rfl (es_cons (e_var rfl (es_cons (e_var rfl (es_nil ⟨s, L, c, n, mk, so, rfl, st, by omega, by omega, hm, hso, fun v H' x st' hv => hN' _ _ ⟨v, rfl, st', stab_lst stab_v _ _ _ _ st x hm, hv, stab_lst stab_v _ _ _ _ st x hso, Tabs.draw hT st x⟩⟩))))))))
    · exact ifF (decide_eq_false hk) (e_var rfl (hN' _ _ ⟨mk, rfl, st.le (by omega), hm, hm.le (Nat.le_refl _) (by omega), hso, hT⟩))
  obtain ⟨ch, rfl, st1, hm1, hch1, hso1, hT1⟩ := p
  obtain ⟨am, ms, rfl, ham, lms, gms⟩ := mk_strs hch1
  have mks := gd_mks gms (by omega)
  refine xseqP (P := fun σ' H' => ∃ z du, σ' = [a0, some (.ref s), some so, b3, b4, some mk, some (.int k), some (.ref am), some (.str (Txt.join z ms)), some du] ∧ SepOk z ∧ Stm H' s L (c + 5) ∧ IsMk s L n H' mk ∧ IsMk s L (n + 3) H' (.ref am) ∧ IsLst s L (IsV gdS) 1 100 H' so ∧ Tabs T H' ∧ RepA H' (dueD ms) du) (fun N hN' => xd ?_) fun σ2 H2 p => ?_
  · unfold xi_1
    unfold Dq.wS
    refine e_tup (es_cons ?_)
    rw [Dq.wE]
    refine e_call F.pick (es_cons (e_var rfl (es_cons (e_lst ?_))))
    simp only [Dq.wEs, Dq.wE]
    refine ⟨by show 3 ≤ sizeLine; omega, fun p np => ?_⟩
    have xn : Ex [] H1 (upd H1 p (.lst [.str " ", .str "\n", .str "  "])) := Ex.new np
    have en : upd H1 p (HO.lst [.str " ", .str "\n", .str "  "]) p = some (.lst [.str " ", .str "\n", .str "  "]) := upd_same
    generalize upd H1 p (HO.lst [.str " ", .str "\n", .str "  "]) = Ha at xn en
    have sta := st1.ex xn
    have pn : p ≠ s ∧ p ≠ L := (Cur.mk Ex.refl st1).new np
    refine ⟨s, L, c + 4, p, _, rfl, sta, by omega, en, pn.1, pn.2, by show 1 ≤ 3; omega, by show 3 ≤ 1000; omega, fun x Hb hx xb stb => ?_⟩
    have sep : ∃ z, x = .str z ∧ SepOk z := by
      simp only [List.mem_cons, List.not_mem_nil, or_false] at hx
      rcases hx with rfl | rfl | rfl
      · exact ⟨_, rfl, .inl rfl⟩
      · exact ⟨_, rfl, .inr (.inl rfl)⟩
      · exact ⟨_, rfl, .inr (.inr rfl)⟩
    obtain ⟨z, rfl, hz⟩ := sep
    have stay : ∀ {n m : Nat} {v : V}, IsLst s L (IsV gdS) n m H1 v → IsLst s L (IsV gdS) n m Hb v := fun h => stab_lst stab_v _ _ _ _ sta xb (stab_lst stab_v _ _ _ _ st1 xn.nil h)
    obtain ⟨am', ms', e', ham', _, _⟩ := mk_strs (stay hch1)
    have hamb : Hb am = some (.lst (ms.map V.str)) := by
      obtain ⟨a', xs', e1, n1, q1, _⟩ := hch1
      cases e1
      have := xb.get (xn.get ham (by simp)) (by simp [n1.1, n1.2])
      exact this
    have sum := sum_len gms
    refine ⟨rfl, _, rfl, z, am, ms, rfl, rfl, .inl (.inl (.inl hamb)), ?_, ?_⟩
    · have : z.length ≤ 2 := by rcases hz with rfl | rfl | rfl <;> decide +kernel
      have : ms.length * z.length ≤ ms.length * 2 := Nat.mul_le_mul_left _ this
      omega
    refine ⟨_, F.due, _, rfl, am, ms, rfl, mks, hamb, fun du Hc xc rc => ⟨by show 2 ≤ sizeLine; omega, fun t nt => ?_⟩⟩
    have xt : Ex [] Hc (upd Hc t (.tup [.str (Txt.join z ms), du])) := Ex.new nt
    have et : upd Hc t (HO.tup [.str (Txt.join z ms), du]) t = some (.tup [.str (Txt.join z ms), du]) := upd_same
    generalize upd Hc t (HO.tup [.str (Txt.join z ms), du]) = Hd at xt et
    have xbd : Ex [] Hb Hd := xc.trans xt
    simp only [gOf, gsOf]
    refine ⟨t, _, rfl, .inl (.inl (.inl et)), rfl, _, _, rfl, _, _, rfl, rfl, hN' _ _ ⟨z, du, rfl, hz, (stb.ex xbd).le (by omega), stab_lst stab_v _ _ _ _ stb xbd.nil (stay hm1), stab_lst stab_v _ _ _ _ stb xbd.nil (stay hch1), stab_lst stab_v _ _ _ _ stb xbd.nil (stay hso1), ?_, (rc.ex xt (by simp)).base fun _ _ => rfl⟩⟩
    exact Tabs.x (Tabs.draw (Tabs.x hT1 xn) sta xb) xbd
  obtain ⟨z, du, rfl, hz, st2, hm2, hch2, hso2, hT2, rdu⟩ := p
  have tx := join_ok hz gms (by omega)
  have mj := marks_join hz gms
  refine xseqP (P := fun σ' H' => ∃ fo, σ' = [a0, some (.ref s), some so, b3, some fo, some mk, some (.int k), some (.ref am), some (.str (Txt.join z ms)), some du] ∧ Stm H' s L (c + 5) ∧ IsMk s L n H' mk ∧ IsMk s L (n + 3) H' (.ref am) ∧ IsLst s L (IsV gdS) 1 100 H' so ∧ Tabs T H' ∧ RepA H' (dueD ms) du ∧ RepA H' (.lst [dueD ms, dueD ms]) fo) (fun N hN' => ?_) fun σ3 H3 p => ?_
  · unfold xi_2 wX
    simp only [wLams]
    refine lam_pos F.read tx hT2 (fun W' H' N' h => e_var rfl h) fun v1 Ha xa ta r1 => lam_kw F.kw tx ta (fun W' H' N' h => e_var rfl h) fun v2 Hb xb tb r2 => ⟨by show 2 ≤ sizeLine; omega, fun p np => ?_⟩
    rw [mj] at r1 r2
    have xx : ExtN H2 Hb := xa.trans xb
    have xp : Ex [] Hb (upd Hb p (.lst [v1, v2])) := Ex.new np
    have x2 : ExtN H2 (upd Hb p (.lst [v1, v2])) := xx.trans (ExtN.ex xp)
    refine hN' _ _ ⟨.ref p, rfl, Stm.n st2 x2, mk_n hm2 x2, mk_n hch2 x2, mk_n hso2 x2, Tabs.x tb xp, rep_n x2 rdu, ?_⟩
    show Rep _ _ _ _
    unfold Rep
    exact ⟨p, _, rfl, rfl, upd_same, RepL.cons (rep_n (xb.trans (ExtN.ex xp)) r1) (RepL.cons (rep_n (ExtN.ex xp) r2) RepL.nil)⟩
  obtain ⟨fo, rfl, st3, hm3, hch3, hso3, hT3, rdu3, rfo⟩ := p
  have sd : Sd 8 (.lst [dueD ms, dueD ms]) := sd_pair (due_sd mks.few) (due_sd mks.few)
  refine xseqP (P := fun σ' H' => σ' = [a0, some (.ref s), some so, b3, some fo, some mk, some (.int k), some (.ref am), some (.str (Txt.join z ms)), some du] ∧ Stm H' s L (c + 5) ∧ IsMk s L n H' mk ∧ IsMk s L (n + 3) H' (.ref am) ∧ IsLst s L (IsV gdS) 1 100 H' so ∧ Tabs T H') (fun N hN' => xd ?_) fun σ4 H4 p => ?_
  · unfold xi_3
    refine wS_ifs ?_
    unfold Dq.wT Dq.wT
    refine e_call F.same (es_cons (e_var rfl (es_cons (e_lst (es_cons (e_var rfl (es_cons (e_var rfl (es_nil ⟨by show 2 ≤ sizeLine; omega, fun p np => es_nil ?_⟩)))))))))
    have xp : Ex [] H3 (upd H3 p (.lst [du, du])) := Ex.new np
    refine ⟨fo, .ref p, _, _, (fun _ => none), rfl, sd, rep_n (ExtN.ex xp) rfo, ?_, fun H' x' => ⟨true, rfl, ifF rfl (wSs_nil (hN' _ _ ⟨rfl, ?_⟩))⟩⟩
    · unfold Rep
      exact ⟨p, _, rfl, rfl, upd_same, RepL.cons (rep_n (ExtN.ex xp) rdu3) (RepL.cons (rep_n (ExtN.ex xp) rdu3) RepL.nil)⟩
    · have xx := ExtN.ex (xp.trans x')
      exact ⟨Stm.n st3 xx, mk_n hm3 xx, mk_n hch3 xx, mk_n hso3 xx, Tabs.x hT3 (xp.trans x')⟩
  obtain ⟨rfl, st4, hm4, hch4, hso4, hT4⟩ := p
  refine xseq1 (xd ?_)
  unfold xi_4
  unfold Dq.wS
  rw [Dq.wE, Dq.wT]
  refine e_call F.draw (es_cons (e_var rfl (es_cons ?_)))
  rw [Dq.wE]
  refine es_nil ⟨s, L, c + 5, 3, rfl, st4, by omega, by omega, by omega, fun r H5 r0 r1 x5 st5 => ?_⟩
  rw [Dq.wE]
  have hm5 := stab_lst stab_v _ _ _ _ st4 x5 hm4
  have hch5 := stab_lst stab_v _ _ _ _ st4 x5 hch4
  have hso5 := stab_lst stab_v _ _ _ _ st4 x5 hso4
  have hT5 := Tabs.draw hT4 st4 x5
  have xn : ∀ {τ : L2.St} {K : Hp}, D.nx τ K → wXs Γ kwk T (TTm CS "index" "told" "mark") .nil W D τ K := fun h => by unfold wXs; exact h
  refine eq_i ⟨_, rfl, ?_⟩
  by_cases h0 : r = 0
  · exact ifT (decide_eq_true h0) (e_var rfl (xn (hN _ _ _ _ _ _ (st5.le (by omega)) hch5 hso5 hT5)))
  · exact ifF (decide_eq_false h0) (e_var rfl (xn (hN _ _ _ _ _ _ (st5.le (by omega)) (hm5.le (Nat.le_refl _) (by omega)) hso5 hT5)))
end
end Hk64

set_option maxHeartbeats 1000000
namespace Hk64
open PySem PySem.Spec PyProof.Rows L2 Dq LamX
/-! ### the law -/
def xo_0 : Dq.CS := .set 5 (.call "_law_x_code_marks" (.cons (.call "_law_w_codes" (.cons (.var 1) .nil)) .nil))
def litC : Dq.CE := .dict (.cons (.str "f") (.tup (.cons (.int 1) (.cons (.lst (.cons (.str "n") .nil)) (.cons (.lst (.cons (.tup (.cons (.str "load") (.cons (.int 0) .nil))) (.cons (.tup (.cons (.str "two") (.cons (.str "rem") .nil))) (.cons (.tup (.cons (.str "call") (.cons (.str "gg") (.cons (.int 2) .nil)))) (.cons (.tup (.cons (.str "give") .nil)) .nil))))) (.cons (.bin .Mult (.lst (.cons (.tup (.cons (.int 1) (.cons (.int 1) .nil))) .nil)) (.int 4)) .nil))))) (.cons (.str "gg") (.tup (.cons (.int 0) (.cons (.lst .nil) (.cons (.lst (.cons (.tup (.cons (.str "push") (.cons (.neg (.int 5)) .nil))) .nil)) (.cons (.lst (.cons (.tup (.cons (.int 9) (.cons (.int 9) .nil))) .nil)) .nil))))) .nil))
def xo_1 : Dq.CS := .ifs (.cmp .Eq (.call "_law_draw" (.cons (.var 1) (.cons (.int 2) .nil))) (.int 0)) (.cons (.set 5 (.call "_law_x_code_marks" (.cons litC .nil))) .nil) .nil
def xl_out : Dq.XSs := .cons (.d xo_0) (.cons (.d xo_1) (.cons (.for_ (.nm 6) (.rng (.int 9)) xl_in) .nil))
def xa_0 : Dq.CS := .set 1 (.call "_law_stream" (.cons (.var 0) .nil))
def someA : Dq.CE := .lst (.cons (.str "Code") (.cons (.str "End") (.cons (.str ";") (.cons (.str "f") (.cons (.str "gg") (.cons (.str "n") (.cons (.str "0") (.cons (.str "1") (.cons (.str "-1") (.cons (.str "01") (.cons (.str "x_1") (.cons (.str "push") (.cons (.str "load") (.cons (.str "two") (.cons (.str "rem") (.cons (.str "not") (.cons (.str "give") (.cons (.str "call") .nil))))))))))))))))))
def someB : Dq.CE := .lst (.cons (.str "2147483648") (.cons (.str "-2147483649") (.cons (.str "-0") (.cons (.str "def") (.cons (.str "len") (.cons (.str "A") (.cons (.str "1_0") (.cons (.str "abcdefghijklmnopq") .nil))))))))
def xa_1 : Dq.CS := .set 2 someA
def xa_2 : Dq.CS := .set 2 (.bin .Add (.var 2) someB)
def xa_4 : Dq.XS := .lams 4 [lamE (.str "Code f 1 ;"), lamE (.str "Code f 0 ; End"), lamE (.str "Code f 0 ; 1 1 give End Code f")]
def xa_5 : Dq.CS := .ret (.call "_law_same" (.cons (.var 4) (.cons (.lst (.cons (.tup (.cons (.str "mark") (.cons (.int 3) .nil))) (.cons (.tup (.cons (.str "mark") (.cons (.int 4) .nil))) (.cons (.tup (.cons (.str "mark") (.cons (.int 9) .nil))) .nil)))) .nil)))
def x_law : Dq.XSs := .cons (.d xa_0) (.cons (.d xa_1) (.cons (.d xa_2) (.cons (.for_ (.nm 3) (.rng (.int 8)) xl_out) (.cons xa_4 (.cons (.d xa_5) .nil)))))
theorem c_law : Dq.cXs l_law "_law_met" 30 (defScope s_law) (defBody s_law) = some x_law := by kernel_rfl
section
variable {Γ : Gam} {kwk : Str → Str → Sp → Prop} {T : List (Addr × Str)} {W : WX} {D : Ends} {σ : L2.St} {H : Hp} {CS s L : Addr}
theorem to_mk {c : Int} {q : Addr} {ms : List Str} {n : Nat} (st : Stm H s L c) {H' : Hp} (x : Ex [] H H') (nq : H q = none) (e : H' q = some (.lst (ms.map V.str))) (hl : ms.length ≤ n) (hg : ∀ m ∈ ms, gd m = true) : IsMk s L n H' (.ref q) :=
  ⟨q, _, rfl, (Cur.mk Ex.refl st).new nq, e, Nat.zero_le _, by rw [List.length_map]; exact hl, fun y hy => by
    obtain ⟨m, hm, rfl⟩ := List.mem_map.mp hy
    exact ⟨hg m hm, rfl⟩⟩
set_option maxHeartbeats 2000000 in
theorem out_turn (F : LawFns Γ CS kwk) {c k : Int} {a0 b4 b5 b6 b7 b8 b9 : Option V} {so : V} (st : Stm H s L c) (hc : c + 1000 ≤ 1099511627776) (hso : IsLst s L (IsV gdS) 1 100 H so) (hT : Tabs T H)
    (hN : ∀ c4 c5 c6 c7 c8 c9 H', Stm H' s L (c + 1000) → IsLst s L (IsV gdS) 1 100 H' so → Tabs T H' → D.nx [a0, some (.ref s), some so, some (.int k), c4, c5, c6, c7, c8, c9] H') :
    wXs Γ kwk T (TTm CS "index" "told" "mark") xl_out W D [a0, some (.ref s), some so, some (.int k), b4, b5, b6, b7, b8, b9] H := by
  unfold xl_out
  refine xseqP (P := fun σ' H' => ∃ mk, σ' = [a0, some (.ref s), some so, some (.int k), b4, some mk, b6, b7, b8, b9] ∧ Stm H' s L (c + 800) ∧ IsMk s L 12000 H' mk ∧ IsLst s L (IsV gdS) 1 100 H' so ∧ Tabs T H') (fun N hN' => xd ?_) fun σ1 H1 p => ?_
  · unfold xo_0
    unfold Dq.wS
    refine e_call F.marks (es_cons (e_call F.codes (es_cons (e_var rfl (es_nil ⟨s, L, c, rfl, st, by omega, fun p H1 x1 st1 hp => es_nil ⟨p, 2, rfl, hp, by omega, fun q ms H2 x2 nq eq' lm gm => hN' _ _ ⟨.ref q, rfl, st1.ex x2, to_mk st1 x2 nq eq' (by omega) gm, ?_, ?_⟩⟩⟩)))))
    · exact stab_lst stab_v _ _ _ _ st1 x2.nil (stab_lst stab_v _ _ _ _ st x1 hso)
    · exact Tabs.x (Tabs.draw hT st x1) x2
  obtain ⟨mk, rfl, st1, hm1, hso1, hT1⟩ := p
  refine xseqP (P := fun σ' H' => ∃ mk, σ' = [a0, some (.ref s), some so, some (.int k), b4, some mk, b6, b7, b8, b9] ∧ Stm H' s L (c + 801) ∧ IsMk s L 12000 H' mk ∧ IsLst s L (IsV gdS) 1 100 H' so ∧ Tabs T H') (fun N hN' => xd ?_) fun σ2 H2 p => ?_
  · have sn : ∀ {τ : L2.St} {K : Hp}, N τ K → wSs Γ .nil W { D with nx := N } τ K := fun h => by unfold wSs; exact h
    unfold xo_1
    refine wS_ifs ?_
    rw [Dq.wT]
    refine e_call F.draw (es_cons (e_var rfl (es_cons ?_)))
    rw [Dq.wE]
    refine es_nil ⟨s, L, c + 800, 2, rfl, st1, by omega, by omega, by omega, fun r H3 r0 r1 x3 st3 => ?_⟩
    rw [Dq.wE]
    have hm3 := stab_lst stab_v _ _ _ _ st1 x3 hm1
    have hso3 := stab_lst stab_v _ _ _ _ st1 x3 hso1
    have hT3 := Tabs.draw hT1 st1 x3
    refine eq_i ⟨_, rfl, ?_⟩
    by_cases h0 : r = 0
    · refine ifT (decide_eq_true h0) (seq1 ?_)
      unfold Dq.wS
      refine e_call F.marks (es_cons (wr_three H3 _ fun v H4 x4 ⟨p, e, hp⟩ => ?_))
      subst e
      refine es_nil ⟨p, 2, rfl, hp, by omega, fun q ms H5 x5 nq eq' lm gm => sn (hN' _ _ ⟨.ref q, rfl, (st3.ex (x4.trans x5)).le (by omega), to_mk (st3.ex x4) x5 nq eq' (by omega) gm, ?_, ?_⟩)⟩
      · exact stab_lst stab_v _ _ _ _ st3 (x4.trans x5).nil hso3
      · exact Tabs.x hT3 (x4.trans x5)
    · exact ifF (decide_eq_false h0) (sn (hN' _ _ ⟨mk, rfl, st3.le (by omega), hm3, hso3, hT3⟩))
  obtain ⟨mk, rfl, st2, hm2, hso2, hT2⟩ := p
  refine xseq1 ?_
  unfold wX
  rw [tFor_eq]
  have xn : ∀ {τ : L2.St} {K : Hp}, D.nx τ K → wXs Γ kwk T (TTm CS "index" "told" "mark") .nil W D τ K := fun h => by unfold wXs; exact h
  refine i_rng ?_
  rw [Dq.wE]
  refine ⟨9, rfl, by omega, by omega, ?_⟩
  refine for_r (n := 9) (fun i σ' H' => i ≤ 9 ∧ ∃ c4 mk' c6 c7 c8 c9, σ' = [a0, some (.ref s), some so, some (.int k), c4, some mk', c6, c7, c8, c9] ∧ Stm H' s L (c + 801 + 10 * i) ∧ IsMk s L (12000 + 3 * i) H' mk' ∧ IsLst s L (IsV gdS) 1 100 H' so ∧ Tabs T H') ⟨by omega, _, mk, _, _, _, _, rfl, st2.le (by omega), hm2, hso2, hT2⟩ (fun σ' H' p => ?_) fun i σ' H' hi p => ?_
  · obtain ⟨i9, c4, mk', c6, c7, c8, c9, rfl, st', hm', hso', hT'⟩ := p
    exact xn (hN _ _ _ _ _ _ _ (st'.le (by omega)) hso' hT')
  · obtain ⟨i9, c4, mk', c6, c7, c8, c9, rfl, st', hm', hso', hT'⟩ := p
    show wXs Γ kwk T (TTm CS "index" "told" "mark") xl_in W _ [a0, some (.ref s), some so, some (.int k), c4, some mk', some (.int (0 + (i : Nat))), c7, c8, c9] H'
    refine in_turn F st' (by omega) (by omega) hm' hso' hT' fun d4 mk2 d7 d8 d9 H2 st2 hm2 hso2 hT2 => ⟨by omega, d4, mk2, _, _, _, _, rfl, st2.le (by omega), hm2.le (Nat.le_refl _) (by omega), hso2, hT2⟩
end
end Hk64

set_option maxHeartbeats 1000000
namespace Hk64
open PySem PySem.Spec PyProof.Rows L2 Dq LamX
theorem due_c {t : Str} {ms : List Str} {i : Nat} (e : t = Txt.join " " ms) (hg : ms.all gd = true) (hl : ms.length ≤ 100000) (hr : rd ms = .error i) : TextOk t ∧ dueD (marksOf t) = .tup [.at (.str "mark"), .at (.int i)] := by
  have g : ∀ m ∈ ms, gd m = true := fun m hm => List.all_eq_true.mp hg m hm
  subst e
  refine ⟨join_ok (.inl rfl) g hl, ?_⟩
  rw [marks_join (.inl rfl) g]
  unfold dueD
  rw [hr]; rfl
theorem due_1 : TextOk "Code f 1 ;" ∧ dueD (marksOf "Code f 1 ;") = .tup [.at (.str "mark"), .at (.int (3 : Nat))] := due_c (ms := ["Code", "f", "1", ";"]) (by decide +kernel) (by decide +kernel) (by decide) (by kernel_rfl)
theorem due_2 : TextOk "Code f 0 ; End" ∧ dueD (marksOf "Code f 0 ; End") = .tup [.at (.str "mark"), .at (.int (4 : Nat))] := due_c (ms := ["Code", "f", "0", ";", "End"]) (by decide +kernel) (by decide +kernel) (by decide) (by kernel_rfl)
theorem due_3 : TextOk "Code f 0 ; 1 1 give End Code f" ∧ dueD (marksOf "Code f 0 ; 1 1 give End Code f") = .tup [.at (.str "mark"), .at (.int (9 : Nat))] := due_c (ms := ["Code", "f", "0", ";", "1", "1", "give", "End", "Code", "f"]) (by decide +kernel) (by decide +kernel) (by decide) (by kernel_rfl)
section
variable {Γ : Gam} {kwk : Str → Str → Sp → Prop} {T : List (Addr × Str)} {W : WX} {D : Ends} {σ : L2.St} {H : Hp} {CS s L : Addr}
def spLaw (K : PySem.W.Frag) (T : List (Addr × Str)) : Sp := fun vs H Q _ => ∃ a, ∃ ns : List Int, vs = [.ref a] ∧ SqL K H a (ns.map V.int) ∧ ns.length ≤ 63 ∧ Tabs T H ∧ ∀ H', Q (.bl true) H'
theorem w_law (F : LawFns Γ CS kwk) (vs : List V) (H : Hp) (Q : VK) (E : XK) (h : spLaw Γ.K T vs H Q E) : wXs Γ kwk T (TTm CS "index" "told" "mark") x_law (dE E) (dD Q) (start l_law.N vs) H := by
  obtain ⟨a, ns, rfl, hq, hl, hT, q⟩ := h
  have hb := sizeBig
  unfold x_law
  refine xseqP (P := fun σ' H' => ∃ s L, σ' = [some (.ref a), some (.ref s), none, none, none, none, none, none, none, none] ∧ Stm H' s L 0 ∧ Tabs T H') (fun N hN => xd ?_) fun σ1 H1 p => ?_
  · unfold xa_0
    unfold Dq.wS
    exact e_call F.stream (es_cons (e_var rfl (es_nil ⟨a, ns, rfl, hq, hl, fun s L H' x _ _ st => hN _ _ ⟨s, L, rfl, st, Tabs.x hT x⟩⟩)))
  obtain ⟨s, L, rfl, st1, hT1⟩ := p
  refine xseqP (P := fun σ' H' => ∃ so, σ' = [some (.ref a), some (.ref s), some so, none, none, none, none, none, none, none] ∧ Stm H' s L 0 ∧ IsLst s L (IsV gdS) 18 18 H' so ∧ Tabs T H') (fun N hN => xd ?_) fun σ2 H2 p => ?_
  · unfold xa_1
    refine set_t st1 (lsV (p := gdS) (n := 18) (ts_lit rfl) (by omega) (by omega) fun H us e => ?_) fun v H' x st' hv => hN _ _ ⟨v, rfl, st', hv, Tabs.draw hT1 st1 x⟩
    subst e
    refine ⟨rfl, fun x hx => ?_⟩
    have : ∀ y ∈ ([.str "Code", .str "End", .str ";", .str "f", .str "gg", .str "n", .str "0", .str "1", .str "-1", .str "01", .str "x_1", .str "push", .str "load", .str "two", .str "rem", .str "not", .str "give", .str "call"] : List V), (gdS y && flatV y) = true := List.all_eq_true.mp (by decide +kernel)
    exact Bool.and_eq_true_iff.mp (this x hx)
  obtain ⟨so, rfl, st2, hso2, hT2⟩ := p
  refine xseqP (P := fun σ' H' => ∃ so, σ' = [some (.ref a), some (.ref s), some so, none, none, none, none, none, none, none] ∧ Stm H' s L 0 ∧ IsLst s L (IsV gdS) 1 100 H' so ∧ Tabs T H') (fun N hN => xd ?_) fun σ3 H3 p => ?_
  · unfold xa_2
    refine set_t st2 (t_addl (t_var rfl hso2 (stab_lst stab_v) st2) (lsV (p := gdS) (n := 8) (ts_lit rfl) (by omega) (by omega) fun H us e => ?_) stab_v (by omega)) fun v H' x st' hv => hN _ _ ⟨v, rfl, st', hv.le (by omega) (by omega), Tabs.draw hT2 st2 x⟩
    subst e
    refine ⟨rfl, fun x hx => ?_⟩
    have : ∀ y ∈ ([.str "2147483648", .str "-2147483649", .str "-0", .str "def", .str "len", .str "A", .str "1_0", .str "abcdefghijklmnopq"] : List V), (gdS y && flatV y) = true := List.all_eq_true.mp (by decide +kernel)
    exact Bool.and_eq_true_iff.mp (this x hx)
  obtain ⟨so, rfl, st3, hso3, hT3⟩ := p
  refine xseqP (P := fun σ' H' => ∃ c3 c4 c5 c6 c7 c8 c9, σ' = [some (.ref a), some (.ref s), some so, c3, c4, c5, c6, c7, c8, c9] ∧ Tabs T H') (fun N hN => ?_) fun σ4 H4 p => ?_
  · unfold wX
    rw [tFor_eq]
    refine i_rng ?_
    rw [Dq.wE]
    refine ⟨8, rfl, by omega, by omega, ?_⟩
    refine for_r (n := 8) (fun i σ' H' => i ≤ 8 ∧ ∃ c3 c4 c5 c6 c7 c8 c9, σ' = [some (.ref a), some (.ref s), some so, c3, c4, c5, c6, c7, c8, c9] ∧ Stm H' s L (1000 * i) ∧ IsLst s L (IsV gdS) 1 100 H' so ∧ Tabs T H') ⟨by omega, _, _, _, _, _, _, _, rfl, st3.le (by omega), hso3, hT3⟩ (fun σ' H' p => ?_) fun i σ' H' hi p => ?_
    · obtain ⟨i9, c3, c4, c5, c6, c7, c8, c9, rfl, st', hso', hT'⟩ := p
      exact hN _ _ ⟨_, _, _, _, _, _, _, rfl, hT'⟩
    · obtain ⟨i9, c3, c4, c5, c6, c7, c8, c9, rfl, st', hso', hT'⟩ := p
      show wXs Γ kwk T (TTm CS "index" "told" "mark") xl_out (dE E) _ [some (.ref a), some (.ref s), some so, some (.int (0 + (i : Nat))), c4, c5, c6, c7, c8, c9] H'
      exact out_turn F st' (by omega) hso' hT' fun d4 d5 d6 d7 d8 d9 H2 st2 hso2 hT2 => ⟨by omega, _, _, _, _, _, _, _, rfl, st2.le (by omega), hso2, hT2⟩
  obtain ⟨c3, c4, c5, c6, c7, c8, c9, rfl, hT4⟩ := p
  refine xseqP (P := fun σ' H' => ∃ fo, σ' = [some (.ref a), some (.ref s), some so, c3, some fo, c5, c6, c7, c8, c9] ∧ RepA H' (.lst [.tup [.at (.str "mark"), .at (.int (3 : Nat))], .tup [.at (.str "mark"), .at (.int (4 : Nat))], .tup [.at (.str "mark"), .at (.int (9 : Nat))]]) fo) (fun N hN => ?_) fun σ5 H5 p => ?_
  · unfold xa_4 wX
    simp only [wLams]
    have ec : ∀ {z : Str} (W' : WX) (H' : Hp) (N' : VK), N' (.str z) H' → Dq.wE Γ (.str z) false W' [some (.ref a), some (.ref s), some so, c3, c4, c5, c6, c7, c8, c9] H' N' := fun W' H' N' h => by rw [Dq.wE]; exact h
    refine lam_pos F.read due_1.1 hT4 ec fun v1 Ha xa ta r1 => lam_pos F.read due_2.1 ta ec fun v2 Hb xb tb r2 => lam_pos F.read due_3.1 tb ec fun v3 Hc xc tc r3 => ⟨by show 3 ≤ sizeLine; omega, fun p np => ?_⟩
    rw [due_1.2] at r1
    rw [due_2.2] at r2
    rw [due_3.2] at r3
    have xp : Ex [] Hc (upd Hc p (.lst [v1, v2, v3])) := Ex.new np
    refine hN _ _ ⟨.ref p, rfl, ?_⟩
    show Rep _ _ _ _
    unfold Rep
    exact ⟨p, _, rfl, rfl, upd_same, RepL.cons (rep_n ((xb.trans xc).trans (ExtN.ex xp)) r1) (RepL.cons (rep_n (xc.trans (ExtN.ex xp)) r2) (RepL.cons (rep_n (ExtN.ex xp) r3) RepL.nil))⟩
  obtain ⟨fo, rfl, rfo⟩ := p
  refine xseq1 (xd ?_)
  unfold xa_5
  refine wS_ret (e_call F.same (es_cons (e_var rfl (es_cons (e_lst ?_)))))
  simp only [Dq.wEs, Dq.wE]
  refine ⟨by show 2 ≤ sizeLine; omega, fun p1 n1 => ⟨by show 2 ≤ sizeLine; omega, fun p2 n2 => ⟨by show 2 ≤ sizeLine; omega, fun p3 n3 => ⟨by show 3 ≤ sizeLine; omega, fun p4 n4 => ?_⟩⟩⟩⟩
  have s2 : ∀ i : Int, Sd 1 (.tup [.at (.str "mark"), .at (.int i)]) := fun i => (sd_ats (vs := [.str "mark", .int i]) (by show 2 ≤ 200000; omega)).1
  have sd : Sd 8 (.lst [.tup [.at (.str "mark"), .at (.int (3 : Nat))], .tup [.at (.str "mark"), .at (.int (4 : Nat))], .tup [.at (.str "mark"), .at (.int (9 : Nat))]]) := by
    have all : ∀ d ∈ [DD.tup [.at (.str "mark"), .at (.int (3 : Nat))], .tup [.at (.str "mark"), .at (.int (4 : Nat))], .tup [.at (.str "mark"), .at (.int (9 : Nat))]], dep d ≤ 1 ∧ wd d := by
      intro d hd
      simp only [List.mem_cons, List.not_mem_nil, or_false] at hd
      rcases hd with rfl | rfl | rfl <;> exact s2 _
    have t := depL_of fun d hd => (all d hd).1
    exact ⟨by rw [dep]; omega, by rw [wd]; exact ⟨by show 3 ≤ 200000; omega, wdL_iff.mpr fun d hd => (all d hd).2⟩⟩
  have two : ∀ {K : Hp} {p : Addr} {i : Int}, K p = some (.tup [.str "mark", .int i]) → RepA K (.tup [.at (.str "mark"), .at (.int i)]) (.ref p) := fun {K p i} e => by
    show Rep _ _ _ _
    unfold Rep
    exact ⟨p, _, rfl, rfl, e, RepL.cons (.flat rfl) (RepL.cons (.flat rfl) RepL.nil)⟩
  have x1 : Ex [] H5 _ := Ex.new (o := .tup [.str "mark", .int 3]) n1
  have x2 := Ex.new (bad := []) (o := .tup [.str "mark", .int 4]) n2
  have x3 := Ex.new (bad := []) (o := .tup [.str "mark", .int 9]) n3
  have x4 := Ex.new (bad := []) (o := .lst [.ref p1, .ref p2, .ref p3]) n4
  refine ⟨fo, .ref p4, _, _, (fun _ => none), rfl, sd, rep_n (ExtN.ex (((x1.trans x2).trans x3).trans x4)) rfo, ?_, fun H' _ => q H'⟩
  unfold Rep
  exact ⟨p4, _, rfl, rfl, upd_same, RepL.cons (two (((x2.trans x3).trans x4).get upd_same (by simp))) (RepL.cons (two ((x3.trans x4).get upd_same (by simp))) (RepL.cons (two (x4.get upd_same (by simp))) RepL.nil))⟩
end
end Hk64

set_option maxHeartbeats 0
namespace Hk64
open PySem PySem.Spec PyProof.Rows L2 Dq LamX
/-! ### the head -/
def shP : List (Str × Str) := [("push", "n"), ("load", "i"), ("store", "i"), ("drop", ""), ("one", "o"), ("two", "t"), ("truth", ""), ("list", "i"), ("get", ""), ("set", ""), ("len", ""), ("print", ""), ("give", ""), ("jump", "i"), ("part", "i"), ("head", "i"), ("call", "si")]
/-- an exception class over ValueError with its own __init__ -/
def oexO (C : Addr) : Option Obj → Bool
  | some ⟨.type t, _, .cls cd, sl⟩ => decide (t = "type") && (match cd.mro, sl.toList with
    | .ref C' :: bm, [_, _, _, _, some (.builtin n), _] => decide (C' = C) && (decide (n = "ValueError.__new__") && (cd.hasDict && (!cd.hasDel && PySem.HandSPX.refsVE bm)))
    | _, _ => false)
  | _ => false
def oexB (K : PySem.W.Frag) (C : Addr) : Bool := oexO C (K.lookup C) && (He.eqO (PySem.W.findIn K (.ref C) "__setattr__") (some (some (.builtin "object.__setattr__"))) && (decide (PySem.W.subIn K (.ref C) (.type "BaseException") = some true) && (decide (PySem.W.typeIn K (.ref C) = some (.type "type")) && PySem.W.keepIn K (.ref C))))
theorem oexB_ok {K : PySem.W.Frag} {C : Addr} (h : oexB K C = true) : OexC K C := by
  obtain ⟨h1, h⟩ := Bool.and_eq_true_iff.mp h
  obtain ⟨h2, h⟩ := Bool.and_eq_true_iff.mp h
  obtain ⟨h3, h⟩ := Bool.and_eq_true_iff.mp h
  obtain ⟨h4, h5⟩ := Bool.and_eq_true_iff.mp h
  refine ⟨?_, He.eqO_ok h2, of_decide_eq_true h3, of_decide_eq_true h4, h5⟩
  unfold oexO at h1
  split at h1
  · rename_i t dd cd sl hlk
    obtain ⟨g1, h6⟩ := Bool.and_eq_true_iff.mp h1
    split at h6
    · rename_i C' bm k0 k1 k2 k3 n k5 em es
      obtain ⟨a1, h6⟩ := Bool.and_eq_true_iff.mp h6
      obtain ⟨a2, h6⟩ := Bool.and_eq_true_iff.mp h6
      obtain ⟨a3, h6⟩ := Bool.and_eq_true_iff.mp h6
      obtain ⟨a4, a5⟩ := Bool.and_eq_true_iff.mp h6
      obtain ⟨nm, bs, mro, N, q, hd, sn, sub, ab, col, del⟩ := cd
      have e1 := of_decide_eq_true g1
      have e2 := of_decide_eq_true a1
      have e3 := of_decide_eq_true a2
      have em : mro = .ref C' :: bm := em
      have a3 : hd = true := a3
      have a4 : (!del) = true := a4
      have ed : del = false := by cases del <;> first | rfl | cases a4
      subst e1 e2 e3 em a3 ed
      have el : sl = #[k0, k1, k2, k3, some (.builtin "ValueError.__new__"), k5] := by
        rw [← Array.toArray_toList (xs := sl), es]
      subst el
      exact ⟨nm, q, N, bs, bm, sn, sub, ab, col, dd, k0, k1, k2, k3, k5, hlk, a5⟩
    · cases h6
  · cases h1
def exK (K : PySem.W.Frag) : Bool :=
  He.tupB K "WORDS" (words.map He.Dv.str) && (He.tupB K "TWOS" (twosAll.map He.Dv.str) && (He.valsB K (He.ga K "SHAPES") (shP.map fun q => (q.1, He.Dv.str q.2)) && (oexB K (He.ga K "BadMark") && (xfB K (He.ga K "BadMark") && (He.eqO (PySem.W.findIn K (.ref (He.ga K "BadMark")) "index") (some none) &&
    (He.eqO (PySem.W.findIn K (.ref (He.ga K "BadMark")) "__init__") (some (some (.ref (He.ma K (He.ga K "BadMark") "__init__")))) && decide (PySem.W.typeIn K (.ref (He.ma K (He.ga K "BadMark") "__init__")) = some (.type "function"))))))))
def fa2 : List He.Fa := fa ++ [.glo "SHAPES", .glo "WORDS", .glo "TWOS", .str "DIGITS" digs, .str "LETTERS" letters, .str "FIGURES" digs, .int "LEAST" (-2147483648), .int "GREATEST" 2147483647, .cls "LineMarks", .noat "LineMarks" "marks", .noat "LineMarks" "at", .meth "LineMarks" "mark", .meth "LineMarks" "take", .meth "LineMarks" "take_mark", .meth "LineMarks" "number", .meth "LineMarks" "integer", .meth "LineMarks" "name", .mkr "LineMarks", .exm "BadMark" "BadMark" true, .free "any"]
def ts2 : List He.Tab := [((He.ga · "SHAPES"), shP.map (·.1))]
def tf2 : List He.Defn := [("law", none)]
abbrev hk2 : PySem.W.Hook := He.hookX 6 fa2 fn ts2 tf2 exK
def ob2 (s : PySem.W.SharedT) : He.AlX := He.obsX 6 fa2 fn ts2 tf2 exK (HandSHeadRun.getT s)
theorem ob2_eq (s : PySem.W.SharedT) : ob2 s = hk2.obs s.abs := He.obsX_eq (HandSHeadRun.getT_eq s)
theorem run2 (w : World) : HandSHeadRun.RunEq R (PySem.W.view R.prog [50]) hk2 ob2 6000 loose w := by
  refine PySem.W.byRow2 "special-get-raises" (P := fun w => HandSHeadRun.RunEq R (PySem.W.view R.prog [50]) hk2 ob2 6000 loose w) (fun w => ?_) (fun w => ?_) w
  · intro os
    kernel_rfl
  · intro os
    kernel_rfl
end Hk64

set_option maxHeartbeats 1000000
namespace Hk64
open PySem PySem.Spec PyProof.Rows L2 Dq LamX
theorem al0 {α : Type} {p : α → Prop} : ∀ q ∈ ([] : List α), p q := fun q h => (List.not_mem_nil h).elim
theorem al1 {α : Type} {p : α → Prop} {a : α} {l : List α} (h : p a) (t : ∀ q ∈ l, p q) : ∀ q ∈ a :: l, p q := List.forall_mem_cons.mpr ⟨h, t⟩
theorem m0 {α : Type} {a : α} {l : List α} : a ∈ a :: l := List.Mem.head _
theorem m1 {α : Type} {a b : α} {l : List α} (h : a ∈ l) : a ∈ b :: l := List.Mem.tail _ h
theorem KnC.mono {P : Program} {w : World} {K : PySem.W.Frag} {mg : Str → Option Value} {base : Heap} {j k : Nat} {x : Str} {C : Addr} {sp : Sp} (h : KnC P w K mg base j x C sp) (hk : j ≤ k) : KnC P w K mg base k x C sp := by
  obtain ⟨a, f, fd, ps, b, c, d⟩ := h
  exact ⟨a, f, fd, ps, b, c.mono hk, d⟩
theorem KnR.mono {P : Program} {w : World} {K : PySem.W.Frag} {mg : Str → Option Value} {base : Heap} {j k : Nat} {x : Str} {C : Addr} {m : Str} (h : KnR P w K mg base j x C m) (hk : j ≤ k) : KnR P w K mg base k x C m := by
  obtain ⟨a, b, f, fd, ps, sp, e, t, d, r⟩ := h
  exact ⟨a, b, f, fd, ps, sp, e, t, d.mono hk, r⟩
section
variable {P : Program} {w : World} {K : PySem.W.Frag} {h : Heap} {mg : Str → Option Value} {base : Heap}
/-- what the head tells -/
structure Told (w : World) (K : PySem.W.Frag) (h : Heap) (mg : Str → Option Value) : Prop where
  X : K.In h
  G : h.Ns mainGlobals mg
  s : He.SaysX fa2 fn ts2 tf2 exK w h K
theorem mkF {x : Str} {s : Stmt} {Δ : Del} {ps : List Str} {sp : Sp} {ir : Dq.CSs} {Γ : Gam} {k : Nat} (c : He.SaysX fa2 fn ts2 tf2 exK w h K) (hd : (⟨(x, none), x, x, defArgs s, defBody s, defScope s, [], []⟩ : He.DefD) ∈ fn) (hm : mg x = some (.ref (He.ga K x))) (S : FnScope Δ.N ps (defScope s))
    (hir : Dq.cSs Δ 60 (defScope s) (defBody s) = some ir) (g : ∀ A, Room k A → GOk Γ P w K mg base A) (len : ∀ vs H Q E, sp vs H Q E → vs.length = ps.length)
    (hb : ∀ (kV doc pm : Value) (an : Option Addr) (cdv ct : Value) (us : List Value), us.length = ps.length → bindArgs (PySem.W.fnOf x x (defArgs s) (defBody s) (defScope s) .none kV doc pm an cdv ct) ⟨us, []⟩ = pure (ps.zip us))
    (hw : ∀ vs H Q E, sp vs H Q E → wSs Γ ir (dE E) (dD Q) (start Δ.N vs) H) : KnF P w K mg base (k + 1) x sp := by
  obtain ⟨fd, F⟩ := c.t.d.defs hd
  exact ⟨_, fd, ps, hm, def_ok F S hir g len hw, F.kp, F.bindsN hb⟩
theorem mkM {x C : Str} {q : Str} {s : Stmt} {Δ : Del} {ps : List Str} {sp : Sp} {ir : Dq.CSs} {Γ : Gam} {k : Nat} (c : He.SaysX fa2 fn ts2 tf2 exK w h K) (hd : (⟨(C, some x), x, q, defArgs s, defBody s, defScope s, [], []⟩ : He.DefD) ∈ fn) (hc : Cls K (He.ga K C)) (hm : Meth K (He.ga K C) x (He.ma K (He.ga K C) x)) (S : FnScope Δ.N ps (defScope s))
    (hir : Dq.cSs Δ 60 (defScope s) (defBody s) = some ir) (g : ∀ A, Room k A → GOk Γ P w K mg base A) (len : ∀ vs H Q E, sp vs H Q E → vs.length = ps.length)
    (hb : ∀ (kV doc pm : Value) (an : Option Addr) (cdv ct : Value) (us : List Value), us.length = ps.length → bindArgs (PySem.W.fnOf x q (defArgs s) (defBody s) (defScope s) .none kV doc pm an cdv ct) ⟨us, []⟩ = pure (ps.zip us))
    (hw : ∀ vs H Q E, sp vs H Q E → wSs Γ ir (dE E) (dD Q) (start Δ.N vs) H) : KnM P w K mg base (k + 1) (He.ga K C) x sp := by
  obtain ⟨fd, F⟩ := c.t.d.defs hd
  exact ⟨hc, _, fd, ps, hm, def_ok F S hir g len hw, F.bindsN hb⟩

theorem sta (t : Told w K h mg) : Sta K mg := by
  have fr : ∀ {x : Str}, He.Fa.free x ∈ fa2 → mg x = none := fun hx => He.free_ok t.X t.G (t.s.t.d.facts hx)
  refine ⟨fun b => ?_, fun y hy => ?_, ?_, ?_, ?_⟩
  · cases b
    case len => exact fr (List.mem_of_getElem? (i := 45) rfl)
    case isi => exact fr (List.mem_of_getElem? (i := 44) rfl)
    case int => exact fr (List.mem_of_getElem? (i := 43) rfl)
    case str => exact fr (List.mem_of_getElem? (i := 48) rfl)
    case list => exact fr (List.mem_of_getElem? (i := 46) rfl)
    case tuple => exact fr (List.mem_of_getElem? (i := 49) rfl)
    case abs => exact fr (List.mem_of_getElem? (i := 38) rfl)
    case all => exact fr (List.mem_of_getElem? (i := 39) rfl)
    case any => exact fr (List.mem_of_getElem? (i := 71) rfl)
    case type => exact fr (List.mem_of_getElem? (i := 50) rfl)
  · simp only [tyNames, List.mem_cons, List.not_mem_nil, or_false] at hy
    rcases hy with rfl | rfl | rfl | rfl | rfl | rfl
    · exact fr (List.mem_of_getElem? (i := 48) rfl)
    · exact fr (List.mem_of_getElem? (i := 43) rfl)
    · exact fr (List.mem_of_getElem? (i := 46) rfl)
    · exact fr (List.mem_of_getElem? (i := 49) rfl)
    · exact fr (List.mem_of_getElem? (i := 41) rfl)
    · exact fr (List.mem_of_getElem? (i := 40) rfl)
  · exact fr (List.mem_of_getElem? (i := 47) rfl)
  · exact fr (List.mem_of_getElem? (i := 42) rfl)
  · exact fr (List.mem_of_getElem? (i := 51) rfl)
theorem glo {x : Str} (t : Told w K h mg) (hx : He.Fa.glo x ∈ fa2) : mg x = some (.ref (He.ga K x)) := He.glo_ok t.X t.G (t.s.t.d.facts hx)
abbrev cL (K : PySem.W.Frag) : Addr := He.ga K "LineMarks"
abbrev cB (K : PySem.W.Frag) : Addr := He.ga K "BadMark"
theorem exs (t : Told w K h mg) : (∀ H, SqT K H (He.ga K "WORDS") (words.map V.str)) ∧ (∀ H, SqT K H (He.ga K "TWOS") (twosAll.map V.str)) ∧ He.valsB K (He.ga K "SHAPES") (shP.map fun q => (q.1, He.Dv.str q.2)) = true ∧ OexC K (cB K) ∧ XfC K (cB K) ∧ PySem.W.findIn K (.ref (cB K)) "index" = some none ∧ PySem.W.findIn K (.ref (cB K)) "__init__" = some (some (.ref (He.ma K (cB K) "__init__"))) ∧ PySem.W.typeIn K (.ref (He.ma K (cB K) "__init__")) = some (.type "function") := by
  have e := t.s.more
  unfold exK at e
  obtain ⟨e1, e⟩ := Bool.and_eq_true_iff.mp e
  obtain ⟨e2, e⟩ := Bool.and_eq_true_iff.mp e
  obtain ⟨e3, e⟩ := Bool.and_eq_true_iff.mp e
  obtain ⟨e4, e⟩ := Bool.and_eq_true_iff.mp e
  obtain ⟨e5, e⟩ := Bool.and_eq_true_iff.mp e
  obtain ⟨e6, e⟩ := Bool.and_eq_true_iff.mp e
  obtain ⟨e7, e8⟩ := Bool.and_eq_true_iff.mp e
  refine ⟨fun H => ?_, fun H => ?_, e3, oexB_ok e4, xfB_ok e5, He.eqO_ok e6, He.eqO_ok e7, of_decide_eq_true e8⟩
  · have z := He.tupB_ok e1 H
    rw [List.map_map] at z
    exact z
  · have z := He.tupB_ok e2 H
    rw [List.map_map] at z
    exact z
theorem shp_none {P : Params} {z : Str} : ∀ {l : List DictEntry} {ks : List Str}, l.map He.keyOf = He.keysIn P ks → z ∉ ks → l.find? (·.key.isStr z) = none ∧ l.any (·.refKey) = false
  | [], _, _, _ => ⟨rfl, rfl⟩
  | e :: r, [], h, _ => by cases h
  | e :: r, k :: ks, h, hz => by
    have h1 : He.keyOf e :: r.map He.keyOf = some (k, PyData.keyHash P k) :: He.keysIn P ks := h
    injection h1 with h2 h3
    obtain ⟨i1, i2⟩ := shp_none h3 fun q => hz (List.mem_cons_of_mem _ q)
    have hk : k ≠ z := fun q => hz (by rw [q]; exact List.mem_cons_self)
    unfold He.keyOf at h2
    split at h2
    · rename_i x tk q
      obtain ⟨h5, _⟩ := Prod.mk.inj (Option.some.inj h2)
      obtain ⟨hs, ky, vl⟩ := e
      have q : ky = .str x tk := q
      subst q h5
      constructor
      · rw [List.find?_cons_of_neg (by show ¬ (x == z) = true; rw [beq_iff_eq]; exact hk)]
        exact i1
      · rw [List.any_cons, i2]
        rfl
    · cases h2
theorem sorts_P (z : Str) : sorts z = (shP.find? fun q => decide (q.1 = z)).map (·.2) := by
  by_cases hz : z ∈ shP.map (·.1)
  · have key : ∀ y ∈ shP.map (·.1), sorts y = (shP.find? fun q => decide (q.1 = y)).map (·.2) := by
      have : ((shP.map (·.1)).all fun y => decide (sorts y = (shP.find? fun q => decide (q.1 = y)).map (·.2))) = true := by decide +kernel
      exact fun y hy => of_decide_eq_true (List.all_eq_true.mp this y hy)
    exact key z hz
  · have n1 : (shP.find? fun q => decide (q.1 = z)) = none := List.find?_eq_none.mpr fun q hq e => hz (List.mem_map.mpr ⟨q, hq, of_decide_eq_true e⟩)
    have sub : ∀ y ∈ shT.map (·.1), y ∈ shP.map (·.1) := by
      have : ((shT.map (·.1)).all fun y => (shP.map (·.1)).contains y) = true := by decide +kernel
      exact fun y hy => List.contains_iff_mem.mp (List.all_eq_true.mp this y hy)
    have n2 : (shT.find? fun q => decide (q.1 = z)) = none := List.find?_eq_none.mpr fun q hq e => hz (sub z (List.mem_map.mpr ⟨q, hq, of_decide_eq_true e⟩))
    unfold sorts
    rw [n1, n2]
theorem shp_ok (t : Told w K h mg) : ShpK K w (He.ga K "SHAPES") := by
  have dw : He.dicW K (He.ga K "SHAPES") = some (He.keysIn w.params (shP.map (·.1))) := by
    have := congrArg (fun z : He.AlT => z.2) t.s.t
    have z := congrArg List.head? this
    exact Option.some.inj z
  obtain ⟨es, n, D⟩ := He.dicW_ok dw
  have vb := (exs t).2.2.1
  have kl : es.toList.map He.keyOf = He.keysIn w.params (shP.map (·.1)) := by
    unfold He.dicW at dw
    rw [D.at_] at dw
    have d1 : (decide ("dict" = "dict") && ((#[] : Array (Option Value)).isEmpty && !(He.ga K "SHAPES" == sysModules))) = true := by rw [D.low]; rfl
    have dw2 : (match decide ("dict" = "dict") && ((#[] : Array (Option Value)).isEmpty && !(He.ga K "SHAPES" == sysModules)) with
      | true => some (es.toList.map He.keyOf)
      | false => none) = some (He.keysIn w.params (shP.map (·.1))) := dw
    rw [d1] at dw2
    exact Option.some.inj dw2
  have hit : ∀ q ∈ shP, ∃ u, PySem.W.nsIn K (He.ga K "SHAPES") q.1 = some (some u) ∧ RelV (.str q.2) u := fun q hq => He.valsB_ok vb (q := (q.1, .str q.2)) (List.mem_map.mpr ⟨q, hq, rfl⟩)
  refine ⟨fun z H => .inr (.inr (.inr ?_)), fun z s hs => ?_⟩
  · by_cases hz : z ∈ shP.map (·.1)
    · obtain ⟨q, hq, rfl⟩ := List.mem_map.mp hz
      obtain ⟨u, hu, _⟩ := hit q hq
      refine ⟨_, es, n, q.1, _, D, rfl, rfl, hu, ?_⟩
      rw [sorts_P]
      cases e : shP.find? fun r => decide (r.1 = q.1) with
      | some r => rfl
      | none => exact absurd (decide_eq_true rfl) (List.find?_eq_none.mp e q hq)
    · obtain ⟨i1, i2⟩ := shp_none kl hz
      refine ⟨_, es, n, z, none, D, rfl, rfl, ?_, ?_⟩
      · unfold PySem.W.nsIn
        rw [D.at_]
        show (match es.toList.find? (·.key.isStr z) with
          | some e => some (some e.val)
          | none => if es.toList.any (·.refKey) then none else some none) = some none
        rw [i1, i2]
        rfl
      · rw [sorts_P, List.find?_eq_none.mpr fun q hq e => hz (List.mem_map.mpr ⟨q, hq, of_decide_eq_true e⟩)]
        rfl
  · rw [sorts_P] at hs
    obtain ⟨q, hq, rfl⟩ := Option.map_eq_some_iff.mp hs
    have e1 := List.find?_some hq
    obtain ⟨u, hu, r⟩ := hit q (List.mem_of_find?_eq_some hq)
    have e2 : q.1 = z := of_decide_eq_true e1
    rw [e2] at hu
    exact ⟨es, n, u, D.at_, D.lit, hu, r⟩
theorem k_is_digits (t : Told w K h mg) : KnF P w K mg base 2 "is_digits" spDg :=
  mkF (s := s_is_digits) (Δ := l_is_digits) (ps := p_is_digits) (Γ := gam K w [] [("DIGITS", .str digs)] [] [] [] []) (k := 1) t.s (List.mem_of_getElem? (i := 2) rfl) (glo t (List.mem_of_getElem? (i := 2) rfl)) ⟨rfl, rfl, rfl, by decide +kernel, rfl, by decide +kernel, by decide +kernel⟩ c_is_digits (gam_ok (sta t) al0 (al1 (by obtain ⟨u, e⟩ := He.str_ok t.X t.G (t.s.t.d.facts (f := .str "DIGITS" digs) (List.mem_of_getElem? (i := 55) rfl)); exact ⟨_, e, u, rfl⟩) al0) al0 al0 al0 al0) (fun vs H Q E z => by obtain ⟨_, e, _⟩ := z; rw [e]; rfl) (fun _ _ _ _ _ _ us hl => match us, hl with | [_], _ => rfl) (w_is_digits m0)
theorem k_x_is_digits (t : Told w K h mg) : KnF P w K mg base 2 "_law_x_is_digits" spDg :=
  mkF (s := s__law_x_is_digits) (Δ := l__law_x_is_digits) (ps := p__law_x_is_digits) (Γ := gam K w [] [] [] [] [] []) (k := 1) t.s (List.mem_of_getElem? (i := 20) rfl) (glo t (List.mem_of_getElem? (i := 20) rfl)) ⟨rfl, rfl, rfl, by decide +kernel, rfl, by decide +kernel, by decide +kernel⟩ c__law_x_is_digits (gam_ok (sta t) al0 al0 al0 al0 al0 al0) (fun vs H Q E z => by obtain ⟨_, e, _⟩ := z; rw [e]; rfl) (fun _ _ _ _ _ _ us hl => match us, hl with | [_], _ => rfl) (w_x_is_digits)
theorem k_whole_of (t : Told w K h mg) : KnF P w K mg base 2 "whole_of" spWhole :=
  mkF (s := s_whole_of) (Δ := l_whole_of) (ps := p_whole_of) (Γ := gam K w [] [] [] [] [] []) (k := 1) t.s (List.mem_of_getElem? (i := 3) rfl) (glo t (List.mem_of_getElem? (i := 3) rfl)) ⟨rfl, rfl, rfl, by decide +kernel, rfl, by decide +kernel, by decide +kernel⟩ c_whole_of (gam_ok (sta t) al0 al0 al0 al0 al0 al0) (fun vs H Q E z => by obtain ⟨_, e, _⟩ := z; rw [e]; rfl) (fun _ _ _ _ _ _ us hl => match us, hl with | [_], _ => rfl) (w_whole)
theorem k_x_at (t : Told w K h mg) : KnF P w K mg base 2 "_law_x_at" spAt :=
  mkF (s := s__law_x_at) (Δ := l__law_x_at) (ps := p__law_x_at) (Γ := gam K w [] [] [] [] [] []) (k := 1) t.s (List.mem_of_getElem? (i := 23) rfl) (glo t (List.mem_of_getElem? (i := 23) rfl)) ⟨rfl, rfl, rfl, by decide +kernel, rfl, by decide +kernel, by decide +kernel⟩ c__law_x_at (gam_ok (sta t) al0 al0 al0 al0 al0 al0) (fun vs H Q E z => by obtain ⟨_, _, _, e, _⟩ := z; rw [e]; rfl) (fun _ _ _ _ _ _ us hl => match us, hl with | [_, _], _ => rfl) (w_at)
theorem k_is_name (t : Told w K h mg) : KnF P w K mg base 2 "is_name" spNm :=
  mkF (s := s_is_name) (Δ := l_is_name) (ps := p_is_name) (Γ := gam K w [] [("WORDS", .ref (He.ga K "WORDS")), ("LETTERS", .str letters), ("FIGURES", .str digs)] [] [] [] []) (k := 1) t.s (List.mem_of_getElem? (i := 1) rfl) (glo t (List.mem_of_getElem? (i := 1) rfl)) ⟨rfl, rfl, rfl, by decide +kernel, rfl, by decide +kernel, by decide +kernel⟩ c_is_name (gam_ok (sta t) al0 (al1 (⟨_, glo t (List.mem_of_getElem? (i := 53) rfl), rfl⟩) (al1 (by obtain ⟨u, e⟩ := He.str_ok t.X t.G (t.s.t.d.facts (f := .str "LETTERS" letters) (List.mem_of_getElem? (i := 56) rfl)); exact ⟨_, e, u, rfl⟩) (al1 (by obtain ⟨u, e⟩ := He.str_ok t.X t.G (t.s.t.d.facts (f := .str "FIGURES" digs) (List.mem_of_getElem? (i := 57) rfl)); exact ⟨_, e, u, rfl⟩) al0))) al0 al0 al0 al0) (fun vs H Q E z => by obtain ⟨_, e, _⟩ := z; rw [e]; rfl) (fun _ _ _ _ _ _ us hl => match us, hl with | [_], _ => rfl) (w_is_name m0 (exs t).1 (m1 m0) (m1 (m1 m0)))
theorem k_b_is_name (t : Told w K h mg) : KnF P w K mg base 2 "_law_b_is_name" spNm :=
  mkF (s := s__law_b_is_name) (Δ := l__law_b_is_name) (ps := p__law_b_is_name) (Γ := gam K w [] [] [] [] [] []) (k := 1) t.s (List.mem_of_getElem? (i := 18) rfl) (glo t (List.mem_of_getElem? (i := 18) rfl)) ⟨rfl, rfl, rfl, by decide +kernel, rfl, by decide +kernel, by decide +kernel⟩ c__law_b_is_name (gam_ok (sta t) al0 al0 al0 al0 al0 al0) (fun vs H Q E z => by obtain ⟨_, e, _⟩ := z; rw [e]; rfl) (fun _ _ _ _ _ _ us hl => match us, hl with | [_], _ => rfl) (w_b_is_name)
theorem k_shapes (t : Told w K h mg) : KnF P w K mg base 2 "_law_x_shapes" spShapes :=
  mkF (s := s__law_x_shapes) (Δ := l__law_x_shapes) (ps := p__law_x_shapes) (Γ := gam K w [] [] [] [] [] []) (k := 1) t.s (List.mem_of_getElem? (i := 19) rfl) (glo t (List.mem_of_getElem? (i := 19) rfl)) ⟨rfl, rfl, rfl, by decide +kernel, rfl, by decide +kernel, by decide +kernel⟩ c__law_x_shapes (gam_ok (sta t) al0 al0 al0 al0 al0 al0) (fun vs H Q E z => by obtain ⟨e, _⟩ := z; rw [e]; rfl) (fun _ _ _ _ _ _ us hl => match us, hl with | [], _ => rfl) (w_shapes)
theorem k_draw (t : Told w K h mg) : KnF P w K mg base 2 "_law_draw" spDraw :=
  mkF (s := s__law_draw) (Δ := l__law_draw) (ps := p__law_draw) (Γ := gam K w [] [] [] [] [] []) (k := 1) t.s (List.mem_of_getElem? (i := 9) rfl) (glo t (List.mem_of_getElem? (i := 9) rfl)) ⟨rfl, rfl, rfl, by decide +kernel, rfl, by decide +kernel, by decide +kernel⟩ c__law_draw (gam_ok (sta t) al0 al0 al0 al0 al0 al0) (fun vs H Q E z => by obtain ⟨_, _, _, _, e, _⟩ := z; rw [e]; rfl) (fun _ _ _ _ _ _ us hl => match us, hl with | [_, _], _ => rfl) (w_draw)
theorem k_stream (t : Told w K h mg) : KnF P w K mg base 2 "_law_stream" (spStream (Γ := gam K w [] [] [] [] [] [])) :=
  mkF (s := s__law_stream) (Δ := l__law_stream) (ps := p__law_stream) (Γ := gam K w [] [] [] [] [] []) (k := 1) t.s (List.mem_of_getElem? (i := 8) rfl) (glo t (List.mem_of_getElem? (i := 8) rfl)) ⟨rfl, rfl, rfl, by decide +kernel, rfl, by decide +kernel, by decide +kernel⟩ c__law_stream (gam_ok (sta t) al0 al0 al0 al0 al0 al0) (fun vs H Q E z => by obtain ⟨_, _, e, _⟩ := z; rw [e]; rfl) (fun _ _ _ _ _ _ us hl => match us, hl with | [_], _ => rfl) (w_stream)
theorem k_placed (t : Told w K h mg) : KnF P w K mg base 2 "_law_w_placed" spPlaced :=
  mkF (s := s__law_w_placed) (Δ := l__law_w_placed) (ps := p__law_w_placed) (Γ := gam K w [] [] [] [] [] []) (k := 1) t.s (List.mem_of_getElem? (i := 16) rfl) (glo t (List.mem_of_getElem? (i := 16) rfl)) ⟨rfl, rfl, rfl, by decide +kernel, rfl, by decide +kernel, by decide +kernel⟩ c__law_w_placed (gam_ok (sta t) al0 al0 al0 al0 al0 al0) (fun vs H Q E z => by obtain ⟨_, _, e, _⟩ := z; rw [e]; rfl) (fun _ _ _ _ _ _ us hl => match us, hl with | [_], _ => rfl) (w_placed)
theorem k_marks (t : Told w K h mg) : KnF P w K mg base 2 "_law_x_code_marks" spMarks :=
  mkF (s := s__law_x_code_marks) (Δ := l__law_x_code_marks) (ps := p__law_x_code_marks) (Γ := gam K w [] [] [] [] [] []) (k := 1) t.s (List.mem_of_getElem? (i := 25) rfl) (glo t (List.mem_of_getElem? (i := 25) rfl)) ⟨rfl, rfl, rfl, by decide +kernel, rfl, by decide +kernel, by decide +kernel⟩ c__law_x_code_marks (gam_ok (sta t) al0 al0 al0 al0 al0 al0) (fun vs H Q E z => by obtain ⟨_, _, e, _⟩ := z; rw [e]; rfl) (fun _ _ _ _ _ _ us hl => match us, hl with | [_], _ => rfl) (w_marks)
theorem k_same0 (t : Told w K h mg) : KnF P w K mg base 2 "_law_same" (spSame 0) :=
  mkF (s := s__law_same) (Δ := l__law_same) (ps := p__law_same) (Γ := gam K w [] [] [] [] [] []) (k := 1) t.s (List.mem_of_getElem? (i := 11) rfl) (glo t (List.mem_of_getElem? (i := 11) rfl)) ⟨rfl, rfl, rfl, by decide +kernel, rfl, by decide +kernel, by decide +kernel⟩ c__law_same (gam_ok (sta t) al0 al0 al0 al0 al0 al0) (fun vs H Q E z => by obtain ⟨_, _, _, _, _, e, _⟩ := z; rw [e]; rfl) (fun _ _ _ _ _ _ us hl => match us, hl with | [_, _], _ => rfl) (w_same fun m e => nomatch e)
theorem k_same1 (t : Told w K h mg) : KnF P w K mg base 3 "_law_same" (spSame 1) :=
  mkF (s := s__law_same) (Δ := l__law_same) (ps := p__law_same) (Γ := gam K w [("_law_same", spSame 0)] [] [] [] [] []) (k := 2) t.s (List.mem_of_getElem? (i := 11) rfl) (glo t (List.mem_of_getElem? (i := 11) rfl)) ⟨rfl, rfl, rfl, by decide +kernel, rfl, by decide +kernel, by decide +kernel⟩ c__law_same (gam_ok (sta t) (al1 ((k_same0 t).mono (by decide)) al0) al0 al0 al0 al0 al0) (fun vs H Q E z => by obtain ⟨_, _, _, _, _, e, _⟩ := z; rw [e]; rfl) (fun _ _ _ _ _ _ us hl => match us, hl with | [_, _], _ => rfl) (w_same fun m e => by cases e; exact m0)
theorem k_same2 (t : Told w K h mg) : KnF P w K mg base 4 "_law_same" (spSame 2) :=
  mkF (s := s__law_same) (Δ := l__law_same) (ps := p__law_same) (Γ := gam K w [("_law_same", spSame 1)] [] [] [] [] []) (k := 3) t.s (List.mem_of_getElem? (i := 11) rfl) (glo t (List.mem_of_getElem? (i := 11) rfl)) ⟨rfl, rfl, rfl, by decide +kernel, rfl, by decide +kernel, by decide +kernel⟩ c__law_same (gam_ok (sta t) (al1 ((k_same1 t).mono (by decide)) al0) al0 al0 al0 al0 al0) (fun vs H Q E z => by obtain ⟨_, _, _, _, _, e, _⟩ := z; rw [e]; rfl) (fun _ _ _ _ _ _ us hl => match us, hl with | [_, _], _ => rfl) (w_same fun m e => by cases e; exact m0)
theorem k_same3 (t : Told w K h mg) : KnF P w K mg base 5 "_law_same" (spSame 3) :=
  mkF (s := s__law_same) (Δ := l__law_same) (ps := p__law_same) (Γ := gam K w [("_law_same", spSame 2)] [] [] [] [] []) (k := 4) t.s (List.mem_of_getElem? (i := 11) rfl) (glo t (List.mem_of_getElem? (i := 11) rfl)) ⟨rfl, rfl, rfl, by decide +kernel, rfl, by decide +kernel, by decide +kernel⟩ c__law_same (gam_ok (sta t) (al1 ((k_same2 t).mono (by decide)) al0) al0 al0 al0 al0 al0) (fun vs H Q E z => by obtain ⟨_, _, _, _, _, e, _⟩ := z; rw [e]; rfl) (fun _ _ _ _ _ _ us hl => match us, hl with | [_, _], _ => rfl) (w_same fun m e => by cases e; exact m0)
theorem k_same4 (t : Told w K h mg) : KnF P w K mg base 6 "_law_same" (spSame 4) :=
  mkF (s := s__law_same) (Δ := l__law_same) (ps := p__law_same) (Γ := gam K w [("_law_same", spSame 3)] [] [] [] [] []) (k := 5) t.s (List.mem_of_getElem? (i := 11) rfl) (glo t (List.mem_of_getElem? (i := 11) rfl)) ⟨rfl, rfl, rfl, by decide +kernel, rfl, by decide +kernel, by decide +kernel⟩ c__law_same (gam_ok (sta t) (al1 ((k_same3 t).mono (by decide)) al0) al0 al0 al0 al0 al0) (fun vs H Q E z => by obtain ⟨_, _, _, _, _, e, _⟩ := z; rw [e]; rfl) (fun _ _ _ _ _ _ us hl => match us, hl with | [_, _], _ => rfl) (w_same fun m e => by cases e; exact m0)
theorem k_same5 (t : Told w K h mg) : KnF P w K mg base 7 "_law_same" (spSame 5) :=
  mkF (s := s__law_same) (Δ := l__law_same) (ps := p__law_same) (Γ := gam K w [("_law_same", spSame 4)] [] [] [] [] []) (k := 6) t.s (List.mem_of_getElem? (i := 11) rfl) (glo t (List.mem_of_getElem? (i := 11) rfl)) ⟨rfl, rfl, rfl, by decide +kernel, rfl, by decide +kernel, by decide +kernel⟩ c__law_same (gam_ok (sta t) (al1 ((k_same4 t).mono (by decide)) al0) al0 al0 al0 al0 al0) (fun vs H Q E z => by obtain ⟨_, _, _, _, _, e, _⟩ := z; rw [e]; rfl) (fun _ _ _ _ _ _ us hl => match us, hl with | [_, _], _ => rfl) (w_same fun m e => by cases e; exact m0)
theorem k_same6 (t : Told w K h mg) : KnF P w K mg base 8 "_law_same" (spSame 6) :=
  mkF (s := s__law_same) (Δ := l__law_same) (ps := p__law_same) (Γ := gam K w [("_law_same", spSame 5)] [] [] [] [] []) (k := 7) t.s (List.mem_of_getElem? (i := 11) rfl) (glo t (List.mem_of_getElem? (i := 11) rfl)) ⟨rfl, rfl, rfl, by decide +kernel, rfl, by decide +kernel, by decide +kernel⟩ c__law_same (gam_ok (sta t) (al1 ((k_same5 t).mono (by decide)) al0) al0 al0 al0 al0 al0) (fun vs H Q E z => by obtain ⟨_, _, _, _, _, e, _⟩ := z; rw [e]; rfl) (fun _ _ _ _ _ _ us hl => match us, hl with | [_, _], _ => rfl) (w_same fun m e => by cases e; exact m0)
theorem k_same7 (t : Told w K h mg) : KnF P w K mg base 9 "_law_same" (spSame 7) :=
  mkF (s := s__law_same) (Δ := l__law_same) (ps := p__law_same) (Γ := gam K w [("_law_same", spSame 6)] [] [] [] [] []) (k := 8) t.s (List.mem_of_getElem? (i := 11) rfl) (glo t (List.mem_of_getElem? (i := 11) rfl)) ⟨rfl, rfl, rfl, by decide +kernel, rfl, by decide +kernel, by decide +kernel⟩ c__law_same (gam_ok (sta t) (al1 ((k_same6 t).mono (by decide)) al0) al0 al0 al0 al0 al0) (fun vs H Q E z => by obtain ⟨_, _, _, _, _, e, _⟩ := z; rw [e]; rfl) (fun _ _ _ _ _ _ us hl => match us, hl with | [_, _], _ => rfl) (w_same fun m e => by cases e; exact m0)
theorem k_same8 (t : Told w K h mg) : KnF P w K mg base 10 "_law_same" (spSame 8) :=
  mkF (s := s__law_same) (Δ := l__law_same) (ps := p__law_same) (Γ := gam K w [("_law_same", spSame 7)] [] [] [] [] []) (k := 9) t.s (List.mem_of_getElem? (i := 11) rfl) (glo t (List.mem_of_getElem? (i := 11) rfl)) ⟨rfl, rfl, rfl, by decide +kernel, rfl, by decide +kernel, by decide +kernel⟩ c__law_same (gam_ok (sta t) (al1 ((k_same7 t).mono (by decide)) al0) al0 al0 al0 al0 al0) (fun vs H Q E z => by obtain ⟨_, _, _, _, _, e, _⟩ := z; rw [e]; rfl) (fun _ _ _ _ _ _ us hl => match us, hl with | [_, _], _ => rfl) (w_same fun m e => by cases e; exact m0)
theorem k_next (t : Told w K h mg) : KnF P w K mg base 3 "_law_x_next" spNext :=
  mkF (s := s__law_x_next) (Δ := l__law_x_next) (ps := p__law_x_next) (Γ := gam K w [("_law_x_at", spAt)] [] [] [] [] []) (k := 2) t.s (List.mem_of_getElem? (i := 27) rfl) (glo t (List.mem_of_getElem? (i := 27) rfl)) ⟨rfl, rfl, rfl, by decide +kernel, rfl, by decide +kernel, by decide +kernel⟩ c__law_x_next (gam_ok (sta t) (al1 ((k_x_at t).mono (by decide)) al0) al0 al0 al0 al0 al0) (fun vs H Q E z => by obtain ⟨_, _, _, _, _, e, _⟩ := z; rw [e]; rfl) (fun _ _ _ _ _ _ us hl => match us, hl with | [_], _ => rfl) (w_next m0)
theorem k_take (t : Told w K h mg) : KnF P w K mg base 3 "_law_x_take" spTake :=
  mkF (s := s__law_x_take) (Δ := l__law_x_take) (ps := p__law_x_take) (Γ := gam K w [("_law_x_at", spAt)] [] [] [] [] []) (k := 2) t.s (List.mem_of_getElem? (i := 26) rfl) (glo t (List.mem_of_getElem? (i := 26) rfl)) ⟨rfl, rfl, rfl, by decide +kernel, rfl, by decide +kernel, by decide +kernel⟩ c__law_x_take (gam_ok (sta t) (al1 ((k_x_at t).mono (by decide)) al0) al0 al0 al0 al0 al0) (fun vs H Q E z => by obtain ⟨_, _, _, _, _, _, e, _⟩ := z; rw [e]; rfl) (fun _ _ _ _ _ _ us hl => match us, hl with | [_, _], _ => rfl) (w_take m0)
theorem k_number (t : Told w K h mg) : KnF P w K mg base 3 "_law_x_number" spNumber :=
  mkF (s := s__law_x_number) (Δ := l__law_x_number) (ps := p__law_x_number) (Γ := gam K w [("_law_x_is_digits", spDg)] [] [] [] [] []) (k := 2) t.s (List.mem_of_getElem? (i := 21) rfl) (glo t (List.mem_of_getElem? (i := 21) rfl)) ⟨rfl, rfl, rfl, by decide +kernel, rfl, by decide +kernel, by decide +kernel⟩ c__law_x_number (gam_ok (sta t) (al1 ((k_x_is_digits t).mono (by decide)) al0) al0 al0 al0 al0 al0) (fun vs H Q E z => by obtain ⟨_, _, e, _⟩ := z; rw [e]; rfl) (fun _ _ _ _ _ _ us hl => match us, hl with | [_, _, _], _ => rfl) (w_number m0)
theorem k_integer (t : Told w K h mg) : KnF P w K mg base 3 "_law_x_integer" spInteger :=
  mkF (s := s__law_x_integer) (Δ := l__law_x_integer) (ps := p__law_x_integer) (Γ := gam K w [("_law_x_is_digits", spDg)] [] [] [] [] []) (k := 2) t.s (List.mem_of_getElem? (i := 22) rfl) (glo t (List.mem_of_getElem? (i := 22) rfl)) ⟨rfl, rfl, rfl, by decide +kernel, rfl, by decide +kernel, by decide +kernel⟩ c__law_x_integer (gam_ok (sta t) (al1 ((k_x_is_digits t).mono (by decide)) al0) al0 al0 al0 al0 al0) (fun vs H Q E z => by obtain ⟨_, e, _⟩ := z; rw [e]; rfl) (fun _ _ _ _ _ _ us hl => match us, hl with | [_], _ => rfl) (w_integer m0)
theorem k_told (t : Told w K h mg) : KnF P w K mg base 4 "_law_x_told" spTold :=
  mkF (s := s__law_x_told) (Δ := l__law_x_told) (ps := p__law_x_told) (Γ := gam K w [("_law_x_take", spTake)] [] [] [] [] []) (k := 3) t.s (List.mem_of_getElem? (i := 28) rfl) (glo t (List.mem_of_getElem? (i := 28) rfl)) ⟨rfl, rfl, rfl, by decide +kernel, rfl, by decide +kernel, by decide +kernel⟩ c__law_x_told (gam_ok (sta t) (al1 ((k_take t).mono (by decide)) al0) al0 al0 al0 al0 al0) (fun vs H Q E z => by obtain ⟨_, _, _, _, _, _, _, e, _⟩ := z; rw [e]; rfl) (fun _ _ _ _ _ _ us hl => match us, hl with | [_, _], _ => rfl) (w_told m0)
theorem k_count (t : Told w K h mg) : KnF P w K mg base 5 "_law_x_count" spCount :=
  mkF (s := s__law_x_count) (Δ := l__law_x_count) (ps := p__law_x_count) (Γ := gam K w [("_law_x_told", spTold), ("_law_x_number", spNumber), ("_law_x_next", spNext)] [] [] [] [] []) (k := 4) t.s (List.mem_of_getElem? (i := 29) rfl) (glo t (List.mem_of_getElem? (i := 29) rfl)) ⟨rfl, rfl, rfl, by decide +kernel, rfl, by decide +kernel, by decide +kernel⟩ c__law_x_count (gam_ok (sta t) (al1 ((k_told t).mono (by decide)) (al1 ((k_number t).mono (by decide)) (al1 ((k_next t).mono (by decide)) al0))) al0 al0 al0 al0 al0) (fun vs H Q E z => by obtain ⟨_, _, _, _, _, _, e, _⟩ := z; rw [e]; rfl) (fun _ _ _ _ _ _ us hl => match us, hl with | [_, _, _], _ => rfl) (w_count m0 (m1 m0) (m1 (m1 m0)))
theorem k_part (t : Told w K h mg) : KnF P w K mg base 6 "_law_part" spPart :=
  mkF (s := s__law_part) (Δ := l__law_part) (ps := p__law_part) (Γ := gam K w [("_law_x_told", spTold), ("_law_x_integer", spInteger), ("_law_x_next", spNext), ("_law_x_count", spCount), ("_law_x_take", spTake), ("_law_b_is_name", spNm)] [] [] [] [] []) (k := 5) t.s (List.mem_of_getElem? (i := 31) rfl) (glo t (List.mem_of_getElem? (i := 31) rfl)) ⟨rfl, rfl, rfl, by decide +kernel, rfl, by decide +kernel, by decide +kernel⟩ c__law_part (gam_ok (sta t) (al1 ((k_told t).mono (by decide)) (al1 ((k_integer t).mono (by decide)) (al1 ((k_next t).mono (by decide)) (al1 ((k_count t).mono (by decide)) (al1 ((k_take t).mono (by decide)) (al1 ((k_b_is_name t).mono (by decide)) al0)))))) al0 al0 al0 al0 al0) (fun vs H Q E z => by obtain ⟨_, _, _, _, _, _, e, _⟩ := z; rw [e]; rfl) (fun _ _ _ _ _ _ us hl => match us, hl with | [_, _], _ => rfl) (w_part m0 (m1 m0) (m1 (m1 m0)) (m1 (m1 (m1 m0))) (m1 (m1 (m1 (m1 m0)))) (m1 (m1 (m1 (m1 (m1 m0))))))
theorem k_due (t : Told w K h mg) : KnF P w K mg base 7 "_law_due" spDue :=
  mkF (s := s__law_due) (Δ := l__law_due) (ps := p__law_due) (Γ := gam K w [("_law_x_next", spNext), ("_law_x_take", spTake), ("_law_x_count", spCount), ("_law_part", spPart), ("_law_b_is_name", spNm), ("_law_x_shapes", spShapes)] [] [] [] [] []) (k := 6) t.s (List.mem_of_getElem? (i := 32) rfl) (glo t (List.mem_of_getElem? (i := 32) rfl)) ⟨rfl, rfl, rfl, by decide +kernel, rfl, by decide +kernel, by decide +kernel⟩ c__law_due (gam_ok (sta t) (al1 ((k_next t).mono (by decide)) (al1 ((k_take t).mono (by decide)) (al1 ((k_count t).mono (by decide)) (al1 ((k_part t).mono (by decide)) (al1 ((k_b_is_name t).mono (by decide)) (al1 ((k_shapes t).mono (by decide)) al0)))))) al0 al0 al0 al0 al0) (fun vs H Q E z => by obtain ⟨_, _, e, _⟩ := z; rw [e]; rfl) (fun _ _ _ _ _ _ us hl => match us, hl with | [_], _ => rfl) (w_due ⟨m0, m1 m0, m1 (m1 m0), m1 (m1 (m1 m0)), m1 (m1 (m1 (m1 m0))), m1 (m1 (m1 (m1 (m1 m0))))⟩)
theorem k_pick (t : Told w K h mg) : KnF P w K mg base 3 "_law_pick" spPick :=
  mkF (s := s__law_pick) (Δ := l__law_pick) (ps := p__law_pick) (Γ := gam K w [("_law_draw", spDraw)] [] [] [] [] []) (k := 2) t.s (List.mem_of_getElem? (i := 10) rfl) (glo t (List.mem_of_getElem? (i := 10) rfl)) ⟨rfl, rfl, rfl, by decide +kernel, rfl, by decide +kernel, by decide +kernel⟩ c__law_pick (gam_ok (sta t) (al1 ((k_draw t).mono (by decide)) al0) al0 al0 al0 al0 al0) (fun vs H Q E z => by obtain ⟨_, _, _, _, _, e, _⟩ := z; rw [e]; rfl) (fun _ _ _ _ _ _ us hl => match us, hl with | [_, _], _ => rfl) (w_pick m0)
theorem k_num0 (t : Told w K h mg) : KnF P w K mg base 4 "_law_w_number" (spGen 4 0 1 0) :=
  mkF (s := s__law_w_number) (Δ := l__law_w_number) (ps := p__law_w_number) (Γ := gam K w [("_law_draw", spDraw), ("_law_pick", spPick)] [] [] [] [] []) (k := 3) t.s (List.mem_of_getElem? (i := 12) rfl) (glo t (List.mem_of_getElem? (i := 12) rfl)) ⟨rfl, rfl, rfl, by decide +kernel, rfl, by decide +kernel, by decide +kernel⟩ c__law_w_number (gam_ok (sta t) (al1 ((k_draw t).mono (by decide)) (al1 ((k_pick t).mono (by decide)) al0)) al0 al0 al0 al0 al0) (fun vs H Q E z => by obtain ⟨_, _, _, e, _⟩ := z; rw [e]; rfl) (fun _ _ _ _ _ _ us hl => match us, hl with | [_, _], _ => rfl) (w_gnum (C1 := 0) (CL := 0) (n1 := 0) (nl := 0) ⟨m0, m1 m0⟩ (by omega) (by omega) (fun z => absurd z (by omega)))
theorem k_lst0 (t : Told w K h mg) : KnF P w K mg base 5 "_law_w_listed" (spGen 2 0 1 0) :=
  mkF (s := s__law_w_listed) (Δ := l__law_w_listed) (ps := p__law_w_listed) (Γ := gam K w [("_law_draw", spDraw), ("_law_pick", spPick), ("_law_w_number", spGen 4 0 1 0)] [] [] [] [] []) (k := 4) t.s (List.mem_of_getElem? (i := 13) rfl) (glo t (List.mem_of_getElem? (i := 13) rfl)) ⟨rfl, rfl, rfl, by decide +kernel, rfl, by decide +kernel, by decide +kernel⟩ c__law_w_listed (gam_ok (sta t) (al1 ((k_draw t).mono (by decide)) (al1 ((k_pick t).mono (by decide)) (al1 ((k_num0 t).mono (by decide)) al0))) al0 al0 al0 al0 al0) (fun vs H Q E z => by obtain ⟨_, _, _, e, _⟩ := z; rw [e]; rfl) (fun _ _ _ _ _ _ us hl => match us, hl with | [_, _], _ => rfl) (w_listed ⟨m0, m1 m0⟩ (m1 (m1 m0)) (by omega) (by omega) (fun z => absurd z (by omega)))
theorem k_lst1 (t : Told w K h mg) : KnF P w K mg base 5 "_law_w_listed" (spGen 16 0 4 1) :=
  mkF (s := s__law_w_listed) (Δ := l__law_w_listed) (ps := p__law_w_listed) (Γ := gam K w [("_law_draw", spDraw), ("_law_pick", spPick), ("_law_w_number", spGen 4 0 1 0)] [] [] [] [] []) (k := 4) t.s (List.mem_of_getElem? (i := 13) rfl) (glo t (List.mem_of_getElem? (i := 13) rfl)) ⟨rfl, rfl, rfl, by decide +kernel, rfl, by decide +kernel, by decide +kernel⟩ c__law_w_listed (gam_ok (sta t) (al1 ((k_draw t).mono (by decide)) (al1 ((k_pick t).mono (by decide)) (al1 ((k_num0 t).mono (by decide)) al0))) al0 al0 al0 al0 al0) (fun vs H Q E z => by obtain ⟨_, _, _, e, _⟩ := z; rw [e]; rfl) (fun _ _ _ _ _ _ us hl => match us, hl with | [_, _], _ => rfl) (w_listed ⟨m0, m1 m0⟩ (m1 (m1 m0)) (by omega) (by omega) (fun _ => ⟨by omega, by omega⟩))
theorem k_lst2 (t : Told w K h mg) : KnF P w K mg base 5 "_law_w_listed" (spGen 16 0 4 2) :=
  mkF (s := s__law_w_listed) (Δ := l__law_w_listed) (ps := p__law_w_listed) (Γ := gam K w [("_law_draw", spDraw), ("_law_pick", spPick), ("_law_w_number", spGen 4 0 1 0)] [] [] [] [] []) (k := 4) t.s (List.mem_of_getElem? (i := 13) rfl) (glo t (List.mem_of_getElem? (i := 13) rfl)) ⟨rfl, rfl, rfl, by decide +kernel, rfl, by decide +kernel, by decide +kernel⟩ c__law_w_listed (gam_ok (sta t) (al1 ((k_draw t).mono (by decide)) (al1 ((k_pick t).mono (by decide)) (al1 ((k_num0 t).mono (by decide)) al0))) al0 al0 al0 al0 al0) (fun vs H Q E z => by obtain ⟨_, _, _, e, _⟩ := z; rw [e]; rfl) (fun _ _ _ _ _ _ us hl => match us, hl with | [_, _], _ => rfl) (w_listed ⟨m0, m1 m0⟩ (m1 (m1 m0)) (by omega) (by omega) (fun _ => ⟨by omega, by omega⟩))
theorem k_idx1 (t : Told w K h mg) : KnF P w K mg base 5 "_law_w_index" (spIdx 1) :=
  mkF (s := s__law_w_index) (Δ := l__law_w_index) (ps := p__law_w_index) (Γ := gam K w [("_law_draw", spDraw), ("_law_pick", spPick), ("_law_w_number", spGen 4 0 1 0)] [] [] [] [] []) (k := 4) t.s (List.mem_of_getElem? (i := 14) rfl) (glo t (List.mem_of_getElem? (i := 14) rfl)) ⟨rfl, rfl, rfl, by decide +kernel, rfl, by decide +kernel, by decide +kernel⟩ c__law_w_index (gam_ok (sta t) (al1 ((k_draw t).mono (by decide)) (al1 ((k_pick t).mono (by decide)) (al1 ((k_num0 t).mono (by decide)) al0))) al0 al0 al0 al0 al0) (fun vs H Q E z => by obtain ⟨_, _, _, _, e, _⟩ := z; rw [e]; rfl) (fun _ _ _ _ _ _ us hl => match us, hl with | [_, _], _ => rfl) (w_index ⟨m0, m1 m0⟩ (m1 (m1 m0)) (by omega))
theorem k_idx4 (t : Told w K h mg) : KnF P w K mg base 5 "_law_w_index" (spIdx 4) :=
  mkF (s := s__law_w_index) (Δ := l__law_w_index) (ps := p__law_w_index) (Γ := gam K w [("_law_draw", spDraw), ("_law_pick", spPick), ("_law_w_number", spGen 4 0 1 0)] [] [] [] [] []) (k := 4) t.s (List.mem_of_getElem? (i := 14) rfl) (glo t (List.mem_of_getElem? (i := 14) rfl)) ⟨rfl, rfl, rfl, by decide +kernel, rfl, by decide +kernel, by decide +kernel⟩ c__law_w_index (gam_ok (sta t) (al1 ((k_draw t).mono (by decide)) (al1 ((k_pick t).mono (by decide)) (al1 ((k_num0 t).mono (by decide)) al0))) al0 al0 al0 al0 al0) (fun vs H Q E z => by obtain ⟨_, _, _, _, e, _⟩ := z; rw [e]; rfl) (fun _ _ _ _ _ _ us hl => match us, hl with | [_, _], _ => rfl) (w_index ⟨m0, m1 m0⟩ (m1 (m1 m0)) (by omega))
theorem k_num1 (t : Told w K h mg) : KnF P w K mg base 6 "_law_w_number" (spGen 10 0 6 1) :=
  mkF (s := s__law_w_number) (Δ := l__law_w_number) (ps := p__law_w_number) (Γ := gam K w [("_law_draw", spDraw), ("_law_pick", spPick), ("_law_w_number", spGen 4 0 1 0), ("_law_w_listed", spGen 2 0 1 0), ("_law_w_index", spIdx 1)] [] [] [] [] []) (k := 5) t.s (List.mem_of_getElem? (i := 12) rfl) (glo t (List.mem_of_getElem? (i := 12) rfl)) ⟨rfl, rfl, rfl, by decide +kernel, rfl, by decide +kernel, by decide +kernel⟩ c__law_w_number (gam_ok (sta t) (al1 ((k_draw t).mono (by decide)) (al1 ((k_pick t).mono (by decide)) (al1 ((k_num0 t).mono (by decide)) (al1 ((k_lst0 t).mono (by decide)) (al1 ((k_idx1 t).mono (by decide)) al0))))) al0 al0 al0 al0 al0) (fun vs H Q E z => by obtain ⟨_, _, _, e, _⟩ := z; rw [e]; rfl) (fun _ _ _ _ _ _ us hl => match us, hl with | [_, _], _ => rfl) (w_gnum (C1 := 4) (CL := 2) (n1 := 1) (nl := 1) ⟨m0, m1 m0⟩ (by omega) (by omega) (fun _ => ⟨m1 (m1 m0), m1 (m1 (m1 m0)), m1 (m1 (m1 (m1 m0))), by omega, by omega, by omega, by omega, by omega, by omega, by omega, by omega, by omega, by omega⟩))
theorem k_num2 (t : Told w K h mg) : KnF P w K mg base 7 "_law_w_number" (spGen 28 0 13 2) :=
  mkF (s := s__law_w_number) (Δ := l__law_w_number) (ps := p__law_w_number) (Γ := gam K w [("_law_draw", spDraw), ("_law_pick", spPick), ("_law_w_number", spGen 10 0 6 1), ("_law_w_listed", spGen 16 0 4 1), ("_law_w_index", spIdx 4)] [] [] [] [] []) (k := 6) t.s (List.mem_of_getElem? (i := 12) rfl) (glo t (List.mem_of_getElem? (i := 12) rfl)) ⟨rfl, rfl, rfl, by decide +kernel, rfl, by decide +kernel, by decide +kernel⟩ c__law_w_number (gam_ok (sta t) (al1 ((k_draw t).mono (by decide)) (al1 ((k_pick t).mono (by decide)) (al1 ((k_num1 t).mono (by decide)) (al1 ((k_lst1 t).mono (by decide)) (al1 ((k_idx4 t).mono (by decide)) al0))))) al0 al0 al0 al0 al0) (fun vs H Q E z => by obtain ⟨_, _, _, e, _⟩ := z; rw [e]; rfl) (fun _ _ _ _ _ _ us hl => match us, hl with | [_, _], _ => rfl) (w_gnum (C1 := 10) (CL := 16) (n1 := 6) (nl := 4) ⟨m0, m1 m0⟩ (by omega) (by omega) (fun _ => ⟨m1 (m1 m0), m1 (m1 (m1 m0)), m1 (m1 (m1 (m1 m0))), by omega, by omega, by omega, by omega, by omega, by omega, by omega, by omega, by omega, by omega⟩))
theorem k_rows0 (t : Told w K h mg) : KnF P w K mg base 8 "_law_w_rows" (spGen 124 0 54 0) :=
  mkF (s := s__law_w_rows) (Δ := l__law_w_rows) (ps := p__law_w_rows) (Γ := gam K w [("_law_draw", spDraw), ("_law_pick", spPick), ("_law_w_number", spGen 28 0 13 2), ("_law_w_number", spGen 10 0 6 1), ("_law_w_listed", spGen 16 0 4 1), ("_law_w_listed", spGen 16 0 4 2), ("_law_w_index", spIdx 4)] [] [] [] [] []) (k := 7) t.s (List.mem_of_getElem? (i := 15) rfl) (glo t (List.mem_of_getElem? (i := 15) rfl)) ⟨rfl, rfl, rfl, by decide +kernel, rfl, by decide +kernel, by decide +kernel⟩ c__law_w_rows (gam_ok (sta t) (al1 ((k_draw t).mono (by decide)) (al1 ((k_pick t).mono (by decide)) (al1 ((k_num2 t).mono (by decide)) (al1 ((k_num1 t).mono (by decide)) (al1 ((k_lst1 t).mono (by decide)) (al1 ((k_lst2 t).mono (by decide)) (al1 ((k_idx4 t).mono (by decide)) al0))))))) al0 al0 al0 al0 al0) (fun vs H Q E z => by obtain ⟨_, _, _, e, _⟩ := z; rw [e]; rfl) (fun _ _ _ _ _ _ us hl => match us, hl with | [_, _], _ => rfl) (w_grows (C0 := 0) (R0 := 0) (CB := 40) (B := 18) ⟨⟨m0, m1 m0⟩, m1 (m1 m0), m1 (m1 (m1 m0)), m1 (m1 (m1 (m1 m0))), m1 (m1 (m1 (m1 (m1 m0)))), m1 (m1 (m1 (m1 (m1 (m1 m0)))))⟩ (.inl rfl) (fun z => absurd z (by omega)) (by omega) (by omega) (by omega) (by omega) (by omega) (by omega))
theorem k_rows1 (t : Told w K h mg) : KnF P w K mg base 9 "_law_w_rows" (spGen 784 0 348 1) :=
  mkF (s := s__law_w_rows) (Δ := l__law_w_rows) (ps := p__law_w_rows) (Γ := gam K w [("_law_draw", spDraw), ("_law_pick", spPick), ("_law_w_number", spGen 28 0 13 2), ("_law_w_number", spGen 10 0 6 1), ("_law_w_listed", spGen 16 0 4 1), ("_law_w_listed", spGen 16 0 4 2), ("_law_w_index", spIdx 4), ("_law_w_rows", spGen 124 0 54 0)] [] [] [] [] []) (k := 8) t.s (List.mem_of_getElem? (i := 15) rfl) (glo t (List.mem_of_getElem? (i := 15) rfl)) ⟨rfl, rfl, rfl, by decide +kernel, rfl, by decide +kernel, by decide +kernel⟩ c__law_w_rows (gam_ok (sta t) (al1 ((k_draw t).mono (by decide)) (al1 ((k_pick t).mono (by decide)) (al1 ((k_num2 t).mono (by decide)) (al1 ((k_num1 t).mono (by decide)) (al1 ((k_lst1 t).mono (by decide)) (al1 ((k_lst2 t).mono (by decide)) (al1 ((k_idx4 t).mono (by decide)) (al1 ((k_rows0 t).mono (by decide)) al0)))))))) al0 al0 al0 al0 al0) (fun vs H Q E z => by obtain ⟨_, _, _, e, _⟩ := z; rw [e]; rfl) (fun _ _ _ _ _ _ us hl => match us, hl with | [_, _], _ => rfl) (w_grows (C0 := 124) (R0 := 54) (CB := 260) (B := 116) ⟨⟨m0, m1 m0⟩, m1 (m1 m0), m1 (m1 (m1 m0)), m1 (m1 (m1 (m1 m0))), m1 (m1 (m1 (m1 (m1 m0)))), m1 (m1 (m1 (m1 (m1 (m1 m0)))))⟩ (.inr rfl) (fun _ => ⟨m1 (m1 (m1 (m1 (m1 (m1 (m1 m0)))))), by omega, by omega, by omega, by omega⟩) (by omega) (by omega) (by omega) (by omega) (by omega) (by omega))
theorem k_codes (t : Told w K h mg) : KnF P w K mg base 10 "_law_w_codes" spCodes :=
  mkF (s := s__law_w_codes) (Δ := l__law_w_codes) (ps := p__law_w_codes) (Γ := gam K w [("_law_draw", spDraw), ("_law_pick", spPick), ("_law_w_number", spGen 10 0 6 1), ("_law_w_rows", spGen 784 0 348 1), ("_law_w_placed", spPlaced)] [] [] [] [] []) (k := 9) t.s (List.mem_of_getElem? (i := 17) rfl) (glo t (List.mem_of_getElem? (i := 17) rfl)) ⟨rfl, rfl, rfl, by decide +kernel, rfl, by decide +kernel, by decide +kernel⟩ c__law_w_codes (gam_ok (sta t) (al1 ((k_draw t).mono (by decide)) (al1 ((k_pick t).mono (by decide)) (al1 ((k_num1 t).mono (by decide)) (al1 ((k_rows1 t).mono (by decide)) (al1 ((k_placed t).mono (by decide)) al0))))) al0 al0 al0 al0 al0) (fun vs H Q E z => by obtain ⟨_, _, _, e, _⟩ := z; rw [e]; rfl) (fun _ _ _ _ _ _ us hl => match us, hl with | [_], _ => rfl) (w_codes ⟨⟨m0, m1 m0⟩, m1 (m1 m0), m1 (m1 (m1 m0)), m1 (m1 (m1 (m1 m0)))⟩)
theorem k_changed (t : Told w K h mg) : KnF P w K mg base 4 "_law_x_changed" spChanged :=
  mkF (s := s__law_x_changed) (Δ := l__law_x_changed) (ps := p__law_x_changed) (Γ := gam K w [("_law_draw", spDraw), ("_law_pick", spPick)] [] [] [] [] []) (k := 3) t.s (List.mem_of_getElem? (i := 24) rfl) (glo t (List.mem_of_getElem? (i := 24) rfl)) ⟨rfl, rfl, rfl, by decide +kernel, rfl, by decide +kernel, by decide +kernel⟩ c__law_x_changed (gam_ok (sta t) (al1 ((k_draw t).mono (by decide)) (al1 ((k_pick t).mono (by decide)) al0)) al0 al0 al0 al0 al0) (fun vs H Q E z => by obtain ⟨_, _, _, _, _, _, e, _⟩ := z; rw [e]; rfl) (fun _ _ _ _ _ _ us hl => match us, hl with | [_, _, _], _ => rfl) (w_changed ⟨m0, m1 m0⟩)
theorem k_bad (t : Told w K h mg) : KnR P w K mg base 2 "BadMark" (cB K) "index" := by
  obtain ⟨_, _, _, T, _, no, ini, ty⟩ := exs t
  obtain ⟨fd, F⟩ := t.s.t.d.defs (d := ⟨("BadMark", some "__init__"), "__init__", "BadMark.__init__", defArgs s_BadMark_init, defBody s_BadMark_init, defScope s_BadMark_init, [], []⟩) (List.mem_of_getElem? (i := 34) rfl)
  exact kn_bad (glo t (List.mem_of_getElem? (i := 35) rfl)) T ini ty (ok_bad F (gam_ok (fns := []) (gvs := []) (mss := []) (mks := []) (fds := []) (rss := []) (k := 0) (sta t) al0 al0 al0 al0 al0 al0) T no) (F.bindsN fun _ _ _ _ _ _ us hl => match us, hl with | [_, _], _ => rfl)
theorem k_init (t : Told w K h mg) : KnC P w K mg base 2 "LineMarks" (cL K) (spInit (cL K)) := by
  obtain ⟨fd, F⟩ := t.s.t.d.defs (d := ⟨("LineMarks", some "__init__"), "__init__", "LineMarks.__init__", defArgs s_LineMarks_init, defBody s_LineMarks_init, defScope s_LineMarks_init, [], []⟩) (List.mem_of_getElem? (i := 35) rfl)
  exact ⟨glo t (List.mem_of_getElem? (i := 36) rfl), _, fd, _, He.mkr_ok (t.s.t.d.facts (f := .mkr "LineMarks") (List.mem_of_getElem? (i := 69) rfl)), ok_init F (gam_ok (fns := []) (gvs := []) (mss := []) (mks := []) (fds := [(cL K, "marks"), (cL K, "at")]) (rss := []) (k := 0) (sta t) al0 al0 al0 al0 (al1 (⟨He.cls_ok (t.s.t.d.facts (f := .cls "LineMarks") (List.mem_of_getElem? (i := 60) rfl)), He.noat_ok (t.s.t.d.facts (f := .noat "LineMarks" "marks") (List.mem_of_getElem? (i := 61) rfl))⟩) (al1 (⟨He.cls_ok (t.s.t.d.facts (f := .cls "LineMarks") (List.mem_of_getElem? (i := 60) rfl)), He.noat_ok (t.s.t.d.facts (f := .noat "LineMarks" "at") (List.mem_of_getElem? (i := 62) rfl))⟩) al0)) al0) rfl m0 (m1 m0), F.bindsN fun _ _ _ _ _ _ us hl => match us, hl with | [_, _], _ => rfl⟩
theorem k_markM (t : Told w K h mg) : KnM P w K mg base 4 (cL K) "mark" (OnC (cL K) spMarkM) :=
  mkM (s := s_LineMarks_mark) (Δ := l_LineMarks_mark) (ps := p_LineMarks_mark) (Γ := gam K w [] [] [] [] [(cL K, "marks"), (cL K, "at")] [("BadMark", cB K, "index")]) (k := 3) t.s (List.mem_of_getElem? (i := 36) rfl) (He.cls_ok (t.s.t.d.facts (f := .cls "LineMarks") (List.mem_of_getElem? (i := 60) rfl))) (He.meth_ok (t.s.t.d.facts (f := .meth "LineMarks" "mark") (List.mem_of_getElem? (i := 63) rfl))) ⟨rfl, rfl, rfl, by decide +kernel, rfl, by decide +kernel, by decide +kernel⟩ c_LineMarks_mark (gam_ok (sta t) al0 al0 al0 al0 (al1 (⟨He.cls_ok (t.s.t.d.facts (f := .cls "LineMarks") (List.mem_of_getElem? (i := 60) rfl)), He.noat_ok (t.s.t.d.facts (f := .noat "LineMarks" "marks") (List.mem_of_getElem? (i := 61) rfl))⟩) (al1 (⟨He.cls_ok (t.s.t.d.facts (f := .cls "LineMarks") (List.mem_of_getElem? (i := 60) rfl)), He.noat_ok (t.s.t.d.facts (f := .noat "LineMarks" "at") (List.mem_of_getElem? (i := 62) rfl))⟩) al0)) (al1 (Hk64.KnR.mono (k_bad t) (by decide)) al0)) (fun vs H Q E z => by obtain ⟨⟨_, _, _, _, _, _, e, _⟩, _⟩ := z; rw [e]; rfl) (fun _ _ _ _ _ _ us hl => match us, hl with | [_], _ => rfl) (w_markM (BM := cB K) ⟨m0, m1 m0, m0⟩)
theorem k_takeM (t : Told w K h mg) : KnM P w K mg base 5 (cL K) "take" (OnC (cL K) (spTakeM (cB K))) :=
  mkM (s := s_LineMarks_take) (Δ := l_LineMarks_take) (ps := p_LineMarks_take) (Γ := gam K w [] [] [(cL K, "mark", OnC (cL K) spMarkM)] [] [(cL K, "marks"), (cL K, "at")] [("BadMark", cB K, "index")]) (k := 4) t.s (List.mem_of_getElem? (i := 37) rfl) (He.cls_ok (t.s.t.d.facts (f := .cls "LineMarks") (List.mem_of_getElem? (i := 60) rfl))) (He.meth_ok (t.s.t.d.facts (f := .meth "LineMarks" "take") (List.mem_of_getElem? (i := 64) rfl))) ⟨rfl, rfl, rfl, by decide +kernel, rfl, by decide +kernel, by decide +kernel⟩ c_LineMarks_take (gam_ok (sta t) al0 al0 (al1 ((k_markM t).mono (by decide)) al0) al0 (al1 (⟨He.cls_ok (t.s.t.d.facts (f := .cls "LineMarks") (List.mem_of_getElem? (i := 60) rfl)), He.noat_ok (t.s.t.d.facts (f := .noat "LineMarks" "marks") (List.mem_of_getElem? (i := 61) rfl))⟩) (al1 (⟨He.cls_ok (t.s.t.d.facts (f := .cls "LineMarks") (List.mem_of_getElem? (i := 60) rfl)), He.noat_ok (t.s.t.d.facts (f := .noat "LineMarks" "at") (List.mem_of_getElem? (i := 62) rfl))⟩) al0)) (al1 (Hk64.KnR.mono (k_bad t) (by decide)) al0)) (fun vs H Q E z => by obtain ⟨⟨_, _, _, _, _, _, _, e, _⟩, _⟩ := z; rw [e]; rfl) (fun _ _ _ _ _ _ us hl => match us, hl with | [_, _], _ => rfl) (w_takeM ⟨m0, m1 m0, m0⟩ m0)
theorem k_tmarkM (t : Told w K h mg) : KnM P w K mg base 6 (cL K) "take_mark" (OnC (cL K) (spTakeMark (cB K))) :=
  mkM (s := s_LineMarks_take_mark) (Δ := l_LineMarks_take_mark) (ps := p_LineMarks_take_mark) (Γ := gam K w [] [] [(cL K, "mark", OnC (cL K) spMarkM), (cL K, "take", OnC (cL K) (spTakeM (cB K)))] [] [] []) (k := 5) t.s (List.mem_of_getElem? (i := 38) rfl) (He.cls_ok (t.s.t.d.facts (f := .cls "LineMarks") (List.mem_of_getElem? (i := 60) rfl))) (He.meth_ok (t.s.t.d.facts (f := .meth "LineMarks" "take_mark") (List.mem_of_getElem? (i := 65) rfl))) ⟨rfl, rfl, rfl, by decide +kernel, rfl, by decide +kernel, by decide +kernel⟩ c_LineMarks_take_mark (gam_ok (sta t) al0 al0 (al1 ((k_markM t).mono (by decide)) (al1 ((k_takeM t).mono (by decide)) al0)) al0 al0 al0) (fun vs H Q E z => by obtain ⟨⟨_, _, _, _, _, _, _, e, _⟩, _⟩ := z; rw [e]; rfl) (fun _ _ _ _ _ _ us hl => match us, hl with | [_, _], _ => rfl) (w_takeMark m0 (m1 m0))
theorem k_numberM (t : Told w K h mg) : KnM P w K mg base 6 (cL K) "number" (OnC (cL K) (spNumberM (cB K))) :=
  mkM (s := s_LineMarks_number) (Δ := l_LineMarks_number) (ps := p_LineMarks_number) (Γ := gam K w [("is_digits", spDg), ("whole_of", spWhole)] [] [(cL K, "mark", OnC (cL K) spMarkM), (cL K, "take", OnC (cL K) (spTakeM (cB K)))] [] [] []) (k := 5) t.s (List.mem_of_getElem? (i := 39) rfl) (He.cls_ok (t.s.t.d.facts (f := .cls "LineMarks") (List.mem_of_getElem? (i := 60) rfl))) (He.meth_ok (t.s.t.d.facts (f := .meth "LineMarks" "number") (List.mem_of_getElem? (i := 66) rfl))) ⟨rfl, rfl, rfl, by decide +kernel, rfl, by decide +kernel, by decide +kernel⟩ c_LineMarks_number (gam_ok (sta t) (al1 ((k_is_digits t).mono (by decide)) (al1 ((k_whole_of t).mono (by decide)) al0)) al0 (al1 ((k_markM t).mono (by decide)) (al1 ((k_takeM t).mono (by decide)) al0)) al0 al0 al0) (fun vs H Q E z => by obtain ⟨⟨_, _, _, _, _, _, _, e, _⟩, _⟩ := z; rw [e]; rfl) (fun _ _ _ _ _ _ us hl => match us, hl with | [_, _, _], _ => rfl) (w_numberM m0 (m1 m0) m0 (m1 m0))
theorem k_integerM (t : Told w K h mg) : KnM P w K mg base 6 (cL K) "integer" (OnC (cL K) (spIntegerM (cB K))) :=
  mkM (s := s_LineMarks_integer) (Δ := l_LineMarks_integer) (ps := p_LineMarks_integer) (Γ := gam K w [("is_digits", spDg), ("whole_of", spWhole)] [("LEAST", .int (-2147483648)), ("GREATEST", .int 2147483647)] [(cL K, "mark", OnC (cL K) spMarkM), (cL K, "take", OnC (cL K) (spTakeM (cB K)))] [] [] []) (k := 5) t.s (List.mem_of_getElem? (i := 40) rfl) (He.cls_ok (t.s.t.d.facts (f := .cls "LineMarks") (List.mem_of_getElem? (i := 60) rfl))) (He.meth_ok (t.s.t.d.facts (f := .meth "LineMarks" "integer") (List.mem_of_getElem? (i := 67) rfl))) ⟨rfl, rfl, rfl, by decide +kernel, rfl, by decide +kernel, by decide +kernel⟩ c_LineMarks_integer (gam_ok (sta t) (al1 ((k_is_digits t).mono (by decide)) (al1 ((k_whole_of t).mono (by decide)) al0)) (al1 (by obtain ⟨u, e⟩ := He.int_ok t.X t.G (t.s.t.d.facts (f := .int "LEAST" (-2147483648)) (List.mem_of_getElem? (i := 58) rfl)); exact ⟨_, e, u, rfl⟩) (al1 (by obtain ⟨u, e⟩ := He.int_ok t.X t.G (t.s.t.d.facts (f := .int "GREATEST" 2147483647) (List.mem_of_getElem? (i := 59) rfl)); exact ⟨_, e, u, rfl⟩) al0)) (al1 ((k_markM t).mono (by decide)) (al1 ((k_takeM t).mono (by decide)) al0)) al0 al0 al0) (fun vs H Q E z => by obtain ⟨⟨_, _, _, _, _, _, e, _⟩, _⟩ := z; rw [e]; rfl) (fun _ _ _ _ _ _ us hl => match us, hl with | [_], _ => rfl) (w_integerM m0 (m1 m0) m0 (m1 m0) m0 (m1 m0))
theorem k_nameM (t : Told w K h mg) : KnM P w K mg base 6 (cL K) "name" (OnC (cL K) (spNameM K w (cB K))) :=
  mkM (s := s_LineMarks_name) (Δ := l_LineMarks_name) (ps := p_LineMarks_name) (Γ := gam K w [("is_name", spNm)] [] [(cL K, "mark", OnC (cL K) spMarkM), (cL K, "take", OnC (cL K) (spTakeM (cB K)))] [] [] []) (k := 5) t.s (List.mem_of_getElem? (i := 41) rfl) (He.cls_ok (t.s.t.d.facts (f := .cls "LineMarks") (List.mem_of_getElem? (i := 60) rfl))) (He.meth_ok (t.s.t.d.facts (f := .meth "LineMarks" "name") (List.mem_of_getElem? (i := 68) rfl))) ⟨rfl, rfl, rfl, by decide +kernel, rfl, by decide +kernel, by decide +kernel⟩ c_LineMarks_name (gam_ok (sta t) (al1 ((k_is_name t).mono (by decide)) al0) al0 (al1 ((k_markM t).mono (by decide)) (al1 ((k_takeM t).mono (by decide)) al0)) al0 al0 al0) (fun vs H Q E z => by obtain ⟨⟨_, _, _, _, _, _, _, _, e, _⟩, _⟩ := z; rw [e]; rfl) (fun _ _ _ _ _ _ us hl => match us, hl with | [_, _], _ => rfl) (w_nameM rfl rfl m0 (m1 m0) m0)
theorem k_partM (t : Told w K h mg) : KnF P w K mg base 7 "take_part" (spPartM (cL K) (cB K)) :=
  mkF (s := s_take_part) (Δ := l_take_part) (ps := p_take_part) (Γ := gam K w [] [("TWOS", .ref (He.ga K "TWOS"))] [(cL K, "mark", OnC (cL K) spMarkM), (cL K, "take", OnC (cL K) (spTakeM (cB K))), (cL K, "take_mark", OnC (cL K) (spTakeMark (cB K))), (cL K, "number", OnC (cL K) (spNumberM (cB K))), (cL K, "integer", OnC (cL K) (spIntegerM (cB K))), (cL K, "name", OnC (cL K) (spNameM K w (cB K)))] [] [] []) (k := 6) t.s (List.mem_of_getElem? (i := 4) rfl) (glo t (List.mem_of_getElem? (i := 4) rfl)) ⟨rfl, rfl, rfl, by decide +kernel, rfl, by decide +kernel, by decide +kernel⟩ c_take_part (gam_ok (sta t) al0 (al1 (⟨_, glo t (List.mem_of_getElem? (i := 54) rfl), rfl⟩) al0) (al1 ((k_markM t).mono (by decide)) (al1 ((k_takeM t).mono (by decide)) (al1 ((k_tmarkM t).mono (by decide)) (al1 ((k_numberM t).mono (by decide)) (al1 ((k_integerM t).mono (by decide)) (al1 ((k_nameM t).mono (by decide)) al0)))))) al0 al0 al0) (fun vs H Q E z => by obtain ⟨_, _, _, _, _, _, e, _⟩ := z; rw [e]; rfl) (fun _ _ _ _ _ _ us hl => match us, hl with | [_, _], _ => rfl) (w_partM ⟨m0, m1 m0, m1 (m1 m0), m1 (m1 (m1 m0)), m1 (m1 (m1 (m1 m0))), m1 (m1 (m1 (m1 (m1 m0))))⟩ m0 (exs t).2.1)
theorem k_names (t : Told w K h mg) : KnF P w K mg base 7 "take_names" (spNames (cL K) (cB K)) :=
  mkF (s := s_take_names) (Δ := l_take_names) (ps := p_take_names) (Γ := gam K w [] [] [(cL K, "mark", OnC (cL K) spMarkM), (cL K, "take", OnC (cL K) (spTakeM (cB K))), (cL K, "take_mark", OnC (cL K) (spTakeMark (cB K))), (cL K, "number", OnC (cL K) (spNumberM (cB K))), (cL K, "integer", OnC (cL K) (spIntegerM (cB K))), (cL K, "name", OnC (cL K) (spNameM K w (cB K)))] [] [] []) (k := 6) t.s (List.mem_of_getElem? (i := 5) rfl) (glo t (List.mem_of_getElem? (i := 5) rfl)) ⟨rfl, rfl, rfl, by decide +kernel, rfl, by decide +kernel, by decide +kernel⟩ c_take_names (gam_ok (sta t) al0 al0 (al1 ((k_markM t).mono (by decide)) (al1 ((k_takeM t).mono (by decide)) (al1 ((k_tmarkM t).mono (by decide)) (al1 ((k_numberM t).mono (by decide)) (al1 ((k_integerM t).mono (by decide)) (al1 ((k_nameM t).mono (by decide)) al0)))))) al0 al0 al0) (fun vs H Q E z => by obtain ⟨_, _, _, _, _, _, e, _⟩ := z; rw [e]; rfl) (fun _ _ _ _ _ _ us hl => match us, hl with | [_, _], _ => rfl) (w_names ⟨m0, m1 m0, m1 (m1 m0), m1 (m1 (m1 m0)), m1 (m1 (m1 (m1 m0))), m1 (m1 (m1 (m1 (m1 m0))))⟩)
theorem k_rows (t : Told w K h mg) : KnF P w K mg base 8 "take_rows" (spRows (cL K) (cB K)) :=
  mkF (s := s_take_rows) (Δ := l_take_rows) (ps := p_take_rows) (Γ := gam K w [("take_part", spPartM (cL K) (cB K))] [("SHAPES", .ref (He.ga K "SHAPES"))] [(cL K, "mark", OnC (cL K) spMarkM), (cL K, "take", OnC (cL K) (spTakeM (cB K))), (cL K, "take_mark", OnC (cL K) (spTakeMark (cB K))), (cL K, "number", OnC (cL K) (spNumberM (cB K))), (cL K, "integer", OnC (cL K) (spIntegerM (cB K))), (cL K, "name", OnC (cL K) (spNameM K w (cB K)))] [] [] []) (k := 7) t.s (List.mem_of_getElem? (i := 6) rfl) (glo t (List.mem_of_getElem? (i := 6) rfl)) ⟨rfl, rfl, rfl, by decide +kernel, rfl, by decide +kernel, by decide +kernel⟩ c_take_rows (gam_ok (sta t) (al1 ((k_partM t).mono (by decide)) al0) (al1 (⟨_, glo t (List.mem_of_getElem? (i := 52) rfl), rfl⟩) al0) (al1 ((k_markM t).mono (by decide)) (al1 ((k_takeM t).mono (by decide)) (al1 ((k_tmarkM t).mono (by decide)) (al1 ((k_numberM t).mono (by decide)) (al1 ((k_integerM t).mono (by decide)) (al1 ((k_nameM t).mono (by decide)) al0)))))) al0 al0 al0) (fun vs H Q E z => by obtain ⟨_, _, _, _, _, e, _⟩ := z; rw [e]; rfl) (fun _ _ _ _ _ _ us hl => match us, hl with | [_], _ => rfl) (w_rows ⟨m0, m1 m0, m1 (m1 m0), m1 (m1 (m1 m0)), m1 (m1 (m1 (m1 m0))), m1 (m1 (m1 (m1 (m1 m0))))⟩ m0 m0 (shp_ok t))
theorem k_read (t : Told w K h mg) : KnF P w K mg base 9 "read_codes" (spRead (cB K)) :=
  mkF (s := s_read_codes) (Δ := l_read_codes) (ps := p_read_codes) (Γ := gam K w [("take_names", spNames (cL K) (cB K)), ("take_rows", spRows (cL K) (cB K))] [] [(cL K, "mark", OnC (cL K) spMarkM), (cL K, "take", OnC (cL K) (spTakeM (cB K))), (cL K, "take_mark", OnC (cL K) (spTakeMark (cB K))), (cL K, "number", OnC (cL K) (spNumberM (cB K))), (cL K, "integer", OnC (cL K) (spIntegerM (cB K))), (cL K, "name", OnC (cL K) (spNameM K w (cB K)))] [("LineMarks", cL K, spInit (cL K))] [] []) (k := 8) t.s (List.mem_of_getElem? (i := 7) rfl) (glo t (List.mem_of_getElem? (i := 7) rfl)) ⟨rfl, rfl, rfl, by decide +kernel, rfl, by decide +kernel, by decide +kernel⟩ c_read_codes (gam_ok (sta t) (al1 ((k_names t).mono (by decide)) (al1 ((k_rows t).mono (by decide)) al0)) al0 (al1 ((k_markM t).mono (by decide)) (al1 ((k_takeM t).mono (by decide)) (al1 ((k_tmarkM t).mono (by decide)) (al1 ((k_numberM t).mono (by decide)) (al1 ((k_integerM t).mono (by decide)) (al1 ((k_nameM t).mono (by decide)) al0)))))) (al1 (Hk64.KnC.mono (k_init t) (by decide)) al0) al0 al0) (fun vs H Q E z => by obtain ⟨_, e, _⟩ := z; rw [e]; rfl) (fun _ _ _ _ _ _ us hl => match us, hl with | [_], _ => rfl) (w_read ⟨m0, m1 m0, m1 (m1 m0), m1 (m1 (m1 m0)), m1 (m1 (m1 (m1 m0))), m1 (m1 (m1 (m1 (m1 m0))))⟩ m0 m0 (m1 m0))
end
end Hk64

set_option maxHeartbeats 1000000
namespace Hk64
open PySem PySem.Spec PyProof.Rows L2 Dq LamX
section
variable {P : Program} {w : World} {K : PySem.W.Frag} {h : Heap} {mg : Str → Option Value} {base : Heap}
abbrev lawG (K : PySem.W.Frag) (w : World) : Gam := gam K w [("_law_stream", spStream (Γ := gam K w [] [] [] [] [] [])), ("_law_draw", spDraw), ("_law_pick", spPick), ("_law_w_codes", spCodes), ("_law_x_code_marks", spMarks), ("_law_x_changed", spChanged), ("_law_due", spDue), ("_law_same", spSame 8), ("read_codes", spRead (cB K))] [] [] [] [] []
theorem law_g (t : Told w K h mg) : ∀ A, Room 10 A → GOk (lawG K w) P w K mg base A := gam_ok (k := 9) (sta t) (al1 ((k_stream t).mono (by decide)) (al1 ((k_draw t).mono (by decide)) (al1 ((k_pick t).mono (by decide)) (al1 ((k_codes t).mono (by decide)) (al1 ((k_marks t).mono (by decide)) (al1 ((k_changed t).mono (by decide)) (al1 ((k_due t).mono (by decide)) (al1 ((k_same8 t).mono (by decide)) (al1 ((k_read t).mono (by decide)) al0))))))))) al0 al0 al0 al0 al0
def kwR (K : PySem.W.Frag) : Str → Str → Sp → Prop := fun x kn sp => x = "read_codes" ∧ kn = "text" ∧ sp = spRead (cB K)
theorem law_fns : LawFns (lawG K w) (cB K) (kwR K) := ⟨m0, (m1 m0), (m1 (m1 m0)), (m1 (m1 (m1 m0))), (m1 (m1 (m1 (m1 m0)))), (m1 (m1 (m1 (m1 (m1 m0))))), (m1 (m1 (m1 (m1 (m1 (m1 m0)))))), (m1 (m1 (m1 (m1 (m1 (m1 (m1 m0))))))), (m1 (m1 (m1 (m1 (m1 (m1 (m1 (m1 m0)))))))), ⟨rfl, rfl, rfl⟩⟩
theorem kw_read (t : Told w K h mg) : KwF P w K mg base 10 "read_codes" "text" (spRead (cB K)) := by
  obtain ⟨fd, F⟩ := t.s.t.d.defs (d := ⟨("read_codes", none), "read_codes", "read_codes", defArgs s_read_codes, defBody s_read_codes, defScope s_read_codes, [], []⟩) (List.mem_of_getElem? (i := 7) rfl)
  have ok : FnOk P w K mg base (L2.CX P w) (8 + 1) (He.ga K "read_codes") fd ["text"] (spRead (cB K)) := def_ok (Δ := l_read_codes) (Γ := gam K w [("take_names", spNames (cL K) (cB K)), ("take_rows", spRows (cL K) (cB K))] [] [(cL K, "mark", OnC (cL K) spMarkM), (cL K, "take", OnC (cL K) (spTakeM (cB K))), (cL K, "take_mark", OnC (cL K) (spTakeMark (cB K))), (cL K, "number", OnC (cL K) (spNumberM (cB K))), (cL K, "integer", OnC (cL K) (spIntegerM (cB K))), (cL K, "name", OnC (cL K) (spNameM K w (cB K)))] [("LineMarks", cL K, spInit (cL K))] [] []) F ⟨rfl, rfl, rfl, by decide +kernel, rfl, by decide +kernel, by decide +kernel⟩ c_read_codes (gam_ok (sta t) (al1 ((k_names t).mono (by decide)) (al1 ((k_rows t).mono (by decide)) al0)) al0 (al1 ((k_markM t).mono (by decide)) (al1 ((k_takeM t).mono (by decide)) (al1 ((k_tmarkM t).mono (by decide)) (al1 ((k_numberM t).mono (by decide)) (al1 ((k_integerM t).mono (by decide)) (al1 ((k_nameM t).mono (by decide)) al0)))))) (al1 (Hk64.KnC.mono (k_init t) (by decide)) al0) al0 al0) (fun vs H Q E z => by obtain ⟨_, e, _⟩ := z; rw [e]; rfl) (w_read ⟨m0, m1 m0, m1 (m1 m0), m1 (m1 (m1 m0)), m1 (m1 (m1 (m1 m0))), m1 (m1 (m1 (m1 (m1 m0))))⟩ m0 m0 (m1 m0))
  refine ⟨_, fd, glo t (List.mem_of_getElem? (i := 7) rfl), ok.mono (by decide), F.kp, ⟨fun s us ws _ hl => ?_, fun r rz => r.append rz⟩⟩
  obtain ⟨oc, od, dV, kV, doc, pm, an, cdv, ct, osl, rfl, lk, hcd, hD, _⟩ := F.ex
  rcases hD with ⟨_, rfl⟩ | ⟨e, _⟩
  · match us, ws, hl with
    | [], [v], _ => exact .of_eq rfl
    | [u], [], _ => exact .of_eq rfl
  · exact absurd rfl e
theorem sc_met : FnScope ["ask", "e"] ["ask"] (defScope s__law_met) := ⟨rfl, rfl, rfl, by decide +kernel, rfl, by decide +kernel, by decide +kernel⟩
theorem sc_law : FnScope l_law.N ["script"] (defScope s_law) := ⟨rfl, rfl, rfl, by decide +kernel, rfl, by decide +kernel, by decide +kernel⟩
def lamT (P : Addr) : List (Addr × Str) := [(P, ("law" : Str) ++ ".<locals>." ++ "<lambda>")]
/-- _law_met tells what came of the lambda -/
theorem met_law {X : Cx} {g : Addr} {cdg : Value} {q : Str} (t : Told w K h mg) (eK : X.K = K) (em : X.mg = mg) : GivesTo X ["ask", "e"] "_law_met" (defScope s__law_met) g cdg (defBody s__law_met) "ask" q (TTm (cB K) "index" "told" "mark") := by
  obtain ⟨_, _, _, T, Tx, no, _, _⟩ := exs t
  refine met_gives (e := "BadMark") (n := "e") rfl ?_ (by decide) (by decide) rfl (by decide) (by decide) ?_ ?_ ?_
  · rw [em]; exact glo t (List.mem_of_getElem? (i := 35) rfl)
  · rw [eK]; exact Tx
  · rw [eK]; exact no
  · rw [eK]; exact He.exm_ok (t.s.t.d.facts (f := .exm "BadMark" "BadMark" true) (List.mem_of_getElem? (i := 70) rfl))
theorem ok_law {fd : FuncData} {cc PP : Addr} (t : Told w K h mg) (F : FunD K "law" "law" (defArgs s_law) (defBody s_law) (defScope s_law) [] [] (He.ga K "law") fd) (hc : fd.code = .ref cc) (TB : TabB base mg cc PP) :
    FnOk P w K mg base (L2.CX P w) 13 (He.ga K "law") fd ["script"] (spLaw K (lamT PP)) := by
  refine def_fsC (k := 12) (Γ := lawG K w) (Δ := l_law) F sc_law (fun A hr => law_g t A (hr.mono (by decide))) (fun vs H Q E z => ?_) fun X vs H Q E S _ e1 e2 e3 e4 e5 e6 e7 hr z => ?_
  · obtain ⟨_, _, e, _⟩ := z
    rw [e]; rfl
  obtain ⟨fdm, Fm⟩ := t.s.t.d.defs (d := ⟨("_law_met", none), "_law_met", "_law_met", defArgs s__law_met, defBody s__law_met, defScope s__law_met, [], []⟩) (List.mem_of_getElem? (i := 30) rfl)
  have bm : L2.Binds K fdm ["ask"] [] := Fm.bindsN fun _ _ _ _ _ _ us hl => match us, hl with | [_], _ => rfl
  obtain ⟨oc, od, dV, kV, doc, pm, an, cdv, ct, osl, rfl, lk, hcd, _, _⟩ := Fm.ex
  have met : MetK X "_law_met" (lamT PP) (TTm (cB K) "index" "told" "mark") 10 := by
    refine ⟨"ask", He.ga K "_law_met", cc, PP, defArgs s__law_met, defBody s__law_met, defScope s__law_met, dV, kV, doc, pm, cdv, ct, oc, an, od, osl, ["ask", "e"], ?_, ?_, ?_, ?_, ?_, sc_met, rfl, .inl rfl, met_law t e3 e4, ?_, ?_, ?_, ?_, hr, by decide, by decide⟩
    · rw [e4]; exact glo t (List.mem_of_getElem? (i := 30) rfl)
    · rw [e3]; exact Fm.kp
    · rw [e3]; exact lk
    · rw [e3]; exact hcd
    · rw [e3]; exact bm
    · rw [e5, e4]; exact TB
    · rw [e6]; exact hc
    · rw [e7]; exact List.mem_singleton.mpr rfl
    · intro p hp _
      rw [List.mem_singleton.mp hp, e7]
  have L : LOk (lawG K w) l_law X (defScope s_law) "_law_met" (kwR K) (lamT PP) (TTm (cB K) "index" "told" "mark") 10 := by
    refine ⟨S.F, met, ?_, ?_⟩
    · rw [e1, e2, e3, e4, e5]
      exact law_g t
    · rintro y kn sp ⟨rfl, rfl, rfl⟩
      rw [e1, e2, e3, e4, e5]
      exact kw_read t
  exact ⟨_, (sndx_all 30).ss X _ c_law S L, w_law law_fns vs H Q E z⟩
end
theorem cx_none {P : Program} {w : World} {H : Hp} {s : Shared} {e : Value} {s' : Shared} (z : L2.CX P w [] H s (fun _ _ _ => False) e s') : False := by
  obtain ⟨_, _, _, _, _, _, _, _, _, _, _, _, z⟩ := z
  exact z
theorem law_at (w : World) {K : PySem.W.Frag} {h : Heap} {mg : Str → Option Value} {fa : Addr} (t : Told w K h mg) (hmg : mg ("law" : Str) = some (.ref fa)) : LawAtS PySem.Challenge.rw_hotrows_k64_whole_texts_of_codes_read w K (L2.CX (PySem.Challenge.rw_hotrows_k64_whole_texts_of_codes_read).prog w) 13 63 "script" mg fa h := by
  obtain ⟨fd, F⟩ := t.s.t.d.defs (d := ⟨("law", none), "law", "law", defArgs s_law, defBody s_law, defScope s_law, [], []⟩) (List.mem_of_getElem? (i := 33) rfl)
  have e := hmg.symm.trans (glo t (List.mem_of_getElem? (i := 33) rfl))
  cases e
  have b := F.bindsA (ps := ["script"]) fun _ _ _ _ _ _ us hl => match us, hl with | [_], _ => rfl
  have hc : fd.code = .ref (He.cT K ("law", none)).1 := by
    obtain ⟨oc, od, dV, kV, doc, pm, an, cdv, ct, osl, rfl, lk, hcd, _, _⟩ := F.ex
    obtain ⟨c, ec⟩ := He.codeIn_ref hcd
    show cdv = _
    rw [ec]
    exact congrArg Value.ref (He.codeOf_eq (p := ("law", none)) lk ec).symm
  have hin : (("law", none) : He.Defn) ∈ tf2 := List.mem_singleton.mpr rfl
  refine ⟨fd, [He.cT K ("law", none)], spLaw K (lamT (He.cT K ("law", none)).2), ?_, ?_, ?_, fun s u => b s [u] rfl, fun H a ns hl _ hT hS => ⟨a, ns, rfl, hS, hl, ?_, fun _ => rfl⟩, fun base _ _ hTB => ok_law t F hc (hTB _ (List.mem_singleton.mpr rfl))⟩
  · intro p hp
    rw [List.mem_singleton.mp hp]; exact t.s.empty _ hin
  · intro p hp
    rw [List.mem_singleton.mp hp]; exact t.s.out _ hin
  · intro p hp
    rw [List.mem_singleton.mp hp]; exact PySem.W.codeHd_of_K t.X (t.s.hd _ hin)
  · intro p hp
    rw [List.mem_singleton.mp hp]
    exact TabS.nil (hT _ (List.mem_singleton.mpr rfl))
end Hk64
open PySem PySem.W PySem.Calls PyProof.Rows
set_option maxHeartbeats 0 in
theorem PySem.Challenge.cw_hotrows_k64_whole_texts_of_codes_read_holds : PySem.Challenge.rw_hotrows_k64_whole_texts_of_codes_read.Holds := by
  w_on; o_law
  refine HandSHeadRun.head_any (r := OpenLaw.row PySem.Challenge.rw_hotrows_k64_whole_texts_of_codes_read) (q := view (OpenLaw.row PySem.Challenge.rw_hotrows_k64_whole_texts_of_codes_read).prog [50]) (H := Hk64.hk2) (ob := Hk64.ob2) (M := 6000) (loose := Hk64.loose) (d := HandSHeadRun.topDef (OpenLaw.row PySem.Challenge.rw_hotrows_k64_whole_texts_of_codes_read).prog 50) (kwd := []) Hk64.ob2_eq
    (by kernel_rfl) (fun s => by kernel_rfl) Hk64.run2 (by kernel_rfl) (by kernel_rfl) (by kernel_rfl) (by rfl) (by first | assumption | decide +kernel) (by decide +kernel) ⟨rfl, rfl, rfl, rfl, rfl, by decide +kernel⟩ ?hw ?hc
  case hw => w_witness2
  case hc =>
    refine LamX.walk_ofTsE (l := PySem.Challenge.rw_hotrows_k64_whole_texts_of_codes_read) (n := 63) (k := 13) (x := "script") (CX := fun w => L2.CX (PySem.Challenge.rw_hotrows_k64_whole_texts_of_codes_read).prog w) rfl (by decide) (by kernel_rfl) ⟨rfl, by decide, by decide⟩ ?F (fun _ _ _ _ _ z => Hk64.cx_none z)
    intro w mg fa h Y G hmg0
    obtain ⟨K, KX, c⟩ := Y
    have hmg : mg ("law" : PySem.Str) = some (.ref fa) := by
      have e : (HandSHeadRun.topDef (OpenLaw.row PySem.Challenge.rw_hotrows_k64_whole_texts_of_codes_read).prog 50).name = ("law" : PySem.Str) := by kernel_rfl
      rw [← e]
      exact hmg0
    exact ⟨K, KX, Hk64.law_at w ⟨KX, G, c⟩ hmg⟩
