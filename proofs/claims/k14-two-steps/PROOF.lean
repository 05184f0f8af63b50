import PyProof.Rows.All
import Wide.All
import OpenK.AllK
import Wide.FinOn
import HandS.TupMul
import HandS.WideBits
import HandS.Wide
import HandS.Rev
import HandS.RevRange
import HandS.Replace
import HandS.Defaults
import KE.KDictKeyed
import KE.KDictSum
import KE.KDictLaws
import KE.SortData
import KE.DataEq
import KE.DataMinMax
import KE.DataAny
import KE.DataFind
import HandS.Dict
import HandS.TupLen
import HandS.Records
import HandS.ForMost
import HandS.IsInst
import HandS.StrMore
import HandS.Deep
import HandS.Codes
import HandS.TupAny
import KE.GoesEnum
import KE.GoesZip
import HandS.Zip
import HandS.DictComp
import HandS.EndBits
import PySem.Challenge.RW_plainbehind_k14_two_steps_meet_whole
set_option Elab.async false
set_option linter.all false
set_option maxRecDepth 100000
set_option maxHeartbeats 4000000
/-! tuple * int, whatever the int -/
namespace PD
open PySem PySem.Spec PyProof.Rows L2
theorem tup_mul_same (l : Addr) (items : Array Value) (n : Nat) (dd : Option Addr) (sl : Array (Option Value)) (x : Int) (u : Tok) (c0 : (decide (x < -(2 ^ 63)) || decide (x ≥ 2 ^ 63)) = false) (c1 : (items.isEmpty || x == 1) = true) :
    Meets (Builtin.«tuple.__mul__» ⟨[.ref l, .int x u], []⟩) (fun _ R s => s.heap.get? l = some { cls := .type "tuple", dict := dd, data := .seq items n, slots := sl } ∧
      R (.ok (.ret (Value.ref l))) s) :=
  .of_wp fun prog w A R s h => by
    obtain ⟨hp, g, d, tk, os⟩ := s
    obtain ⟨hl, h⟩ := h
    have f1 := AutoSeq1.idx_int
    wp_walk using wpAny_loadPart' hl
    repeat (first
      | (refine wpAny_ite_false (decide_eq_false (by rw [c0]; exact Bool.false_ne_true)) ?_; wp_walk using wpAny_loadPart' hl)
      | (refine wpAny_ite_true (decide_eq_true c1) ?_; wp_walk using wpAny_loadPart' hl))
    exact ⟨_, rfl, h⟩
theorem tup_mul_none (l : Addr) (items : Array Value) (n : Nat) (dd : Option Addr) (sl : Array (Option Value)) (x : Int) (u : Tok) (c0 : (decide (x < -(2 ^ 63)) || decide (x ≥ 2 ^ 63)) = false) (c1 : (items.isEmpty || x == 1) = false) (c2 : (decide (x ≤ 0) || items.isEmpty) = true) :
    Meets (Builtin.«tuple.__mul__» ⟨[.ref l, .int x u], []⟩) (fun _ R s => s.heap.get? l = some { cls := .type "tuple", dict := dd, data := .seq items n, slots := sl } ∧
      R (.ok (.ret (Value.ref s.heap.objs.size))) { s with heap := s.heap.push { cls := Value.type "tuple", data := Data.seq #[] }, toks := s.toks }) :=
  .of_wp fun prog w A R s h => by
    obtain ⟨hp, g, d, tk, os⟩ := s
    obtain ⟨hl, h⟩ := h
    have f1 := AutoSeq1.idx_int
    wp_walk using wpAny_loadPart' hl
    repeat (first
      | (refine wpAny_ite_false (decide_eq_false (by rw [c0]; exact Bool.false_ne_true)) ?_; wp_walk using wpAny_loadPart' hl)
      | (refine wpAny_ite_false (decide_eq_false (by rw [c1]; exact Bool.false_ne_true)) ?_; wp_walk using wpAny_loadPart' hl)
      | (refine wpAny_ite_true (decide_eq_true c2) ?_; wp_walk using wpAny_loadPart' hl))
    exact ⟨_, rfl, h⟩
/-- t * k of any k: the same thing where nothing is to do -/
def rRepA (K : PySem.W.Frag) : R2 := fun x y H Q => ∃ l k xs, x = .ref l ∧ y = .int k ∧ SqT K H l xs ∧ -(2 ^ 63) ≤ k ∧ k ≤ 1000 ∧ xs.length ≤ 1000 ∧
  ((xs = [] ∨ k = 1) → Q (.ref l) H) ∧ (xs ≠ [] → k ≠ 1 → ∀ p, H p = none → Q (.ref p) (upd H p (.tup (List.replicate k.toNat xs).flatten)))
theorem op_repA {X : Cx} : OpR X (binaryOp .Mult) (rRepA X.K) := by
  intro pins s σ H x y v u Q I rx ry h
  obtain ⟨l, k, xs, rfl, rfl, hT, h1, h2, hz, q1, q2⟩ := h
  by_cases hc : xs ≠ [] ∧ 2 ≤ k
  · exact op_repT pins s σ H _ _ v u Q I rx ry ⟨l, k, xs, rfl, rfl, hT, hc.1, hc.2, h2, hz, q2 hc.1 (by omega)⟩
  have rx' := rx
  cases rx
  obtain ⟨t, rfl⟩ := ry
  obtain ⟨its, r, ⟨⟨cls, dd, data, sl⟩, ho, hcl, n, hd⟩, hs⟩ := I.tuple hT
  simp only at hcl hd
  subst hcl hd
  have hle : its.length = xs.length := r.length.symm
  have c0 : (decide (k < -(2 ^ 63)) || decide (k ≥ 2 ^ 63)) = false := by
    rw [decide_eq_false (by omega), decide_eq_false (by omega)] <;> rfl
  by_cases hd1 : xs = [] ∨ k = 1
  · have c1 : (its.toArray.isEmpty || k == 1) = true := by
      rcases hd1 with e | e
      · have : its = [] := List.eq_nil_of_length_eq_zero (by rw [hle, e]; rfl)
        rw [this]; rfl
      · rw [e]; simp
    refine wpAny_binaryOp_repeat_ref (T := "tuple") (U := "int") (by decide) ⟨_, ho, rfl⟩ (fun s' => typeIs_int s' k t) noFill_tuple_mul F.fills_int_mul F.slot_int_rmul repeat_tuple F.slot_int_index.lookup
      (call_meets F.slot_int_rmul (typeIs_int s k t) F.entry_int_rmul (F.args_int_rmul_2 _ _) (int_rmul_tuple k t l its.toArray n dd sl)
        ⟨ho, rfl, ⟨_, ho, rfl⟩, call_meets F.slot_tuple_mul ⟨_, ho, rfl⟩ F.entry_tuple_mul (F.args_tuple_mul_2 _ _) (tup_mul_same l its.toArray n dd sl k t c0 c1) ⟨ho, ?_⟩⟩)
    exact ⟨.ref l, H, I, rx', q1 hd1⟩
  · have hne : xs ≠ [] := fun e => hd1 (.inl e)
    have hk : k ≠ 1 := fun e => hd1 (.inr e)
    have hn : its ≠ [] := fun e => hne (by
      rw [e] at hle
      exact List.eq_nil_of_length_eq_zero hle.symm)
    have hi : its.toArray.isEmpty = false := by
      cases its with
      | nil => exact absurd rfl hn
      | cons a b => rfl
    have c1 : (its.toArray.isEmpty || k == 1) = false := by
      rw [hi, Bool.false_or]
      exact beq_eq_false_iff_ne.mpr hk
    have hk0 : k ≤ 0 := by
      have : ¬ (2 ≤ k) := fun z => hc ⟨hne, z⟩
      omega
    have c2 : (decide (k ≤ 0) || its.toArray.isEmpty) = true := by
      rw [decide_eq_true hk0]; rfl
    refine wpAny_binaryOp_repeat_ref (T := "tuple") (U := "int") (by decide) ⟨_, ho, rfl⟩ (fun s' => typeIs_int s' k t) noFill_tuple_mul F.fills_int_mul F.slot_int_rmul repeat_tuple F.slot_int_index.lookup
      (call_meets F.slot_int_rmul (typeIs_int s k t) F.entry_int_rmul (F.args_int_rmul_2 _ _) (int_rmul_tuple k t l its.toArray n dd sl)
        ⟨ho, rfl, ⟨_, ho, rfl⟩, call_meets F.slot_tuple_mul ⟨_, ho, rfl⟩ F.entry_tuple_mul (F.args_tuple_mul_2 _ _) (tup_mul_none l its.toArray n dd sl k t c0 c1 c2) ⟨ho, ?_⟩⟩)
    have e0 : k.toNat = 0 := by omega
    have e1 : (List.replicate k.toNat xs).flatten = [] := by rw [e0]; rfl
    have q := q2 hne hk
    rw [e1] at q
    refine ⟨.ref s.heap.objs.size, _, I.laid (t' := s.toks) (o := .tup []) (fun b ob q => Heap.get?_push_of_some _ q) (Nat.le_refl _) ?_, rfl, q _ (I.hok.fresh (Nat.le_refl _))⟩
    exact ⟨Nat.zero_le _, [], .nil, IsTup.new _ _⟩
end PD

set_option maxHeartbeats 1000000
/-! dicts whose keys are whole numbers and texts, or tuples of any depth, as things that the layer's heap tells -/
namespace PD
open PySem PySem.Spec PyProof.Rows L2

/-! ### data, compared -/
mutual
def deq : PyData → PyData → Bool
  | .none, .none => true
  | .bool a, .bool b => decide (a = b)
  | .int a, .int b => decide (a = b)
  | .str a, .str b => decide (a = b)
  | .list a, .list b => deqs a b
  | .tuple a, .tuple b => deqs a b
  | .dict a, .dict b => deqp a b
  | _, _ => false
def deqs : List PyData → List PyData → Bool
  | [], [] => true
  | a :: as, b :: bs => deq a b && deqs as bs
  | _, _ => false
def deqp : List (PyData × PyData) → List (PyData × PyData) → Bool
  | [], [] => true
  | (a, c) :: as, (b, d) :: bs => deq a b && deq c d && deqp as bs
  | _, _ => false
end
mutual
theorem deq_refl : ∀ a : PyData, deq a a = true
  | .none => rfl
  | .bool a => by simp [deq]
  | .int a => by simp [deq]
  | .str a => by simp [deq]
  | .list a => by simp [deq, deqs_refl a]
  | .tuple a => by simp [deq, deqs_refl a]
  | .dict a => by simp [deq, deqp_refl a]
theorem deqs_refl : ∀ a : List PyData, deqs a a = true
  | [] => rfl
  | a :: as => by simp [deqs, deq_refl a, deqs_refl as]
theorem deqp_refl : ∀ a : List (PyData × PyData), deqp a a = true
  | [] => rfl
  | (a, c) :: as => by simp [deqp, deq_refl a, deq_refl c, deqp_refl as]
end
mutual
theorem deq_eq : ∀ a b : PyData, deq a b = true → a = b
  | .none, b, h => by cases b <;> first | rfl | simp [deq] at h
  | .bool a, b, h => by cases b <;> simp [deq] at h; rw [h]
  | .int a, b, h => by cases b <;> simp [deq] at h; rw [h]
  | .str a, b, h => by cases b <;> simp [deq] at h; rw [h]
  | .list a, b, h => by
    cases b <;> simp [deq] at h
    rw [deqs_eq a _ h]
  | .tuple a, b, h => by
    cases b <;> simp [deq] at h
    rw [deqs_eq a _ h]
  | .dict a, b, h => by
    cases b <;> simp [deq] at h
    rw [deqp_eq a _ h]
theorem deqs_eq : ∀ a b : List PyData, deqs a b = true → a = b
  | [], b, h => by cases b <;> first | rfl | simp [deqs] at h
  | a :: as, b, h => by
    cases b with
    | nil => simp [deqs] at h
    | cons b bs =>
      simp [deqs] at h
      rw [deq_eq a b h.1, deqs_eq as bs h.2]
theorem deqp_eq : ∀ a b : List (PyData × PyData), deqp a b = true → a = b
  | [], b, h => by cases b <;> first | rfl | simp [deqp] at h
  | (a, c) :: as, b, h => by
    cases b with
    | nil => simp [deqp] at h
    | cons b bs =>
      obtain ⟨b, d⟩ := b
      simp [deqp] at h
      rw [deq_eq a b h.1.1, deq_eq c d h.1.2, deqp_eq as bs h.2]
end
instance instDecEqPyData : DecidableEq PyData := fun a b => decidable_of_iff (deq a b = true) ⟨deq_eq a b, fun h => h ▸ deq_refl a⟩

/-! ### data as keys -/
mutual
def nkD : PyData → Option NestedKey
  | .none => some .none
  | .int i => some (.num i)
  | .str x => some (.text x)
  | .tuple ds => (nkAll ds).map .tup
  | _ => none
def nkAll : List PyData → Option (List NestedKey)
  | [] => some []
  | d :: ds => match nkD d, nkAll ds with
    | some k, some ks => some (k :: ks)
    | _, _ => none
end
mutual
theorem nkD_inj : ∀ (a b : PyData) (k : NestedKey), nkD a = some k → nkD b = some k → a = b
  | .none, b, k, h, g => by
    unfold nkD at h; cases h
    cases b <;> unfold nkD at g <;> first | rfl | (cases g; done) | (exfalso; revert g; cases nkAll _ <;> simp)
  | .bool a, b, k, h, g => by unfold nkD at h; cases h
  | .int a, b, k, h, g => by
    unfold nkD at h; cases h
    cases b <;> unfold nkD at g <;> first | (cases g; rfl) | (cases g; done) | (exfalso; revert g; cases nkAll _ <;> simp)
  | .str a, b, k, h, g => by
    unfold nkD at h; cases h
    cases b <;> unfold nkD at g <;> first | (cases g; rfl) | (cases g; done) | (exfalso; revert g; cases nkAll _ <;> simp)
  | .list a, b, k, h, g => by unfold nkD at h; cases h
  | .dict a, b, k, h, g => by unfold nkD at h; cases h
  | .tuple a, b, k, h, g => by
    unfold nkD at h
    cases e : nkAll a with
    | none => rw [e] at h; cases h
    | some ks =>
      rw [e] at h
      cases h
      cases b with
      | tuple b =>
        unfold nkD at g
        cases e2 : nkAll b with
        | none => rw [e2] at g; cases g
        | some ks2 =>
          rw [e2] at g
          cases g
          rw [nkAll_inj a b ks e e2]
      | _ => unfold nkD at g; cases g
theorem nkAll_inj : ∀ (a b : List PyData) (k : List NestedKey), nkAll a = some k → nkAll b = some k → a = b
  | [], b, k, h, g => by
    unfold nkAll at h; cases h
    cases b with
    | nil => rfl
    | cons b bs =>
      unfold nkAll at g
      cases e1 : nkD b <;> cases e2 : nkAll bs <;> rw [e1, e2] at g <;> cases g
  | a :: as, b, k, h, g => by
    unfold nkAll at h
    cases e1 : nkD a <;> cases e2 : nkAll as <;> rw [e1, e2] at h <;> cases h
    cases b with
    | nil => unfold nkAll at g; cases g
    | cons b bs =>
      unfold nkAll at g
      cases e3 : nkD b <;> cases e4 : nkAll bs <;> rw [e3, e4] at g <;> cases g
      rw [nkD_inj a b _ e1 e3, nkAll_inj as bs _ e2 e4]
end

/-- what may be a key: a whole number, a text, a tuple of such, not deeper than 8 -/
def keyD (d : PyData) : Bool := match nkD d with
  | some (.num _) => true
  | some (.text _) => true
  | some (.tup ks) => decide ((NestedKey.tup ks).depth ≤ 8)
  | _ => false
def isTupD : PyData → Bool
  | .tuple _ => true
  | _ => false

/-! ### the dict's object -/
abbrev Ent := NestedKey × V × V
def nkK : Key → NestedKey
  | .inl i => .num i
  | .inr x => .text x
theorem nkK_inj : ∀ {a b : Key}, nkK a = nkK b → a = b
  | .inl i, .inl j, h => by cases h; rfl
  | .inr i, .inr j, h => by cases h; rfl
  | .inl i, .inr j, h => by cases h
  | .inr i, .inl j, h => by cases h
def isTupK : NestedKey → Bool
  | .tup _ => true
  | _ => false
theorem nkK_tup (q : Key) : isTupK (nkK q) = false := by cases q <;> rfl
/-- an entry by a key that is carried by value; by a tuple -/
def KPs (e : Ent) (q : Key × Value) : Prop := e.1 = nkK q.1 ∧ e.2.1 = kV q.1 ∧ RelV e.2.2 q.2
def NPs (e : Ent) (q : NestedKey × Addr × Value) : Prop := e.1 = q.1 ∧ e.2.1 = .ref q.2.1 ∧ RelV e.2.2 q.2.2 ∧ isTupK e.1 = true
def DOraw (P : Program) (w : World) (h : Heap) (a : Addr) (xs : List (NestedKey × Addr × Value)) : Prop :=
  ∃ o es ep, h.get? a = some o ∧ o.ExactDict ∧ o.data = .dict es ep ∧ es.toList = xs.map (entryOfKey (nestedKind P w)) ∧ (xs.map (·.1)).Nodup
def DO (P : Program) (w : World) (a : Addr) (es : List Ent) : HO := .ext fun h => (a == sysModules) = false ∧ es.length ≤ sizeLine ∧
  ((∃ ks : List (Key × Value), Paired KPs es ks ∧ h.DictOf (mixKind P w) a ks) ∨ ∃ xs, Paired NPs es xs ∧ DOraw P w h a xs)
def dAt (es : List Ent) (k : NestedKey) : Option V := (es.find? fun e => decide (e.1 = k)).map (·.2.2)
def dPut (es : List Ent) (k : NestedKey) (y v : V) : List Ent := if (dAt es k).isSome then es.map (fun e => if e.1 = k then (e.1, e.2.1, v) else e) else es ++ [(k, y, v)]
def dDel (es : List Ent) (k : NestedKey) : List Ent := es.filter fun e => decide (e.1 ≠ k)
/-- at u stands the key k -/
def KyU (P : Program) (w : World) (h : Heap) (k : NestedKey) (u : Value) : Prop := (∃ q : Key, k = nkK q ∧ RelV (kV q) u) ∨ ∃ b, u = .ref b ∧ (nestedKind P w).is h k b ∧ isTupK k = true
def KeysIn (P : Program) (w : World) (h : Heap) (es : List Ent) : Prop := ∀ e ∈ es, ∀ b, e.2.1 = .ref b → (nestedKind P w).is h e.1 b
def Uni (es : List Ent) (t : Bool) : Prop := ∀ e ∈ es, isTupK e.1 = t
section
variable {X : Cx} {pins : List (Addr × Obj)} {σ : L2.St} {H : Hp} {s : Shared} {A : Around} {E : Value → Shared → Prop} {a b : Addr} {es : List Ent} {k : NestedKey} {u : Value}
theorem dof_raw {P : Program} {w : World} {h : Heap} (x : h.DictOf (mixKind P w) a []) : DOraw P w h a [] := by
  obtain ⟨o, es, ep, h1, h2, h3, _, h5, _⟩ := x
  refine ⟨o, es, ep, h1, h2, h3, ?_, List.nodup_nil⟩
  have := h5.length
  rw [List.map_nil]
  exact List.eq_nil_of_length_eq_zero (by simpa using this)
theorem raw_dof {P : Program} {w : World} {h : Heap} (x : DOraw P w h a []) : h.DictOf (mixKind P w) a [] := by
  obtain ⟨o, es, ep, h1, h2, h3, h4, _⟩ := x
  have h4 : es = #[] := by
    rw [List.map_nil] at h4
    exact Array.toList_inj.mp h4
  subst h4
  exact ⟨o, #[], ep, h1, h2, h3, fun e he => absurd he (by simp), .nil, List.nodup_nil⟩
theorem do_sc (I : Inv X pins σ H s) (ha : H a = some (DO X.prog X.w a es)) (hs : Uni es false) : (a == sysModules) = false ∧ es.length ≤ sizeLine ∧ ∃ ks : List (Key × Value), Paired KPs es ks ∧ s.heap.DictOf (mixKind X.prog X.w) a ks := by
  obtain ⟨⟨h1, h2, h⟩, _⟩ := I.hok a _ ha
  refine ⟨h1, h2, ?_⟩
  rcases h with h | ⟨xs, p, d⟩
  · exact h
  · cases p with
    | nil => exact ⟨[], .nil, raw_dof d⟩
    | cons q t =>
      have := hs _ List.mem_cons_self
      rw [q.2.2.2] at this
      cases this
theorem do_tp (I : Inv X pins σ H s) (ha : H a = some (DO X.prog X.w a es)) (hs : Uni es true) (hk : KeysIn X.prog X.w s.heap es) : (a == sysModules) = false ∧ es.length ≤ sizeLine ∧ ∃ xs, Paired NPs es xs ∧ s.heap.DictOfH (nestedKind X.prog X.w) a xs := by
  obtain ⟨⟨h1, h2, h⟩, _⟩ := I.hok a _ ha
  refine ⟨h1, h2, ?_⟩
  have fin : ∀ xs, Paired NPs es xs → DOraw X.prog X.w s.heap a xs → ∃ xs, Paired NPs es xs ∧ s.heap.DictOfH (nestedKind X.prog X.w) a xs := by
    intro xs p d
    obtain ⟨o, es', ep, g1, g2, g3, g4, g5⟩ := d
    refine ⟨xs, p, o, es', ep, g1, g2, g3, g4, ?_, g5⟩
    have all : ∀ {es : List Ent} {xs : List (NestedKey × Addr × Value)}, Paired NPs es xs → KeysIn X.prog X.w s.heap es → ∀ x ∈ xs, (nestedKind X.prog X.w).is s.heap x.1 x.2.1 := by
      intro es xs h
      induction h with
      | nil => intro _ x hx; cases hx
      | @cons p q ps qs h t ih =>
        intro hk x hx
        rcases List.mem_cons.mp hx with rfl | hx
        · have := hk p List.mem_cons_self _ h.2.1
          rw [h.1] at this
          exact this
        · exact ih (fun p hp => hk p (List.mem_cons_of_mem _ hp)) x hx
    exact all p hk
  rcases h with ⟨ks, p, d⟩ | ⟨xs, p, d⟩
  · cases p with
    | nil => exact fin [] .nil (dof_raw d)
    | cons q t =>
      have := hs _ List.mem_cons_self
      rw [q.1, nkK_tup] at this
      cases this
  · exact fin xs p d
theorem kp_at : ∀ {es : List Ent} {ks : List (Key × Value)}, Paired KPs es ks → ∀ q, RelO (dAt es (nkK q)) (valueAt ks q)
  | [], [], .nil, q => trivial
  | p :: es, r :: ks, .cons ⟨h1, h2, h3⟩ t, q => by
    by_cases e : p.1 = nkK q
    · have e' : r.1 = q := nkK_inj (h1.symm.trans e)
      have e1 : dAt (p :: es) (nkK q) = some p.2.2 := by unfold dAt; rw [List.find?_cons_of_pos (by simpa using e)]; rfl
      have e2 : valueAt (r :: ks) q = some r.2 := by unfold valueAt; rw [List.find?_cons_of_pos (by simpa using e')]; rfl
      rw [e1, e2]; exact h3
    · have e' : ¬ r.1 = q := fun z => e (z ▸ h1)
      have e1 : dAt (p :: es) (nkK q) = dAt es (nkK q) := by unfold dAt; rw [List.find?_cons_of_neg (by simpa using e)]
      have e2 : valueAt (r :: ks) q = valueAt ks q := by unfold valueAt; rw [List.find?_cons_of_neg (by simpa using e')]
      rw [e1, e2]; exact kp_at t q
theorem np_at : ∀ {es : List Ent} {xs : List (NestedKey × Addr × Value)}, Paired NPs es xs → ∀ k, RelO (dAt es k) ((atKey xs k).map (·.2))
  | [], [], .nil, k => trivial
  | p :: es, q :: xs, .cons ⟨h1, h2, h3, _⟩ t, k => by
    by_cases e : p.1 = k
    · have e' : q.1 = k := h1 ▸ e
      have e1 : dAt (p :: es) k = some p.2.2 := by unfold dAt; rw [List.find?_cons_of_pos (by simpa using e)]; rfl
      have e2 : atKey (q :: xs) k = some q.2 := by unfold atKey; rw [List.find?_cons_of_pos (by simpa using e')]; rfl
      rw [e1, e2]; exact h3
    · have e' : ¬ q.1 = k := h1 ▸ e
      have e1 : dAt (p :: es) k = dAt es k := by unfold dAt; rw [List.find?_cons_of_neg (by simpa using e)]
      have e2 : atKey (q :: xs) k = atKey xs k := by unfold atKey; rw [List.find?_cons_of_neg (by simpa using e')]
      rw [e1, e2]; exact np_at t k
theorem paired_app {α β : Type} {F : α → β → Prop} : ∀ {l₁ : List α} {l₂ : List β} {m₁ : List α} {m₂ : List β}, Paired F l₁ l₂ → Paired F m₁ m₂ → Paired F (l₁ ++ m₁) (l₂ ++ m₂)
  | _, _, _, _, .nil, h => h
  | _, _, _, _, .cons h t, h2 => .cons h (paired_app t h2)
theorem uni_kp : ∀ {es : List Ent} {ks : List (Key × Value)}, Paired KPs es ks → Uni es false
  | _, _, .nil, e, he => by cases he
  | _, _, .cons q t, e, he => by
    rcases List.mem_cons.mp he with rfl | he
    · rw [q.1, nkK_tup]
    · exact uni_kp t e he
theorem uni_np : ∀ {es : List Ent} {ks : List (NestedKey × Addr × Value)}, Paired NPs es ks → Uni es true
  | _, _, .nil, e, he => by cases he
  | _, _, .cons q t, e, he => by
    rcases List.mem_cons.mp he with rfl | he
    · exact q.2.2.2
    · exact uni_np t e he
theorem relV_ref {y : V} {b : Addr} (ry : RelV y (.ref b)) : y = .ref b := by
  cases y with
  | ref c => cases (show Value.ref b = Value.ref c from ry); rfl
  | non => cases (show Value.ref b = Value.none from ry)
  | bl c => cases (show Value.ref b = Value.bool c from ry)
  | ty c => cases (show Value.ref b = Value.type c from ry)
  | int c => obtain ⟨t, e⟩ := (show ∃ t, Value.ref b = Value.int c t from ry); cases e
  | str c => obtain ⟨t, e⟩ := (show ∃ t, Value.ref b = Value.str c t from ry); cases e
  | byt c => obtain ⟨t, e⟩ := (show ∃ t, Value.ref b = Value.bytes c t from ry); cases e
  | flt c => obtain ⟨t, e⟩ := (show ∃ t, Value.ref b = Value.float c t from ry); cases e
theorem relO_isSome {o : Option V} {p : Option Value} (h : RelO o p) : o.isSome = p.isSome := by
  cases o <;> cases p <;> first | rfl | exact h.elim
theorem kp_put {ks : List (Key × Value)} (h : Paired KPs es ks) (q : Key) {v : V} {r : Value} (rv : RelV v r) : Paired KPs (dPut es (nkK q) (kV q) v) (stored ks q r) := by
  unfold dPut stored
  have e : (dAt es (nkK q)).isSome = ks.any (fun kv => decide (kv.1 = q)) := by
    rw [relO_isSome (kp_at h q)]
    unfold valueAt
    rw [Option.isSome_map]
    clear rv h
    induction ks with
    | nil => rfl
    | cons z zs ih =>
      rw [List.any_cons]
      by_cases c : z.1 = q
      · rw [List.find?_cons_of_pos (by simpa using c), decide_eq_true c]; rfl
      · rw [List.find?_cons_of_neg (by simpa using c), decide_eq_false c, Bool.false_or]; exact ih
  rw [e]
  split
  · have : ∀ {es : List Ent} {ks : List (Key × Value)}, Paired KPs es ks → Paired KPs (es.map (fun e => if e.1 = nkK q then (e.1, e.2.1, v) else e)) (ks.map (fun kv => if kv.1 = q then (kv.1, r) else kv)) := by
      intro es ks h
      induction h with
      | nil => exact .nil
      | @cons p z ps zs h t ih =>
        refine .cons ?_ ih
        obtain ⟨h1, h2, h3⟩ := h
        dsimp only
        by_cases e : p.1 = nkK q
        · rw [if_pos e, if_pos (nkK_inj (h1.symm.trans e))]; exact ⟨h1, h2, rv⟩
        · rw [if_neg e, if_neg (fun hz => e (h1.trans (congrArg nkK hz)))]; exact ⟨h1, h2, h3⟩
    exact this h
  · exact paired_app h (.cons ⟨rfl, rfl, rv⟩ .nil)
theorem np_put {xs : List (NestedKey × Addr × Value)} (h : Paired NPs es xs) (k : NestedKey) (ht : isTupK k = true) (b : Addr) {v : V} {r : Value} (rv : RelV v r) : Paired NPs (dPut es k (.ref b) v) (storedH xs k b r) := by
  unfold dPut storedH
  have e : (dAt es k).isSome = (atKey xs k).isSome := by
    rw [relO_isSome (np_at h k), Option.isSome_map]
  rw [e]
  split
  · have : ∀ {es : List Ent} {xs : List (NestedKey × Addr × Value)}, Paired NPs es xs → Paired NPs (es.map (fun e => if e.1 = k then (e.1, e.2.1, v) else e)) (xs.map (putAt k r)) := by
      intro es xs h
      induction h with
      | nil => exact .nil
      | @cons p z ps zs h t ih =>
        refine .cons ?_ ih
        obtain ⟨h1, h2, h3, h4⟩ := h
        unfold putAt
        dsimp only
        by_cases e : p.1 = k
        · rw [if_pos e, if_pos (h1 ▸ e)]; exact ⟨h1, h2, rv, h4⟩
        · rw [if_neg e, if_neg (h1 ▸ e)]; exact ⟨h1, h2, h3, h4⟩
    exact this h
  · exact paired_app h (.cons ⟨rfl, rfl, rv, ht⟩ .nil)
theorem kp_del {ks : List (Key × Value)} (h : Paired KPs es ks) (q : Key) : Paired KPs (dDel es (nkK q)) (without ks q) := by
  unfold dDel without
  induction h with
  | nil => exact .nil
  | @cons p z ps zs h t ih =>
    obtain ⟨h1, h2, h3⟩ := h
    by_cases e : p.1 = nkK q
    · rw [List.filter_cons_of_neg (by simpa using e), List.filter_cons_of_neg (by simpa using nkK_inj (h1.symm.trans e))]; exact ih
    · rw [List.filter_cons_of_pos (by simpa using e), List.filter_cons_of_pos (by simpa using (fun hz => e (h1.trans (congrArg nkK hz))))]; exact .cons ⟨h1, h2, h3⟩ ih
theorem np_del {xs : List (NestedKey × Addr × Value)} (h : Paired NPs es xs) (k : NestedKey) : Paired NPs (dDel es k) (withoutH xs k) := by
  unfold dDel withoutH
  induction h with
  | nil => exact .nil
  | @cons p z ps zs h t ih =>
    obtain ⟨h1, h2, h3, h4⟩ := h
    by_cases e : p.1 = k
    · rw [List.filter_cons_of_neg (by simpa using e), List.filter_cons_of_neg (by simpa using (h1 ▸ e))]; exact ih
    · rw [List.filter_cons_of_pos (by simpa using e), List.filter_cons_of_pos (by simpa using (fun z => e (h1 ▸ z)))]; exact .cons ⟨h1, h2, h3, h4⟩ ih
theorem do_new {P : Program} {w : World} {H : Hp} {h : Heap} (h1 : (a == sysModules) = false) (h2 : es.length ≤ sizeLine)
    (d : (∃ ks : List (Key × Value), Paired KPs es ks ∧ h.DictOf (mixKind P w) a ks) ∨ ∃ xs, Paired NPs es xs ∧ DOraw P w h a xs) : ObjOk P w H h a (DO P w a es) := by
  refine ⟨⟨h1, h2, d⟩, ?_, fun x y ⟨a1, a2, a3⟩ k => ⟨a1, a2, ?_⟩⟩
  · rcases d with ⟨ks, _, o, _, _, e, _⟩ | ⟨xs, _, o, _, _, e, _⟩
    · exact ⟨o, e⟩
    · exact ⟨o, e⟩
  · rcases a3 with ⟨ks, p, o, es', ep, e, r⟩ | ⟨xs, p, o, es', ep, e, r⟩
    · exact .inl ⟨ks, p, o, es', ep, k _ e, r⟩
    · exact .inr ⟨xs, p, o, es', ep, k _ e, r⟩
theorem dofh_raw {P : Program} {w : World} {h : Heap} {xs : List (NestedKey × Addr × Value)} (d : h.DictOfH (nestedKind P w) a xs) : DOraw P w h a xs := by
  obtain ⟨o, es, ep, g1, g2, g3, g4, _, g5⟩ := d
  exact ⟨o, es, ep, g1, g2, g3, g4, g5⟩
theorem dPut_len (y v : V) : (dPut es k y v).length ≤ es.length + 1 := by
  unfold dPut
  split
  · rw [List.length_map]; omega
  · rw [List.length_append]; simp
theorem dDel_len : (dDel es k).length ≤ es.length := List.length_filter_le _ _

theorem e_room (hu : A.units + 1 + 8 < cLine) : (nestedKind X.prog X.w).room A.in1 := hu
/-- d[k], there -/
theorem n_getItem {v : V} {Q : Value → Shared → Prop} (hu : A.units + 1 + 8 < cLine) (I : Inv X pins σ H s) (ha : H a = some (DO X.prog X.w a es)) (hk : KeysIn X.prog X.w s.heap es) (hy : KyU X.prog X.w s.heap k u) (hs : Uni es (isTupK k)) (hv : dAt es k = some v)
    (h : ∀ u s', Inv X pins σ H s' → RelV v u → Q u s') : wpAny (model X.prog X.w) A (getItem (.ref a) u) Q E s := by
  rcases hy with ⟨q, rfl, rq⟩ | ⟨b, rfl, hb, ht⟩
  · rw [nkK_tup] at hs
    obtain ⟨h1, h2, ks, p, d⟩ := do_sc I ha hs
    obtain ⟨w', hw, rw'⟩ := RelO.some_of (v := v) (o := valueAt ks q) (by rw [← hv]; exact kp_at p q)
    exact wpAny_getItem_of (kV_is rq) d.mapOf hw (h w' _ (I.tok _) rw')
  · rw [ht] at hs
    obtain ⟨h1, h2, xs, p, d⟩ := do_tp I ha hs hk
    obtain ⟨w', hw, rw'⟩ := RelO.some_of (v := v) (o := (atKey xs k).map (·.2)) (by rw [← hv]; exact np_at p k)
    obtain ⟨p, hp, hp2⟩ := Option.map_eq_some_iff.mp hw
    refine wpAny_getItem_heap (knd := nestedKind X.prog X.w) hu hb d hp ?_
    rw [hp2]
    exact h w' _ (I.tok _) rw'
theorem n_in {Q : Value → Shared → Prop} (hu : A.units + 1 + 8 < cLine) (I : Inv X pins σ H s) (ha : H a = some (DO X.prog X.w a es)) (hk : KeysIn X.prog X.w s.heap es) (hy : KyU X.prog X.w s.heap k u) (hs : Uni es (isTupK k))
    (h : ∀ s', Inv X pins σ H s' → Q (.bool (dAt es k).isSome) s') : wpAny (model X.prog X.w) A (compareOp .In u (.ref a)) Q E s := by
  rcases hy with ⟨q, rfl, rq⟩ | ⟨b, rfl, hb, ht⟩
  · rw [nkK_tup] at hs
    obtain ⟨h1, h2, ks, p, d⟩ := do_sc I ha hs
    refine wpAny_in_of (kV_is rq) h1 d.mapOf ?_
    rw [← relO_isSome (kp_at p q)]
    exact h _ (I.tok _)
  · rw [ht] at hs
    obtain ⟨h1, h2, xs, p, d⟩ := do_tp I ha hs hk
    refine wpAny_in_heap (knd := nestedKind X.prog X.w) hu hb h1 d ?_
    have := relO_isSome (np_at p k)
    rw [Option.isSome_map] at this
    rw [← this]
    exact h _ (I.tok _)
theorem n_notIn {Q : Value → Shared → Prop} (hu : A.units + 1 + 8 < cLine) (I : Inv X pins σ H s) (ha : H a = some (DO X.prog X.w a es)) (hk : KeysIn X.prog X.w s.heap es) (hy : KyU X.prog X.w s.heap k u) (hs : Uni es (isTupK k))
    (h : ∀ s', Inv X pins σ H s' → Q (.bool (!(dAt es k).isSome)) s') : wpAny (model X.prog X.w) A (compareOp .NotIn u (.ref a)) Q E s := by
  rcases hy with ⟨q, rfl, rq⟩ | ⟨b, rfl, hb, ht⟩
  · rw [nkK_tup] at hs
    obtain ⟨h1, h2, ks, p, d⟩ := do_sc I ha hs
    refine wpAny_notIn_of (kV_is rq) h1 d.mapOf ?_
    rw [← relO_isSome (kp_at p q)]
    exact h _ (I.tok _)
  · rw [ht] at hs
    obtain ⟨h1, h2, xs, p, d⟩ := do_tp I ha hs hk
    refine wpAny_notIn_heap (knd := nestedKind X.prog X.w) hu hb h1 d ?_
    have := relO_isSome (np_at p k)
    rw [Option.isSome_map] at this
    rw [← this]
    exact h _ (I.tok _)
/-- d.get(k, x) -/
theorem n_getOr {x : V} {r : Value} {Q : Value → Shared → Prop} (hu : A.units + 1 + 8 < cLine) (I : Inv X pins σ H s) (ha : H a = some (DO X.prog X.w a es)) (hk : KeysIn X.prog X.w s.heap es) (hy : KyU X.prog X.w s.heap k u) (hs : Uni es (isTupK k)) (rx : RelV x r)
    (h : ∀ u s', Inv X pins σ H s' → RelV ((dAt es k).getD x) u → Q u s') : wpAny (model X.prog X.w) A (call (.builtin "dict.get") [.ref a, u, r]) Q E s := by
  rcases hy with ⟨q, rfl, rq⟩ | ⟨b, rfl, hb, ht⟩
  · rw [nkK_tup] at hs
    obtain ⟨h1, h2, ks, p, d⟩ := do_sc I ha hs
    refine call_meetsIn PySem.F.slot_dict_get d.typeIs PySem.F.entry_dict_get (PySem.F.args_dict_get_3 _ _ _) (meets_dict_get_default (mixKind X.prog X.w) a (kV_is rq) h1 r) ⟨_, d.mapOf, h _ _ (I.tok _) ?_⟩
    have := kp_at p q
    cases e1 : dAt es (nkK q) <;> cases e2 : valueAt ks q <;> rw [e1, e2] at this <;> first | exact rx | exact this | exact this.elim
  · rw [ht] at hs
    obtain ⟨h1, h2, xs, p, d⟩ := do_tp I ha hs hk
    refine getOr_keyed (knd := nestedKind X.prog X.w) hu hb h1 ⟨xs, d, rfl⟩ (h _ _ (I.tok _) ?_)
    rw [valueAt_pairsH]
    have := np_at p k
    cases e1 : dAt es k <;> cases e2 : (atKey xs k).map (·.2) <;> rw [e1, e2] at this <;> first | exact rx | exact this | exact this.elim
/-- d[k] = v -/
theorem n_setItem {y v : V} {r : Value} {Q : Unit → Shared → Prop} (hu : A.units + 1 + 8 < cLine) (I : Inv X pins σ H s) (ha : H a = some (DO X.prog X.w a es)) (hk : KeysIn X.prog X.w s.heap es) (hy : KyU X.prog X.w s.heap k u) (ry : RelV y u) (hs : Uni es (isTupK k)) (rv : RelV v r) (hz : es.length < sizeLine)
    (h : ∀ s', Inv X pins σ (upd H a (DO X.prog X.w a (dPut es k y v))) s' → Q () s') : wpAny (model X.prog X.w) A (setItem (.ref a) u r) Q E s := by
  have hl : (dPut es k y v).length ≤ sizeLine := Nat.le_trans (dPut_len y v) hz
  rcases hy with ⟨q, rfl, rq⟩ | ⟨b, rfl, hb, ht⟩
  · rw [nkK_tup] at hs
    obtain ⟨h1, h2, ks, p, d⟩ := do_sc I ha hs
    have ey : y = kV q := by
      cases q with
      | inl i =>
        obtain ⟨t, rfl⟩ := rq
        cases y <;> first | (obtain ⟨t', e⟩ := ry; cases e; rfl) | (cases (show _ = _ from ry)) | (obtain ⟨t', e⟩ := ry; cases e)
      | inr i =>
        obtain ⟨t, rfl⟩ := rq
        cases y <;> first | (obtain ⟨t', e⟩ := ry; cases e; rfl) | (cases (show _ = _ from ry)) | (obtain ⟨t', e⟩ := ry; cases e)
    subst ey
    refine wpAny_setItem_pairs (hsz := by rw [← Paired.length p]; exact h2) (kV_is rq) d fun h' d' hs' => h _ ?_
    have he : ∃ q, h'.get? a = some q := let ⟨q, _, _, hq, _⟩ := d'; ⟨q, hq⟩
    exact d_write I (by rw [ha]; exact True.intro) hs' he (do_new h1 hl (.inl ⟨_, kp_put p q rv, d'⟩))
  · rw [ht] at hs
    obtain ⟨h1, h2, xs, p, d⟩ := do_tp I ha hs hk
    have ey : y = .ref b := relV_ref ry
    subst ey
    refine wpAny_setItem_heap (knd := nestedKind X.prog X.w) (hsz := by rw [← Paired.length p]; exact h2) hu hb d fun h' d' hs' => h _ ?_
    have he : ∃ q, h'.get? a = some q := let ⟨q, _, _, hq, _⟩ := d'; ⟨q, hq⟩
    exact d_write I (by rw [ha]; exact True.intro) hs' he (do_new h1 hl (.inr ⟨_, np_put p k ht b rv, dofh_raw d'⟩))
/-- d.pop(k), there -/
theorem n_pop {v : V} {Q : Value → Shared → Prop} (hu : A.units + 1 + 8 < cLine) (I : Inv X pins σ H s) (ha : H a = some (DO X.prog X.w a es)) (hk : KeysIn X.prog X.w s.heap es) (hy : KyU X.prog X.w s.heap k u) (hs : Uni es (isTupK k)) (hv : dAt es k = some v)
    (h : ∀ u s', Inv X pins σ (upd H a (DO X.prog X.w a (dDel es k))) s' → RelV v u → Q u s') : wpAny (model X.prog X.w) A (call (.builtin "dict.pop") [.ref a, u]) Q E s := by
  rcases hy with ⟨q, rfl, rq⟩ | ⟨b, rfl, hb, ht⟩
  · rw [nkK_tup] at hs
    obtain ⟨h1, h2, ks, p, d⟩ := do_sc I ha hs
    obtain ⟨w', hw, rw'⟩ := RelO.some_of (v := v) (o := valueAt ks q) (by rw [← hv]; exact kp_at p q)
    have hp : (keyPart u).isSome = true := by
      cases q with
      | inl i => obtain ⟨t, q⟩ := (show ∃ t, u = Value.int i t from rq); subst q; rfl
      | inr x => obtain ⟨t, q⟩ := (show ∃ t, u = Value.str x t from rq); subst q; rfl
    refine call_meetsIn PySem.F.slot_dict_pop d.typeIs PySem.F.entry_dict_pop (PySem.F.args_dict_pop_2 _ _) (meets_dict_pop_there (mixKind X.prog X.w) a (kV_is rq) [] (.inl rfl) hp)
      ⟨ks, w', d, by rw [← Paired.length p]; exact h2, hw, fun h' d' hs' => h w' _ ?_ rw'⟩
    have he : ∃ q, h'.get? a = some q := let ⟨q, _, _, hq, _⟩ := d'; ⟨q, hq⟩
    exact d_write I (by rw [ha]; exact True.intro) hs' he (do_new h1 (Nat.le_trans dDel_len h2) (.inl ⟨_, kp_del p q, d'⟩))
  · rw [ht] at hs
    obtain ⟨h1, h2, xs, p, d⟩ := do_tp I ha hs hk
    obtain ⟨w', hw, rw'⟩ := RelO.some_of (v := v) (o := (atKey xs k).map (·.2)) (by rw [← hv]; exact np_at p k)
    obtain ⟨pp, hp, hp2⟩ := Option.map_eq_some_iff.mp hw
    refine call_pop_heap (knd := nestedKind X.prog X.w) (hsz := by rw [← Paired.length p]; exact h2) (.inl rfl) (PySem.F.args_dict_pop_2 _ _) hu hb h1 d hp fun h' d' hs' => ?_
    rw [hp2]
    have he : ∃ q, h'.get? a = some q := let ⟨q, _, _, hq, _⟩ := d'; ⟨q, hq⟩
    exact h w' _ (d_write I (by rw [ha]; exact True.intro) hs' he (do_new h1 (Nat.le_trans dDel_len h2) (.inr ⟨_, np_del p k, dofh_raw d'⟩))) rw'
/-- d.setdefault(k, x) -/
theorem n_setd {y x : V} {r : Value} {Q : Value → Shared → Prop} (hu : A.units + 1 + 8 < cLine) (I : Inv X pins σ H s) (ha : H a = some (DO X.prog X.w a es)) (hk : KeysIn X.prog X.w s.heap es) (hy : KyU X.prog X.w s.heap k u) (ry : RelV y u) (hs : Uni es (isTupK k)) (rx : RelV x r) (hz : es.length < sizeLine)
    (h1 : ∀ v u s', dAt es k = some v → Inv X pins σ H s' → RelV v u → Q u s') (h2 : ∀ s', dAt es k = none → Inv X pins σ (upd H a (DO X.prog X.w a (dPut es k y x))) s' → Q r s') : wpAny (model X.prog X.w) A (call (.builtin "dict.setdefault") [.ref a, u, r]) Q E s := by
  have hl : (dPut es k y x).length ≤ sizeLine := Nat.le_trans (dPut_len y x) hz
  rcases hy with ⟨q, rfl, rq⟩ | ⟨b, rfl, hb, ht⟩
  · rw [nkK_tup] at hs
    obtain ⟨g1, g2, ks, p, d⟩ := do_sc I ha hs
    have ey : y = kV q := by
      cases q with
      | inl i =>
        obtain ⟨t, rfl⟩ := rq
        cases y <;> first | (obtain ⟨t', e⟩ := ry; cases e; rfl) | (cases (show _ = _ from ry)) | (obtain ⟨t', e⟩ := ry; cases e)
      | inr i =>
        obtain ⟨t, rfl⟩ := rq
        cases y <;> first | (obtain ⟨t', e⟩ := ry; cases e; rfl) | (cases (show _ = _ from ry)) | (obtain ⟨t', e⟩ := ry; cases e)
    subst ey
    have ka := kp_at p q
    refine call_meetsIn PySem.F.slot_dict_setdefault d.typeIs PySem.F.entry_dict_setdefault (PySem.F.args_dict_setdefault_3 _ _ _) (kt_meets_setdefault (mixKind X.prog X.w) a (kV_is rq) g1 r) ⟨ks, d, by rw [← Paired.length p]; exact g2, fun v hv => ?_, fun hn h' d' hs' => ?_⟩
    · rw [hv] at ka
      cases e1 : dAt es (nkK q) with
      | none => rw [e1] at ka; exact ka.elim
      | some v' => rw [e1] at ka; exact h1 v' v _ e1 (I.tok _) ka
    · rw [hn] at ka
      cases e1 : dAt es (nkK q) with
      | some v' => rw [e1] at ka; exact ka.elim
      | none =>
        have he : ∃ q, h'.get? a = some q := let ⟨q, _, _, hq, _⟩ := d'; ⟨q, hq⟩
        exact h2 _ e1 (d_write I (by rw [ha]; exact True.intro) hs' he (do_new g1 hl (.inl ⟨_, kp_put p q rx, d'⟩)))
  · rw [ht] at hs
    obtain ⟨g1, g2, xs, p, d⟩ := do_tp I ha hs hk
    have ey : y = .ref b := relV_ref ry
    subst ey
    have ka := np_at p k
    refine call_setdefault_heap (knd := nestedKind X.prog X.w) (hsz := by rw [← Paired.length p]; exact g2) hu hb g1 d (fun pp hp => ?_) fun hn h' d' hs' => ?_
    · rw [hp] at ka
      cases e1 : dAt es k with
      | none => rw [e1] at ka; exact ka.elim
      | some v' => rw [e1] at ka; exact h1 v' _ _ e1 (I.tok _) ka
    · rw [hn] at ka
      cases e1 : dAt es k with
      | some v' => rw [e1] at ka; exact ka.elim
      | none =>
        have he : ∃ q, h'.get? a = some q := let ⟨q, _, _, hq, _⟩ := d'; ⟨q, hq⟩
        exact h2 _ e1 (d_write I (by rw [ha]; exact True.intro) hs' he (do_new g1 hl (.inr ⟨_, np_put p k ht b rx, dofh_raw d'⟩)))
/-- len(d), if d: whatever its keys -/
theorem n_len {Q : Value → Shared → Prop} (I : Inv X pins σ H s) (ha : H a = some (DO X.prog X.w a es)) (hk : KeysIn X.prog X.w s.heap es) (h : ∀ t s', Inv X pins σ H s' → Q (.int es.length t) s') : wpAny (model X.prog X.w) A (call (.builtin "len") [.ref a]) Q E s := by
  have hz : (es.length : Int) < 2 ^ 63 := by
    obtain ⟨⟨_, h2, _⟩, _⟩ := I.hok a _ ha
    have := line63
    omega
  by_cases c : Uni es false
  · obtain ⟨h1, h2, ks, p, d⟩ := do_sc I ha c
    refine call_len_dict h1 d (by rw [← Paired.length p]; exact hz) ?_
    rw [← Paired.length p]
    exact h _ _ (I.tok _)
  · have c' : Uni es true := by
      obtain ⟨⟨_, _, h⟩, _⟩ := I.hok a _ ha
      rcases h with ⟨ks, p, _⟩ | ⟨xs, p, _⟩
      · exact absurd (uni_kp p) c
      · exact uni_np p
    obtain ⟨h1, h2, xs, p, d⟩ := do_tp I ha c' hk
    refine call_len_dictH (knd := nestedKind X.prog X.w) h1 d (by rw [← Paired.length p]; exact hz) ?_
    rw [← Paired.length p]
    exact h _ _ (I.tok _)
theorem raw_of (I : Inv X pins σ H s) (ha : H a = some (DO X.prog X.w a es)) : (a == sysModules) = false ∧ es.length ≤ sizeLine ∧ ∃ rs ep, s.heap.DictRaw a rs ep ∧ rs.size = es.length ∧ ∀ i (hi : i < rs.size), ∃ e, es[i]? = some e ∧ RelV e.2.1 rs[i].key ∧ RelV e.2.2 rs[i].val := by
  obtain ⟨⟨h1, h2, h⟩, _⟩ := I.hok a _ ha
  refine ⟨h1, h2, ?_⟩
  rcases h with ⟨ks, p, d⟩ | ⟨xs, p, o, rs, ep, g1, g2, g3, g4, g5⟩
  · obtain ⟨rs, ep, r1, r2, r3⟩ := d.raw
    refine ⟨rs, ep, r1, r2.trans (Paired.length p).symm, fun i hi => ?_⟩
    have hk : i < ks.length := by rw [← r2]; exact hi
    obtain ⟨m1, m2⟩ := r3 i hi ks[i].1 ks[i].2 (List.getElem?_eq_getElem hk)
    have : ∀ {es : List Ent} {ks : List (Key × Value)} {i : Nat} {q : Key × Value}, Paired KPs es ks → ks[i]? = some q → ∃ e, es[i]? = some e ∧ KPs e q := by
      intro es ks i q p
      induction p generalizing i with
      | nil => intro e; simp at e
      | cons h t ih =>
        intro e
        cases i with
        | zero => simp at e; subst e; exact ⟨_, rfl, h⟩
        | succ i => obtain ⟨x, e1, h1⟩ := ih (i := i) (by simpa using e); exact ⟨x, by simpa using e1, h1⟩
    obtain ⟨e, e1, e2, e3, e4⟩ := this p (List.getElem?_eq_getElem hk)
    refine ⟨e, e1, ?_, ?_⟩
    · rw [e3]
      have m1 : keyIs ks[i].1 rs[i].key = true := m1
      rcases keyIs_shape m1 with ⟨i', t, z1, z2⟩ | ⟨x, t, z1, z2⟩
      · rw [z1, z2]; exact ⟨t, rfl⟩
      · rw [z1, z2]; exact ⟨t, rfl⟩
    · rw [m2]; exact e4
  · have hsz : rs.size = xs.length := by
      have := congrArg List.length g4
      rw [Array.length_toList, List.length_map] at this
      exact this
    refine ⟨rs, ep, ⟨o, g1, g2, g3⟩, hsz.trans (Paired.length p).symm, fun i hi => ?_⟩
    have hx : i < xs.length := by rw [← hsz]; exact hi
    have : ∀ {es : List Ent} {ks : List (NestedKey × Addr × Value)} {i : Nat} {q : NestedKey × Addr × Value}, Paired NPs es ks → ks[i]? = some q → ∃ e, es[i]? = some e ∧ NPs e q := by
      intro es ks i q p
      induction p generalizing i with
      | nil => intro e; simp at e
      | cons h t ih =>
        intro e
        cases i with
        | zero => simp at e; subst e; exact ⟨_, rfl, h⟩
        | succ i => obtain ⟨x, e1, h1⟩ := ih (i := i) (by simpa using e); exact ⟨x, by simpa using e1, h1⟩
    obtain ⟨e, e1, e2, e3, e4, e5⟩ := this p (List.getElem?_eq_getElem hx)
    have er : rs[i] = entryOfKey (nestedKind X.prog X.w) xs[i] := by
      have h1 : rs.toList[i]? = some rs[i] := by rw [Array.getElem?_toList]; exact Array.getElem?_eq_getElem hi
      rw [g4, List.getElem?_map, List.getElem?_eq_getElem hx] at h1
      exact (Option.some.inj h1).symm
    refine ⟨e, e1, ?_, ?_⟩
    · rw [e3, er]; rfl
    · rw [er]; exact e4
end
end PD

namespace PD
open PySem PySem.Spec PyProof.Rows L2

abbrev D := PyData
abbrev Sg := L2.St

/-! ### two heaps: F (what never changes again) within H (all) -/
structure Ext (F H F' H' : Hp) : Prop where
  f : Same F F'
  h : Same H H'
  new : ∀ a, H a ≠ none → F' a = F a
theorem Ext.refl (F H : Hp) : Ext F H F H := ⟨Same.refl F, Same.refl H, fun _ _ => rfl⟩
theorem some_ne {H : Hp} {a : Addr} {o : HO} (h : H a = some o) : H a ≠ none := fun e => by rw [h] at e; cases e
theorem ne_some {H : Hp} {a : Addr} (h : H a ≠ none) : ∃ o, H a = some o := by
  cases e : H a with
  | none => exact absurd e h
  | some o => exact ⟨o, rfl⟩
theorem Same.ne {H H' : Hp} (s : Same H H') {a : Addr} (h : H a ≠ none) : H' a ≠ none := by
  obtain ⟨o, e⟩ := ne_some h
  exact some_ne (s a o e)
theorem Ext.trans {F H F1 H1 F2 H2 : Hp} (a : Ext F H F1 H1) (b : Ext F1 H1 F2 H2) : Ext F H F2 H2 :=
  ⟨a.f.trans b.f, a.h.trans b.h, fun x hx => (b.new x (Same.ne a.h hx)).trans (a.new x hx)⟩
theorem same_upd {H : Hp} {p : Addr} {o : HO} (h : H p = none) : Same H (upd H p o) := fun b x e => by
  rw [upd_ne (ne_of_none e h)]; exact e
theorem same_upd2 {F H : Hp} {p : Addr} {o : HO} (s : Same F H) (h : F p = none) : Same F (upd H p o) := fun b x e => by
  rw [upd_ne (ne_of_none e h)]; exact s b x e
theorem same_both {F H : Hp} {p : Addr} {o : HO} (s : Same F H) : Same (upd F p o) (upd H p o) := fun b x e => by
  by_cases hb : b = p
  · subst hb; rw [upd_same] at e ⊢; exact e
  · rw [upd_ne hb] at e ⊢; exact s b x e
/-- a new thing, never to change -/
theorem Ext.lay {F H : Hp} {p : Addr} {o : HO} (s : Same F H) (h : H p = none) : Ext F H (upd F p o) (upd H p o) :=
  ⟨same_upd (s.free h), same_upd h, fun a ha => by
    have : a ≠ p := fun e => ha (e ▸ h)
    rw [upd_ne this]⟩
/-- a new thing that may change -/
theorem Ext.mkO {F H : Hp} {p : Addr} {o : HO} (h : H p = none) : Ext F H F (upd H p o) := ⟨Same.refl F, same_upd h, fun _ _ => rfl⟩

/-! ### what the heap is read by: the start heap's fragment, the program, the world -/
structure Kx where
  K : PySem.W.Frag
  P : Program
  w : World
instance : CoeOut Kx PySem.W.Frag := ⟨Kx.K⟩
abbrev kxOf (X : Cx) : Kx := ⟨X.K, X.prog, X.w⟩

/-! ### data -/
mutual
/-- at v, in H, stands the datum -/
inductive Rp (K : Kx) (H : Hp) : V → D → Prop
  | non : Rp K H .non .none
  | bl (b : Bool) : Rp K H (.bl b) (.bool b)
  | int (i : Int) : Rp K H (.int i) (.int i)
  | str (x : Str) : Rp K H (.str x) (.str x)
  | lst {a : Addr} {xs : List V} {ds : List D} : SqL K H a xs → RpAll K H xs ds → Rp K H (.ref a) (.list ds)
  | tup {a : Addr} {xs : List V} {ds : List D} : SqT K H a xs → RpAll K H xs ds → Rp K H (.ref a) (.tuple ds)
  | dic {a : Addr} {es : List Ent} {kvs : List (D × D)} : H a = some (DO K.P K.w a es) → RpD K H es kvs → Rp K H (.ref a) (.dict kvs)
inductive RpAll (K : Kx) (H : Hp) : List V → List D → Prop
  | nil : RpAll K H [] []
  | cons {v : V} {vs : List V} {d : D} {ds : List D} : Rp K H v d → RpAll K H vs ds → RpAll K H (v :: vs) (d :: ds)
inductive RpD (K : Kx) (H : Hp) : List Ent → List (D × D) → Prop
  | nil : RpD K H [] []
  | cons {n : NestedKey} {x y : V} {es : List Ent} {k v : D} {kvs : List (D × D)} : Rp K H x k → nkD k = some n ∧ keyD k = true → Rp K H y v → RpD K H es kvs → RpD K H ((n, x, y) :: es) ((k, v) :: kvs)
end
mutual
theorem rp_dp {K : Kx} {H : Hp} : ∀ (d : D) (v : V), d.plain = true → Rp K H v d → Dp K H v d
  | .none, _, _, h => by cases h; exact .non
  | .bool b, _, _, h => by cases h; exact .bl b
  | .int i, _, _, h => by cases h; exact .int i
  | .str x, _, _, h => by cases h; exact .str x
  | .list ds, _, hp, h => by
    cases h with
    | lst hs ha => exact .lst hs (ra_da ds _ (by unfold PyData.plain at hp; exact hp) ha)
  | .tuple ds, _, hp, h => by
    cases h with
    | tup hs ha => exact .tup hs (ra_da ds _ (by unfold PyData.plain at hp; exact hp) ha)
  | .dict _, _, hp, h => by unfold PyData.plain at hp; cases hp
theorem ra_da {K : Kx} {H : Hp} : ∀ (ds : List D) (vs : List V), PyData.plainAll ds = true → RpAll K H vs ds → DpAll K H vs ds
  | [], _, _, h => by cases h; exact .nil
  | d :: ds, _, hp, h => by
    unfold PyData.plainAll at hp
    rw [Bool.and_eq_true] at hp
    cases h with
    | cons h1 h2 => exact .cons (rp_dp d _ hp.1 h1) (ra_da ds _ hp.2 h2)
end
theorem rd_mono {H H' : Hp} {a : Addr} {u : HO} (e : Same H H') (h : Rd H a u) : Rd H' a u := by
  rcases h with h | ⟨o, h⟩
  · exact .inl (e _ _ h)
  · exact .inr ⟨o, e _ _ h⟩
theorem sqL_mono {K : PySem.W.Frag} {H H' : Hp} {a : Addr} {xs : List V} (e : Same H H') (h : SqL K H a xs) : SqL K H' a xs := e.seq h
theorem sqT_mono {K : PySem.W.Frag} {H H' : Hp} {a : Addr} {xs : List V} (e : Same H H') (h : SqT K H a xs) : SqT K H' a xs := by
  rcases h with (h | ⟨o, h⟩) | h
  · exact .inl (.inl (e _ _ h))
  · exact .inl (.inr ⟨o, e _ _ h⟩)
  · exact .inr h
mutual
theorem dp_mono {K : Kx} {H H' : Hp} (e : Same H H') : ∀ (d : D) (v : V), Rp K H v d → Rp K H' v d
  | .none, _, h => by cases h; exact .non
  | .bool b, _, h => by cases h; exact .bl b
  | .int i, _, h => by cases h; exact .int i
  | .str x, _, h => by cases h; exact .str x
  | .list ds, _, h => by
    cases h with
    | lst hs ha => exact .lst (sqL_mono e hs) (dpAll_mono e ds _ ha)
  | .tuple ds, _, h => by
    cases h with
    | tup hs ha => exact .tup (sqT_mono e hs) (dpAll_mono e ds _ ha)
  | .dict kvs, _, h => by
    cases h with
    | dic hs ha => exact .dic (e _ _ hs) (dpD_mono e kvs _ ha)
theorem dpAll_mono {K : Kx} {H H' : Hp} (e : Same H H') : ∀ (ds : List D) (vs : List V), RpAll K H vs ds → RpAll K H' vs ds
  | [], _, h => by cases h; exact .nil
  | d :: ds, _, h => by
    cases h with
    | cons h1 h2 => exact .cons (dp_mono e d _ h1) (dpAll_mono e ds _ h2)
theorem dpD_mono {K : Kx} {H H' : Hp} (e : Same H H') : ∀ (ds : List (D × D)) (vs : List Ent), RpD K H vs ds → RpD K H' vs ds
  | [], _, h => by cases h; exact .nil
  | (k, v) :: ds, _, h => by
    cases h with
    | cons h1 h2 h3 h4 => exact .cons (dp_mono e k _ h1) h2 (dp_mono e v _ h3) (dpD_mono e ds _ h4)
end
theorem dd_m {K : Kx} {H H' : Hp} {vs : List Ent} {ds : List (D × D)} (h : RpD K H vs ds) (e : Same H H') : RpD K H' vs ds := dpD_mono e ds vs h
theorem dp_m {K : Kx} {H H' : Hp} {v : V} {d : D} (h : Rp K H v d) (e : Same H H') : Rp K H' v d := dp_mono e d v h
theorem da_m {K : Kx} {H H' : Hp} {vs : List V} {ds : List D} (h : RpAll K H vs ds) (e : Same H H') : RpAll K H' vs ds := dpAll_mono e ds vs h
theorem da_len {K : Kx} {H : Hp} : ∀ {vs : List V} {ds : List D}, RpAll K H vs ds → vs.length = ds.length
  | _, _, .nil => rfl
  | _, _, .cons _ h => by rw [List.length_cons, List.length_cons, da_len h]
theorem da_get {K : Kx} {H : Hp} : ∀ {vs : List V} {ds : List D} {i : Nat} {d : D}, RpAll K H vs ds → ds[i]? = some d → ∃ v, vs[i]? = some v ∧ Rp K H v d
  | _, _, _, _, .nil, e => by simp at e
  | _, _, 0, _, .cons h _, e => by simp at e; subst e; exact ⟨_, rfl, h⟩
  | _, _, i + 1, d, .cons _ h, e => by
    obtain ⟨v, e1, h1⟩ := da_get (i := i) (d := d) h (by simpa using e)
    exact ⟨v, by simpa using e1, h1⟩
theorem da_get' {K : Kx} {H : Hp} : ∀ {vs : List V} {ds : List D} {i : Nat} {v : V}, RpAll K H vs ds → vs[i]? = some v → ∃ d, ds[i]? = some d ∧ Rp K H v d
  | _, _, _, _, .nil, e => by simp at e
  | _, _, 0, _, .cons h _, e => by simp at e; subst e; exact ⟨_, rfl, h⟩
  | _, _, i + 1, d, .cons _ h, e => by
    obtain ⟨v, e1, h1⟩ := da_get' (i := i) (v := d) h (by simpa using e)
    exact ⟨v, by simpa using e1, h1⟩
theorem da_app {K : Kx} {H : Hp} : ∀ {vs : List V} {ds : List D} {ws : List V} {es : List D}, RpAll K H vs ds → RpAll K H ws es → RpAll K H (vs ++ ws) (ds ++ es)
  | _, _, _, _, .nil, h => h
  | _, _, _, _, .cons h1 h2, h => .cons h1 (da_app h2 h)
theorem da_snoc {K : Kx} {H : Hp} {vs : List V} {ds : List D} {v : V} {d : D} (h : RpAll K H vs ds) (h1 : Rp K H v d) : RpAll K H (vs ++ [v]) (ds ++ [d]) := da_app h (.cons h1 .nil)
theorem da_take {K : Kx} {H : Hp} : ∀ {vs : List V} {ds : List D} (n : Nat), RpAll K H vs ds → RpAll K H (vs.take n) (ds.take n)
  | _, _, 0, _ => .nil
  | _, _, _ + 1, .nil => .nil
  | _, _, n + 1, .cons h t => .cons h (da_take n t)
theorem da_drop {K : Kx} {H : Hp} : ∀ {vs : List V} {ds : List D} (n : Nat), RpAll K H vs ds → RpAll K H (vs.drop n) (ds.drop n)
  | _, _, 0, h => h
  | _, _, _ + 1, .nil => .nil
  | _, _, n + 1, .cons _ t => da_drop n t
theorem da_set {K : Kx} {H : Hp} {v : V} {d : D} (r : Rp K H v d) : ∀ {vs : List V} {ds : List D} (i : Nat), RpAll K H vs ds → RpAll K H (vs.set i v) (ds.set i d)
  | _, _, _, .nil => .nil
  | _, _, 0, .cons _ t => .cons r t
  | _, _, i + 1, .cons q t => .cons q (da_set r i t)
theorem da_rep {K : Kx} {H : Hp} {vs : List V} {ds : List D} (h : RpAll K H vs ds) : ∀ k : Nat, RpAll K H (List.replicate k vs).flatten (List.replicate k ds).flatten
  | 0 => .nil
  | k + 1 => by
    rw [List.replicate_succ, List.replicate_succ, List.flatten_cons, List.flatten_cons]
    exact da_app h (da_rep h k)

/-! ### slots -/
inductive Sl where
  | fz (d : D)
  | ow (ds : List D)
  | ow2 (dss : List (List D))
  | od (kvs : List (D × D))
  | odl (kvs : List (D × List D))
abbrev Env := List (Option Sl)
def Own2 (K : Kx) (F H : Hp) : List Addr → List (List D) → Prop
  | [], [] => True
  | b :: bs, ds :: dss => (∃ xs, H b = some (.lst xs) ∧ RpAll K F xs ds) ∧ Own2 K F H bs dss
  | _, _ => False
/-- a dict of lists of its own: keys, addresses -/
def OwnD (K : Kx) (F H : Hp) : List Ent → List Addr → List (D × List D) → Prop
  | [], [], [] => True
  | e :: es, b :: bs, (k, ds) :: kvs => (Rp K F e.2.1 k ∧ (nkD k = some e.1 ∧ keyD k = true) ∧ e.2.2 = .ref b ∧ ∃ xs, H b = some (.lst xs) ∧ RpAll K F xs ds) ∧ OwnD K F H es bs kvs
  | _, _, _ => False
def SlRep (K : Kx) (F H : Hp) : Option Sl → Option V → List Addr → Prop
  | none, _, os => os = []
  | some (.fz d), v, os => os = [] ∧ ∃ x, v = some x ∧ Rp K F x d
  | some (.ow ds), v, os => ∃ a xs, v = some (.ref a) ∧ os = [a] ∧ H a = some (.lst xs) ∧ RpAll K F xs ds
  | some (.ow2 dss), v, os => ∃ a bs, v = some (.ref a) ∧ os = a :: bs ∧ H a = some (.lst (bs.map V.ref)) ∧ Own2 K F H bs dss
  | some (.od kvs), v, os => ∃ a es, v = some (.ref a) ∧ os = [a] ∧ H a = some (DO K.P K.w a es) ∧ RpD K F es kvs
  | some (.odl kvs), v, os => ∃ a bs es, v = some (.ref a) ∧ os = a :: bs ∧ H a = some (DO K.P K.w a es) ∧ OwnD K F H es bs kvs
theorem OwnD.mono {K : Kx} {F H F' H' : Hp} (f : Same F F') : ∀ {es : List Ent} {bs : List Addr} {kvs : List (D × List D)}, (∀ b ∈ bs, ∀ o, H b = some o → H' b = some o) → OwnD K F H es bs kvs → OwnD K F' H' es bs kvs
  | [], [], [], _, _ => True.intro
  | e :: es, b :: bs, (k, ds) :: kvs, h, ⟨⟨h1, h2, h3, xs, e1, r⟩, t⟩ => ⟨⟨dp_m h1 f, h2, h3, xs, h b List.mem_cons_self _ e1, da_m r f⟩, OwnD.mono f (fun c hc => h c (List.mem_cons_of_mem _ hc)) t⟩
  | [], [], _ :: _, _, h => h
  | [], _ :: _, _, _, h => by cases ‹List (D × List D)› <;> exact h.elim
  | _ :: _, [], _, _, h => h.elim
  | _ :: _, _ :: _, [], _, h => h.elim
theorem Own2.mono {K : Kx} {F H F' H' : Hp} (f : Same F F') : ∀ {bs : List Addr} {dss : List (List D)}, (∀ b ∈ bs, ∀ o, H b = some o → H' b = some o) → Own2 K F H bs dss → Own2 K F' H' bs dss
  | [], [], _, _ => True.intro
  | b :: bs, ds :: dss, h, ⟨⟨xs, e, r⟩, t⟩ => ⟨⟨xs, h b List.mem_cons_self _ e, da_m r f⟩, Own2.mono f (fun c hc => h c (List.mem_cons_of_mem _ hc)) t⟩
  | [], _ :: _, _, h => h
  | _ :: _, [], _, h => h
theorem SlRep.mono {K : Kx} {F H F' H' : Hp} {s : Option Sl} {v : Option V} {os : List Addr} (f : Same F F') (h : ∀ b ∈ os, ∀ o, H b = some o → H' b = some o) (r : SlRep K F H s v os) : SlRep K F' H' s v os := by
  match s, r with
  | none, r => exact r
  | some (.fz d), ⟨e, x, e1, q⟩ => exact ⟨e, x, e1, dp_m q f⟩
  | some (.ow ds), ⟨a, xs, e1, e2, e3, q⟩ =>
    subst e2
    exact ⟨a, xs, e1, rfl, h a (by simp) _ e3, da_m q f⟩
  | some (.ow2 dss), ⟨a, bs, e1, e2, e3, q⟩ =>
    subst e2
    exact ⟨a, bs, e1, rfl, h a (by simp) _ e3, q.mono f fun b hb => h b (List.mem_cons_of_mem _ hb)⟩
  | some (.od kvs), ⟨a, es, e1, e2, e3, q⟩ =>
    subst e2
    exact ⟨a, es, e1, rfl, h a (by simp) _ e3, dd_m q f⟩
  | some (.odl kvs), ⟨a, bs, es, e1, e2, e3, q⟩ =>
    subst e2
    exact ⟨a, bs, es, e1, rfl, h a (by simp) _ e3, q.mono f fun b hb => h b (List.mem_cons_of_mem _ hb)⟩
theorem OwnD.there {K : Kx} {F H : Hp} : ∀ {es : List Ent} {bs : List Addr} {kvs : List (D × List D)}, OwnD K F H es bs kvs → ∀ b ∈ bs, H b ≠ none
  | [], [], [], _, b, hb => by simp at hb
  | e :: es, c :: bs, (k, ds) :: kvs, ⟨⟨_, _, _, xs, e1, _⟩, t⟩, b, hb => by
    rcases List.mem_cons.mp hb with rfl | hb
    · exact some_ne e1
    · exact OwnD.there t b hb
  | [], [], _ :: _, h, _, _ => h.elim
  | [], _ :: _, _, h, _, _ => by cases ‹List (D × List D)› <;> exact h.elim
  | _ :: _, [], _, h, _, _ => h.elim
  | _ :: _, _ :: _, [], h, _, _ => h.elim
theorem Own2.there {K : Kx} {F H : Hp} : ∀ {bs : List Addr} {dss : List (List D)}, Own2 K F H bs dss → ∀ b ∈ bs, H b ≠ none
  | [], [], _, b, hb => by simp at hb
  | c :: bs, ds :: dss, ⟨⟨xs, e, _⟩, t⟩, b, hb => by
    rcases List.mem_cons.mp hb with rfl | hb
    · exact some_ne e
    · exact Own2.there t b hb
  | [], _ :: _, h, _, _ => h.elim
  | _ :: _, [], h, _, _ => h.elim
theorem SlRep.there {K : Kx} {F H : Hp} {s : Option Sl} {v : Option V} {os : List Addr} (r : SlRep K F H s v os) : ∀ b ∈ os, H b ≠ none := by
  intro b hb
  match s, r with
  | none, r => rw [r] at hb; simp at hb
  | some (.fz d), ⟨e, _⟩ => rw [e] at hb; simp at hb
  | some (.ow ds), ⟨a, xs, e1, e2, e3, q⟩ =>
    subst e2
    have : b = a := by simpa using hb
    subst this
    exact some_ne e3
  | some (.ow2 dss), ⟨a, bs, e1, e2, e3, q⟩ =>
    subst e2
    rcases List.mem_cons.mp hb with rfl | hb
    · exact some_ne e3
    · exact q.there b hb
  | some (.od kvs), ⟨a, es, e1, e2, e3, q⟩ =>
    subst e2
    have : b = a := by simpa using hb
    subst this
    exact some_ne e3
  | some (.odl kvs), ⟨a, bs, es, e1, e2, e3, q⟩ =>
    subst e2
    rcases List.mem_cons.mp hb with rfl | hb
    · exact some_ne e3
    · exact q.there b hb

abbrev gt {α : Type} (l : List (Option α)) (i : Nat) : Option α := l.getD i none
theorem gt_set {α : Type} {l : List (Option α)} {i j : Nat} {x : Option α} (h : i < l.length) : gt (l.set i x) j = if j = i then x else gt l j := by
  unfold gt
  rw [List.getD_eq_getElem?_getD, List.getD_eq_getElem?_getD]
  by_cases e : j = i
  · subst e; rw [if_pos rfl, List.getElem?_set_self h]; rfl
  · rw [if_neg e, List.getElem?_set_ne (Ne.symm e)]
theorem gt_some {α : Type} {l : List (Option α)} {i : Nat} {x : α} (h : gt l i = some x) : l[i]? = some (some x) := by
  unfold gt at h
  rw [List.getD_eq_getElem?_getD] at h
  cases e : l[i]? with
  | none => rw [e] at h; cases h
  | some y => rw [e] at h; exact congrArg some h
theorem gt_lt {α : Type} {l : List (Option α)} {i : Nat} {x : α} (h : gt l i = some x) : i < l.length := (List.getElem?_eq_some_iff.mp (gt_some h)).1

/-- the addresses that the slots own -/
structure Owns (K : Kx) (H0 F : Hp) (ρ : Env) (σ : Sg) (H : Hp) (O : Nat → List Addr) : Prop where
  nd : ∀ i, (O i).Nodup
  dj : ∀ i j a, a ∈ O i → a ∈ O j → i = j
  no : ∀ i a, a ∈ O i → F a = none ∧ H0 a = none
  rep : ∀ i, SlRep K F H (gt ρ i) (gt σ i) (O i)
structure R (K : Kx) (F0 H0 F : Hp) (ρ : Env) (σ : Sg) (H : Hp) : Prop where
  ext : Ext F0 H0 F H
  sub : Same F H
  len : σ.length = ρ.length
  own : ∃ O, Owns K H0 F ρ σ H O

section
variable {K : Kx} {F0 H0 F H F' H' : Hp} {ρ : Env} {σ : Sg}
/-- expressions: all that was there stays -/
theorem R.go (r : R K F0 H0 F ρ σ H) (e : Ext F H F' H') (s : Same F' H') : R K F0 H0 F' ρ σ H' := by
  obtain ⟨O, o⟩ := r.own
  refine ⟨r.ext.trans e, s, r.len, O, o.nd, o.dj, fun i a ha => ⟨?_, (o.no i a ha).2⟩, fun i => (o.rep i).mono e.f fun b _ x q => e.h b x q⟩
  rw [e.new a ((o.rep i).there a ha)]
  exact (o.no i a ha).1
/-- a slot is set to what never changes -/
theorem R.setF {i : Nat} {v : V} {d : D} (r : R K F0 H0 F ρ σ H) (hi : i < ρ.length) (q : Rp K F v d) : R K F0 H0 F (ρ.set i (some (.fz d))) (σ.set i (some v)) H := by
  obtain ⟨O, o⟩ := r.own
  have hi' : i < σ.length := by rw [r.len]; exact hi
  refine ⟨r.ext, r.sub, by rw [List.length_set, List.length_set]; exact r.len, fun j => if j = i then [] else O j, fun j => ?_, fun j k a h1 h2 => ?_, fun j a h1 => ?_, fun j => ?_⟩
  · split
    · exact List.nodup_nil
    · exact o.nd j
  · by_cases ej : j = i
    · rw [if_pos ej] at h1; simp at h1
    · rw [if_neg ej] at h1
      by_cases ek : k = i
      · rw [if_pos ek] at h2; simp at h2
      · rw [if_neg ek] at h2; exact o.dj j k a h1 h2
  · by_cases ej : j = i
    · rw [if_pos ej] at h1; simp at h1
    · rw [if_neg ej] at h1; exact o.no j a h1
  · rw [gt_set hi, gt_set hi']
    by_cases ej : j = i
    · rw [if_pos ej, if_pos ej, if_pos ej]; exact ⟨rfl, v, rfl, q⟩
    · rw [if_neg ej, if_neg ej, if_neg ej]; exact o.rep j
/-- a slot is forgotten -/
theorem R.wipe1 {i : Nat} (r : R K F0 H0 F ρ σ H) : R K F0 H0 F (ρ.set i none) (σ.set i none) H := by
  obtain ⟨O, o⟩ := r.own
  by_cases hi : i < ρ.length
  · have hi' : i < σ.length := by rw [r.len]; exact hi
    refine ⟨r.ext, r.sub, by rw [List.length_set, List.length_set]; exact r.len, fun j => if j = i then [] else O j, fun j => ?_, fun j k a h1 h2 => ?_, fun j a h1 => ?_, fun j => ?_⟩
    · split
      · exact List.nodup_nil
      · exact o.nd j
    · by_cases ej : j = i
      · rw [if_pos ej] at h1; simp at h1
      · rw [if_neg ej] at h1
        by_cases ek : k = i
        · rw [if_pos ek] at h2; simp at h2
        · rw [if_neg ek] at h2; exact o.dj j k a h1 h2
    · by_cases ej : j = i
      · rw [if_pos ej] at h1; simp at h1
      · rw [if_neg ej] at h1; exact o.no j a h1
    · rw [gt_set hi, gt_set hi']
      by_cases ej : j = i
      · rw [if_pos ej, if_pos ej, if_pos ej]; exact rfl
      · rw [if_neg ej, if_neg ej, if_neg ej]; exact o.rep j
  · have hi' : ¬ i < σ.length := by rw [r.len]; exact hi
    rw [List.set_eq_of_length_le (by omega), List.set_eq_of_length_le (by omega)]
    exact r
/-- a slot is set to a new thing that the slot owns -/
theorem R.setO {i : Nat} {v : V} {s : Sl} {os : List Addr} (r : R K F0 H0 F ρ σ H) (hi : i < ρ.length) (nd : os.Nodup) (no : ∀ a ∈ os, F a = none ∧ H0 a = none)
    (ap : ∀ O, Owns K H0 F ρ σ H O → ∀ j, j ≠ i → ∀ a ∈ os, a ∉ O j) (q : SlRep K F H (some s) (some v) os) : R K F0 H0 F (ρ.set i (some s)) (σ.set i (some v)) H := by
  obtain ⟨O, o⟩ := r.own
  have ap := ap O o
  have hi' : i < σ.length := by rw [r.len]; exact hi
  refine ⟨r.ext, r.sub, by rw [List.length_set, List.length_set]; exact r.len, fun j => if j = i then os else O j, fun j => ?_, fun j k a h1 h2 => ?_, fun j a h1 => ?_, fun j => ?_⟩
  · split
    · exact nd
    · exact o.nd j
  · by_cases ej : j = i
    · rw [if_pos ej] at h1
      by_cases ek : k = i
      · rw [ej, ek]
      · rw [if_neg ek] at h2; exact absurd h2 (ap k ek a h1)
    · rw [if_neg ej] at h1
      by_cases ek : k = i
      · rw [if_pos ek] at h2; exact absurd h1 (ap j ej a h2)
      · rw [if_neg ek] at h2; exact o.dj j k a h1 h2
  · by_cases ej : j = i
    · rw [if_pos ej] at h1; exact no a h1
    · rw [if_neg ej] at h1; exact o.no j a h1
  · rw [gt_set hi, gt_set hi']
    by_cases ej : j = i
    · rw [if_pos ej, if_pos ej, if_pos ej]; exact q
    · rw [if_neg ej, if_neg ej, if_neg ej]; exact o.rep j
end
end PD

set_option maxHeartbeats 1000000
namespace PD
open PySem PySem.Spec PyProof.Rows L2
theorem truthy_dictH {prog : Program} {w : World} {A : Around} {E : Value → Shared → Prop} {s : Shared} {K : Type} [DecidableEq K] {knd : HeapKind prog w K} {d : Addr} {kvs : List (K × Addr × Value)} {Q : Bool → Shared → Prop} (hd : (d == sysModules) = false) (hm : s.heap.DictOfH knd d kvs) (hfit : (kvs.length : Int) < 2 ^ 63)
    (h : Q (!kvs.isEmpty) { s with toks := s.toks + 1 + 1 }) : wpAny (model prog w) A (truthy (.ref d)) Q E s := by
  have hne : ((kvs.length : Int) != 0) = !kvs.isEmpty := by cases kvs <;> simp <;> omega
  have key : wpAny (model prog w) A (runValue (.builtin "len" ⟨[.ref d], []⟩)) (fun r s' => r = .int kvs.length (s.toks + 1) ∧ Q (!kvs.isEmpty) s') E s := by
    refine wpAny_runValue (codeAny_builtin entry_len ?_)
    rw [Around.under_plainId plain_len _]
    exact wpAny_mono (wpAny_len_body_dictH (Q := fun r s' => r = .int kvs.length (s.toks + 1) ∧ Q (!kvs.isEmpty) s') hd hm hfit ⟨rfl, h⟩)
      (fun fin s' h' => by obtain ⟨r, rfl, hq⟩ := h'; exact hq) fun _ _ e => e
  unfold truthy
  first
    | refine wpAny_bind (wpAny_callSpecial?_none (name := Str.ofString "__bool__") hm.typeIs noBool_dict ?_)
    | refine wpAny_bind (wpAny_pure (wpAny_bind (wpAny_callSpecial?_none (name := Str.ofString "__bool__") hm.typeIs noBool_dict ?_)))
  first
    | refine wpAny_bind (wpAny_specialOf (name := Str.ofString "__len__") hm.typeIs F.slot_dict_len.lookup ?_)
    | refine wpAny_bind (wpAny_pure (wpAny_bind (wpAny_specialOf (name := Str.ofString "__len__") hm.typeIs F.slot_dict_len.lookup ?_)))
  first
    | exact wpAny_bind (wpAny_mono key (fun r s' h' => by obtain ⟨rfl, hq⟩ := h'; exact wpAny_pure (hne ▸ hq)) fun _ _ e => e)
    | exact wpAny_bind (wpAny_pure (wpAny_bind (wpAny_mono key (fun r s' h' => by obtain ⟨rfl, hq⟩ := h'; exact wpAny_pure (hne ▸ hq)) fun _ _ e => e)))
/-! ### data as keys, in the heap -/
section
variable {X : Cx} {pins : List (Addr × Obj)} {σ : L2.St} {F H : Hp} {s : Shared}
mutual
theorem nk_is (I : Inv X pins σ H s) (sm : Same F H) : ∀ (d : D) (v : V) (u : Value) (k : NestedKey), Rp (kxOf X) F v d → nkD d = some k → RelV v u → NestedIs s.heap k u
  | .none, _, u, k, q, e, r => by
    cases q
    unfold nkD at e
    cases e
    cases (show u = .none from r)
    exact .none
  | .bool b, _, u, k, q, e, r => by unfold nkD at e; cases e
  | .int i, _, u, k, q, e, r => by
    cases q
    unfold nkD at e
    cases e
    obtain ⟨t, rfl⟩ := r
    exact .int i t
  | .str x, _, u, k, q, e, r => by
    cases q
    unfold nkD at e
    cases e
    obtain ⟨t, rfl⟩ := r
    exact .text x t
  | .tuple ds, _, u, k, q, e, r => by
    cases q with
    | @tup a xs _ h1 h2 =>
      cases (show u = .ref a from r)
      have e : (nkAll ds).map NestedKey.tup = some k := by unfold nkD at e; exact e
      cases e2 : nkAll ds with
      | none => rw [e2] at e; cases e
      | some ks =>
        rw [e2] at e
        cases e
        obtain ⟨its, rv, p, _⟩ := I.tuple (sqT_mono sm h1)
        obtain ⟨o, ho, hc, n, hd⟩ := p
        refine .tup ho hc hd ?_
        rw [List.toList_toArray]
        exact nk_are I sm ds xs its ks h2 e2 rv
  | .list ds, _, u, k, q, e, r => by unfold nkD at e; cases e
  | .dict ds, _, u, k, q, e, r => by unfold nkD at e; cases e
theorem nk_are (I : Inv X pins σ H s) (sm : Same F H) : ∀ (ds : List D) (vs : List V) (us : List Value) (ks : List NestedKey), RpAll (kxOf X) F vs ds → nkAll ds = some ks → Vals vs us → NestedAll s.heap ks us
  | [], _, us, ks, q, e, r => by
    cases q
    unfold nkAll at e
    cases e
    cases r
    exact .nil
  | d :: ds, _, us, ks, q, e, r => by
    cases q with
    | cons q1 q2 =>
      cases r with
      | cons r1 r2 =>
        unfold nkAll at e
        cases e1 : nkD d with
        | none => rw [e1] at e; cases e
        | some k =>
          cases e2 : nkAll ds with
          | none => rw [e1, e2] at e; cases e
          | some ks' =>
            rw [e1, e2] at e
            cases e
            exact .cons (nk_is I sm d _ _ k q1 e1 r1) (nk_are I sm ds _ _ ks' q2 e2 r2)
end
theorem nk_tup {d : D} {n : NestedKey} (h : nkD d = some n) : isTupK n = isTupD d := by
  cases d with
  | tuple ds =>
    unfold nkD at h
    cases e : nkAll ds with
    | none => rw [e] at h; cases h
    | some ks => rw [e] at h; cases h; rfl
  | none => unfold nkD at h; cases h; rfl
  | int _ => unfold nkD at h; cases h; rfl
  | str _ => unfold nkD at h; cases h; rfl
  | bool _ => unfold nkD at h; cases h
  | list _ => unfold nkD at h; cases h
  | dict _ => unfold nkD at h; cases h
theorem ky_of (I : Inv X pins σ H s) (sm : Same F H) {d : D} {v : V} {u : Value} {n : NestedKey} (q : Rp (kxOf X) F v d) (h : nkD d = some n ∧ keyD d = true) (r : RelV v u) : KyU X.prog X.w s.heap n u := by
  obtain ⟨h1, h2⟩ := h
  have hn := nk_is I sm d v u n q h1 r
  unfold keyD at h2
  rw [h1] at h2
  cases n with
  | num i =>
    cases d <;> unfold nkD at h1 <;> first | (cases h1; done) | skip
    · cases h1
      cases q
      obtain ⟨t, rfl⟩ := r
      exact .inl ⟨.inl i, rfl, t, rfl⟩
    · exfalso; revert h1; cases nkAll _ <;> simp
  | text i =>
    cases d <;> unfold nkD at h1 <;> first | (cases h1; done) | skip
    · cases h1
      cases q
      obtain ⟨t, rfl⟩ := r
      exact .inl ⟨.inr i, rfl, t, rfl⟩
    · exfalso; revert h1; cases nkAll _ <;> simp
  | none => cases h2
  | tup ks =>
    cases hn with
    | tup g1 g2 g3 g4 => exact .inr ⟨_, rfl, ⟨.tup g1 g2 g3 g4, of_decide_eq_true h2⟩, rfl⟩
/-- the keys of a dict -/
inductive RpK (K : Kx) (F : Hp) : List Ent → List D → Prop
  | nil : RpK K F [] []
  | cons {n : NestedKey} {x y : V} {es : List Ent} {k : D} {ks : List D} : Rp K F x k → nkD k = some n ∧ keyD k = true → RpK K F es ks → RpK K F ((n, x, y) :: es) (k :: ks)
theorem RpD.keys {K : Kx} {F : Hp} : ∀ {es : List Ent} {kvs : List (D × D)}, RpD K F es kvs → RpK K F es (kvs.map (·.1))
  | _, _, .nil => .nil
  | _, _, .cons h1 h2 _ h4 => .cons h1 h2 (RpD.keys h4)
theorem OwnD.keys {K : Kx} {F H : Hp} : ∀ {es : List Ent} {bs : List Addr} {kvs : List (D × List D)}, OwnD K F H es bs kvs → RpK K F es (kvs.map (·.1))
  | [], [], [], _ => .nil
  | (n, x, y) :: es, b :: bs, (k, ds) :: kvs, ⟨⟨h1, h2, _⟩, t⟩ => .cons h1 h2 (OwnD.keys t)
  | [], [], _ :: _, h => h.elim
  | [], _ :: _, _, h => by cases ‹List (D × List D)› <;> exact h.elim
  | _ :: _, [], _, h => h.elim
  | _ :: _, _ :: _, [], h => h.elim
theorem keysIn_of (I : Inv X pins σ H s) (sm : Same F H) : ∀ {es : List Ent} {ks : List D}, RpK (kxOf X) F es ks → KeysIn X.prog X.w s.heap es
  | _, _, .nil, e, he, b, _ => by cases he
  | _, _, .cons (x := x) h1 h2 h4, e, he, b, eb => by
    rcases List.mem_cons.mp he with rfl | he
    · have eb : x = .ref b := eb
      subst eb
      rcases ky_of I sm h1 h2 (show RelV (.ref b) (.ref b) from rfl) with ⟨q, _, rq⟩ | ⟨b', e', h, _⟩
      · cases q with
        | inl i => obtain ⟨t, e⟩ := (show ∃ t, Value.ref b = Value.int i t from rq); cases e
        | inr i => obtain ⟨t, e⟩ := (show ∃ t, Value.ref b = Value.str i t from rq); cases e
      · cases e'; exact h
    · exact keysIn_of I sm h4 e he b eb
/-- all keys are of one sort: that of k -/
def uniD (ks : List D) (k : D) : Bool := ks.all fun x => isTupD x == isTupD k
theorem uni_of {K : Kx} : ∀ {es : List Ent} {ks : List D} {k : D} {n : NestedKey}, RpK K F es ks → uniD ks k = true → nkD k = some n → Uni es (isTupK n)
  | _, _, _, _, .nil, _, _ => fun e he => by cases he
  | _, _, k, n, .cons (n := m) (k := c) h1 h2 h4, hu, hn => fun e he => by
    unfold uniD at hu
    rw [List.all_cons, Bool.and_eq_true, beq_iff_eq] at hu
    rcases List.mem_cons.mp he with rfl | he
    · show isTupK m = _
      rw [nk_tup h2.1, nk_tup hn]; exact hu.1
    · exact uni_of h4 hu.2 hn e he
/-! ### lookups by data -/
def dget (kvs : List (D × D)) (k : D) : Option D := (kvs.find? fun p => decide (p.1 = k)).map (·.2)
def dput (kvs : List (D × D)) (k v : D) : List (D × D) := if (dget kvs k).isSome then kvs.map (fun p => if p.1 = k then (p.1, v) else p) else kvs ++ [(k, v)]
def ddel (kvs : List (D × D)) (k : D) : List (D × D) := kvs.filter fun p => decide (p.1 ≠ k)
theorem nk_eq {a b : D} {n m : NestedKey} (h : nkD a = some n) (g : nkD b = some m) : (n = m) = (a = b) := propext ⟨fun e => nkD_inj a b n h (e ▸ g), fun e => by subst e; exact Option.some.inj (h.symm.trans g)⟩
theorem rpd_get {K : Kx} {k : D} {n : NestedKey} (hn : nkD k = some n) : ∀ {es : List Ent} {kvs : List (D × D)}, RpD K F es kvs → (dAt es n = none ∧ dget kvs k = none) ∨ ∃ v d, dAt es n = some v ∧ dget kvs k = some d ∧ Rp K F v d
  | _, _, .nil => .inl ⟨rfl, rfl⟩
  | _, _, .cons (n := m) (y := y) (k := c) (v := w) (es := es) (kvs := kvs) h1 h2 h3 h4 => by
    have he := nk_eq h2.1 hn
    unfold dAt dget
    by_cases e : m = n
    · have e' : c = k := he ▸ e
      rw [List.find?_cons_of_pos (by simpa using e), List.find?_cons_of_pos (by simpa using e')]
      exact .inr ⟨y, w, rfl, rfl, h3⟩
    · have e' : ¬ c = k := he ▸ e
      rw [List.find?_cons_of_neg (by simpa using e), List.find?_cons_of_neg (by simpa using e')]
      exact rpd_get hn h4
theorem rpk_get {K : Kx} {k : D} {n : NestedKey} (hn : nkD k = some n) : ∀ {es : List Ent} {ks : List D}, RpK K F es ks → (dAt es n).isSome = decide (k ∈ ks)
  | _, _, .nil => by simp [dAt]
  | _, _, .cons (n := m) (k := c) h1 h2 h4 => by
    have he := nk_eq h2.1 hn
    have ih := rpk_get hn h4
    by_cases e : m = n
    · have e' : c = k := he ▸ e
      unfold dAt
      rw [List.find?_cons_of_pos (by simpa using e)]
      simp [e']
    · have e' : ¬ c = k := he ▸ e
      unfold dAt at ih ⊢
      rw [List.find?_cons_of_neg (by simpa using e), ih]
      have : k ≠ c := fun z => e' z.symm
      simp [this]
theorem rpd_map {K : Kx} {k d : D} {n : NestedKey} {v : V} (hn : nkD k = some n) (q : Rp K F v d) : ∀ {es : List Ent} {kvs : List (D × D)}, RpD K F es kvs → RpD K F (es.map (fun e => if e.1 = n then (e.1, e.2.1, v) else e)) (kvs.map (fun p => if p.1 = k then (p.1, d) else p))
  | _, _, .nil => .nil
  | _, _, .cons (n := m) (k := c) h1 h2 h3 h4 => by
    have he := nk_eq h2.1 hn
    rw [List.map_cons, List.map_cons]
    dsimp only
    by_cases e : m = n
    · rw [if_pos e, if_pos (he ▸ e)]; exact .cons h1 h2 q (rpd_map hn q h4)
    · rw [if_neg e, if_neg (he ▸ e)]; exact .cons h1 h2 h3 (rpd_map hn q h4)
theorem rpd_app {K : Kx} : ∀ {es : List Ent} {kvs : List (D × D)} {es2 : List Ent} {kvs2 : List (D × D)}, RpD K F es kvs → RpD K F es2 kvs2 → RpD K F (es ++ es2) (kvs ++ kvs2)
  | _, _, _, _, .nil, h => h
  | _, _, _, _, .cons h1 h2 h3 h4, h => .cons h1 h2 h3 (rpd_app h4 h)
theorem rpd_put {K : Kx} {k d : D} {n : NestedKey} {y v : V} (hn : nkD k = some n ∧ keyD k = true) (qk : Rp K F y k) (q : Rp K F v d) {es : List Ent} {kvs : List (D × D)} (h : RpD K F es kvs) : RpD K F (dPut es n y v) (dput kvs k d) := by
  unfold dPut dput
  have e : (dAt es n).isSome = (dget kvs k).isSome := by
    rcases rpd_get hn.1 h with ⟨h1, h2⟩ | ⟨_, _, h1, h2, _⟩ <;> rw [h1, h2] <;> rfl
  rw [e]
  split
  · exact rpd_map hn.1 q h
  · exact rpd_app h (.cons qk hn q .nil)
theorem rpd_del {K : Kx} {k : D} {n : NestedKey} (hn : nkD k = some n) : ∀ {es : List Ent} {kvs : List (D × D)}, RpD K F es kvs → RpD K F (dDel es n) (ddel kvs k)
  | _, _, .nil => .nil
  | _, _, .cons (n := m) (k := c) h1 h2 h3 h4 => by
    have he := nk_eq h2.1 hn
    unfold dDel ddel
    by_cases e : m = n
    · rw [List.filter_cons_of_neg (by simpa using e), List.filter_cons_of_neg (by simpa using (he ▸ e))]; exact rpd_del hn h4
    · rw [List.filter_cons_of_pos (by simpa using e), List.filter_cons_of_pos (by simpa using (he ▸ e))]; exact .cons h1 h2 h3 (rpd_del hn h4)
theorem rpd_len {K : Kx} : ∀ {es : List Ent} {kvs : List (D × D)}, RpD K F es kvs → es.length = kvs.length
  | _, _, .nil => rfl
  | _, _, .cons _ _ _ h => congrArg (· + 1) (rpd_len h)
theorem rpk_len {K : Kx} : ∀ {es : List Ent} {ks : List D}, RpK K F es ks → es.length = ks.length
  | _, _, .nil => rfl
  | _, _, .cons _ _ h => congrArg (· + 1) (rpk_len h)
end

/-! ### the rules, by values -/
/-- y is a key for the dict at a -/
structure KFor (K : Kx) (H : Hp) (a : Addr) (es : List Ent) (y : V) (n : NestedKey) : Prop where
  ex : ∃ F ks kd, Same F H ∧ H a = some (DO K.P K.w a es) ∧ RpK K F es ks ∧ Rp K F y kd ∧ (nkD kd = some n ∧ keyD kd = true) ∧ uniD ks kd = true
/-- a dict at a -/
def KDk (K : Kx) (H : Hp) (a : Addr) (es : List Ent) : Prop := ∃ F ks, Same F H ∧ H a = some (DO K.P K.w a es) ∧ RpK K F es ks
section
variable {X : Cx}
theorem do_type {pins : List (Addr × Obj)} {σ : L2.St} {H : Hp} {s : Shared} {a : Addr} {es : List Ent} (I : Inv X pins σ H s) (ha : H a = some (DO X.prog X.w a es)) : s.TypeIs (.ref a) "dict" ∧ ∀ b, Value.ref a = .ref b → ∃ ob, s.heap.get? b = some ob ∧ ob.dict = none := by
  obtain ⟨_, _, rs, ep, ⟨o, h1, h2, h3⟩, _⟩ := raw_of I ha
  exact ⟨⟨o, h1, h2.1⟩, fun b e => by cases e; exact ⟨o, h1, h2.2.1⟩⟩
def rIxDo (K : Kx) : R2 := fun x y H Q => ∃ a es n v, x = .ref a ∧ KFor K H a es y n ∧ dAt es n = some v ∧ Q v H
theorem ix_do (hu : X.A.units + 9 < cLine) : IxR X (rIxDo (kxOf X)) := by
  intro value slice pins s σ H x y v u Q I rx ry h hs
  obtain ⟨a, es, n, w, rfl, ⟨F, ks, kd, sm, ha, rk, rp, hn, hun⟩, hv, q⟩ := h
  cases rx
  exact tail_any (do_type I ha).1 slot_dict_getitem.lookup (n_getItem (by omega) I ha (keysIn_of I sm rk) (ky_of I sm rp hn ry) (uni_of rk hun hn.1) hv fun u s' I' r' => ⟨w, H, I', r', q⟩) hs
def rInDo (K : Kx) : R2 := fun y x H Q => ∃ a es n, x = .ref a ∧ KFor K H a es y n ∧ Q (.bl (dAt es n).isSome) H
theorem op_in_do (hu : X.A.units + 9 < cLine) : OpR X (compareOp .In) (rInDo (kxOf X)) := by
  intro pins s σ H y x u v Q I ry rx h
  obtain ⟨a, es, n, rfl, ⟨F, ks, kd, sm, ha, rk, rp, hn, hun⟩, q⟩ := h
  cases rx
  exact n_in (by omega) I ha (keysIn_of I sm rk) (ky_of I sm rp hn ry) (uni_of rk hun hn.1) fun s' I' => ⟨.bl _, H, I', rfl, q⟩
def rNotInDo (K : Kx) : R2 := fun y x H Q => ∃ a es n, x = .ref a ∧ KFor K H a es y n ∧ Q (.bl (!(dAt es n).isSome)) H
theorem op_notin_do (hu : X.A.units + 9 < cLine) : OpR X (compareOp .NotIn) (rNotInDo (kxOf X)) := by
  intro pins s σ H y x u v Q I ry rx h
  obtain ⟨a, es, n, rfl, ⟨F, ks, kd, sm, ha, rk, rp, hn, hun⟩, q⟩ := h
  cases rx
  exact n_notIn (by omega) I ha (keysIn_of I sm rk) (ky_of I sm rp hn ry) (uni_of rk hun hn.1) fun s' I' => ⟨.bl _, H, I', rfl, q⟩
def rGetDo (K : Kx) : V → List V → Hp → VK → Prop := fun x xs H Q => ∃ a es n y z, x = .ref a ∧ xs = [y, z] ∧ KFor K H a es y n ∧ Q ((dAt es n).getD z) H
theorem mt_get_do (hu : X.A.units + 9 < cLine) : MtR X "dict.get" (rGetDo (kxOf X)) := by
  intro pins s σ H x xs v us Q I rx rs h
  obtain ⟨a, es, n, y, z, rfl, rfl, ⟨F, ks, kd, sm, ha, rk, rp, hn, hun⟩, q⟩ := h
  cases rx
  obtain ⟨u, w, rfl, r1, r2⟩ := rs.two
  exact n_getOr (by omega) I ha (keysIn_of I sm rk) (ky_of I sm rp hn r1) (uni_of rk hun hn.1) r2 fun u s' I' r' => ⟨_, H, I', r', q⟩
def rPopDo (K : Kx) : V → List V → Hp → VK → Prop := fun x xs H Q => ∃ a es n y v, x = .ref a ∧ xs = [y] ∧ KFor K H a es y n ∧ dAt es n = some v ∧ Q v (upd H a (DO K.P K.w a (dDel es n)))
theorem mt_pop_do (hu : X.A.units + 9 < cLine) : MtR X "dict.pop" (rPopDo (kxOf X)) := by
  intro pins s σ H x xs v us Q I rx rs h
  obtain ⟨a, es, n, y, w, rfl, rfl, ⟨F, ks, kd, sm, ha, rk, rp, hn, hun⟩, hv, q⟩ := h
  cases rx
  obtain ⟨u, rfl, r1⟩ := rs.one
  exact n_pop (by omega) I ha (keysIn_of I sm rk) (ky_of I sm rp hn r1) (uni_of rk hun hn.1) hv fun u s' I' r' => ⟨_, _, I', r', q⟩
def rSetdDo (K : Kx) : V → List V → Hp → VK → Prop := fun x xs H Q => ∃ a es n y z, x = .ref a ∧ xs = [y, z] ∧ KFor K H a es y n ∧ es.length < sizeLine ∧
  (∀ v, dAt es n = some v → Q v H) ∧ (dAt es n = none → Q z (upd H a (DO K.P K.w a (dPut es n y z))))
theorem mt_setd_do (hu : X.A.units + 9 < cLine) : MtR X "dict.setdefault" (rSetdDo (kxOf X)) := by
  intro pins s σ H x xs v us Q I rx rs h
  obtain ⟨a, es, n, y, z, rfl, rfl, ⟨F, ks, kd, sm, ha, rk, rp, hn, hun⟩, hz, q1, q2⟩ := h
  cases rx
  obtain ⟨u, w, rfl, r1, r2⟩ := rs.two
  exact n_setd (by omega) I ha (keysIn_of I sm rk) (ky_of I sm rp hn r1) r1 (uni_of rk hun hn.1) r2 hz (fun v u s' e I' r' => ⟨_, H, I', r', q1 v e⟩) fun s' e I' => ⟨z, _, I', r2, q2 e⟩
def rSetDo (K : Kx) : V → V → V → Hp → (Hp → Prop) → Prop := fun o i v H Q => ∃ a es n, o = .ref a ∧ KFor K H a es i n ∧ es.length < sizeLine ∧ Q (upd H a (DO K.P K.w a (dPut es n i v)))
theorem set_do (hu : X.A.units + 9 < cLine) : PSet X (rSetDo (kxOf X)) := by
  intro pins s σ H o i v ov iv u Q I ro ri rv h
  obtain ⟨a, es, n, rfl, ⟨F, ks, kd, sm, ha, rk, rp, hn, hun⟩, hz, q⟩ := h
  cases ro
  exact n_setItem (by omega) I ha (keysIn_of I sm rk) (ky_of I sm rp hn ri) ri (uni_of rk hun hn.1) rv hz fun s' I' => ⟨_, I', q⟩
theorem call_len_do : CallR X (.builtin "len") (fun xs H Q => ∃ a es, xs = [.ref a] ∧ KDk (kxOf X) H a es ∧ Q (.int es.length) H) := by
  intro pins s σ H xs us Q I rs h
  obtain ⟨a, es, rfl, ⟨F, ks, sm, ha, rk⟩, q⟩ := h
  obtain ⟨u, rfl, r1⟩ := rs.one
  cases r1
  exact n_len I ha (keysIn_of I sm rk) fun t s' I' => ⟨.int es.length, H, I', ⟨t, rfl⟩, q⟩
theorem tru_do : TruR X (fun x H Q => ∃ a es, x = .ref a ∧ KDk (kxOf X) H a es ∧ Q (!es.isEmpty) H) := by
  intro pins s σ H x v Q I rx h
  obtain ⟨a, es, rfl, ⟨F, ks, sm, ha, rk⟩, q⟩ := h
  cases rx
  have hz : (es.length : Int) < 2 ^ 63 := by
    obtain ⟨⟨_, h2, _⟩, _⟩ := I.hok a _ ha
    have := line63
    omega
  obtain ⟨⟨_, _, hh⟩, _⟩ := I.hok a _ ha
  rcases hh with ⟨kss, p, d⟩ | ⟨xs, p, d⟩
  · obtain ⟨h1, h2, ks', p', d'⟩ := do_sc I ha (uni_kp p)
    refine wpAny_truthy_dict h1 d' (by rw [← Paired.length p']; exact hz) ?_
    have e : kss.isEmpty = es.isEmpty := by cases p <;> rfl
    have e' : ks'.isEmpty = es.isEmpty := by cases p' <;> rfl
    rw [e']
    exact ⟨H, I.tok _, q⟩
  · obtain ⟨h1, h2, ks', p', d'⟩ := do_tp I ha (uni_np p) (keysIn_of I sm rk)
    have e' : ks'.isEmpty = es.isEmpty := by cases p' <;> rfl
    refine truthy_dictH (knd := nestedKind X.prog X.w) h1 d' (by rw [← Paired.length p']; exact hz) ?_
    rw [e']
    exact ⟨H, I.tok _, q⟩
end
end PD

set_option maxHeartbeats 1000000
/-! sorting alike data, some of which may be empty tuples -/
namespace PySem.W
open PySem PySem.Calls PyProof.Rows PySem.SeqAt
section
variable {prog : Program} {w : World} {A : Around} {E : Value → Shared → Prop} {s : Shared}
theorem px_call_tuple_lt {Q : Value → Shared → Prop} {l b : Addr} {items items2 : Array Value} {e r : Nat → Bool} (hl : s.heap.IsTuple l items) (hb : s.heap.IsTuple b items2)
    (he : ∀ j (h1 : j < items.size) (h2 : j < items2.size), EqAt A.in1 s items[j] items2[j] (e j)) (hr : ∀ j (h1 : j < items.size) (h2 : j < items2.size), e j = false → RcLt A.in1 s items[j] items2[j] (r j))
    (h : Q (.bool (firstLt e r (decide (items.size < items2.size)) (List.range (min items.size items2.size)))) s) : wpAny (model prog w) A (call (.builtin "tuple.__lt__") [.ref l, .ref b]) Q E s := by
  obtain ⟨⟨cls, dd, data, sl⟩, ho, hc, n, hd⟩ := id hl
  obtain ⟨⟨cls2, dd2, data2, sl2⟩, ho2, hc2, n2, hd2⟩ := id hb
  simp only at hc hd hc2 hd2
  subst hc hd hc2 hd2
  exact call_meets F.slot_tuple_lt ⟨_, ho, rfl⟩ F.entry_tuple_lt (F.args_tuple_lt_2 _ _) (tuple_ltAt l b items items2 n n2 dd dd2 sl sl2 e r) ⟨ho, ho2, he, hr, h⟩
theorem px_oneLt_tuple {xs ys : List PyData} {a b : Value} {as bs : List Addr} {Q : Bool → Shared → Prop} (ra : Reads s.heap a (.tuple xs) as) (rb : Reads s.heap b (.tuple ys) bs) (h : alike (.tuple xs) (.tuple ys) = true)
    (hu : A.units + min (PyData.tuple xs).depth (PyData.tuple ys).depth < cLine) (hq : Q (dataLt (.tuple xs) (.tuple ys)) s) : wpAny (model prog w) A (oneLt' true a b) Q E s := by
  have hal : alikeAll xs ys = true := by simpa [alike] using h
  cases ra with
  | @tuple l o vs n _ as₁ h1 h2 h3 h4 =>
    cases rb with
    | @tuple l' o' vs' n' _ bs₁ k1 k2 k3 k4 =>
      have n1 : vs.size = xs.length := by simpa using ReadsAll.length _ _ _ h4
      have n2 : vs'.size = ys.length := by simpa using ReadsAll.length _ _ _ k4
      rw [dataLt_tuple, ← firstLt_toks xs ys hal, ← n1, ← n2] at hq
      rw [oneLt'_eq]
      simp only [if_true]
      refine wpAny_bind (wpAny_cRoomFor (room_here hu) ?_)
      refine wpAny_bind (wpAny_callSpecialIfBound?_slot (T := "tuple") ⟨_, h1, h2⟩ F.slot_tuple_lt (px_call_tuple_lt (e := pairEq xs ys) (r := fun j => dataLt (xs.getD j .none) (ys.getD j .none)) ⟨_, h1, h2, _, h3⟩ ⟨_, k1, k2, _, k3⟩ (fun j j1 j2 => ?_) (fun j j1 j2 hj => ?_) ?_))
      · have := eqAt_alikeAll xs ys A.in1 s vs.toList vs'.toList _ _ h4 k4 hal (room_in hu) j (by simpa using j1) (by simpa using j2)
        simpa using this
      · have := rcLt_alikeAll xs ys A.in1 s vs.toList vs'.toList _ _ h4 k4 hal (room_in hu) j (by simpa using j1) (by simpa using j2) hj
        simpa using this
      · exact wpAny_truthy_bool hq
theorem px_firsts {M : Model} : ∀ {vs : List Value} {ds : List PyData} {Q : List (Option Value) → Shared → Prop}, EachIs (fun v d => ∃ as, Reads s.heap v d as) vs ds → (∀ d ∈ ds, ∃ xs, d = .tuple xs) →
    (∀ os : List (Option Value), os.map (·.isSome) = ds.map (fun d => match d with | .tuple (_ :: _) => true | _ => false) → Q os s) → wpAny M A (vs.mapM firstOfTuple') Q E s
  | _, _, Q, .nil, _, h => by rw [List.mapM_nil]; exact wpAny_pure (h [] rfl)
  | v :: vs, d :: ds, Q, .cons ⟨as, r⟩ t, ht, h => by
    obtain ⟨xs, rfl⟩ := ht d (List.mem_cons_self ..)
    cases r with
    | @tuple a o ys n _ _ ho hc hd hr =>
      rw [List.mapM_cons]
      refine wpAny_bind ?_
      rw [kas_first_eq]
      refine wpAny_bind (Looks.here (show Looks M s.heap (typeOf (.ref a)) o.cls from (Looks.ld ho).andThen .now) ?_)
      rw [hc, if_neg (by first | decide | simp)]
      refine wpAny_bind (listItems_at ho hd (wpAny_pure ?_))
      refine wpAny_bind (px_firsts (Q := fun bs s' => wpAny M A (pure (ys[0]? :: bs)) Q E s') t (fun d hd => ht d (List.mem_cons_of_mem _ hd)) fun os e => wpAny_pure (h _ ?_))
      rw [List.map_cons, List.map_cons, e]
      congr 1
      have hl := SeqAt.ReadsAll.length _ _ _ hr
      have : ys.size = xs.length := by simpa using hl
      cases xs with
      | nil =>
        have : ys[0]? = none := Array.getElem?_eq_none (by simp at this; simp [this])
        rw [this]; rfl
      | cons x r =>
        have h0 : 0 < ys.size := by rw [this]; simp
        rw [Array.getElem?_eq_getElem h0]; rfl
def px_head : List PyData → Bool
  | .tuple (_ :: _) :: _ => true
  | _ => false
/-- what is looked at where the keys are tuples, one of them empty -/
theorem px_kind {vs : List Value} {ds : List PyData} {Q : SortKind → Shared → Prop} (e : EachIs (fun v d => ∃ as, Reads s.heap v d as) vs ds) (ht : ∀ d ∈ ds, ∃ xs, d = .tuple xs) (hm : .tuple [] ∈ ds) (h : Q (if px_head ds = true then general' else oneType') s) :
    wpAny (model prog w) A (keyKind' vs.toArray) Q E s := by
  rw [keyKind'_eq, List.mapM_toArray, map_eq_pure_bind]
  refine wpAny_bind (wpAny_bind (px_firsts e ht fun os eo => wpAny_pure ?_))
  have hall : (os.toArray.all fun x => x.isSome) = false := by
    obtain ⟨j, hj, ej⟩ := List.getElem_of_mem hm
    have hl : os.length = ds.length := by simpa using congrArg List.length eo
    have : (os.map (·.isSome))[j]? = some false := by
      rw [eo, List.getElem?_map, List.getElem?_eq_getElem hj, ej]; rfl
    have hmem : false ∈ os.map (·.isSome) := List.mem_of_getElem? this
    obtain ⟨x, hx, hxe⟩ := List.mem_map.mp hmem
    simp only [List.all_toArray]
    rw [List.all_eq_false]
    exact ⟨x, hx, by rw [hxe]; exact Bool.false_ne_true⟩
  rw [if_neg (by rw [hall]; exact Bool.false_ne_true)]
  have hhead : ((os.toArray[0]?).bind id).isSome = px_head ds := by
    cases os with
    | nil =>
      cases ds with
      | nil => rfl
      | cons d ds => simp at eo
    | cons o os =>
      cases ds with
      | nil => simp at eo
      | cons d ds =>
        have eo : o.isSome = _ := (List.cons.inj eo).1
        have : (((o :: os).toArray[0]?).bind id).isSome = o.isSome := by simp
        rw [this, eo]
        cases d with
        | tuple xs => cases xs <;> rfl
        | _ => rfl
  by_cases c : ((os.toArray[0]?).bind id).isSome = true
  · rw [if_pos c]
    rw [hhead] at c
    rw [if_pos c] at h
    exact wpAny_pure h
  · rw [if_neg c]
    rw [hhead] at c
    rw [if_neg c] at h
    have hne : vs ≠ [] := by
      rintro rfl
      cases e
      cases hm
    obtain ⟨v₁, rest, rfl⟩ : ∃ v₁ rest, vs = v₁ :: rest := by
      cases vs with
      | nil => exact absurd rfl hne
      | cons a b => exact ⟨a, b, rfl⟩
    rw [oneTypeOnly'_eq, List.mapM_toArray, map_eq_pure_bind]
    refine wpAny_bind (wpAny_bind (wpAny_bind (kas_mapM (r := Value.type "tuple") _ (fun v hv Q' hq => ?_) (wpAny_pure ?_))))
    · obtain ⟨d, hd, as, r⟩ := e.left v hv
      obtain ⟨xs, rfl⟩ := ht d hd
      exact (looks_reads r).here hq
    · have hall : ((List.map (fun _ => Value.type "tuple") (v₁ :: rest)).toArray.all fun x => x == Value.type "tuple") = true := by
        simp only [List.all_toArray, List.all_map, List.all_eq_true]
        intro _ _
        exact (beq_self_eq_true _)
      have h0 : (List.map (fun _ => Value.type "tuple") (v₁ :: rest)).toArray[0]? = some (Value.type "tuple") := by simp
      rw [h0]
      simp only [hall, if_true]
      exact wpAny_pure (wpAny_pure h)
theorem px_general (x y : Value) : keyLt' general' x y = oneLt' false x y := rfl
/-- alike data of any sort but None can be sorted -/
theorem SortsAt.any {vs : List Value} {ds : List PyData} (e : EachIs (fun v d => ∃ as, Reads s.heap v d as) vs ds) (hal : AllAlike ds) (hn : ∀ d ∈ ds, d ≠ .none) (hu : ∀ d, d ∈ ds → A.units + d.depth < cLine) : SortsAt prog w A s (dataKind s.heap ds) vs := by
  by_cases c : ∃ xs, PyData.tuple xs ∈ ds
  · obtain ⟨xs0, h0⟩ := c
    have ht : ∀ d ∈ ds, ∃ xs, d = .tuple xs := by
      intro d hd
      have := hal _ h0 d hd
      cases d <;> first | exact ⟨_, rfl⟩ | exact absurd this (by simp [alike])
    by_cases m : PyData.tuple [] ∈ ds
    · have room : ∀ {d d' : PyData}, d ∈ ds → A.units + min d.depth d'.depth < cLine := fun {d d'} hd => Nat.lt_of_le_of_lt (Nat.add_le_add_left (Nat.min_le_left _ _) _) (hu d hd)
      have l1 : H.LtAt prog w A s (dataKind s.heap ds) general' := by
        intro E x y a b Q ha hb hq
        obtain ⟨d, as, hd, ra, rfl⟩ := dataKind_inv ha
        obtain ⟨d', as', hd', rb, rfl⟩ := dataKind_inv hb
        rw [px_general]
        exact oneLt_alike (f := false) (fun z => by cases z) ra rb (hal d hd d' hd') (hn d hd) (room hd) hq
      have l2 : H.LtAt prog w A s (dataKind s.heap ds) oneType' := by
        intro E x y a b Q ha hb hq
        obtain ⟨d, as, hd, ra, rfl⟩ := dataKind_inv ha
        obtain ⟨d', as', hd', rb, rfl⟩ := dataKind_inv hb
        obtain ⟨xs, rfl⟩ := ht d hd
        obtain ⟨ys, rfl⟩ := ht d' hd'
        rw [keyLt'_oneType]
        exact px_oneLt_tuple ra rb (hal _ hd _ hd') (room hd) hq
      refine ⟨fun v hv => ?_, ?_⟩
      · obtain ⟨d, hd, as, r⟩ := e.left v hv
        exact ⟨_, dataKind_some hal hd r⟩
      · refine ⟨if px_head ds = true then general' else oneType', ?_, fun _ E Q hq => px_kind e ht m hq⟩
        split
        · exact l1
        · exact l2
    · exact SortsAt.data e hal (.inl fun d hd => by
        obtain ⟨xs, rfl⟩ := ht d hd
        cases xs with
        | nil => exact absurd hd m
        | cons x r => exact ⟨x, r, rfl⟩) hu
  · exact SortsAt.data e hal (.inr fun d hd => ⟨hn d hd, fun xs ex => c ⟨xs, ex ▸ hd⟩⟩) hu
end
end PySem.W

set_option maxHeartbeats 1000000
/-! sorted, list, min, max, all, any: over what reads as data -/
namespace PD
open PySem PySem.Spec PyProof.Rows L2 PySem.W
/-- the items xs of x, in order: a list's, a tuple's, a dict's keys -/
def Src (K : Kx) (H : Hp) (x : V) (xs : List V) : Prop :=
  (∃ a, x = .ref a ∧ SqL K H a xs) ∨ (∃ a, x = .ref a ∧ SqT K H a xs) ∨ ∃ a es, x = .ref a ∧ H a = some (DO K.P K.w a es) ∧ xs = es.map (·.2.1)
section
variable {X : Cx} {pins : List (Addr × Obj)} {σ : L2.St} {F H : Hp} {s : Shared}
def RV (K : Kx) (F : Hp) (u : Value) (d : D) : Prop := ∃ v : V, RelV v u ∧ Rp K F v d
theorem rv_each {K : Kx} : ∀ {xs : List V} {us : List Value} {ds : List D}, Vals xs us → RpAll K F xs ds → EachIs (RV K F) us ds
  | _, _, _, .nil, .nil => .nil
  | _, _, _, .cons r t, .cons q p => .cons ⟨_, r, q⟩ (rv_each t p)
theorem rv_back {K : Kx} : ∀ {us : List Value} {ds : List D}, EachIs (RV K F) us ds → ∃ xs, Vals xs us ∧ RpAll K F xs ds
  | _, _, .nil => ⟨[], .nil, .nil⟩
  | _, _, .cons ⟨v, r, q⟩ t => by
    obtain ⟨xs, h1, h2⟩ := rv_back t
    exact ⟨v :: xs, .cons r h1, .cons q h2⟩
theorem rv_reads (I : Inv X pins σ H s) (sm : Same F H) : ∀ {us : List Value} {ds : List D}, PyData.plainAll ds = true → EachIs (RV (kxOf X) F) us ds → EachIs (fun u d => ∃ as, Reads s.heap u d as) us ds
  | _, _, _, .nil => .nil
  | _, _, hp, .cons ⟨v, r, q⟩ t => by
    unfold PyData.plainAll at hp
    rw [Bool.and_eq_true] at hp
    exact .cons (Dp.reads I _ _ _ (rp_dp _ _ hp.1 (dp_m q sm)) r) (rv_reads I sm hp.2 t)
theorem each_keep {h h' : Heap} (k : ∀ b o, h.get? b = some o → h'.get? b = some o) {us : List Value} {ds : List D} (e : EachIs (fun u d => ∃ as, Reads h u d as) us ds) : EachIs (fun u d => ∃ as, Reads h' u d as) us ds :=
  e.mono fun _ _ ⟨as, r⟩ => ⟨as, Reads.keeps k r⟩
theorem raw_items (I : Inv X pins σ H s) {a : Addr} {es : List Ent} (ha : H a = some (DO X.prog X.w a es)) : (a == sysModules) = false ∧ es.length ≤ sizeLine ∧ ∃ rs ep, s.heap.DictRaw a rs ep ∧ rs.size = es.length ∧ Vals (es.map (·.2.1)) (rs.toList.map (·.key)) := by
  obtain ⟨h1, h2, rs, ep, r1, r2, r3⟩ := raw_of I ha
  refine ⟨h1, h2, rs, ep, r1, r2, ?_⟩
  refine vals_of_at (by rw [List.length_map, List.length_map]; exact r2.symm.trans (Array.length_toList).symm) fun j x u e1 e2 => ?_
  rw [List.getElem?_map] at e1 e2
  cases c : rs.toList[j]? with
  | none => rw [c] at e2; cases e2
  | some r =>
    rw [c] at e2
    cases e2
    have hj : j < rs.size := by rw [← Array.length_toList]; exact (List.getElem?_eq_some_iff.mp c).1
    obtain ⟨e, m1, m2, _⟩ := r3 j hj
    rw [m1] at e1
    cases e1
    have : rs[j] = r := by
      rw [Array.getElem?_toList, Array.getElem?_eq_getElem hj] at c
      exact Option.some.inj c
    rw [← this]; exact m2
theorem items_acc {rs : Array DictEntry} {acc : Array Value} {n : Nat} (hn : rs.size = n) (h : ItemsOf (fun i v => ∃ hi : i < rs.size, v = rs[i].key) acc n) : acc.toList = rs.toList.map (·.key) := by
  apply List.ext_getElem?
  intro j
  rw [List.getElem?_map, Array.getElem?_toList, Array.getElem?_toList]
  by_cases hj : j < acc.size
  · obtain ⟨hi, e⟩ := h.2 j acc[j] (Array.getElem?_eq_getElem hj)
    rw [Array.getElem?_eq_getElem hj, Array.getElem?_eq_getElem hi, e]; rfl
  · have hi : ¬ j < rs.size := by rw [hn, ← h.1]; exact hj
    rw [Array.getElem?_eq_none (by omega), Array.getElem?_eq_none (by omega)]; rfl
end
section
variable {X : Cx}
/-- list(d) -/
theorem call_list_do (hc : X.calm = true) : CallR X (.type "list") (fun xs H Q => ∃ a es, xs = [.ref a] ∧ H a = some (DO X.prog X.w a es) ∧ ∀ p, H p = none → Q (.ref p) (upd H p (.lst (es.map (·.2.1))))) := by
  intro pins s σ H xs us Q I r h
  obtain ⟨a, es, rfl, ha, q⟩ := h
  obtain ⟨u, rfl, rx⟩ := r.one
  cases rx
  obtain ⟨h1, h2, rs, ep, r1, r2, rv⟩ := raw_items I ha
  refine kdl_call (KdlSrc.rawDict h1) (I.ok.hd hc) r1 (by rw [r2]; exact h2) fun h' tk acc' c' hkeep hS hacc => ?_
  refine ⟨.ref s.heap.objs.size, _, I.laid hkeep (Nat.le_refl _) (show ObjOk X.prog X.w _ _ _ (.lst (es.map (·.2.1))) from ⟨by rw [List.length_map]; exact h2, acc'.toList, c', ?_, by rw [Array.toArray_toList]; exact hS⟩), rfl, q _ (I.hok.fresh (Nat.le_refl _))⟩
  rw [items_acc rfl hacc]
  exact rv
/-- the end of a sort: the items' list is sorted where it stands -/
theorem sort_fin {A : Around} {E : Value → Shared → Prop} {pins : List (Addr × Obj)} {σ : L2.St} {F H : Hp} {s : Shared} {us : List Value} {xs : List V} {ds : List D} {P : PySem.Fin → Shared → Prop} (I : Inv X pins σ H s) (sm : Same F H)
    (rv : Vals xs us) (ra : RpAll (kxOf X) F xs ds) (hal : AllAlike ds) (hn : ∀ d ∈ ds, d ≠ .none) (hpl : PyData.plainAll ds = true) (hd : ∀ d ∈ ds, d.depth ≤ 60) (hu : A.units + 61 < cLine) (hL : ds.length ≤ sizeLine)
    (q : ∀ ys s', Inv X pins σ (upd H s.heap.objs.size (.lst ys)) s' → RpAll (kxOf X) F ys (ds.mergeSort (dataLe false id)) → P (.done (.ret .none)) s') :
    wpAny (model X.prog X.w) A (Builtin.«list.sort» ⟨[.ref s.heap.objs.size], []⟩) P E { s with heap := s.heap.push (seqObj "list" us.toArray 0) } := by
  have e := rv_each (K := kxOf X) rv ra
  have er := rv_reads I sm hpl e
  have ho : (s.heap.push (seqObj "list" us.toArray 0)).get? s.heap.objs.size = some (seqObj "list" us.toArray 0) := Heap.get?_push_size _ rfl
  have hk : ∀ b o, s.heap.get? b = some o → (sortingHeap (s.heap.push (seqObj "list" us.toArray 0)) s.heap.objs.size us).get? b = some o := fun b o hb => sortingHeap_old (Nat.ne_of_lt (Heap.lt_size hb)) (Heap.get?_push_of_some _ hb)
  have er2 := each_keep hk er
  refine list_sort_vals (s := { s with heap := s.heap.push (seqObj "list" us.toArray 0) }) (κ := dataKind (sortingHeap (s.heap.push (seqObj "list" us.toArray 0)) s.heap.objs.size us) ds) ho ?_ (by rw [e.length]; exact hL) ?_
  · exact SortsAt.any (s := { s with heap := sortingHeap (s.heap.push (seqObj "list" us.toArray 0)) s.heap.objs.size us }) er2 hal hn fun d hdd => by have := hd d hdd; omega
  · have es := sortVals_data (h' := sortingHeap (s.heap.push (seqObj "list" us.toArray 0)) s.heap.objs.size us) (enc := id) false e (by simpa using er2) (by simpa using hal)
    rw [List.map_id] at es
    obtain ⟨ys, v1, v2⟩ := rv_back es
    obtain ⟨ep, hat⟩ := sortedHeap_at (out := (sortVals (dataKind (sortingHeap (s.heap.push (seqObj "list" us.toArray 0)) s.heap.objs.size us) ds) false us us).toArray) ho
    refine q ys _ (I.laid (a := s.heap.objs.size) (o := .lst ys) (t' := s.toks) (fun b o hb => ?_) (Nat.le_refl _) ⟨?_, _, ep, v1, hat⟩) v2
    · rw [sortedHeap_old (Nat.ne_of_lt (Heap.lt_size hb)) (Heap.lt_size (Heap.get?_push_of_some _ hb))]
      exact Heap.get?_push_of_some _ hb
    · rw [da_len v2, (List.mergeSort_perm _ _).length_eq]; exact hL
def rSortA (K : Kx) : List V → Hp → VK → Prop := fun vs H Q => ∃ x F xs ds, vs = [x] ∧ Same F H ∧ ((∃ a, x = .ref a ∧ SqL K H a xs) ∨ ∃ a es, x = .ref a ∧ H a = some (DO K.P K.w a es) ∧ xs = es.map (·.2.1)) ∧ RpAll K F xs ds ∧ AllAlike ds ∧ (∀ d ∈ ds, d ≠ .none) ∧ PyData.plainAll ds = true ∧ (∀ d ∈ ds, d.depth ≤ 60) ∧
  ∀ p ys, H p = none → RpAll K F ys (ds.mergeSort (dataLe false id)) → Q (.ref p) (upd H p (.lst ys))
theorem call_sortA (hc : X.calm = true) (hu : X.A.units + 64 < cLine) : CallR X (.builtin "sorted") (rSortA (kxOf X)) := by
  intro pins s σ H vs us Q I r h
  obtain ⟨x, F, xs, ds, rfl, sm, hsrc, ra, hal, hn, hpl, hd, q⟩ := h
  obtain ⟨u, rfl, rx⟩ := r.one
  have uu : X.A.in1.in1.units + 61 < cLine := by
    show X.A.units + 1 + 1 + 61 < cLine
    omega
  rcases hsrc with ⟨a, rfl, hq⟩ | ⟨a, es, rfl, ha, rfl⟩
  · cases rx
    obtain ⟨its, rv, pl, hz⟩ := I.list hq
    have hL : ds.length ≤ sizeLine := by rw [← da_len ra]; exact hz
    have hsz : ((s.heap.push (seqObj "list" #[] 0)).update s.heap.objs.size (Obj.mapSeq (· ++ its.toArray))).objs.size = s.heap.objs.size + 1 := by
      rw [Heap.size_update, size_push']
    have I1 : Inv X pins σ H { s with heap := (s.heap.push (seqObj "list" #[] 0)).update s.heap.objs.size (Obj.mapSeq (· ++ its.toArray)) } := I.kept (t' := s.toks) fun b o hb => by
      rw [Heap.get?_update_ne _ _ _ _ (Nat.ne_of_lt (Heap.lt_size hb))]
      exact Heap.get?_push_of_some _ hb
    refine sorted_of_sort pl.isList (by rw [← rv.length]; exact hz) (args_sorted1 _) (fun _ => args_list_sort _) fun E' => ?_
    have fin := sort_fin (A := X.A.in1.in1) (E := E') (P := fun f s' => f = .done (.ret .none) ∧ EP X pins σ Q (.ref (s.heap.objs.size + 1)) s') I1 sm rv ra hal hn hpl hd uu hL fun ys s' I' ra' => by
      rw [show ({ s with heap := (s.heap.push (seqObj "list" #[] 0)).update s.heap.objs.size (Obj.mapSeq (· ++ its.toArray)) } : Shared).heap.objs.size = s.heap.objs.size + 1 from hsz] at I'
      exact ⟨rfl, .ref _, _, I', rfl, q _ ys (I.hok.fresh (Nat.le_succ _)) ra'⟩
    rw [show ({ s with heap := (s.heap.push (seqObj "list" #[] 0)).update s.heap.objs.size (Obj.mapSeq (· ++ its.toArray)) } : Shared).heap.objs.size = s.heap.objs.size + 1 from hsz] at fin
    exact fin
  · cases rx
    obtain ⟨h1, h2, rs, ep, r1, r2, rv⟩ := raw_items I ha
    have hL : ds.length ≤ sizeLine := by rw [← da_len ra, List.length_map]; exact h2
    refine Calls.call_function_entry kind_sorted plain_sorted entry_sorted (args_sorted1 _) ?_
    unfold Builtin.«sorted»
    refine wpAny_bind (m := checkCount "sorted" 1 1 _) (wpAny_pure ?_)
    refine wpAny_bind (kdu_collect (A := X.A.in1) (KdlSrc.rawDict h1) (I.ok.hd hc) r1 (by rw [r2]; exact h2) fun h' tk acc hk hacc => ?_)
    have hacc' := items_acc rfl hacc
    have hlen : acc.toList.length ≤ sizeLine := by rw [hacc', ← rv.length, List.length_map]; exact h2
    refine wpAny_bind (wpAny_newList ?_ hlen)
    have hgt : (h'.push (seqObj "list" acc.toList.toArray 0)).get? h'.objs.size = some (seqObj "list" acc.toList.toArray 0) := Heap.get?_push_size _ rfl
    have I1 : Inv X pins σ H { s with heap := h', toks := tk } := I.kept hk
    refine wpAny_bind (wpAny_holding (wpAny_call_entry_kw slot_list_sort ⟨_, hgt, rfl⟩ entry_list_sort ?body (args_list_sort _)))
    case body =>
      show wpAny _ X.A.in1.in1 (Builtin.«list.sort» ⟨[.ref h'.objs.size], []⟩) _ _ { s with heap := h'.push (seqObj "list" acc.toList.toArray 0), toks := tk }
      exact sort_fin I1 sm (by rw [hacc']; exact rv) ra hal hn hpl hd uu hL fun ys s' I' ra' => ⟨_, rfl, wpAny_pure ⟨_, rfl, .ref _, _, I', rfl, q _ ys (I1.hok.fresh (Nat.le_refl _)) ra'⟩⟩
end
end PD

namespace PD
open PySem PySem.Spec PyProof.Rows L2

/-! ### the small syntax -/
inductive Bl | len | int | str | tuple | list | abs | max | min | sum | sorted | all | any
  deriving DecidableEq
inductive Mt | join | find3 | rfind4 | sindex | count | rfind | lindex
  deriving DecidableEq
inductive Tg where
  | nm (i : Nat)
  | tp (is : List Nat)
mutual
inductive E where
  | var (i : Nat)
  | ct (k : Nat)
  | non
  | bl (b : Bool)
  | int (i : Int)
  | str (x : List Nat)
  | bin (op : Operator) (a b : E)
  | neg (a : E)
  | cmp (op : CmpOp) (a b : E)
  | bop (conj : Bool) (es : Es)
  | nt (a : E)
  | ifx (c a b : E)
  | ix (a i : E)
  | sl (a : E) (lo hi : Eo)
  | call (k : Nat) (es : Es)
  | callk (k n : Nat) (es : Es) (ks : List Str) (kes : Es)
  | blt (b : Bl) (es : Es)
  | isi (a : E) (ts : List String)
  | mth (m : Mt) (o : E) (es : Es)
  | tup (es : Es)
  | lst (es : Es)
  | lc (own : List (Str × Nat)) (elt : E) (tg : Tg) (it : I) (cs : Eo)
  | lc2 (own : List (Str × Nat)) (elt : E) (tg : Tg) (it : I) (cs : Eo) (vs1 : List Nat) (tg1 : Tg) (it1 : I) (cs1 : Eo)
  | dnew
  | done (k v : E)
  | dget (o k x : E)
  | dcm (own : List (Str × Nat)) (ke ve : E) (tg : Tg) (it : I) (cs : Eo)
  | chn (op op' : CmpOp) (a b c : E)
  | lrg (a : E)
inductive Eo where
  | no
  | yes (e : E)
inductive Es where
  | nil
  | cons (e : E) (es : Es)
inductive I where
  | ls (e : E)
  | r1 (a : E)
  | r2 (a b : E)
  | rv (e : E)
  | rr1 (a : E)
  | rr2 (a b : E)
  | en (e : E)
  | zp (a b : E)
  | zp3 (a b c : E)
end
mutual
inductive S where
  | asg (tg : Tg) (e : E)
  | own (i : Nat) (e : E)
  | own2 (i : Nat)
  | frz (i : Nat)
  | app (i : Nat) (e : E)
  | app2 (i : Nat) (e : E)
  | appI (i : Nat) (j e : E)
  | seti (i : Nat) (j e : E)
  | set2 (i : Nat) (j k e : E)
  | drop (e : E)
  | aug (i : Nat) (op : Operator) (e : E)
  | ownd2 (i : Nat)
  | dput (i : Nat) (k e : E)
  | dputl (i : Nat) (k e : E)
  | dappl (i : Nat) (k e : E)
  | dsetap (i : Nat) (k e : E)
  | popA (tg : Tg) (i : Nat) (j : Eo)
  | ins (i : Nat) (j e : E)
  | ext (i : Nat) (e : E)
  | ifs (c : E) (a b : Ss)
  | whl (c : E) (b : Ss)
  | fr (tg : Tg) (it : I) (b : Ss)
  | ret (e : E)
  | retN
  | pass
  | brk
  | cont
  | never
inductive Ss where
  | nil
  | cons (s : S) (ss : Ss)
end

/-! ### what data does -/
inductive Md where
  | t (n : Nat)
  | fr
  | tst
def wTr : D → (Bool → Prop) → Prop
  | .none, Q => Q false
  | .bool b, Q => Q b
  | .int i, Q => Q (i != 0)
  | .str x, Q => x.length ≤ sizeLine ∧ Q ((x.length : Int) != 0)
  | .list ds, Q => Q (!ds.isEmpty)
  | .tuple ds, Q => Q (!ds.isEmpty)
  | .dict kvs, Q => Q (!kvs.isEmpty)
/-- the end of an expression whose value is no new list -/
def fin : Md → (D → Prop) → D → Prop
  | .t _, Q, d => Q d
  | .fr, _, _ => False
  | .tst, Q, d => wTr d fun b => Q (.bool b)
/-- .. a new list -/
def finL : Md → (D → Prop) → List D → Prop
  | .t _, Q, ds => Q (.list ds)
  | .fr, Q, ds => Q (.list ds)
  | .tst, Q, ds => Q (.bool (!ds.isEmpty))
/-- .. a new dict -/
def finD : Md → (D → Prop) → List (D × D) → Prop
  | .t _, Q, ds => Q (.dict ds)
  | .fr, Q, ds => Q (.dict ds)
  | .tst, Q, ds => Q (.bool (!ds.isEmpty))
def finB (md : Md) (Q : D → Prop) : D → Prop
  | .list ds => finL md Q ds
  | .dict ds => finD md Q ds
  | d => fin md Q d
/-- lists and dicts: what may be new and owned -/
def isCon : D → Bool
  | .list _ => true
  | .dict _ => true
  | _ => false

def wBin : Operator → D → D → (D → Prop) → Prop
  | .Add, .int i, .int j, Q => Q (.int (i + j))
  | .Add, .str a, .str b, Q => a.length + b.length ≤ sizeLine ∧ Q (.str (a ++ b))
  | .Add, .list a, .list b, Q => a.length + b.length ≤ sizeLine ∧ Q (.list (a ++ b))
  | .Add, .tuple a, .tuple b, Q => a.length + b.length ≤ sizeLine ∧ Q (.tuple (a ++ b))
  | .Sub, .int i, .int j, Q => Q (.int (i - j))
  | .Mult, .int i, .int j, Q => IntMulOk i j ∧ Q (.int (i * j))
  | .Mult, .list a, .int j, Q => (-(2 ^ 63) ≤ j ∧ j < 2 ^ 63 ∧ a.length * j.toNat ≤ sizeLine) ∧ Q (.list (List.replicate j.toNat a).flatten)
  | .Mult, .tuple a, .int j, Q => (-(2 ^ 63) ≤ j ∧ j ≤ 1000 ∧ a.length ≤ 1000) ∧ Q (.tuple (List.replicate j.toNat a).flatten)
  | .FloorDiv, .int i, .int j, Q => CDivW i j ∧ Q (.int (i / j))
  | .Mod, .int i, .int j, Q => 0 < j ∧ Q (.int (i % j))
  | .Pow, .int i, .int j, Q => CPow i j ∧ Q (.int (i ^ j.toNat))
  | .BitAnd, .int i, .int j, Q => Q (.int (Builtin.bitAnd i j))
  | .BitOr, .int i, .int j, Q => Q (.int (Builtin.bitOr i j))
  | .BitXor, .int i, .int j, Q => Q (.int (Builtin.bitXor i j))
  | .LShift, .int i, .int j, Q => CShl i j ∧ Q (.int (i * 2 ^ j.toNat))
  | .RShift, .int i, .int j, Q => 0 ≤ j ∧ Q (.int (i / 2 ^ j.toNat))
  | _, _, _, _ => False
def scalD : D → D → Bool
  | .int _, .int _ => true
  | .str _, .str _ => true
  | .bool _, .bool _ => true
  | .none, .none => true
  | .none, .int _ => true | .int _, .none => true | .none, .bool _ => true | .bool _, .none => true | .none, .str _ => true | .str _, .none => true
  | .int _, .str _ => true | .str _, .int _ => true | .bool _, .str _ => true | .str _, .bool _ => true
  | _, _ => false
def eqS : D → D → Bool
  | .int i, .int j => decide (i = j)
  | .str x, .str y => decide (x = y)
  | .bool x, .bool y => decide (x = y)
  | .none, .none => true
  | _, _ => false
/-- data without dicts, not too deep -/
def shp (x : D) : Bool := x.plain && decide (x.depth ≤ 60)
def wEq (x y : D) (Q : Bool → Prop) : Prop := if scalD x y = true then Q (eqS x y) else shp x = true ∧ shp y = true ∧ Q (PyData.eqv x y)
def isStr1 : Str → Option Nat
  | ⟨⟨[c]⟩⟩ => some c
  | _ => none
def flatD : D → Bool
  | .int _ => true | .str _ => true | .bool _ => true | .none => true
  | _ => false
def wIn (x y : D) (Q : Bool → Prop) : Prop :=
  match y with
  | .str z => match x with
    | .str s => match isStr1 s with
      | some c => Q (decide (c ∈ z.cps.toList))
      | none => Q (!(Builtin.Str.occurrences z s 0 z.length 1).isEmpty)
    | _ => False
  | .list ds => shp x = true ∧ PyData.plainAll ds = true ∧ Q (ds.any fun z => PyData.eqv z x)
  | .tuple ds => shp x = true ∧ PyData.plainAll ds = true ∧ Q (ds.any fun z => PyData.eqv z x)
  | .dict kvs => keyD x = true ∧ uniD (kvs.map (·.1)) x = true ∧ Q (decide (x ∈ kvs.map (·.1)))
  | _ => False
def ltP (x y : D) : Prop := PySem.W.alike x y = true ∧ x.plain = true ∧ y.plain = true ∧ x ≠ .none ∧ x.depth ≤ 60
def wLt : D → D → (Bool → Prop) → Prop
  | .int i, .int j, Q => Q (decide (i < j))
  | x, y, Q => ltP x y ∧ Q (PySem.W.dataLt x y)
theorem wLt_or {x y : D} {Q : Bool → Prop} (h : wLt x y Q) : (∃ i j, x = .int i ∧ y = .int j ∧ Q (decide (i < j))) ∨ (ltP x y ∧ Q (PySem.W.dataLt x y)) := by
  unfold wLt at h
  split at h
  · exact .inl ⟨_, _, rfl, rfl, h⟩
  · exact .inr h
def wCmp : CmpOp → D → D → (Bool → Prop) → Prop
  | .Eq, x, y, Q => wEq x y Q
  | .NotEq, x, y, Q => wEq x y fun b => Q (!b)
  | .Lt, x, y, Q => wLt x y Q
  | .LtE, .int i, .int j, Q => Q (decide (i ≤ j))
  | .Gt, .int i, .int j, Q => Q (decide (j < i))
  | .GtE, .int i, .int j, Q => Q (decide (j ≤ i))
  | .In, x, y, Q => wIn x y Q
  | .NotIn, x, y, Q => wIn x y fun b => Q (!b)
  | .Is, x, .none, Q => Q (match x with | .none => true | _ => false)
  | .IsNot, x, .none, Q => Q (match x with | .none => false | _ => true)
  | _, _, _, _ => False
def wIx : D → D → (D → Prop) → Prop
  | .list ds, .int i, Q => ∃ d, atI ds i = some d ∧ Q d
  | .tuple ds, .int i, Q => ∃ d, atI ds i = some d ∧ Q d
  | .str z, .int i, Q => z.length ≤ sizeLine ∧ ∃ c, atI z.cps.toList i = some c ∧ Q (.str ⟨#[c]⟩)
  | .dict kvs, k, Q => keyD k = true ∧ uniD (kvs.map (·.1)) k = true ∧ ∃ v, dget kvs k = some v ∧ Q v
  | _, _, _ => False
def cutD (xs : List D) (lo hi : Option Int) : List D := (xs.drop (HT.sIx xs.length 0 lo)).take (HT.sIx xs.length xs.length hi - HT.sIx xs.length 0 lo)
def seqOf : D → Option (List D)
  | .list ds => some ds
  | .tuple ds => some ds
  | .str z => some (z.cps.toList.map fun c => .str ⟨#[c]⟩)
  | _ => none
def wSl : D → Option Int → Option Int → (D → Prop) → Prop
  | .list ds, lo, hi, Q => Q (.list (cutD ds lo hi))
  | .str z, lo, hi, Q => z.length ≤ sizeLine ∧ Q (.str (cutS z lo hi))
  | .tuple ds, lo, hi, Q => Q (.tuple (cutD ds lo hi))
  | _, _, _, _ => False
def lsOf : D → Option (List D)
  | .list ds => some ds
  | .tuple ds => some ds
  | _ => none
def intOf : D → Option Int
  | .int i => some i
  | _ => none
def strOf : D → Option Str
  | .str s => some s
  | _ => none
/-- what can be sorted, and how -/
def srtOk (ds : List D) : Prop := PySem.W.AllAlike ds ∧ (∀ d ∈ ds, d ≠ .none) ∧ PyData.plainAll ds = true ∧ ∀ d ∈ ds, d.depth ≤ 60
def srtD (ds : List D) : List D := ds.mergeSort (PySem.W.dataLe false id)
def wBl : Bl → List D → (D → Prop) → Prop
  | .len, [.list ds], Q => Q (.int ds.length)
  | .len, [.tuple ds], Q => Q (.int ds.length)
  | .len, [.str s], Q => s.length ≤ sizeLine ∧ Q (.int s.length)
  | .int, [.int i], Q => Q (.int i)
  | .int, [.bool b], Q => Q (.int (if b then 1 else 0))
  | .str, [.int i], Q => i.natAbs.log2 < 1920 ∧ Q (.str (toString i))
  | .tuple, [.list ds], Q => Q (.tuple ds)
  | .tuple, [.tuple ds], Q => Q (.tuple ds)
  | .list, [.list ds], Q => Q (.list ds)
  | .list, [.tuple ds], Q => Q (.list ds)
  | .abs, [.int i], Q => Q (.int (if i < 0 then -i else i))
  | .max, [.int i, .int j], Q => Q (.int (if j > i then j else i))
  | .min, [.int i, .int j], Q => Q (.int (if j < i then j else i))
  | .sum, [.list ds], Q => ∃ ns : List Int, ds = ns.map .int ∧ Q (.int ns.sum)
  | .len, [.dict kvs], Q => Q (.int kvs.length)
  | .list, [.dict kvs], Q => Q (.list (kvs.map (·.1)))
  | .list, [.str z], Q => z.cps.size ≤ sizeLine ∧ Q (.list (z.cps.toList.map fun c => .str ⟨#[c]⟩))
  | .sorted, [.list ds], Q => srtOk ds ∧ Q (.list (srtD ds))
  | .sorted, [.dict kvs], Q => srtOk (kvs.map (·.1)) ∧ Q (.list (srtD (kvs.map (·.1))))
  | .max, [.list ds], Q => ∃ ns : List Int, ds = ns.map .int ∧ ns ≠ [] ∧ ∀ m, m ∈ ns → (∀ j ∈ ns, j ≤ m) → Q (.int m)
  | .min, [.list ds], Q => ∃ ns : List Int, ds = ns.map .int ∧ ns ≠ [] ∧ ∀ m, m ∈ ns → (∀ j ∈ ns, m ≤ j) → Q (.int m)
  | .all, [.list ds], Q => ∃ bs : List Bool, ds = bs.map .bool ∧ Q (.bool (bs.all id))
  | .any, [.list ds], Q => ∃ bs : List Bool, ds = bs.map .bool ∧ Q (.bool (bs.any id))
  | _, _, _ => False
/-- how deep a built-in function reads what still changes -/
def bLv : Bl → Nat
  | .len => 1
  | _ => 0
def tyN : D → String
  | .none => "NoneType" | .bool _ => "bool" | .int _ => "int" | .str _ => "str" | .list _ => "list" | .tuple _ => "tuple" | .dict _ => "dict"
def noDc : D → Bool
  | .dict _ => false
  | _ => true
def isT (n t : String) : Bool := n == t || (n == "bool" && t == "int")
def isOne (d : D) (t : String) : Bool := isT (tyN d) t
def wMt : Mt → D → List D → (D → Prop) → Prop
  | .join, .str a, [.list ds], Q => ∃ ys : List Str, ds = ys.map .str ∧ (ys.map (·.length)).sum + ys.length * a.length ≤ 16777216 ∧ Q (.str (Txt.join a ys))
  | .find3, .str a, [.str b, .int i], Q => Q (.int (Txt.find3 a b i))
  | .rfind4, .str a, [.str b, .int i, .int j], Q => Q (.int (Txt.rfindIn a b i j))
  | .sindex, .str a, [.str b], Q => ∃ i rest, Builtin.Str.occurrences a b 0 a.length 1 = i :: rest ∧ Q (.int (i : Nat))
  | .count, .str a, [.str b], Q => Q (.int (Txt.count a b))
  | .rfind, .str a, [.str b], Q => Q (.int (Txt.rfind a b))
  | .lindex, .list ds, [x], Q => (shp x = true ∧ PyData.plainAll ds = true) ∧ ∃ j, PySem.SeqAt.dataPlace ds x = some j ∧ Q (.int (j : Nat))
  | _, _, _, _ => False

def mtTy : Mt → String
  | .join => "str" | .find3 => "str" | .rfind4 => "str" | .sindex => "str" | .count => "str" | .rfind => "str" | .lindex => "list"
/-- a def's meaning: what it wants of its arguments, what it gives -/
structure FnS where
  pre : List D → Prop
  post : List D → D → Prop
structure Gb where
  fn : Nat → FnS
  ct : Nat → D

def enD : Nat → List D → List D
  | _, [] => []
  | i, d :: ds => .tuple [.int i, d] :: enD (i + 1) ds
def zpD : List D → List D → List D
  | d :: ds, e :: es => .tuple [d, e] :: zpD ds es
  | _, _ => []
def zp3D : List D → List D → List D → List D
  | d :: ds, e :: es, f :: fs => .tuple [d, e, f] :: zp3D ds es fs
  | _, _, _ => []
def wipeE (ρ : Env) : List Nat → Env
  | [] => ρ
  | v :: vs => (wipeE ρ vs).set v none
def setAll : List Nat → List D → Env → Option Env
  | [], [], ρ => some ρ
  | i :: is, d :: ds, ρ => if i < ρ.length then setAll is ds (ρ.set i (some (.fz d))) else none
  | _, _, _ => none
def wG : Tg → D → Env → (Env → Prop) → Prop
  | .nm i, d, ρ, Q => i < ρ.length ∧ Q (ρ.set i (some (.fz d)))
  | .tp is, .tuple ds, ρ, Q => ∃ ρ', setAll is ds ρ = some ρ' ∧ Q ρ'
  | _, _, _, _ => False
def wMap (f : D → (Option D → Prop) → Prop) : List D → List D → (List D → Prop) → Prop
  | [], acc, Q => Q acc
  | d :: ds, acc, Q => f d fun o => match o with
    | some y => wMap f ds (acc ++ [y]) Q
    | none => wMap f ds acc Q

def wMapD (f : D → (Option (D × D) → Prop) → Prop) : List D → List (D × D) → (List (D × D) → Prop) → Prop
  | [], acc, Q => Q acc
  | d :: ds, acc, Q => f d fun o => match o with
    | some p => keyD p.1 = true ∧ uniD (acc.map (·.1)) p.1 = true ∧ wMapD f ds (dput acc p.1 p.2) Q
    | none => wMapD f ds acc Q

/-- what changes is out of sight -/
def dropOw : Env → Env
  | [] => []
  | some (.fz d) :: l => some (.fz d) :: dropOw l
  | some (.ow _) :: l => none :: dropOw l
  | some (.ow2 _) :: l => none :: dropOw l
  | some (.od _) :: l => none :: dropOw l
  | some (.odl _) :: l => none :: dropOw l
  | none :: l => none :: dropOw l
def wMapL (f : D → (List D → Prop) → Prop) : List D → List D → (List D → Prop) → Prop
  | [], acc, Q => Q acc
  | d :: ds, acc, Q => f d fun ys => wMapL f ds (acc ++ ys) Q

mutual
def wE (G : Gb) : Md → E → Env → (D → Prop) → Prop
  | md, .var i, ρ, Q => match gt ρ i with
    | some (.fz d) => fin md Q d
    | some (.ow ds) => match md with
      | .t (_ + 1) => Q (.list ds)
      | .tst => Q (.bool (!ds.isEmpty))
      | _ => False
    | some (.ow2 dss) => match md with
      | .t (_ + 2) => Q (.list (dss.map .list))
      | .tst => Q (.bool (!dss.isEmpty))
      | _ => False
    | some (.od kvs) => match md with
      | .t (_ + 1) => Q (.dict kvs)
      | .tst => Q (.bool (!kvs.isEmpty))
      | _ => False
    | some (.odl kvs) => match md with
      | .t (_ + 2) => Q (.dict (kvs.map fun p => (p.1, .list p.2)))
      | .tst => Q (.bool (!kvs.isEmpty))
      | _ => False
    | none => False
  | md, .ct k, _, Q => fin md Q (G.ct k)
  | md, .non, _, Q => fin md Q .none
  | md, .bl b, _, Q => fin md Q (.bool b)
  | md, .int i, _, Q => fin md Q (.int i)
  | md, .str x, _, Q => fin md Q (.str ⟨x.toArray⟩)
  | md, .bin op a b, ρ, Q => wE G (.t 1) a ρ fun x => wE G (.t 1) b ρ fun y => wBin op x y (finB md Q)
  | md, .neg a, ρ, Q => wE G (.t 0) a ρ fun x => ∃ i, x = .int i ∧ fin md Q (.int (-i))
  | md, .cmp op a b, ρ, Q => wE G (.t 2) a ρ fun x => wE G (.t 2) b ρ fun y => wCmp op x y fun c => fin md Q (.bool c)
  | md, .bop conj es, ρ, Q => match md with
    | .tst => wTs G conj es ρ Q
    | .t _ => wBs G conj es ρ Q
    | .fr => False
  | md, .nt a, ρ, Q => match md with
    | .tst => wE G .tst a ρ fun x => ∃ c, x = .bool c ∧ Q (.bool (!c))
    | .t _ => wE G (.t 0) a ρ fun x => ∃ c, x = .bool c ∧ Q (.bool (!c))
    | .fr => False
  | md, .ifx c a b, ρ, Q => wE G .tst c ρ fun x => ∃ k, x = .bool k ∧ (if k = true then wE G md a ρ Q else wE G md b ρ Q)
  | md, .ix a i, ρ, Q => match md with
    | .t n => wE G (.t (n + 1)) a ρ fun x => wE G (.t 0) i ρ fun y => wIx x y Q
    | .tst => wE G (.t 1) a ρ fun x => wE G (.t 0) i ρ fun y => wIx x y fun z => wTr z fun b => Q (.bool b)
    | .fr => False
  | md, .sl a lo hi, ρ, Q => wE G (.t 1) a ρ fun x => wEo G lo ρ fun l => wEo G hi ρ fun h => wSl x l h (finB md Q)
  | md, .call k es, ρ, Q => wEs G 0 es ρ fun ds => (G.fn k).pre ds ∧ ∀ d, (G.fn k).post ds d → fin md Q d
  | md, .callk k n es ks kes, ρ, Q => wEs G 0 es ρ fun ds => wEs G 0 kes ρ fun zs => (ds.length = n ∧ zs.length = ks.length) ∧ (G.fn k).pre (ds ++ zs) ∧ ∀ d, (G.fn k).post (ds ++ zs) d → fin md Q d
  | md, .blt b es, ρ, Q => wEs G (bLv b + 1) es ρ fun ds => wBl b ds (finB md Q)
  | md, .isi a ts, ρ, Q => wE G (.t 2) a ρ fun x => noDc x = true ∧ fin md Q (.bool (ts.any (isOne x)))
  | md, .mth m o es, ρ, Q => wE G (.t 1) o ρ fun x => tyN x = mtTy m ∧ wEs G 1 es ρ fun ds => wMt m x ds (finB md Q)
  | md, .tup es, ρ, Q => wEs G 0 es ρ fun ds => ds.length ≤ sizeLine ∧ fin md Q (.tuple ds)
  | md, .lst es, ρ, Q => wEs G 0 es ρ fun ds => ds.length ≤ sizeLine ∧ finL md Q ds
  | md, .lc own elt tg it cs, ρ, Q => wI G 1 it ρ fun ds => ds.length ≤ sizeLine ∧
      wMap (fun d K => wG tg d (wipeE ρ (own.map (·.2))) fun ρ' => wC G cs ρ' fun k => if k = true then wE G (.t 0) elt ρ' fun y => K (some y) else K none) ds [] (finL md Q)
  | md, .lc2 own elt tg it cs vs1 tg1 it1 cs1, ρ, Q => wI G 1 it ρ fun ds => ∃ M, ds.length * M ≤ sizeLine ∧
      wMapL (fun d K => wG tg d (dropOw (wipeE ρ (own.map (·.2)))) fun ρ2 => wC G cs ρ2 fun k => if k = true then wI G 0 it1 ρ2 fun ds1 => ds1.length ≤ M ∧
        wMap (fun d K1 => wG tg1 d (wipeE ρ2 vs1) fun ρ3 => wC G cs1 ρ3 fun k => if k = true then wE G (.t 0) elt ρ3 fun y => K1 (some y) else K1 none) ds1 [] K else K []) ds [] (finL md Q)
  | md, .dnew, _, Q => finD md Q []
  | md, .done k v, ρ, Q => wE G (.t 0) k ρ fun x => wE G (.t 0) v ρ fun y => keyD x = true ∧ finD md Q [(x, y)]
  | md, .dget o k x, ρ, Q => wE G (.t 1) o ρ fun d => ∃ kvs, d = .dict kvs ∧ wE G (.t 0) k ρ fun y => wE G (.t 0) x ρ fun z => keyD y = true ∧ uniD (kvs.map (·.1)) y = true ∧ fin md Q ((dget kvs y).getD z)
  | md, .dcm own ke ve tg it cs, ρ, Q => wI G 1 it ρ fun ds => ds.length ≤ sizeLine ∧
      wMapD (fun d K => wG tg d (wipeE ρ (own.map (·.2))) fun ρ' => wC G cs ρ' fun k => if k = true then wE G (.t 0) ke ρ' fun x => wE G (.t 0) ve ρ' fun y => K (some (x, y)) else K none) ds [] (finD md Q)
  | md, .chn op op' a b c, ρ, Q => wE G (.t 2) a ρ fun x => wE G (.t 2) b ρ fun y => wCmp op x y fun k => if k = true then wE G (.t 2) c ρ fun z => wCmp op' y z fun k' => fin md Q (.bool k') else fin md Q (.bool false)
  | md, .lrg a, ρ, Q => wE G (.t 0) a ρ fun d => ∃ j, d = .int j ∧ (-(2 ^ 62) ≤ j ∧ j ≤ 16777216) ∧ finL md Q ((List.range j.toNat).map fun (k : Nat) => .int k)
def wTs (G : Gb) : Bool → Es → Env → (D → Prop) → Prop
  | conj, .nil, _, Q => Q (.bool conj)
  | conj, .cons e es, ρ, Q => match es with
    | .nil => wE G .tst e ρ Q
    | .cons e2 es2 => wE G .tst e ρ fun x => ∃ c, x = .bool c ∧ (if c = conj then wTs G conj (.cons e2 es2) ρ Q else Q (.bool (!conj)))
def wBs (G : Gb) : Bool → Es → Env → (D → Prop) → Prop
  | conj, .nil, _, Q => False
  | conj, .cons e es, ρ, Q => match es with
    | .nil => wE G (.t 0) e ρ Q
    | .cons e2 es2 => wE G (.t 0) e ρ fun x => ∃ c, x = .bool c ∧ (if c = conj then wBs G conj (.cons e2 es2) ρ Q else Q (.bool (!conj)))
def wC (G : Gb) : Eo → Env → (Bool → Prop) → Prop
  | .no, _, Q => Q true
  | .yes e, ρ, Q => wE G .tst e ρ fun x => ∃ b, x = .bool b ∧ Q b
def wEo (G : Gb) : Eo → Env → (Option Int → Prop) → Prop
  | .no, _, Q => Q none
  | .yes e, ρ, Q => wE G (.t 0) e ρ fun d => ∃ i, d = .int i ∧ Q (some i)
def wEs (G : Gb) : Nat → Es → Env → (List D → Prop) → Prop
  | _, .nil, _, Q => Q []
  | n, .cons e es, ρ, Q => wE G (.t n) e ρ fun d => wEs G n es ρ fun ds => Q (d :: ds)
def wI (G : Gb) : Nat → I → Env → (List D → Prop) → Prop
  | n, .ls e, ρ, Q => wE G (.t n) e ρ fun d => ∃ ds, seqOf d = some ds ∧ Q ds
  | _, .r1 a, ρ, Q => wE G (.t 0) a ρ fun d => ∃ j, d = .int j ∧ (-(2 ^ 62) ≤ j ∧ j < 2 ^ 62) ∧ Q ((List.range j.toNat).map fun (k : Nat) => .int k)
  | _, .r2 a b, ρ, Q => wE G (.t 0) a ρ fun d => wE G (.t 0) b ρ fun e => ∃ i j, d = .int i ∧ e = .int j ∧ (-(2 ^ 62) ≤ i ∧ i < 2 ^ 62 ∧ -(2 ^ 62) ≤ j ∧ j < 2 ^ 62) ∧ Q ((List.range (j - i).toNat).map fun (k : Nat) => .int (i + k))
  | n, .rv e, ρ, Q => wE G (.t n) e ρ fun d => ∃ ds, lsOf d = some ds ∧ Q ds.reverse
  | _, .rr1 a, ρ, Q => wE G (.t 0) a ρ fun d => ∃ j, d = .int j ∧ (-(2 ^ 62) ≤ j ∧ j < 2 ^ 62) ∧ Q ((List.range j.toNat).map fun (k : Nat) => .int k).reverse
  | _, .rr2 a b, ρ, Q => wE G (.t 0) a ρ fun d => wE G (.t 0) b ρ fun e => ∃ i j, d = .int i ∧ e = .int j ∧ (-(2 ^ 62) ≤ i ∧ i < 2 ^ 62 ∧ -(2 ^ 62) ≤ j ∧ j < 2 ^ 62) ∧ Q ((List.range (j - i).toNat).map fun (k : Nat) => .int (i + k)).reverse
  | n, .en e, ρ, Q => wE G (.t n) e ρ fun d => ∃ ds, seqOf d = some ds ∧ Q (enD 0 ds)
  | n, .zp a b, ρ, Q => wE G (.t n) a ρ fun d => wE G (.t n) b ρ fun e => ∃ ds es, seqOf d = some ds ∧ seqOf e = some es ∧ Q (zpD ds es)
  | n, .zp3 a b c, ρ, Q => wE G (.t n) a ρ fun d => wE G (.t n) b ρ fun e => wE G (.t n) c ρ fun f => ∃ ds es fs, seqOf d = some ds ∧ seqOf e = some es ∧ seqOf f = some fs ∧ Q (zp3D ds es fs)
end

/-! ### statements -/
def lget (kvs : List (D × List D)) (k : D) : Option (List D) := (kvs.find? fun p => decide (p.1 = k)).map (·.2)
def lput : List (D × List D) → D → List D → List (D × List D)
  | [], k, ds => [(k, ds)]
  | p :: r, k, ds => if p.1 = k then (p.1, ds) :: r else p :: lput r k ds
/-- x op= y makes a new value -/
def augOk : Operator → D → Bool
  | _, .int _ => true
  | _, _ => false
structure DP where
  nx : Env → Prop
  rt : D → Prop
  bk : Env → Prop
  ct : Env → Prop
def wFor (g : D → Env → (Env → Prop) → Prop) (body : DP → Env → Prop) (P : DP) : List D → Env → Prop
  | [], ρ => P.nx ρ
  | d :: ds, ρ => g d ρ fun ρ' => body { P with nx := wFor g body P ds, ct := wFor g body P ds, bk := P.nx } ρ'
def wWhl (c : Env → (Bool → Prop) → Prop) (body : DP → Env → Prop) (P : DP) (ρ : Env) : Prop :=
  ∃ W : Nat → Env → Prop, (∃ m, W m ρ) ∧ ∀ m ρ, W m ρ → c ρ fun b => if b = true then body { P with nx := fun ρ' => ∃ m', m' < m ∧ W m' ρ', ct := fun ρ' => ∃ m', m' < m ∧ W m' ρ', bk := P.nx } ρ else P.nx ρ
mutual
def wS (G : Gb) : S → DP → Env → Prop
  | .asg tg e, P, ρ => wE G (.t 0) e ρ fun d => wG tg d ρ P.nx
  | .own i e, P, ρ => wE G .fr e ρ fun d => i < ρ.length ∧ (match d with
    | .list ds => P.nx (ρ.set i (some (.ow ds)))
    | .dict kvs => P.nx (ρ.set i (some (.od kvs)))
    | _ => False)
  | .own2 i, P, ρ => i < ρ.length ∧ P.nx (ρ.set i (some (.ow2 [])))
  | .frz i, P, ρ => match gt ρ i with
    | some (.fz _) => P.nx ρ
    | some (.ow ds) => P.nx (ρ.set i (some (.fz (.list ds))))
    | some (.ow2 dss) => P.nx (ρ.set i (some (.fz (.list (dss.map .list)))))
    | some (.od kvs) => P.nx (ρ.set i (some (.fz (.dict kvs))))
    | some (.odl kvs) => P.nx (ρ.set i (some (.fz (.dict (kvs.map fun p => (p.1, .list p.2))))))
    | none => P.nx ρ
  | .app i e, P, ρ => ∃ ds, gt ρ i = some (.ow ds) ∧ wE G (.t 0) e ρ fun d => ds.length < sizeLine ∧ P.nx (ρ.set i (some (.ow (ds ++ [d]))))
  | .app2 i e, P, ρ => ∃ dss, gt ρ i = some (.ow2 dss) ∧ wE G .fr e ρ fun d => ∃ ds, d = .list ds ∧ dss.length < sizeLine ∧ P.nx (ρ.set i (some (.ow2 (dss ++ [ds]))))
  | .appI i j e, P, ρ => ∃ dss, gt ρ i = some (.ow2 dss) ∧ wE G (.t 0) j ρ fun y => ∃ k n ds, y = .int k ∧ ixN dss.length k = some n ∧ dss[n]? = some ds ∧ wE G (.t 0) e ρ fun d => ds.length < sizeLine ∧ P.nx (ρ.set i (some (.ow2 (dss.set n (ds ++ [d])))))
  | .seti i j e, P, ρ => ∃ ds, gt ρ i = some (.ow ds) ∧ wE G (.t 0) e ρ fun d => wE G (.t 0) j ρ fun y => ∃ k n, y = .int k ∧ ixN ds.length k = some n ∧ P.nx (ρ.set i (some (.ow (ds.set n d))))
  | .set2 i j k e, P, ρ => ∃ dss, gt ρ i = some (.ow2 dss) ∧ wE G (.t 0) e ρ fun d => wE G (.t 0) j ρ fun y => ∃ k1 n1 ds, y = .int k1 ∧ ixN dss.length k1 = some n1 ∧ dss[n1]? = some ds ∧
      wE G (.t 0) k ρ fun z => ∃ k2 n2, z = .int k2 ∧ ixN ds.length k2 = some n2 ∧ P.nx (ρ.set i (some (.ow2 (dss.set n1 (ds.set n2 d)))))
  | .drop e, P, ρ => wE G (.t 0) e ρ fun _ => P.nx ρ
  | .aug i op e, P, ρ => ∃ x, gt ρ i = some (.fz x) ∧ augOk op x = true ∧ wE G (.t 0) e ρ fun y => wBin op x y fun z => isCon z = false ∧ P.nx (ρ.set i (some (.fz z)))
  | .ownd2 i, P, ρ => i < ρ.length ∧ P.nx (ρ.set i (some (.odl [])))
  | .dput i k e, P, ρ => ∃ kvs, gt ρ i = some (.od kvs) ∧ wE G (.t 0) e ρ fun v => wE G (.t 0) k ρ fun x => (keyD x = true ∧ uniD (kvs.map (·.1)) x = true ∧ kvs.length < sizeLine) ∧ P.nx (ρ.set i (some (.od (dput kvs x v))))
  | .dputl i k e, P, ρ => ∃ kvs, gt ρ i = some (.odl kvs) ∧ wE G .fr e ρ fun d => ∃ ds, d = .list ds ∧ wE G (.t 0) k ρ fun x => (keyD x = true ∧ uniD (kvs.map (·.1)) x = true ∧ kvs.length < sizeLine ∧ (kvs.map (·.1)).Nodup) ∧ P.nx (ρ.set i (some (.odl (lput kvs x ds))))
  | .dappl i k e, P, ρ => ∃ kvs, gt ρ i = some (.odl kvs) ∧ wE G (.t 0) k ρ fun x => ∃ ds, (keyD x = true ∧ uniD (kvs.map (·.1)) x = true ∧ lget kvs x = some ds) ∧ wE G (.t 0) e ρ fun d => ds.length < sizeLine ∧ P.nx (ρ.set i (some (.odl (lput kvs x (ds ++ [d])))))
  | .dsetap i k e, P, ρ => ∃ kvs, gt ρ i = some (.odl kvs) ∧ wE G (.t 0) k ρ fun x => (keyD x = true ∧ uniD (kvs.map (·.1)) x = true ∧ kvs.length < sizeLine) ∧ wE G (.t 0) e ρ fun d => ((lget kvs x).getD []).length < sizeLine ∧ P.nx (ρ.set i (some (.odl (lput kvs x ((lget kvs x).getD [] ++ [d])))))
  | .popA tg i j, P, ρ => ∃ ds, gt ρ i = some (.ow ds) ∧ wEo G j ρ fun o => (match o with
    | none => ∃ d, ds.getLast? = some d ∧ wG tg d (ρ.set i (some (.ow ds.dropLast))) P.nx
    | some k => ∃ n d, ixN ds.length k = some n ∧ ds[n]? = some d ∧ wG tg d (ρ.set i (some (.ow (ds.eraseIdx n)))) P.nx)
  | .ins i j e, P, ρ => ∃ ds, gt ρ i = some (.ow ds) ∧ wE G (.t 0) j ρ fun y => wE G (.t 0) e ρ fun d => ∃ k, y = .int k ∧ (0 ≤ k ∧ k < 2 ^ 63 ∧ ds.length < sizeLine) ∧ P.nx (ρ.set i (some (.ow (ds.take k.toNat ++ [d] ++ ds.drop k.toNat))))
  | .ext i e, P, ρ => ∃ ds, gt ρ i = some (.ow ds) ∧ wE G (.t 1) e ρ fun d => ∃ es, lsOf d = some es ∧ ds.length + es.length ≤ sizeLine ∧ P.nx (ρ.set i (some (.ow (ds ++ es))))
  | .ifs c a b, P, ρ => wE G .tst c ρ fun x => ∃ k, x = .bool k ∧ (if k = true then wSs G a P ρ else wSs G b P ρ)
  | .whl c b, P, ρ => wWhl (fun ρ Q => wE G .tst c ρ fun x => ∃ k, x = .bool k ∧ Q k) (wSs G b) P ρ
  | .fr tg it b, P, ρ => wI G 0 it ρ fun ds => wFor (wG tg) (wSs G b) P ds ρ
  | .ret e, P, ρ => wE G (.t 0) e ρ P.rt
  | .retN, P, _ => P.rt .none
  | .pass, P, ρ => P.nx ρ
  | .brk, P, ρ => P.bk ρ
  | .cont, P, ρ => P.ct ρ
  | .never, _, _ => False
def wSs (G : Gb) : Ss → DP → Env → Prop
  | .nil, P, ρ => P.nx ρ
  | .cons s ss, P, ρ => wS G s { P with nx := wSs G ss P } ρ
end
end PD

namespace PD
open PySem PySem.Spec PyProof.Rows L2

/-! ### what an expression hands on -/
/-- a dict's entries, the values read by G -/
def PDc (K : Kx) (F : Hp) (G : V → D → Prop) : List Ent → List (D × D) → Prop := Paired fun e p => Rp K F e.2.1 p.1 ∧ (nkD p.1 = some e.1 ∧ keyD p.1 = true) ∧ G e.2.2 p.2
def Res (K : Kx) (F H : Hp) : Nat → V → D → Prop
  | 0, v, d => Rp K F v d
  | n + 1, v, d => Rp K F v d ∨ (∃ a xs ds, v = .ref a ∧ d = .list ds ∧ H a = some (.lst xs) ∧ Paired (Res K F H n) xs ds) ∨
      ∃ a es kvs, v = .ref a ∧ d = .dict kvs ∧ H a = some (DO K.P K.w a es) ∧ PDc K F (Res K F H n) es kvs
section
variable {K : Kx} {F H F' H' F0 H0 : Hp} {v : V} {d : D} {xs : List V} {ds : List D}
theorem paired_of : ∀ {xs : List V} {ds : List D}, RpAll K F xs ds → Paired (Rp K F) xs ds
  | _, _, .nil => .nil
  | _, _, .cons h t => .cons h (paired_of t)
theorem ra_of : ∀ {xs : List V} {ds : List D}, Paired (Rp K F) xs ds → RpAll K F xs ds
  | _, _, .nil => .nil
  | _, _, .cons h t => .cons h (ra_of t)
theorem paired_imp {α β : Type} {G G' : α → β → Prop} (f : ∀ a b, G a b → G' a b) : ∀ {xs : List α} {ys : List β}, Paired G xs ys → Paired G' xs ys
  | _, _, .nil => .nil
  | _, _, .cons h t => .cons (f _ _ h) (paired_imp f t)
theorem paired_get {α β : Type} {G : α → β → Prop} : ∀ {xs : List α} {ys : List β} {i : Nat} {y : β}, Paired G xs ys → ys[i]? = some y → ∃ x, xs[i]? = some x ∧ G x y
  | _, _, _, _, .nil, e => by simp at e
  | _, _, 0, _, .cons h _, e => by simp at e; subst e; exact ⟨_, rfl, h⟩
  | _, _, i + 1, y, .cons _ h, e => by
    obtain ⟨x, e1, h1⟩ := paired_get (i := i) (y := y) h (by simpa using e)
    exact ⟨x, by simpa using e1, h1⟩
theorem paired_len {α β : Type} {G : α → β → Prop} {xs : List α} {ys : List β} (h : Paired G xs ys) : xs.length = ys.length := Paired.length h
theorem pdc_of : ∀ {es : List Ent} {kvs : List (D × D)}, RpD K F es kvs → PDc K F (Rp K F) es kvs
  | _, _, .nil => .nil
  | _, _, .cons h1 h2 h3 h4 => .cons ⟨h1, h2, h3⟩ (pdc_of h4)
theorem rpd_of : ∀ {es : List Ent} {kvs : List (D × D)}, PDc K F (Rp K F) es kvs → RpD K F es kvs
  | _, _, .nil => .nil
  | _, _, .cons ⟨h1, h2, h3⟩ h4 => .cons h1 h2 h3 (rpd_of h4)
theorem pdc_keys {G : V → D → Prop} : ∀ {es : List Ent} {kvs : List (D × D)}, PDc K F G es kvs → RpK K F es (kvs.map (·.1))
  | _, _, .nil => .nil
  | _, _, .cons ⟨h1, h2, _⟩ h4 => .cons h1 h2 (pdc_keys h4)
theorem pdc_imp {G G' : V → D → Prop} (f : Same F F') (g : ∀ v d, G v d → G' v d) {es : List Ent} {kvs : List (D × D)} (h : PDc K F G es kvs) : PDc K F' G' es kvs := paired_imp (fun _ _ ⟨h1, h2, h3⟩ => ⟨dp_m h1 f, h2, g _ _ h3⟩) h
theorem pdc_get {G : V → D → Prop} {k : D} {n : NestedKey} (hn : nkD k = some n) : ∀ {es : List Ent} {kvs : List (D × D)}, PDc K F G es kvs → (dAt es n = none ∧ dget kvs k = none) ∨ ∃ v d, dAt es n = some v ∧ dget kvs k = some d ∧ G v d
  | _, _, .nil => .inl ⟨rfl, rfl⟩
  | (m, x, y) :: es, (c, w) :: kvs, .cons ⟨h1, h2, h3⟩ h4 => by
    have he := nk_eq h2.1 hn
    unfold dAt dget
    by_cases e : m = n
    · have e' : c = k := he ▸ e
      rw [List.find?_cons_of_pos (by simpa using e), List.find?_cons_of_pos (by simpa using e')]
      exact .inr ⟨y, w, rfl, rfl, h3⟩
    · have e' : ¬ c = k := he ▸ e
      rw [List.find?_cons_of_neg (by simpa using e), List.find?_cons_of_neg (by simpa using e')]
      exact pdc_get hn h4
theorem Res.of (h : Rp K F v d) : ∀ {n : Nat}, Res K F H n v d
  | 0 => h
  | _ + 1 => .inl h
theorem Res.mono (f : Same F F') (g : Same H H') : ∀ {n : Nat} {v : V} {d : D}, Res K F H n v d → Res K F' H' n v d
  | 0, _, _, h => dp_m h f
  | n + 1, v, d, h => by
    rcases h with h | ⟨a, xs, ds, e1, e2, e3, p⟩ | ⟨a, es, kvs, e1, e2, e3, p⟩
    · exact .inl (dp_m h f)
    · exact .inr (.inl ⟨a, xs, ds, e1, e2, g _ _ e3, paired_imp (fun _ _ q => Res.mono f g q) p⟩)
    · exact .inr (.inr ⟨a, es, kvs, e1, e2, g _ _ e3, pdc_imp f (fun _ _ q => Res.mono f g q) p⟩)
theorem da_of : ∀ {xs : List V} {ds : List D}, Paired (Dp K H) xs ds → DpAll K H xs ds
  | _, _, .nil => .nil
  | _, _, .cons h t => .cons h (da_of t)
theorem plain_list {ds : List D} (h : (PyData.list ds).plain = true) : PyData.plainAll ds = true := by unfold PyData.plain at h; exact h
theorem Res.dp (s : Same F H) : ∀ {n : Nat} {v : V} {d : D}, d.plain = true → Res K F H n v d → Dp K H v d
  | 0, _, _, hp, h => rp_dp _ _ hp (dp_m h s)
  | n + 1, v, d, hp, h => by
    rcases h with h | ⟨a, xs, ds, e1, e2, e3, p⟩ | ⟨a, es, kvs, e1, e2, e3, p⟩
    · exact rp_dp _ _ hp (dp_m h s)
    · subst e1 e2
      have hp := plain_list hp
      have : ∀ {xs : List V} {ds : List D}, PyData.plainAll ds = true → Paired (Res K F H n) xs ds → Paired (Dp K H) xs ds := by
        intro xs ds hp p
        induction p with
        | nil => exact .nil
        | cons h t ih =>
          unfold PyData.plainAll at hp
          rw [Bool.and_eq_true] at hp
          exact .cons (Res.dp s hp.1 h) (ih hp.2)
      exact .lst (SqL.of e3) (da_of (this hp p))
    · subst e2
      unfold PyData.plain at hp
      cases hp
theorem Res.scal {n : Nat} (h : Res K F H n v d) (hd : isCon d = false) : Rp K F v d := by
  cases n with
  | zero => exact h
  | succ n =>
    rcases h with h | ⟨a, xs, ds, e1, e2, _⟩ | ⟨a, es, kvs, e1, e2, _⟩
    · exact h
    · rw [e2] at hd; cases hd
    · rw [e2] at hd; cases hd
theorem Res.list {n : Nat} {ds : List D} (s : Same F H) (h : Res K F H (n + 1) v (.list ds)) : ∃ a xs, v = .ref a ∧ SqL K H a xs ∧ Paired (Res K F H n) xs ds := by
  rcases h with h | ⟨a, xs, ds', e1, e2, e3, p⟩ | ⟨a, es, kvs, e1, e2, _⟩
  · cases h with
    | lst hr ha => exact ⟨_, _, rfl, sqL_mono s hr, paired_imp (fun _ _ q => Res.of q) (paired_of ha)⟩
  · cases e2
    exact ⟨a, xs, e1, SqL.of e3, p⟩
  · cases e2
theorem Res.dict {n : Nat} {kvs : List (D × D)} (s : Same F H) (h : Res K F H (n + 1) v (.dict kvs)) : ∃ a es, v = .ref a ∧ H a = some (DO K.P K.w a es) ∧ PDc K F (Res K F H n) es kvs := by
  rcases h with h | ⟨a, xs, ds', e1, e2, e3, p⟩ | ⟨a, es, kvs', e1, e2, e3, p⟩
  · cases h with
    | dic hr ha => exact ⟨_, _, rfl, s _ _ hr, pdc_imp (Same.refl F) (fun _ _ q => Res.of q) (pdc_of ha)⟩
  · cases e2
  · cases e2
    exact ⟨a, es, e1, e3, p⟩
/-- a new list that nothing else knows; a new dict -/
def Fre (K : Kx) (H F' H' : Hp) (v : V) (ds : List D) : Prop := ∃ a xs, v = .ref a ∧ H a = none ∧ F' a = none ∧ H' a = some (.lst xs) ∧ RpAll K F' xs ds
def FreD (K : Kx) (H F' H' : Hp) (v : V) (kvs : List (D × D)) : Prop := ∃ a es, v = .ref a ∧ H a = none ∧ F' a = none ∧ H' a = some (DO K.P K.w a es) ∧ RpD K F' es kvs
def FreC (K : Kx) (H F' H' : Hp) (v : V) (d : D) : Prop := (∃ ds, d = .list ds ∧ Fre K H F' H' v ds) ∨ ∃ kvs, d = .dict kvs ∧ FreD K H F' H' v kvs
/-- a new list or dict, or something that never changes -/
def Dyn (K : Kx) (H F' H' : Hp) (v : V) (d : D) : Prop := FreC K H F' H' v d ∨ (isCon d = false ∧ Rp K F' v d)
theorem FreC.free {K : Kx} {H H1 F' H' : Hp} {v : V} {d : D} (s : Same H H1) (f : FreC K H1 F' H' v d) : FreC K H F' H' v d := by
  rcases f with ⟨ds, rfl, a, xs, rfl, g1, g2⟩ | ⟨kvs, rfl, a, es, rfl, g1, g2⟩
  · exact .inl ⟨ds, rfl, a, xs, rfl, Same.free s g1, g2⟩
  · exact .inr ⟨kvs, rfl, a, es, rfl, Same.free s g1, g2⟩
theorem Dyn.free {K : Kx} {H H1 F' H' : Hp} {v : V} {d : D} (s : Same H H1) (f : Dyn K H1 F' H' v d) : Dyn K H F' H' v d := f.imp (FreC.free s) id

/-! ### the readings, by data -/
abbrev WE := Env → (D → Prop) → Prop
def tX (K : Kx) (RR : Hp → Hp → Hp → V → D → Prop) (w : WE) : TE := fun σ H Z =>
  ∃ F0 H0 F ρ Q, R K F0 H0 F ρ σ H ∧ w ρ Q ∧ ∀ v F' H' d, Ext F H F' H' → Same F' H' → RR H F' H' v d → Q d → Z v H'
abbrev rN (K : Kx) (n : Nat) : Hp → Hp → Hp → V → D → Prop := fun _ F' H' v d => Res K F' H' n v d
abbrev rF (K : Kx) : Hp → Hp → Hp → V → D → Prop := fun H F' H' v d => FreC K H F' H' v d
abbrev tN (K : Kx) (n : Nat) (w : WE) : TE := tX K (rN K n) w
def tTs (K : Kx) (w : WE) : TT := fun σ H Z =>
  ∃ F0 H0 F ρ Q, R K F0 H0 F ρ σ H ∧ w ρ Q ∧ ∀ b F' H', Ext F H F' H' → Same F' H' → Q (.bool b) → Z b H'
def tAs (K : Kx) (n : Nat) (w : Env → (List D → Prop) → Prop) : TA := fun σ H Z =>
  ∃ F0 H0 F ρ Q, R K F0 H0 F ρ σ H ∧ w ρ Q ∧ ∀ vs F' H' ds, Ext F H F' H' → Same F' H' → Paired (Res K F' H' n) vs ds → Q ds → Z vs H'
def tOs (K : Kx) (w : Env → (Option Int → Prop) → Prop) : TO := fun σ H Z =>
  ∃ F0 H0 F ρ Q, R K F0 H0 F ρ σ H ∧ w ρ Q ∧ ∀ o F' H', Ext F H F' H' → Same F' H' → Q o → Z o H'
end
theorem pe_w {X : Cx} {e : Expr} {t t' : TE} (h : PE X e t) (k : ∀ σ H Q, t' σ H Q → t σ H Q) : PE X e t' := ⟨fun pins s σ H Q I hw => h.run pins s σ H Q I (k σ H Q hw)⟩
theorem pt_w {X : Cx} {e : Expr} {t t' : TT} (h : PT X e t) (k : ∀ σ H Q, t' σ H Q → t σ H Q) : PT X e t' := ⟨fun pins s σ H Q I hw => h.run pins s σ H Q I (k σ H Q hw)⟩
theorem pw_w {X : Cx} {e : Expr} {t t' : TT} (h : PW X e t) (k : ∀ σ H Q, t' σ H Q → t σ H Q) : PW X e t' := ⟨fun wh pins s σ H Q I hw => h.run wh pins s σ H Q I (k σ H Q hw)⟩
theorem pa_w {X : Cx} {e : List Expr} {t t' : TA} (h : PA X e t) (k : ∀ σ H Q, t' σ H Q → t σ H Q) : PA X e t' := ⟨fun pos pins s σ H Q I hw => h.run pos pins s σ H Q I (k σ H Q hw)⟩
theorem po_w {X : Cx} {e : Option Expr} {t t' : TO} (h : PO X e t) (k : ∀ σ H Q, t' σ H Q → t σ H Q) : PO X e t' := ⟨fun pins s σ H Q I hw => h.run pins s σ H Q I (k σ H Q hw)⟩

/-- all modes of an expression -/
structure Snd (X : Cx) (pe : Expr) (w : Md → WE) : Prop where
  n : ∀ n, PE X pe (tN (kxOf X) n (w (.t n)))
  f : PE X pe (tX (kxOf X) (rF (kxOf X)) (w .fr))
  t : PT X pe (tTs (kxOf X) (w .tst))
/-- its truth is its value's -/
def PlainT (X : Cx) (pe : Expr) : Prop := ∀ whole, isTrue pe X.env whole = (do let v ← whole; standAt pe.pos; holding [v] (truthy v))

section
variable {X : Cx} {pe : Expr} {w0 : WE}
/-- a value's truth: what the library tells, and dicts -/
def TruZ (K : Kx) (v : V) (H : Hp) (k : Bool) : Prop := TruV K v H k ∨ ∃ a es, v = .ref a ∧ KDk K H a es ∧ k = !es.isEmpty
theorem tru_z : TruR X (fun x H Q => ∃ k, TruZ (kxOf X) x H k ∧ Q k H) := by
  intro pins s σ H x v Q I rx ⟨k, h, q⟩
  rcases h with h | ⟨a, es, e1, e2, e3⟩
  · exact tru_ok pins s σ H x v Q I rx ⟨k, h, q⟩
  · exact tru_do pins s σ H x v Q I rx ⟨a, es, e1, e2, by rw [← e3]; exact q⟩
theorem tru_of {K : Kx} {F H : Hp} (s : Same F H) {n : Nat} : ∀ {d : D} {v : V} {Q : Bool → Prop}, Res K F H n v d → wTr d Q → ∃ k, TruZ K v H k ∧ Q k := by
  intro d v Q r h
  cases d with
  | none => cases r.scal rfl; exact ⟨_, .inl rfl, h⟩
  | bool b => cases r.scal rfl; exact ⟨_, .inl rfl, h⟩
  | int i => cases r.scal rfl; exact ⟨_, .inl rfl, h⟩
  | str x => cases r.scal rfl; exact ⟨_, .inl ⟨h.1, rfl⟩, h.2⟩
  | list ds =>
    have r' : Res K F H (n + 1) v (.list ds) := by
      cases n with
      | zero => exact .inl r
      | succ n =>
        rcases r with r | ⟨a, xs, ds', e1, e2, e3, p⟩ | ⟨a, es, kvs, e1, e2, _⟩
        · exact .inl r
        · refine .inr (.inl ⟨a, xs, ds', e1, e2, e3, ?_⟩)
          have up : ∀ (n : Nat) (v : V) (d : D), Res K F H n v d → Res K F H (n + 1) v d := by
            intro n
            induction n with
            | zero => intro v d h; exact .inl h
            | succ n ih =>
              intro v d h
              rcases h with h | ⟨a, xs, ds, e1, e2, e3, p⟩ | ⟨a, es, kvs, e1, e2, e3, p⟩
              · exact .inl h
              · exact .inr (.inl ⟨a, xs, ds, e1, e2, e3, paired_imp (fun _ _ q => ih _ _ q) p⟩)
              · exact .inr (.inr ⟨a, es, kvs, e1, e2, e3, pdc_imp (Same.refl F) (fun _ _ q => ih _ _ q) p⟩)
          exact paired_imp (fun _ _ q => up _ _ _ q) p
        · cases e2
    obtain ⟨a, xs, rfl, hs, p⟩ := r'.list s
    refine ⟨_, .inl (.inl ⟨_, hs, rfl⟩), ?_⟩
    have hl := paired_len p
    have : xs.isEmpty = ds.isEmpty := by cases xs <;> cases ds <;> first | rfl | cases hl
    rw [this]; exact h
  | tuple ds =>
    cases r.scal rfl with
    | tup hs ha =>
      refine ⟨_, .inl (.inr (.inl ⟨_, sqT_mono s hs, rfl⟩)), ?_⟩
      cases ha <;> exact h
  | dict kvs =>
    have : ∃ a es ks, v = .ref a ∧ H a = some (DO K.P K.w a es) ∧ RpK K F es ks ∧ es.length = kvs.length := by
      cases n with
      | zero =>
        cases r with
        | dic h1 h2 => exact ⟨_, _, _, rfl, s _ _ h1, h2.keys, rpd_len h2⟩
      | succ n =>
        obtain ⟨a, es, e1, e2, e3⟩ := r.dict s
        exact ⟨a, es, _, e1, e2, pdc_keys e3, paired_len e3⟩
    obtain ⟨a, es, ks, rfl, h1, h2, h3⟩ := this
    refine ⟨_, .inr ⟨a, es, rfl, ⟨F, ks, s, h1, h2⟩, rfl⟩, ?_⟩
    have : es.isEmpty = kvs.isEmpty := by cases es <;> cases kvs <;> first | rfl | cases h3
    rw [this]; exact h
theorem pt_tru {pe : Expr} {te : TE} (h : PE X pe te) (hp : PlainT X pe) : PT X pe (fun σ H Z => te σ H fun v H' => ∃ k, TruZ (kxOf X) v H' k ∧ Z k H') := pt_truthR h tru_z hp
/-- a value that never changes -/
theorem mkPure (h : PE X pe (tN (kxOf X) 0 w0)) (hp : PlainT X pe) : Snd X pe (fun md ρ Q => w0 ρ (fin md Q)) := by
  refine ⟨fun n => pe_w h fun σ H Z ⟨F0, H0, F, ρ, Q, r, hw, k⟩ => ⟨F0, H0, F, ρ, Q, r, hw, fun v F' H' d e s q hq => k v F' H' d e s (Res.of q) hq⟩,
    pe_w h fun σ H Z ⟨F0, H0, F, ρ, Q, r, hw, k⟩ => ⟨F0, H0, F, ρ, _, r, hw, fun v F' H' d e s q hq => (show False from hq).elim⟩, ?_⟩
  refine pt_w (pt_tru h hp) fun σ H Z ⟨F0, H0, F, ρ, Q, r, hw, k⟩ => ?_
  refine ⟨F0, H0, F, ρ, _, r, hw, fun v F' H' d e s q hq => ?_⟩
  obtain ⟨b, h1, h2⟩ := tru_of s q hq
  exact ⟨b, h1, k b F' H' e s h2⟩
theorem put_F {F H F' H' : Hp} {a : Addr} {o : HO} (s : Same F' H') (e : Ext F H F' H') (h1 : H a = none) (h2 : F' a = none) (h3 : H' a = some o) : Ext F H (upd F' a o) H' ∧ Same (upd F' a o) H' := by
  refine ⟨⟨fun b o q => ?_, e.h, fun b hb => ?_⟩, fun b o q => ?_⟩
  · have : b ≠ a := ne_of_none (e.f b o q) h2
    rw [upd_ne this]; exact e.f b o q
  · have : b ≠ a := fun z => hb (z ▸ h1)
    rw [upd_ne this]; exact e.new b hb
  · by_cases hb : b = a
    · subst hb; rw [upd_same] at q; rw [← q]; exact h3
    · rw [upd_ne hb] at q; exact s b o q
theorem Fre.freeze {K : Kx} {F H F' H' : Hp} {v : V} {ds : List D} (s : Same F' H') (e : Ext F H F' H') (f : Fre K H F' H' v ds) : ∃ F'', Ext F H F'' H' ∧ Same F'' H' ∧ Rp K F'' v (.list ds) := by
  obtain ⟨a, xs, rfl, h1, h2, h3, h4⟩ := f
  obtain ⟨e', s'⟩ := put_F s e h1 h2 h3
  exact ⟨_, e', s', .lst (SqL.of upd_same) (da_m h4 (same_upd h2))⟩
theorem FreC.freeze {K : Kx} {F H F' H' : Hp} {v : V} {d : D} (s : Same F' H') (e : Ext F H F' H') (f : FreC K H F' H' v d) : ∃ F'', Ext F H F'' H' ∧ Same F'' H' ∧ Rp K F'' v d := by
  rcases f with ⟨ds, rfl, f⟩ | ⟨kvs, rfl, a, es, rfl, h1, h2, h3, h4⟩
  · exact f.freeze s e
  · obtain ⟨e', s'⟩ := put_F s e h1 h2 h3
    exact ⟨_, e', s', .dic upd_same (dd_m h4 (same_upd h2))⟩
theorem finB_pure {md : Md} {Q : D → Prop} {d : D} (h : isCon d = false) : finB md Q d = fin md Q d := by
  cases d <;> first | rfl | cases h
theorem finB_t {n : Nat} {Q : D → Prop} {d : D} (h : finB (.t n) Q d) : Q d := by
  cases d <;> exact h
theorem finB_f {Q : D → Prop} {d : D} (h : finB .fr Q d) : isCon d = true ∧ Q d := by
  cases d <;> first | exact ⟨rfl, h⟩ | exact (show False from h).elim
theorem finB_tst {Q : D → Prop} {d : D} (h : finB .tst Q d) : wTr d fun b => Q (.bool b) := by
  cases d <;> exact h
/-- a value that never changes, or a new list or dict -/
theorem mkDyn (h : PE X pe (tX (kxOf X) (Dyn (kxOf X)) w0)) (hp : PlainT X pe) : Snd X pe (fun md ρ Q => w0 ρ (finB md Q)) := by
  refine ⟨fun n => pe_w h fun σ H Z ⟨F0, H0, F, ρ, Q, r, hw, k⟩ => ⟨F0, H0, F, ρ, _, r, hw, fun v F' H' d e s q hq => ?_⟩,
    pe_w h fun σ H Z ⟨F0, H0, F, ρ, Q, r, hw, k⟩ => ⟨F0, H0, F, ρ, _, r, hw, fun v F' H' d e s q hq => ?_⟩, ?_⟩
  · rcases q with f | ⟨hn, q⟩
    · obtain ⟨F'', e2, s2, q2⟩ := f.freeze s e
      exact k v F'' H' _ e2 s2 (Res.of q2) (finB_t hq)
    · exact k v F' H' d e s (Res.of q) (finB_t hq)
  · obtain ⟨c, hq⟩ := finB_f hq
    rcases q with f | ⟨hn, q⟩
    · exact k v F' H' _ e s f hq
    · rw [hn] at c; cases c
  · refine pt_w (pt_tru h hp) fun σ H Z ⟨F0, H0, F, ρ, Q, r, hw, k⟩ => ?_
    refine ⟨F0, H0, F, ρ, _, r, hw, fun v F' H' d e s q hq => ?_⟩
    have hq := finB_tst hq
    rcases q with f | ⟨hn, q⟩
    · obtain ⟨F'', e2, s2, q2⟩ := f.freeze s e
      obtain ⟨b, h1, h2⟩ := tru_of (n := 0) (Q := fun b => Q (.bool b)) s2 q2 hq
      exact ⟨b, h1, k b F'' H' e2 s2 h2⟩
    · obtain ⟨b, h1, h2⟩ := tru_of (n := 0) s q hq
      exact ⟨b, h1, k b F' H' e s h2⟩
/-- a new list -/
theorem mkList {wl : Env → (List D → Prop) → Prop} (h : PE X pe (tX (kxOf X) (rF (kxOf X)) (fun ρ Q => wl ρ fun ds => Q (.list ds)))) (hp : PlainT X pe) : Snd X pe (fun md ρ Q => wl ρ (finL md Q)) := by
  have h2 : PE X pe (tX (kxOf X) (Dyn (kxOf X)) (fun ρ Q => wl ρ fun ds => Q (.list ds))) := pe_w h fun σ H Z ⟨F0, H0, F, ρ, Q, r, hw, k⟩ => ⟨F0, H0, F, ρ, Q, r, hw, fun v F' H' d e s q hq => k v F' H' d e s (.inl q) hq⟩
  have m := mkDyn h2 hp
  exact ⟨fun n => m.n n, m.f, m.t⟩
theorem mkDict {wl : Env → (List (D × D) → Prop) → Prop} (h : PE X pe (tX (kxOf X) (rF (kxOf X)) (fun ρ Q => wl ρ fun ds => Q (.dict ds)))) (hp : PlainT X pe) : Snd X pe (fun md ρ Q => wl ρ (finD md Q)) := by
  have h2 : PE X pe (tX (kxOf X) (Dyn (kxOf X)) (fun ρ Q => wl ρ fun ds => Q (.dict ds))) := pe_w h fun σ H Z ⟨F0, H0, F, ρ, Q, r, hw, k⟩ => ⟨F0, H0, F, ρ, Q, r, hw, fun v F' H' d e s q hq => k v F' H' d e s (.inl q) hq⟩
  have m := mkDyn h2 hp
  exact ⟨fun n => m.n n, m.f, m.t⟩
/-- two things one after another -/
theorem two {K : Kx} {n m : Nat} {wa wb : WE} {F0 H0 F : Hp} {ρ : Env} {σ : Sg} {H : Hp} {Z : V → V → Hp → Prop} {Q : D → D → Prop} (r : R K F0 H0 F ρ σ H) (hw : wa ρ fun x => wb ρ fun y => Q x y)
    (k : ∀ v1 v2 d1 d2 F' H', Ext F H F' H' → Same F' H' → Res K F' H' n v1 d1 → Res K F' H' m v2 d2 → Q d1 d2 → Z v1 v2 H') :
    (tN K n wa) σ H fun x H1 => (tN K m wb) σ H1 fun y H2 => Z x y H2 := by
  refine ⟨F0, H0, F, ρ, _, r, hw, fun v1 F1 H1 d1 e1 s1 q1 hw1 => ⟨F0, H0, F1, ρ, _, r.go e1 s1, hw1, fun v2 F2 H2 d2 e2 s2 q2 hw2 => ?_⟩⟩
  exact k v1 v2 d1 d2 F2 H2 (e1.trans e2) s2 (q1.mono e2.f e2.h) q2 hw2
end

/-! ### list + list, list * int -/
section
open PySem.AutoListH
open AutoSeq1 (wpAny_loadPart')
theorem mulW (l : Addr) (items : Array Value) (n : Nat) (dd : Option Addr) (sl : Array (Option Value)) (x : Int) (u : Tok) (hc0 : ¬(!Builtin.List.listFitsIndex x) = true) (hc1 : ¬items.size * x.toNat > (2 ^ 63 - 1) / 8)
    (hc2 : ¬Builtin.List.listTooLong (items.size * x.toNat) = true) :
    Meets (Builtin.«list.__mul__» ⟨[.ref l, .int x u], []⟩) (fun _ R s => s.heap.get? l = some { cls := .type "list", dict := dd, data := .seq items n, slots := sl } ∧
      R (.ok (.ret (.ref s.heap.objs.size))) { s with heap := s.heap.push { cls := .type "list", data := .seq (List.foldl (fun x1 x2 => x1 ++ x2) #[] (List.replicate (if items.isEmpty = true then 0 else x.toNat) items)) }, toks := s.toks }) :=
  .of_wp fun prog w A R s h => by
    obtain ⟨hp, g, d, tk, os⟩ := s
    obtain ⟨hl, h⟩ := h
    have hsz := joined_fits hc2
    wp_walk using wpAny_loadPart' hl
    refine wpAny_ite_false (decide_eq_false (Nat.not_lt.mpr hsz)) ?_
    wp_walk using wpAny_loadPart' hl
    exact ⟨_, rfl, h⟩
theorem rmulW (a : Int) (t : Tok) (l : Addr) (items : Array Value) (n : Nat) (dd : Option Addr) (sl : Array (Option Value)) :
    Meets (Builtin.«int.__rmul__» ⟨[.int a t, .ref l], []⟩) (fun _ R s => s.heap.get? l = some { cls := .type "list", dict := dd, data := .seq items n, slots := sl } ∧ R (.ok (.ret .notImplemented)) s) :=
  .of_wp fun prog w A R s h => by
    obtain ⟨hp, g, d, tk, os⟩ := s
    obtain ⟨hl, h⟩ := h
    wp_walk using wpAny_loadPart' hl
    exact ⟨_, rfl, h⟩
end
section
variable {X : Cx} {pins : List (Addr × Obj)} {σ : Sg} {H : Hp} {s : Shared} {l : Addr} {xs : List V}
/-- its object -/
theorem objL (I : Inv X pins σ H s) (hH : SqL (kxOf X) H l xs) : xs.length ≤ sizeLine ∧ ∃ (its : List Value) (n : Nat) (sl : Array (Option Value)), Vals xs its ∧ xs.length = its.length ∧ s.heap.get? l = some ⟨.type "list", none, .seq its.toArray n, sl⟩ := by
  obtain ⟨its, rv, ⟨⟨c, dd, da, sl⟩, n, ho, hc, hd, hdt⟩, hz⟩ := I.list hH
  cases hc; cases hd; cases hdt
  exact ⟨hz, its, n, sl, rv, rv.length, ho⟩
def rCatR (K : Kx) : R2 := fun x y H Q => ∃ a b xs zs, x = .ref a ∧ y = .ref b ∧ SqL K H a xs ∧ SqL K H b zs ∧ xs.length + zs.length ≤ sizeLine ∧ ∀ p, H p = none → Q (.ref p) (upd H p (.lst (xs ++ zs)))
theorem op_catR : OpR X (binaryOp .Add) (rCatR (kxOf X)) := by
  intro pins s σ H x y v u Q I rx ry ⟨a, b, xs, zs, ex, ey, ha, hb, hz, q⟩
  subst ex ey
  cases rx; cases ry
  obtain ⟨_, its, n, sl, r, hl, e⟩ := objL I ha
  obtain ⟨_, its2, n2, sl2, r2, hl2, e2⟩ := objL I hb
  have hsz : its.toArray.size + its2.toArray.size ≤ sizeLine := by rw [List.size_toArray, List.size_toArray, ← hl, ← hl2]; exact hz
  have ea : its.toArray ++ its2.toArray = (its ++ its2).toArray := by simp
  refine concat_meets ⟨_, e, rfl⟩ ⟨_, e2, rfl⟩ noFill_list_add seq_list_add F.slot_list_add F.entry_list_add (F.args_list_add_2 _ _) (PyProof.Rows.list_addW a b its.toArray its2.toArray n n2 none none sl sl2 hsz) ⟨e, e2, ?_⟩
  rw [ea]
  refine ⟨.ref _, _, I.lnew (t' := s.toks) (r.append r2) ?_, rfl, q _ I.fresh⟩
  rw [List.length_append]; exact hz
theorem rep_flat (its : List Value) (k : Nat) : List.foldl (fun x1 x2 => x1 ++ x2) #[] (List.replicate (if its.toArray.isEmpty = true then 0 else k) its.toArray) = (List.replicate k its).flatten.toArray := by
  have f0 : ∀ m : Nat, List.foldl (fun x1 x2 => x1 ++ x2) #[] (List.replicate m its.toArray) = (List.replicate m its).flatten.toArray := fun m => by
    have q := foldl_rep its m []
    rw [List.nil_append] at q; exact q
  rw [f0]
  cases its with
  | nil => simp
  | cons a r => rw [if_neg (by simp)]
def rRepR (K : Kx) : R2 := fun x y H Q => ∃ a k xs, x = .ref a ∧ y = .int k ∧ SqL K H a xs ∧ (-(2 ^ 63) ≤ k ∧ k < 2 ^ 63 ∧ xs.length * k.toNat ≤ sizeLine) ∧ ∀ p, H p = none → Q (.ref p) (upd H p (.lst (List.replicate k.toNat xs).flatten))
theorem op_repR : OpR X (binaryOp .Mult) (rRepR (kxOf X)) := by
  intro pins s σ H x y v u Q I rx ry ⟨a, k, xs, ex, ey, ha, ⟨h1, h2, hz⟩, q⟩
  subst ex ey
  cases rx
  obtain ⟨t, rfl⟩ := ry
  obtain ⟨_, its, n, sl, r, hl, e⟩ := objL I ha
  have hlen : its.toArray.size * k.toNat ≤ sizeLine := by rw [List.size_toArray, ← hl]; exact hz
  have c0 : ¬ (!Builtin.List.listFitsIndex k) = true := by rw [fitsIndex_both h1 h2]; exact Bool.false_ne_true
  have c1 : ¬ its.toArray.size * k.toNat > (2 ^ 63 - 1) / 8 := by
    have q : (sizeLine : Nat) ≤ (2 ^ 63 - 1) / 8 := by decide
    omega
  have c2 : ¬ Builtin.List.listTooLong (its.toArray.size * k.toNat) = true := by rw [notLongL hlen]; exact Bool.false_ne_true
  have m1 := rmulW k t a its.toArray n none sl
  have m2 := mulW a its.toArray n none sl k t c0 c1 c2
  refine wpAny_binaryOp_repeat_ref (T := "list") (U := "int") (by decide) ⟨_, e, rfl⟩ (fun z => typeIs_int z k t) noFill_list_mul F.fills_int_mul F.slot_int_rmul repeat_list F.slot_int_index.lookup
    (call_meets F.slot_int_rmul (typeIs_int s k t) F.entry_int_rmul (F.args_int_rmul_2 _ _) m1 ⟨e, rfl, ⟨_, e, rfl⟩, call_meets F.slot_list_mul ⟨_, e, rfl⟩ F.entry_list_mul (F.args_list_mul_2 _ _) m2 ⟨e, ?_⟩⟩)
  rw [rep_flat]
  refine ⟨.ref _, _, I.lnew (t' := s.toks) (r.rep k.toNat) ?_, rfl, q _ I.fresh⟩
  rw [PyProof.Rows.lm_len_rep_flat, Nat.mul_comm]; exact hz
theorem op_mulM : OpR X (binaryOp .Mult) (rI IntMulOk fun i j => .int (i * j)) := opI fun _ _ _ _ _ _ _ hc q => mul_int q hc
end
end PD

set_option maxHeartbeats 1000000
namespace PD
open PySem PySem.Spec PyProof.Rows L2

section
variable {K : Kx} {F H F' H' : Hp} {v : V}
theorem sc_int {n : Nat} {i : Int} (h : Res K F H n v (.int i)) : v = .int i := by
  have := h.scal rfl
  cases this; rfl
theorem sc_str {n : Nat} {i : Str} (h : Res K F H n v (.str i)) : v = .str i := by
  have := h.scal rfl
  cases this; rfl
theorem sc_bl {n : Nat} {i : Bool} (h : Res K F H n v (.bool i)) : v = .bl i := by
  have := h.scal rfl
  cases this; rfl
theorem sc_non {n : Nat} (h : Res K F H n v .none) : v = .non := by
  have := h.scal rfl
  cases this; rfl
theorem sc_tup {n : Nat} {ds : List D} (h : Res K F H n v (.tuple ds)) : ∃ a xs, v = .ref a ∧ SqT K F a xs ∧ RpAll K F xs ds := by
  have := h.scal rfl
  cases this with
  | tup h1 h2 => exact ⟨_, _, rfl, h1, h2⟩

/-- a result by scalars -/
theorem dy_sc {d : D} (s : Same F H) (q : Rp K F v d) (hn : isCon d = false) : ∃ F', Ext F H F' H ∧ Same F' H ∧ Dyn K H F' H v d := ⟨F, Ext.refl F H, s, .inr ⟨hn, q⟩⟩
theorem dy_lst {p : Addr} {xs : List V} {ds : List D} (s : Same F H) (hp : H p = none) (q : RpAll K F xs ds) : Ext F H F (upd H p (.lst xs)) ∧ Same F (upd H p (.lst xs)) ∧ Fre K H F (upd H p (.lst xs)) (.ref p) ds :=
  ⟨Ext.mkO hp, same_upd2 s (s.free hp), p, xs, rfl, hp, s.free hp, upd_same, q⟩
theorem dy_tup {p : Addr} {xs : List V} {ds : List D} (s : Same F H) (hp : H p = none) (q : RpAll K F xs ds) : Ext F H (upd F p (.tup xs)) (upd H p (.tup xs)) ∧ Same (upd F p (.tup xs)) (upd H p (.tup xs)) ∧ Rp K (upd F p (.tup xs)) (.ref p) (.tuple ds) :=
  ⟨Ext.lay s hp, same_both s, .tup (SqT.of upd_same) (da_m q (same_upd (s.free hp)))⟩
end

/-- what a two-place operation needs -/
def Op2 (K : Kx) (r : R2) (n m : Nat) (w : D → D → (D → Prop) → Prop) : Prop :=
  ∀ F H v1 v2 d1 d2 Q, Same F H → Res K F H n v1 d1 → Res K F H m v2 d2 → w d1 d2 Q → ∀ Z : VK, (∀ v F' H' d, Ext F H F' H' → Same F' H' → Dyn K H F' H' v d → Q d → Z v H') → r v1 v2 H Z

def rNone : R2 := fun _ _ _ _ => False
theorem op_any {X : Cx} {f : Value → Value → Sem Value} : OpR X f rNone := fun _ _ _ _ _ _ _ _ _ _ _ _ h => h.elim
def rAddA (K : Kx) : R2 := fun x y H Q => (rI0 (fun i j => .int (i + j)) x y H Q ∨ (∃ i j, x = .str i ∧ y = .str j ∧ i.length + j.length ≤ sizeLine ∧ Q (.str (i ++ j)) H)) ∨ (rCatR K x y H Q ∨ rCatA K x y H Q)
theorem op_addA {X : Cx} : OpR X (binaryOp .Add) (rAddA (kxOf X)) := (op_add.or op_add_str).or (op_catR.or op_catA)
theorem add_ok {K : Kx} : Op2 K (rAddA K) 1 1 (wBin .Add) := by
  intro F H v1 v2 d1 d2 Q s r1 r2 hw Z k
  match d1, d2, hw with
  | .int i, .int j, hw =>
    obtain rfl := sc_int r1
    obtain rfl := sc_int r2
    exact .inl (.inl ⟨i, j, rfl, rfl, k _ F H _ (Ext.refl F H) s (.inr ⟨rfl, Rp.int _⟩) hw⟩)
  | .str i, .str j, ⟨hz, hw⟩ =>
    obtain rfl := sc_str r1
    obtain rfl := sc_str r2
    exact .inl (.inr ⟨i, j, rfl, rfl, hz, k _ F H _ (Ext.refl F H) s (.inr ⟨rfl, Rp.str _⟩) hw⟩)
  | .list a, .list b, ⟨hz, hw⟩ =>
    obtain ⟨a1, xs, rfl, h1, p1⟩ := r1.list s
    obtain ⟨a2, ys, rfl, h2, p2⟩ := r2.list s
    refine .inr (.inl ⟨a1, a2, xs, ys, rfl, rfl, h1, h2, by rw [paired_len p1, paired_len p2]; exact hz, fun p hp => ?_⟩)
    obtain ⟨e, s', f⟩ := dy_lst (xs := xs ++ ys) (ds := a ++ b) s hp (da_app (ra_of p1) (ra_of p2))
    exact k _ F _ _ e s' (.inl (.inl ⟨_, rfl, f⟩)) hw
  | .tuple a, .tuple b, ⟨hz, hw⟩ =>
    obtain ⟨a1, xs, rfl, h1, p1⟩ := sc_tup r1
    obtain ⟨a2, ys, rfl, h2, p2⟩ := sc_tup r2
    refine .inr (.inr ⟨a1, a2, xs, ys, rfl, rfl, sqT_mono s h1, sqT_mono s h2, by rw [da_len p1, da_len p2]; exact hz, fun e => ?_, fun _ e => ?_, fun _ _ p hp => ?_⟩)
    · subst e
      cases p1
      exact k _ F H _ (Ext.refl F H) s (.inr ⟨rfl, Rp.tup h2 p2⟩) hw
    · subst e
      cases p2
      rw [List.append_nil] at hw
      exact k _ F H _ (Ext.refl F H) s (.inr ⟨rfl, Rp.tup h1 p1⟩) hw
    · obtain ⟨e, s', f⟩ := dy_tup (xs := xs ++ ys) (ds := a ++ b) s hp (da_app p1 p2)
      exact k _ _ _ _ e s' (.inr ⟨rfl, f⟩) hw
theorem int_ok {K : Kx} {op : Operator} {C : Int → Int → Prop} {g : Int → Int → Int} (hw : ∀ d1 d2 Q, wBin op d1 d2 Q → ∃ i j, d1 = .int i ∧ d2 = .int j ∧ C i j ∧ Q (.int (g i j))) : Op2 K (rI C fun i j => .int (g i j)) 1 1 (wBin op) := by
  intro F H v1 v2 d1 d2 Q s r1 r2 h Z k
  obtain ⟨i, j, rfl, rfl, hc, hq⟩ := hw d1 d2 Q h
  obtain rfl := sc_int r1
  obtain rfl := sc_int r2
  exact ⟨i, j, rfl, rfl, hc, k _ F H _ (Ext.refl F H) s (.inr ⟨rfl, Rp.int _⟩) hq⟩
def rMulA (K : Kx) : R2 := fun x y H Q => (rI IntMulOk (fun i j => .int (i * j)) x y H Q ∨ rRepR K x y H Q) ∨ rRepA K x y H Q
theorem mul_ok {K : Kx} : Op2 K (rMulA K) 1 1 (wBin .Mult) := by
  intro F H v1 v2 d1 d2 Q s r1 r2 hw Z k
  match d1, d2, hw with
  | .int i, .int j, ⟨hc, hw⟩ =>
    obtain rfl := sc_int r1
    obtain rfl := sc_int r2
    exact .inl (.inl ⟨i, j, rfl, rfl, hc, k _ F H _ (Ext.refl F H) s (.inr ⟨rfl, Rp.int _⟩) hw⟩)
  | .tuple a, .int j, ⟨⟨h1, h2, h3⟩, hw⟩ =>
    obtain ⟨a1, xs, rfl, hr, p1⟩ := sc_tup r1
    obtain rfl := sc_int r2
    refine .inr ⟨a1, j, xs, rfl, rfl, sqT_mono s hr, h1, h2, by rw [da_len p1]; exact h3, fun e => ?_, fun _ _ p hp => ?_⟩
    · have e2 : (List.replicate j.toNat a).flatten = a := by
        rcases e with e | e
        · subst e
          cases p1
          rw [List.flatten_eq_nil_iff]
          intro l hl
          exact List.eq_of_mem_replicate hl
        · subst e
          show (List.replicate 1 a).flatten = a
          simp
      rw [e2] at hw
      exact k _ F H _ (Ext.refl F H) s (.inr ⟨rfl, Rp.tup hr p1⟩) hw
    · obtain ⟨e, s', f⟩ := dy_tup (xs := (List.replicate j.toNat xs).flatten) (ds := (List.replicate j.toNat a).flatten) s hp (da_rep p1 j.toNat)
      exact k _ _ _ _ e s' (.inr ⟨rfl, f⟩) hw
  | .list a, .int j, ⟨⟨h1, h2, h3⟩, hw⟩ =>
    obtain ⟨a1, xs, rfl, hr, p1⟩ := r1.list s
    obtain rfl := sc_int r2
    refine .inl (.inr ⟨a1, j, xs, rfl, rfl, hr, ⟨h1, h2, by rw [paired_len p1]; exact h3⟩, fun p hp => ?_⟩)
    obtain ⟨e, s', f⟩ := dy_lst (xs := (List.replicate j.toNat xs).flatten) (ds := (List.replicate j.toNat a).flatten) s hp (da_rep (ra_of p1) j.toNat)
    exact k _ F _ _ e s' (.inl (.inl ⟨_, rfl, f⟩)) hw
/-- every operator -/
theorem bin_ok (X : Cx) (op : Operator) : ∃ r, OpR X (binaryOp op) r ∧ Op2 (kxOf X) r 1 1 (wBin op) := by
  have none_ok : (∀ d1 d2 Q, ¬ wBin op d1 d2 Q) → ∃ r, OpR X (binaryOp op) r ∧ Op2 (kxOf X) r 1 1 (wBin op) := fun h => ⟨rNone, op_any, fun F H v1 v2 d1 d2 Q s r1 r2 hw => (h _ _ _ hw).elim⟩
  cases op with
  | Add => exact ⟨_, op_addA, add_ok⟩
  | Sub => exact ⟨rI (fun _ _ => True) _, (opI fun _ _ _ _ _ _ _ _ q => sub_int q), int_ok fun d1 d2 Q h => by
      match d1, d2, h with
      | .int i, .int j, h => exact ⟨i, j, rfl, rfl, trivial, h⟩⟩
  | Mult => exact ⟨_, (op_mulM.or op_repR).or op_repA, mul_ok⟩
  | FloorDiv => exact ⟨_, op_fdivW, int_ok fun d1 d2 Q h => by
      match d1, d2, h with
      | .int i, .int j, h => exact ⟨i, j, rfl, rfl, h.1, h.2⟩⟩
  | Mod => exact ⟨_, op_mod, int_ok fun d1 d2 Q h => by
      match d1, d2, h with
      | .int i, .int j, h => exact ⟨i, j, rfl, rfl, h.1, h.2⟩⟩
  | Pow => exact ⟨_, op_pow, int_ok fun d1 d2 Q h => by
      match d1, d2, h with
      | .int i, .int j, h => exact ⟨i, j, rfl, rfl, h.1, h.2⟩⟩
  | LShift => exact ⟨_, op_shlW, int_ok fun d1 d2 Q h => by
      match d1, d2, h with
      | .int i, .int j, h => exact ⟨i, j, rfl, rfl, h.1, h.2⟩⟩
  | RShift => exact ⟨_, op_shr, int_ok fun d1 d2 Q h => by
      match d1, d2, h with
      | .int i, .int j, h => exact ⟨i, j, rfl, rfl, h.1, h.2⟩⟩
  | BitAnd => exact ⟨rI (fun _ _ => True) _, (opI fun _ _ _ _ _ _ _ _ q => and_int q), int_ok fun d1 d2 Q h => by
      match d1, d2, h with
      | .int i, .int j, h => exact ⟨i, j, rfl, rfl, trivial, h⟩⟩
  | BitOr => exact ⟨rI (fun _ _ => True) _, (opI fun _ _ _ _ _ _ _ _ q => or_int q), int_ok fun d1 d2 Q h => by
      match d1, d2, h with
      | .int i, .int j, h => exact ⟨i, j, rfl, rfl, trivial, h⟩⟩
  | BitXor => exact ⟨rI (fun _ _ => True) _, (opI fun _ _ _ _ _ _ _ _ q => xor_int q), int_ok fun d1 d2 Q h => by
      match d1, d2, h with
      | .int i, .int j, h => exact ⟨i, j, rfl, rfl, trivial, h⟩⟩
  | _ => exact none_ok fun d1 d2 Q h => by cases d1 <;> cases d2 <;> exact h

/-! ### comparisons -/
def Cm2 (K : Kx) (r : R2) (w : D → D → (Bool → Prop) → Prop) : Prop :=
  ∀ F H v1 v2 d1 d2 Q, Same F H → Res K F H 2 v1 d1 → Res K F H 2 v2 d2 → w d1 d2 Q → ∀ Z : VK, (∀ b, Q b → Z (.bl b) H) → r v1 v2 H Z
theorem scal_of {K : Kx} {F H : Hp} {n m : Nat} {v1 v2 : V} {d1 d2 : D} (r1 : Res K F H n v1 d1) (r2 : Res K F H m v2 d2) (h : scalD d1 d2 = true) : scal v1 v2 = true ∧ decide (v1 = v2) = eqS d1 d2 := by
  cases d1 <;> cases d2 <;> first
    | exact absurd (show false = true from h) Bool.false_ne_true
    | (first | obtain rfl := sc_int r1 | obtain rfl := sc_str r1 | obtain rfl := sc_bl r1 | obtain rfl := sc_non r1
       first | obtain rfl := sc_int r2 | obtain rfl := sc_str r2 | obtain rfl := sc_bl r2 | obtain rfl := sc_non r2
       simp [scal, eqS])
/-- == and != of data without dicts -/
def rEqP (K : Kx) (neg : Bool) : R2 := fun x y H Q => ∃ d e, Dp K H x d ∧ Dp K H y e ∧ shp d = true ∧ shp e = true ∧ Q (.bl (if neg then !PyData.eqv d e else PyData.eqv d e)) H
theorem shp_p {d : D} (h : shp d = true) : d.plain = true := (Bool.and_eq_true_iff.mp h).1
theorem shp_d {d : D} (h : shp d = true) : d.depth ≤ 60 := of_decide_eq_true (Bool.and_eq_true_iff.mp h).2
theorem op_eqP {X : Cx} (hu : X.A.units + 64 < cLine) : OpR X (compareOp .Eq) (rEqP (kxOf X) false) := by
  intro pins s σ H x y v u Q I rx ry ⟨d, e, hd, he, sd, se, q⟩
  obtain ⟨as, r1⟩ := Dp.reads I d x v hd rx
  obtain ⟨bs, r2⟩ := Dp.reads I e y u he ry
  have := shp_d sd
  exact SeqAt.eq_plain r1 r2 (shp_p sd) (shp_p se) (by have := Nat.min_le_left d.depth e.depth; omega) ⟨.bl _, H, I, rfl, q⟩
theorem op_neP {X : Cx} (hu : X.A.units + 64 < cLine) : OpR X (compareOp .NotEq) (rEqP (kxOf X) true) := by
  intro pins s σ H x y v u Q I rx ry ⟨d, e, hd, he, sd, se, q⟩
  obtain ⟨as, r1⟩ := Dp.reads I d x v hd rx
  obtain ⟨bs, r2⟩ := Dp.reads I e y u he ry
  have := shp_d sd
  exact SeqAt.ne_plain r1 r2 (shp_p sd) (shp_p se) (by have := Nat.min_le_left d.depth e.depth; omega) ⟨.bl _, H, I, rfl, q⟩
/-- < of alike data -/
def rLtP (K : Kx) : R2 := fun x y H Q => ∃ d e, Dp K H x d ∧ Dp K H y e ∧ PySem.W.alike d e = true ∧ d ≠ .none ∧ d.depth ≤ 60 ∧ Q (.bl (PySem.W.dataLt d e)) H
theorem op_ltP {X : Cx} (hu : X.A.units + 64 < cLine) : OpR X (compareOp .Lt) (rLtP (kxOf X)) := by
  intro pins s σ H x y v u Q I rx ry ⟨d, e, hd, he, al, nn, dp, q⟩
  obtain ⟨as, r1⟩ := Dp.reads I d x v hd rx
  obtain ⟨bs, r2⟩ := Dp.reads I e y u he ry
  exact PySem.W.rcLt_alike d e X.A s v u as bs r1 r2 al nn (by have := Nat.min_le_left d.depth e.depth; omega) X.prog X.w _ _ ⟨.bl _, H, I, rfl, q⟩
def rEqA (K : Kx) : R2 := fun x y H Q => rEq x y H Q ∨ rEqP K false x y H Q
def rNeA (K : Kx) : R2 := fun x y H Q => rNe x y H Q ∨ rEqP K true x y H Q
theorem eq_ok {K : Kx} : Cm2 K (rEqA K) (wCmp .Eq) := by
  intro F H v1 v2 d1 d2 Q s r1 r2 hw Z k
  have hw : wEq d1 d2 Q := hw
  unfold wEq at hw
  by_cases h : scalD d1 d2 = true
  · rw [if_pos h] at hw
    obtain ⟨h1, h2⟩ := scal_of r1 r2 h
    exact .inl ⟨h1, by rw [h2]; exact k _ hw⟩
  · rw [if_neg h] at hw
    exact .inr ⟨d1, d2, r1.dp s (shp_p hw.1), r2.dp s (shp_p hw.2.1), hw.1, hw.2.1, k _ hw.2.2⟩
theorem ne_ok {K : Kx} : Cm2 K (rNeA K) (wCmp .NotEq) := by
  intro F H v1 v2 d1 d2 Q s r1 r2 hw Z k
  have hw : wEq d1 d2 (fun b => Q (!b)) := hw
  unfold wEq at hw
  by_cases h : scalD d1 d2 = true
  · rw [if_pos h] at hw
    obtain ⟨h1, h2⟩ := scal_of r1 r2 h
    exact .inl ⟨h1, by rw [h2]; exact k _ hw⟩
  · rw [if_neg h] at hw
    exact .inr ⟨d1, d2, r1.dp s (shp_p hw.1), r2.dp s (shp_p hw.2.1), hw.1, hw.2.1, k _ hw.2.2⟩
theorem lt_ok {K : Kx} : Cm2 K (fun x y H Q => rI0 (fun i j => .bl (decide (i < j))) x y H Q ∨ rLtP K x y H Q) (wCmp .Lt) := by
  intro F H v1 v2 d1 d2 Q s r1 r2 hw Z k
  rcases wLt_or (show wLt d1 d2 Q from hw) with ⟨i, j, rfl, rfl, hq⟩ | ⟨⟨al, p1, p2, nn, dp⟩, hq⟩
  · obtain rfl := sc_int r1
    obtain rfl := sc_int r2
    exact .inl ⟨i, j, rfl, rfl, k _ hq⟩
  · exact .inr ⟨d1, d2, r1.dp s p1, r2.dp s p2, al, nn, dp, k _ hq⟩
theorem ord_ok {K : Kx} {op : CmpOp} {g : Int → Int → Bool} (hw : ∀ d1 d2 Q, wCmp op d1 d2 Q → ∃ i j, d1 = .int i ∧ d2 = .int j ∧ Q (g i j)) : Cm2 K (rI0 fun i j => .bl (g i j)) (wCmp op) := by
  intro F H v1 v2 d1 d2 Q s r1 r2 h Z k
  obtain ⟨i, j, rfl, rfl, hq⟩ := hw d1 d2 Q h
  obtain rfl := sc_int r1
  obtain rfl := sc_int r2
  exact ⟨i, j, rfl, rfl, k _ hq⟩
theorem flat_of {K : Kx} {F H : Hp} {n : Nat} {v : V} {d : D} (r : Res K F H n v d) (h : flatD d = true) : flatV v = true := by
  cases d <;> first
    | exact absurd (show false = true from h) Bool.false_ne_true
    | (first | obtain rfl := sc_int r | obtain rfl := sc_str r | obtain rfl := sc_bl r | obtain rfl := sc_non r
       rfl)
theorem eqV_of {K : Kx} {F H : Hp} {n m : Nat} {v1 v2 : V} {d1 d2 : D} (r1 : Res K F H n v1 d1) (r2 : Res K F H m v2 d2) (h1 : flatD d1 = true) (h2 : flatD d2 = true) : eqV v1 v2 = PyData.eqv d1 d2 := by
  cases d1 <;> cases d2 <;> first
    | exact absurd (show false = true from h1) Bool.false_ne_true
    | exact absurd (show false = true from h2) Bool.false_ne_true
    | (first | obtain rfl := sc_int r1 | obtain rfl := sc_str r1 | obtain rfl := sc_bl r1 | obtain rfl := sc_non r1
       first | obtain rfl := sc_int r2 | obtain rfl := sc_str r2 | obtain rfl := sc_bl r2 | obtain rfl := sc_non r2
       simp [eqV, PyData.eqv])
theorem inV_of {K : Kx} {F H : Hp} {n m : Nat} {v : V} {d : D} (r : Res K F H n v d) (h : flatD d = true) : ∀ {xs : List V} {ds : List D}, Paired (Res K F H m) xs ds → ds.all flatD = true → xs.all flatV = true ∧ inV v xs = ds.any fun z => PyData.eqv z d
  | _, _, .nil, _ => ⟨rfl, rfl⟩
  | _, _, .cons (a := x) (b := e) p t, hd => by
    rw [List.all_cons, Bool.and_eq_true] at hd
    obtain ⟨i1, i2⟩ := inV_of r h t hd.2
    refine ⟨by rw [List.all_cons, flat_of p hd.1, i1]; rfl, ?_⟩
    unfold inV at i2 ⊢
    rw [List.any_cons, List.any_cons, i2, eqV_of p r hd.1 h]
/-- x in xs, of a list or tuple that reads as data -/
def rInP (K : Kx) (neg : Bool) : R2 := fun x y H Q => ∃ d c ds, (c = .list ds ∨ c = .tuple ds) ∧ Dp K H x d ∧ Dp K H y c ∧ shp d = true ∧ PyData.plainAll ds = true ∧ Q (.bl (if neg then !(ds.any fun z => PyData.eqv z d) else ds.any fun z => PyData.eqv z d)) H
theorem op_inP {X : Cx} (hu : X.A.units + 65 < cLine) : OpR X (compareOp .In) (rInP (kxOf X) false) := by
  intro pins s σ H x y v u Q I rx ry ⟨d, c, ds, hc, hd, he, sd, pa, q⟩
  obtain ⟨as, r1⟩ := Dp.reads I d x v hd rx
  obtain ⟨bs, r2⟩ := Dp.reads I c y u he ry
  have h1 := shp_d sd
  have h2 := Nat.min_le_right (PyData.depthAll ds) d.depth
  rcases hc with rfl | rfl
  · exact SeqAt.in_list_data r2 r1 pa (shp_p sd) (by omega) ⟨.bl _, H, I, rfl, q⟩
  · exact SeqAt.in_tuple_data r2 r1 pa (shp_p sd) (by omega) ⟨.bl _, H, I, rfl, q⟩
theorem op_ninP {X : Cx} (hu : X.A.units + 65 < cLine) : OpR X (compareOp .NotIn) (rInP (kxOf X) true) := by
  intro pins s σ H x y v u Q I rx ry ⟨d, c, ds, hc, hd, he, sd, pa, q⟩
  obtain ⟨as, r1⟩ := Dp.reads I d x v hd rx
  obtain ⟨bs, r2⟩ := Dp.reads I c y u he ry
  have h1 := shp_d sd
  have h2 := Nat.min_le_right (PyData.depthAll ds) d.depth
  rcases hc with rfl | rfl
  · exact SeqAt.notIn_list_data r2 r1 pa (shp_p sd) (by omega) ⟨.bl _, H, I, rfl, q⟩
  · exact SeqAt.notIn_tuple_data r2 r1 pa (shp_p sd) (by omega) ⟨.bl _, H, I, rfl, q⟩
def rInA (K : Kx) : R2 := fun x y H Q => ((∃ (c : Nat) (z : Str), x = .str ⟨#[c]⟩ ∧ y = .str z ∧ Q (.bl (decide (c ∈ z.cps.toList))) H) ∨ (∃ i j, x = .str i ∧ y = .str j ∧ Q (.bl (!(Builtin.Str.occurrences j i 0 j.length 1).isEmpty)) H)) ∨ (rInDo K x y H Q ∨ rInP K false x y H Q)
def rNotInA (K : Kx) : R2 := fun x y H Q => ((∃ (c : Nat) (z : Str), x = .str ⟨#[c]⟩ ∧ y = .str z ∧ Q (.bl (!decide (c ∈ z.cps.toList))) H) ∨ (∃ i j, x = .str i ∧ y = .str j ∧ Q (.bl (!(!(Builtin.Str.occurrences j i 0 j.length 1).isEmpty))) H)) ∨ (rNotInDo K x y H Q ∨ rInP K true x y H Q)
theorem keyD_nk {d : D} (h : keyD d = true) : ∃ n, nkD d = some n := by
  unfold keyD at h
  cases e : nkD d with
  | none => rw [e] at h; cases h
  | some n => exact ⟨n, rfl⟩
theorem keyD_con {d : D} (h : keyD d = true) : isCon d = false := by
  obtain ⟨n, hn⟩ := keyD_nk h
  cases d <;> first | rfl | (unfold nkD at hn; cases hn)
theorem isStr1_some {s : Str} {c : Nat} (h : isStr1 s = some c) : s = ⟨#[c]⟩ := by
  unfold isStr1 at h
  split at h
  · cases h; rfl
  · cases h
theorem in_ok {K : Kx} {neg : Bool} : ∀ (F H : Hp) (v1 v2 : V) (d1 d2 : D) (Q : Bool → Prop), Same F H → Res K F H 2 v1 d1 → Res K F H 2 v2 d2 → wIn d1 d2 (fun b => Q (if neg then !b else b)) → ∀ Z : VK, (∀ b, Q b → Z (.bl b) H) → (if neg then rNotInA K else rInA K) v1 v2 H Z := by
  intro F H v1 v2 d1 d2 Q s r1 r2 hw Z k
  unfold wIn at hw
  cases d2 with
  | str z =>
    obtain rfl := sc_str r2
    cases d1 with
    | str t =>
      obtain rfl := sc_str r1
      dsimp only at hw
      cases e : isStr1 t with
      | some c =>
        rw [e] at hw
        rw [isStr1_some e]
        cases neg with
        | true => exact .inl (.inl ⟨c, z, rfl, rfl, k _ hw⟩)
        | false => exact .inl (.inl ⟨c, z, rfl, rfl, k _ hw⟩)
      | none =>
        rw [e] at hw
        cases neg with
        | true => exact .inl (.inr ⟨t, z, rfl, rfl, k _ hw⟩)
        | false => exact .inl (.inr ⟨t, z, rfl, rfl, k _ hw⟩)
    | _ => exact hw.elim
  | list ds =>
    dsimp only at hw
    have hp : (PyData.list ds).plain = true := by unfold PyData.plain; exact hw.2.1
    cases neg with
    | true => exact .inr (.inr ⟨d1, _, ds, .inl rfl, r1.dp s (shp_p hw.1), r2.dp s hp, hw.1, hw.2.1, k _ hw.2.2⟩)
    | false => exact .inr (.inr ⟨d1, _, ds, .inl rfl, r1.dp s (shp_p hw.1), r2.dp s hp, hw.1, hw.2.1, k _ hw.2.2⟩)
  | tuple ds =>
    dsimp only at hw
    have hp : (PyData.tuple ds).plain = true := by unfold PyData.plain; exact hw.2.1
    cases neg with
    | true => exact .inr (.inr ⟨d1, _, ds, .inr rfl, r1.dp s (shp_p hw.1), r2.dp s hp, hw.1, hw.2.1, k _ hw.2.2⟩)
    | false => exact .inr (.inr ⟨d1, _, ds, .inr rfl, r1.dp s (shp_p hw.1), r2.dp s hp, hw.1, hw.2.1, k _ hw.2.2⟩)
  | dict kvs =>
    dsimp only at hw
    obtain ⟨hk, hun, hq⟩ := hw
    obtain ⟨a, es, rfl, ha, p⟩ := r2.dict s
    have rk := pdc_keys p
    have rx : Rp K F v1 d1 := r1.scal (keyD_con hk)
    obtain ⟨n, hn⟩ := keyD_nk hk
    have e := rpk_get hn rk
    cases neg with
    | true => exact .inr (.inl ⟨a, es, n, rfl, ⟨F, _, d1, s, ha, rk, rx, ⟨hn, hk⟩, hun⟩, by rw [e]; exact k _ hq⟩)
    | false => exact .inr (.inl ⟨a, es, n, rfl, ⟨F, _, d1, s, ha, rk, rx, ⟨hn, hk⟩, hun⟩, by rw [e]; exact k _ hq⟩)
  | _ => exact hw.elim
theorem cmp_ok (X : Cx) (hu : X.A.units + 65 < cLine) (op : CmpOp) : ∃ r, OpR X (compareOp op) r ∧ Cm2 (kxOf X) r (wCmp op) := by
  have hu' : X.A.units + 64 < cLine := by omega
  cases op with
  | Eq => exact ⟨_, op_eq.or (op_eqP hu'), eq_ok⟩
  | NotEq => exact ⟨_, op_ne.or (op_neP hu'), ne_ok⟩
  | Lt => exact ⟨_, op_lt.or (op_ltP hu'), lt_ok⟩
  | LtE => exact ⟨_, op_le, ord_ok fun d1 d2 Q h => by
      match d1, d2, h with
      | .int i, .int j, h => exact ⟨i, j, rfl, rfl, h⟩⟩
  | Gt => exact ⟨_, op_gt, ord_ok fun d1 d2 Q h => by
      match d1, d2, h with
      | .int i, .int j, h => exact ⟨i, j, rfl, rfl, h⟩⟩
  | GtE => exact ⟨_, op_ge, ord_ok fun d1 d2 Q h => by
      match d1, d2, h with
      | .int i, .int j, h => exact ⟨i, j, rfl, rfl, h⟩⟩
  | Is => exact ⟨_, op_isN, fun F H v1 v2 d1 d2 Q s r1 r2 h Z k => by
      match d2, h with
      | .none, h =>
        have e2 := sc_non r2
        refine ⟨e2, ?_⟩
        cases d1 with
        | none => cases sc_non r1; exact k _ h
        | bool _ => cases sc_bl r1; exact k _ h
        | int _ => cases sc_int r1; exact k _ h
        | str _ => cases sc_str r1; exact k _ h
        | list _ => obtain ⟨_, _, rfl, _⟩ := r1.list s; exact k _ h
        | tuple _ => obtain ⟨_, _, rfl, _⟩ := sc_tup r1; exact k _ h
        | dict _ => obtain ⟨_, _, rfl, _⟩ := r1.dict s; exact k _ h⟩
  | IsNot => exact ⟨_, op_notN, fun F H v1 v2 d1 d2 Q s r1 r2 h Z k => by
      match d2, h with
      | .none, h =>
        have e2 := sc_non r2
        refine ⟨e2, ?_⟩
        cases d1 with
        | none => cases sc_non r1; exact k _ h
        | bool _ => cases sc_bl r1; exact k _ h
        | int _ => cases sc_int r1; exact k _ h
        | str _ => cases sc_str r1; exact k _ h
        | list _ => obtain ⟨_, _, rfl, _⟩ := r1.list s; exact k _ h
        | tuple _ => obtain ⟨_, _, rfl, _⟩ := sc_tup r1; exact k _ h
        | dict _ => obtain ⟨_, _, rfl, _⟩ := r1.dict s; exact k _ h⟩
  | In => exact ⟨_, (op_in_sign.or op_in_str).or ((op_in_do (by omega)).or (op_inP hu)), fun F H v1 v2 d1 d2 Q s r1 r2 h Z k => in_ok (neg := false) F H v1 v2 d1 d2 Q s r1 r2 h Z k⟩
  | NotIn => exact ⟨_, (op_notIn_sign.or op_notin_str).or ((op_notin_do (by omega)).or (op_ninP hu)), fun F H v1 v2 d1 d2 Q s r1 r2 h Z k => in_ok (neg := true) F H v1 v2 d1 d2 Q s r1 r2 h Z k⟩

/-! ### subscripts, slices -/
theorem atI_pair {α β : Type} {G : α → β → Prop} {xs : List α} {ys : List β} (p : Paired G xs ys) {i : Int} {y : β} (h : atI ys i = some y) : ∃ x, atI xs i = some x ∧ G x y := by
  unfold atI at h ⊢
  rw [paired_len p]
  cases e : ixN ys.length i with
  | none => rw [e] at h; cases h
  | some j =>
    rw [e] at h
    obtain ⟨x, h1, h2⟩ := paired_get p (show ys[j]? = some y from h)
    exact ⟨x, h1, h2⟩
def rIxA (K : Kx) : R2 := fun x y H Q => rIx K x y H Q ∨ rIxDo K x y H Q
theorem ix_ok {K : Kx} {n : Nat} : ∀ F H v1 v2 d1 d2 Q, Same F H → Res K F H (n + 1) v1 d1 → Res K F H 0 v2 d2 → wIx d1 d2 Q → ∀ Z : VK, (∀ v d, Res K F H n v d → Q d → Z v H) → rIxA K v1 v2 H Z := by
  intro F H v1 v2 d1 d2 Q s r1 r2 hw Z k
  cases d1 with
  | dict kvs =>
    have hw : keyD d2 = true ∧ uniD (kvs.map (·.1)) d2 = true ∧ ∃ v, dget kvs d2 = some v ∧ Q v := hw
    obtain ⟨hk, hun, d, hg, hq⟩ := hw
    obtain ⟨a, es, rfl, ha, p⟩ := r1.dict s
    obtain ⟨m, hm⟩ := keyD_nk hk
    rcases pdc_get hm p with ⟨_, e2⟩ | ⟨v, d', e1, e2, e3⟩
    · rw [e2] at hg; cases hg
    · rw [hg] at e2
      cases e2
      exact .inr ⟨a, es, m, v, rfl, ⟨F, _, d2, s, ha, pdc_keys p, r2, ⟨hm, hk⟩, hun⟩, e1, k v d e3 hq⟩
  | list ds =>
    match d2, hw with
    | .int i, ⟨d, ha, hq⟩ =>
      obtain ⟨a, xs, rfl, h1, p⟩ := r1.list s
      obtain rfl := sc_int r2
      obtain ⟨x, hx, rx⟩ := atI_pair p ha
      exact .inl (.inl ⟨a, xs, i, x, rfl, rfl, h1, hx, k x d rx hq⟩)
  | tuple ds =>
    match d2, hw with
    | .int i, ⟨d, ha, hq⟩ =>
      obtain ⟨a, xs, rfl, h1, p⟩ := sc_tup r1
      obtain rfl := sc_int r2
      obtain ⟨x, hx, rx⟩ := atI_pair (paired_of p) ha
      exact .inl (.inr (.inl ⟨a, xs, i, x, rfl, rfl, sqT_mono s h1, hx, k x d (Res.of rx) hq⟩))
  | str z =>
    match d2, hw with
    | .int i, ⟨hz, c, ha, hq⟩ =>
      obtain rfl := sc_str r1
      obtain rfl := sc_int r2
      exact .inl (.inr (.inr ⟨z, i, c, rfl, rfl, hz, ha, k _ _ (Res.of (.str _)) hq⟩))
  | none => exact (show False from hw).elim
  | bool _ => exact (show False from hw).elim
  | int _ => exact (show False from hw).elim
theorem ix_A {X : Cx} (hu : X.A.units + 9 < cLine) : IxR X (rIxA (kxOf X)) := ix_seq.or (ix_do hu)
def rSlX (K : Kx) : V → Option Int → Option Int → Hp → VK → Prop := fun x lo hi H Q => (rSlL K x lo hi H Q ∨ rSlS x lo hi H Q) ∨ rSlA K x lo hi H Q
theorem sl_X {X : Cx} : SlR X (rSlX (kxOf X)) := (sl_list.or sl_str).or sl_tupA
theorem cut_ra {K : Kx} {F : Hp} {xs : List V} {ds : List D} (h : RpAll K F xs ds) (lo hi : Option Int) : RpAll K F (cutV xs lo hi) (cutD ds lo hi) := by
  unfold cutV cutD
  rw [da_len h]
  exact da_take _ (da_drop _ h)
theorem sl_ok {K : Kx} : ∀ F H v1 d1 lo hi Q, Same F H → Res K F H 1 v1 d1 → wSl d1 lo hi Q → ∀ Z : VK, (∀ v F' H' d, Ext F H F' H' → Same F' H' → Dyn K H F' H' v d → Q d → Z v H') → rSlX K v1 lo hi H Z := by
  intro F H v1 d1 lo hi Q s r1 hw Z k
  match d1, hw with
  | .list ds, hw =>
    obtain ⟨a, xs, rfl, h1, p⟩ := r1.list s
    refine .inl (.inl ⟨a, xs, rfl, h1, fun p' hp => ?_⟩)
    obtain ⟨e, s', f⟩ := dy_lst (xs := cutV xs lo hi) (ds := cutD ds lo hi) s hp (cut_ra (ra_of p) lo hi)
    exact k _ F _ _ e s' (.inl (.inl ⟨_, rfl, f⟩)) hw
  | .str z, ⟨hz, hw⟩ =>
    obtain rfl := sc_str r1
    exact .inl (.inr ⟨z, rfl, hz, k _ F H _ (Ext.refl F H) s (.inr ⟨rfl, Rp.str _⟩) hw⟩)
  | .tuple ds, hw =>
    obtain ⟨a, xs, rfl, h1, p⟩ := sc_tup r1
    refine .inr ⟨a, xs, rfl, sqT_mono s h1, fun hh => ?_, fun _ p' hp => ?_⟩
    · have e : cutD ds lo hi = ds := by
        unfold cutD
        rw [← da_len p, hh.1, hh.2, List.drop_zero, Nat.sub_zero, da_len p, List.take_length]
      have hw : Q (.tuple (cutD ds lo hi)) := hw
      rw [e] at hw
      exact k _ F H _ (Ext.refl F H) s (.inr ⟨rfl, Rp.tup h1 p⟩) hw
    · obtain ⟨e, s', f⟩ := dy_tup (xs := cutV xs lo hi) (ds := cutD ds lo hi) s hp (cut_ra p lo hi)
      exact k _ _ _ _ e s' (.inr ⟨rfl, f⟩) hw
end PD

set_option maxHeartbeats 1000000
namespace PD
open PySem PySem.Spec PyProof.Rows L2

/-! ### looking at the program's syntax -/
def plainE : Expr → Bool
  | .Starred .. => false
  | .Set .. => false
  | .Slice .. => false
  | _ => true
def noSup : Expr → Bool
  | .Call (.Name _ _) [] [] _ => false
  | _ => true
def asName : Expr → Option Str
  | .Name x _ => some x
  | _ => none
def asConst : Expr → Option Const
  | .Constant c _ _ => some c
  | _ => none
def asBin : Expr → Option (Expr × Operator × Expr)
  | .BinOp a op b _ => some (a, op, b)
  | _ => none
def asNeg : Expr → Option Expr
  | .UnaryOp .USub a _ => some a
  | _ => none
def asNot : Expr → Option Expr
  | .UnaryOp .Not a _ => some a
  | _ => none
def asCmp : Expr → Option (Expr × CmpOp × Expr)
  | .Compare a [op] [b] _ => some (a, op, b)
  | _ => none
def asBool : Expr → Option (BoolOp × List Expr)
  | .BoolOp op es _ => some (op, es)
  | _ => none
def asIfE : Expr → Option (Expr × Expr × Expr)
  | .IfExp c a b _ => some (c, a, b)
  | _ => none
def asSub : Expr → Option (Expr × Expr)
  | .Subscript a i _ => some (a, i)
  | _ => none
def asSl : Expr → Option (Option Expr × Option Expr)
  | .Slice lo hi none _ => some (lo, hi)
  | _ => none
def asCall : Expr → Option (Str × List Expr)
  | .Call (.Name x _) es [] _ => some (x, es)
  | _ => none
def asCallK : Expr → Option (Str × List Expr × List (Option Str) × List Expr)
  | .Call (.Name x _) es (k :: ks) _ => some (x, es, (k :: ks).map (·.arg), (k :: ks).map (·.value))
  | _ => none
def asMeth : Expr → Option (Expr × Str × List Expr × Bool)
  | .Call (.Attribute o m ap) es [] cp => some (o, m, es, ap.endLine == cp.line)
  | _ => none
def asTup : Expr → Option (List Expr)
  | .Tuple es _ _ => some es
  | _ => none
def asLst : Expr → Option (List Expr)
  | .List es _ => some es
  | _ => none
def asLC : Expr → Option (Expr × Expr × Expr × List Expr × Scope)
  | .ListComp elt [⟨tg, it, ifs, 0⟩] sc _ => some (elt, tg, it, ifs, sc)
  | _ => none
def asLC2 : Expr → Option (Expr × Expr × Expr × List Expr × Expr × Expr × List Expr × Scope)
  | .ListComp elt [⟨tg, it, ifs, 0⟩, ⟨tg1, it1, ifs1, 0⟩] sc _ => some (elt, tg, it, ifs, tg1, it1, ifs1, sc)
  | _ => none
def asDict : Expr → Option (List (Option Expr) × List Expr)
  | .Dict ks vs _ => some (ks, vs)
  | _ => none
def asDC : Expr → Option (Expr × Expr × Expr × Expr × List Expr × Scope)
  | .DictComp kx vx [⟨tg, it, ifs, 0⟩] sc _ => some (kx, vx, tg, it, ifs, sc)
  | _ => none
def asChn : Expr → Option (Expr × CmpOp × CmpOp × Expr × Expr)
  | .Compare a [op, op'] [b, c] _ => some (a, op, op', b, c)
  | _ => none
theorem asDict_s {pe : Expr} {ks vs} (h : asDict pe = some (ks, vs)) : ∃ p, pe = .Dict ks vs p := by
  unfold asDict at h; split at h <;> cases h; exact ⟨_, rfl⟩
theorem asDC_s {pe : Expr} {kx vx tg it ifs sc} (h : asDC pe = some (kx, vx, tg, it, ifs, sc)) : ∃ p, pe = .DictComp kx vx [⟨tg, it, ifs, 0⟩] sc p := by
  unfold asDC at h; split at h <;> cases h; exact ⟨_, rfl⟩
theorem asChn_s {pe : Expr} {a op op' b c} (h : asChn pe = some (a, op, op', b, c)) : ∃ p, pe = .Compare a [op, op'] [b, c] p := by
  unfold asChn at h; split at h <;> cases h; exact ⟨_, rfl⟩
theorem asName_s {pe : Expr} {x} (h : asName pe = some x) : ∃ p, pe = .Name x p := by
  unfold asName at h; split at h <;> cases h; exact ⟨_, rfl⟩
theorem asConst_s {pe : Expr} {x} (h : asConst pe = some x) : ∃ j p, pe = .Constant x j p := by
  unfold asConst at h; split at h <;> cases h; exact ⟨_, _, rfl⟩
theorem asBin_s {pe : Expr} {a op b} (h : asBin pe = some (a, op, b)) : ∃ p, pe = .BinOp a op b p := by
  unfold asBin at h; split at h <;> cases h; exact ⟨_, rfl⟩
theorem asNeg_s {pe : Expr} {a} (h : asNeg pe = some a) : ∃ p, pe = .UnaryOp .USub a p := by
  unfold asNeg at h; split at h <;> cases h; exact ⟨_, rfl⟩
theorem asNot_s {pe : Expr} {a} (h : asNot pe = some a) : ∃ p, pe = .UnaryOp .Not a p := by
  unfold asNot at h; split at h <;> cases h; exact ⟨_, rfl⟩
theorem asCmp_s {pe : Expr} {a op b} (h : asCmp pe = some (a, op, b)) : ∃ p, pe = .Compare a [op] [b] p := by
  unfold asCmp at h; split at h <;> cases h; exact ⟨_, rfl⟩
theorem asBool_s {pe : Expr} {op es} (h : asBool pe = some (op, es)) : ∃ p, pe = .BoolOp op es p := by
  unfold asBool at h; split at h <;> cases h; exact ⟨_, rfl⟩
theorem asIfE_s {pe : Expr} {c a b} (h : asIfE pe = some (c, a, b)) : ∃ p, pe = .IfExp c a b p := by
  unfold asIfE at h; split at h <;> cases h; exact ⟨_, rfl⟩
theorem asSub_s {pe : Expr} {a i} (h : asSub pe = some (a, i)) : ∃ p, pe = .Subscript a i p := by
  unfold asSub at h; split at h <;> cases h; exact ⟨_, rfl⟩
theorem asSl_s {pe : Expr} {a i} (h : asSl pe = some (a, i)) : ∃ p, pe = .Slice a i none p := by
  unfold asSl at h; split at h <;> cases h; exact ⟨_, rfl⟩
theorem asCall_s {pe : Expr} {x es} (h : asCall pe = some (x, es)) : ∃ p q, pe = .Call (.Name x p) es [] q := by
  unfold asCall at h; split at h <;> cases h; exact ⟨_, _, rfl⟩
theorem asMeth_s {pe : Expr} {o m es b} (h : asMeth pe = some (o, m, es, b)) : ∃ ap cp, pe = .Call (.Attribute o m ap) es [] cp ∧ (ap.endLine == cp.line) = b := by
  unfold asMeth at h; split at h <;> cases h; exact ⟨_, _, rfl, rfl⟩
theorem asCallK_s {pe : Expr} {x es ns vs} (h : asCallK pe = some (x, es, ns, vs)) : ∃ p q kws, pe = .Call (.Name x p) es kws q ∧ ns = kws.map (·.arg) ∧ vs = kws.map (·.value) := by
  unfold asCallK at h; split at h <;> cases h; exact ⟨_, _, _, rfl, rfl, rfl⟩
theorem asTup_s {pe : Expr} {es} (h : asTup pe = some es) : ∃ k p, pe = .Tuple es k p := by
  unfold asTup at h; split at h <;> cases h; exact ⟨_, _, rfl⟩
theorem asLst_s {pe : Expr} {es} (h : asLst pe = some es) : ∃ p, pe = .List es p := by
  unfold asLst at h; split at h <;> cases h; exact ⟨_, rfl⟩
theorem asLC_s {pe : Expr} {elt tg it ifs sc} (h : asLC pe = some (elt, tg, it, ifs, sc)) : ∃ p, pe = .ListComp elt [⟨tg, it, ifs, 0⟩] sc p := by
  unfold asLC at h; split at h <;> cases h; exact ⟨_, rfl⟩

theorem asLC2_s {pe : Expr} {elt tg it ifs tg1 it1 ifs1 sc} (h : asLC2 pe = some (elt, tg, it, ifs, tg1, it1, ifs1, sc)) : ∃ p, pe = .ListComp elt [⟨tg, it, ifs, 0⟩, ⟨tg1, it1, ifs1, 0⟩] sc p := by
  unfold asLC2 at h; split at h <;> cases h; exact ⟨_, rfl⟩

/-! ### the look: does the small syntax say what the program's says -/
def Bl.nm : Bl → Str
  | .len => "len" | .int => "int" | .str => "str" | .tuple => "tuple" | .list => "list" | .abs => "abs" | .max => "max" | .min => "min" | .sum => "sum" | .sorted => "sorted" | .all => "all" | .any => "any"
def Mt.nm : Mt → Str
  | .join => "join" | .find3 => "find" | .rfind4 => "rfind" | .sindex => "index" | .count => "count" | .rfind => "rfind" | .lindex => "index"
structure Ck where
  N : List Str
  fnN : Nat → Option Str
  ctN : Nat → Option Str
  fnK : Nat → Option (Str × Nat × List Str)
  bl : List Str
def visB (sc : Scope) (x : Str) : Bool := (decide (sc.names.lookup x = some .local) || decide (sc.names.lookup x = some .cell) || decide (sc.names.lookup x = some .free)) && !(x == ("__debug__" : Str)) && !(x == ("__classdict__" : Str))
def locB (sc : Scope) (x : Str) : Bool := decide (sc.names.lookup x = some .local) || decide (sc.names.lookup x = some .cell)
def glB (sc : Scope) (x : Str) : Bool := decide (sc.names.lookup x = some .globalImplicit) && !(x == ("__debug__" : Str))
def okTgs (C : Ck) (sc : Scope) : List Nat → List Expr → Bool
  | [], [] => true
  | i :: is, pe :: pes => (match asName pe with | some x => decide (C.N[i]? = some x) && locB sc x | none => false) && okTgs C sc is pes
  | _, _ => false
def okTg (C : Ck) (sc : Scope) : Tg → Expr → Bool
  | .nm i, pe => match asName pe with | some x => decide (C.N[i]? = some x) && locB sc x | none => false
  | .tp is, pe => match asTup pe with | some es => okTgs C sc is es | none => false
def tgNames : Expr → List Str
  | .Name x _ => [x]
  | .Tuple es _ _ => es.filterMap asName
  | _ => []
def Tg.slots : Tg → List Nat
  | .nm i => [i]
  | .tp is => is
def typB (C : Ck) (sc : Scope) (t : String) (pe : Expr) : Bool :=
  match asName pe with
  | some x => decide (x = Str.ofString t) && glB sc x && C.bl.contains x && ["int", "bool", "str", "list", "tuple"].contains t
  | none => false
def typsB (C : Ck) (sc : Scope) : List String → List Expr → Bool
  | [], [] => true
  | t :: ts, e :: es => typB C sc t e && typsB C sc ts es
  | _, _ => false
/-- enumerate and zip want a target of several names -/
def itOk : I → Expr → Bool
  | .en _, tg => (asTup tg).isSome
  | .zp _ _, tg => (asTup tg).isSome
  | .zp3 _ _ _, tg => (asTup tg).isSome
  | _, _ => true
mutual
def okE (C : Ck) (sc : Scope) : E → Expr → Bool
  | .var i, pe => match asName pe with | some x => decide (C.N[i]? = some x) && visB sc x | none => false
  | .ct k, pe => match asName pe with | some x => decide (C.ctN k = some x) && glB sc x | none => false
  | .non, pe => match asConst pe with | some .none => true | _ => false
  | .bl b, pe => match asConst pe with | some (.bool c) => decide (b = c) | _ => false
  | .int i, pe => match asConst pe with | some (.int c) => decide (i = c) | _ => false
  | .str x, pe => match asConst pe with | some (.str c) => decide (c = ⟨x.toArray⟩) | _ => false
  | .bin op a b, pe => match asBin pe with | some (pa, o, pb) => decide (o = op) && okE C sc a pa && okE C sc b pb | none => false
  | .neg a, pe => match asNeg pe with | some pa => okE C sc a pa | none => false
  | .cmp op a b, pe => match asCmp pe with | some (pa, o, pb) => decide (o = op) && plainE pb && okE C sc a pa && okE C sc b pb | none => false
  | .bop conj es, pe => match asBool pe with | some (o, pes) => decide (o = if conj then .And else .Or) && !pes.isEmpty && okEs C sc es pes | none => false
  | .nt a, pe => match asNot pe with | some pa => okE C sc a pa | none => false
  | .ifx c a b, pe => match asIfE pe with | some (pc, pa, pb) => okE C sc c pc && okE C sc a pa && okE C sc b pb | none => false
  | .ix a i, pe => match asSub pe with | some (pa, pi) => plainE pi && okE C sc a pa && okE C sc i pi | none => false
  | .sl a lo hi, pe => match asSub pe with
    | some (pa, pi) => (match asSl pi with | some (pl, ph) => okE C sc a pa && okEo C sc lo pl && okEo C sc hi ph | none => false)
    | none => false
  | .call k es, pe => match asCall pe with | some (x, pes) => decide (C.fnN k = some x) && glB sc x && okEs C sc es pes | none => false
  | .callk k n es ks kes, pe => match asCallK pe with | some (x, pes, ns, vs) => decide (C.fnK k = some (x, n, ks)) && glB sc x && decide (ns = ks.map some) && !pes.isEmpty && okEs C sc es pes && okEs C sc kes vs | none => false
  | .blt b es, pe => match asCall pe with | some (x, pes) => decide (x = b.nm) && glB sc x && C.bl.contains x && !pes.isEmpty && okEs C sc es pes | none => false
  | .isi a ts, pe => match asCall pe with
    | some (x, [pa, pt]) => decide (x = "isinstance") && glB sc x && C.bl.contains x && plainE pa && plainE pt && okE C sc a pa && (match asTup pt with | some pts => typsB C sc ts pts && pts.all plainE && decide (ts.length ≤ 1000) | none => typsB C sc ts [pt])
    | _ => false
  | .mth m o es, pe => match asMeth pe with | some (po, x, pes, b) => decide (x = m.nm) && b && !pes.isEmpty && decide (pes.length < 20) && noSup po && okE C sc o po && okEs C sc es pes | none => false
  | .tup es, pe => match asTup pe with | some pes => okEs C sc es pes | none => false
  | .lst es, pe => match asLst pe with | some pes => okEs C sc es pes | none => false
  | .lc own elt tg it cs, pe => match asLC pe with
    | some (pelt, ptg, pit, pifs, scope) => blkC C.N sc scope own && (okI C sc it pit && itOk it ptg) && okTg C (relS scope sc) tg ptg && (tgNames ptg).all (fun x => decide (scope.names.lookup x = some .local) || decide (scope.names.lookup x = some .cell)) && plainE pit && tg.slots.all (fun i => (own.map (·.2)).contains i) && okE C (relS scope sc) elt pelt && okC C (relS scope sc) cs pifs
    | none => false
  | .lc2 own elt tg it cs vs1 tg1 it1 cs1, pe => match asLC2 pe with
    | some (pelt, ptg, pit, pifs, ptg1, pit1, pifs1, scope) => blkC C.N sc scope own && (okI C sc it pit && itOk it ptg) && okTg C (relS scope sc) tg ptg && (tgNames ptg).all (fun x => decide (scope.names.lookup x = some .local) || decide (scope.names.lookup x = some .cell)) && plainE pit && tg.slots.all (fun i => (own.map (·.2)).contains i) && okE C (relS scope sc) elt pelt && okC C (relS scope sc) cs pifs
      && (okTg C (relS scope sc) tg1 ptg1 && (tgNames ptg1).all (fun x => decide (scope.names.lookup x = some .local) || decide (scope.names.lookup x = some .cell)) && plainE pit1 && tg1.slots.all (fun i => vs1.contains i) && vs1.all (fun i => (own.map (·.2)).contains i) && (okI C (relS scope sc) it1 pit1 && itOk it1 ptg1) && okC C (relS scope sc) cs1 pifs1)
    | none => false
  | .dnew, pe => match asDict pe with | some ([], []) => true | _ => false
  | .done _ _, _ => false
  | .dget o k x, pe => match asMeth pe with | some (po, m, [pk, px], b) => decide (m = "get") && b && plainE pk && plainE px && noSup po && okE C sc o po && okE C sc k pk && okE C sc x px | _ => false
  | .dcm own ke ve tg it cs, pe => match asDC pe with
    | some (pk, pv, ptg, pit, pifs, scope) => blkC C.N sc scope own && (okI C sc it pit && itOk it ptg) && okTg C (relS scope sc) tg ptg && (tgNames ptg).all (fun x => decide (scope.names.lookup x = some .local) || decide (scope.names.lookup x = some .cell)) && plainE pit && tg.slots.all (fun i => (own.map (·.2)).contains i) && (okE C (relS scope sc) ke pk && okE C (relS scope sc) ve pv) && okC C (relS scope sc) cs pifs
    | none => false
  | .chn op op' a b c, pe => match asChn pe with | some (pa, o, o', pb, pc) => decide (o = op) && decide (o' = op') && plainE pb && plainE pc && okE C sc a pa && okE C sc b pb && okE C sc c pc | none => false
  | .lrg a, pe => match asCall pe with
    | some (x, [pr]) => decide (x = "list") && glB sc x && C.bl.contains x && plainE pr && (match asCall pr with | some (y, [pa]) => decide (y = "range") && glB sc y && C.bl.contains y && plainE pa && okE C sc a pa | _ => false)
    | _ => false
def okEo (C : Ck) (sc : Scope) : Eo → Option Expr → Bool
  | .no, none => true
  | .yes e, some pe => okE C sc e pe
  | _, _ => false
def okC (C : Ck) (sc : Scope) : Eo → List Expr → Bool
  | .no, pes => match pes with | [] => true | _ => false
  | .yes e, pes => match pes with | [pe] => okE C sc e pe | _ => false
def okEs (C : Ck) (sc : Scope) : Es → List Expr → Bool
  | .nil, pes => match pes with | [] => true | _ => false
  | .cons e es, pes => match pes with | pe :: pr => plainE pe && okE C sc e pe && okEs C sc es pr | _ => false
def okI (C : Ck) (sc : Scope) : I → Expr → Bool
  | .ls e, pe => plainE pe && okE C sc e pe
  | .r1 a, pe => match asCall pe with | some (x, [pa]) => decide (x = "range") && glB sc x && C.bl.contains x && plainE pa && okE C sc a pa | _ => false
  | .r2 a b, pe => match asCall pe with | some (x, [pa, pb]) => decide (x = "range") && glB sc x && C.bl.contains x && plainE pa && plainE pb && okE C sc a pa && okE C sc b pb | _ => false
  | .rv e, pe => match asCall pe with | some (x, [pa]) => decide (x = "reversed") && glB sc x && C.bl.contains x && plainE pa && okE C sc e pa | _ => false
  | .rr1 a, pe => match asCall pe with
    | some (x, [pr]) => decide (x = "reversed") && glB sc x && C.bl.contains x && plainE pr && (match asCall pr with | some (y, [pa]) => decide (y = "range") && glB sc y && C.bl.contains y && plainE pa && okE C sc a pa | _ => false)
    | _ => false
  | .rr2 a b, pe => match asCall pe with
    | some (x, [pr]) => decide (x = "reversed") && glB sc x && C.bl.contains x && plainE pr && (match asCall pr with | some (y, [pa, pb]) => decide (y = "range") && glB sc y && C.bl.contains y && plainE pa && plainE pb && okE C sc a pa && okE C sc b pb | _ => false)
    | _ => false
  | .en e, pe => match asCall pe with | some (x, [pa]) => decide (x = "enumerate") && glB sc x && C.bl.contains x && plainE pa && okE C sc e pa | _ => false
  | .zp a b, pe => match asCall pe with | some (x, [pa, pb]) => decide (x = "zip") && glB sc x && C.bl.contains x && plainE pa && plainE pb && okE C sc a pa && okE C sc b pb | _ => false
  | .zp3 a b c, pe => match asCall pe with | some (x, [pa, pb, pc]) => decide (x = "zip") && glB sc x && C.bl.contains x && plainE pa && plainE pb && plainE pc && okE C sc a pa && okE C sc b pb && okE C sc c pc | _ => false
end

/-! ### what the context gives -/
/-- a def's promise, by data -/
def spD (K : Kx) (f : FnS) : Sp := fun vs H Q _ => ∃ F ds, Same F H ∧ RpAll K F vs ds ∧ f.pre ds ∧ ∀ d v F' H', f.post ds d → Ext F H F' H' → Same F' H' → Rp K F' v d → Q v H'
/-- f is f0 with the values dd behind what is given -/
def Sh (f f0 : FnS) (dd : List D) : Prop := ∀ xs, f.pre xs → f0.pre (xs ++ dd) ∧ ∀ d, f0.post (xs ++ dd) d → f.post xs d
theorem Sh.self (f : FnS) : Sh f f [] := fun xs h => by rw [List.append_nil]; exact ⟨h, fun _ h => h⟩
structure FnIn (X : Cx) (x : Str) (f : FnS) : Prop where
  ex : ∃ (a : Addr) (fd : FuncData) (ps : List Str) (j : Nat) (ds : List Value) (dvs : List V) (dd : List D) (f0 : FnS), X.mg x = some (.ref a) ∧ PySem.W.keepIn (kxOf X) (.ref a) = true ∧ Binds (kxOf X) fd ps ds ∧ Vals dvs ds ∧ (∀ F, RpAll (kxOf X) F dvs dd) ∧
    FnOk X.prog X.w (kxOf X) X.mg X.base CX0 j a fd ps (spD (kxOf X) f0) ∧ Room j X.A ∧ Sh f f0 dd
/-- .. with keywords -/
structure FnInK (X : Cx) (x : Str) (n : Nat) (ks : List Str) (f : FnS) : Prop where
  ex : ∃ (a : Addr) (fd : FuncData) (ps : List Str) (j : Nat), X.mg x = some (.ref a) ∧ PySem.W.keepIn (kxOf X) (.ref a) = true ∧ KBn (kxOf X) fd ps n ks (fun us ws => us ++ ws) (fun vs zs => vs ++ zs) ∧
    FnOk X.prog X.w (kxOf X) X.mg X.base CX0 j a fd ps (spD (kxOf X) f) ∧ Room j X.A
structure DX (X : Cx) (C : Ck) (G : Gb) (sc : Scope) : Prop where
  N : X.N = C.N
  nd : C.N.Nodup
  sc : X.env.scope = sc
  calm : X.calm = true
  room : Room 1 X.A
  bl : ∀ x, C.bl.contains x = true → X.mg x = none
  fn : ∀ k x, C.fnN k = some x → FnIn X x (G.fn k)
  fk : ∀ k x n ks, C.fnK k = some (x, n, ks) → FnInK X x n ks (G.fn k)
  ct : ∀ k x, C.ctN k = some x → ∃ u v, X.mg x = some u ∧ RelV v u ∧ ∀ F, Rp (kxOf X) F v (G.ct k)
section
variable {X : Cx} {C : Ck} {G : Gb} {sc : Scope} {x : Str} {pe : Expr}
theorem DX.gl (d : DX X C G sc) (h : glB sc x = true) : Gl X x ∧ (x == ("__debug__" : Str)) = false := by
  unfold glB at h
  simp only [Bool.and_eq_true, decide_eq_true_eq, Bool.not_eq_true'] at h
  refine ⟨?_, h.2⟩
  show X.env.scope.names.lookup x = _
  rw [d.sc]; exact h.1
theorem DX.vis (d : DX X C G sc) (h : visB sc x = true) : Vis X.env.scope x ∧ (x == ("__debug__" : Str)) = false ∧ (x == ("__classdict__" : Str)) = false := by
  unfold visB at h
  simp only [Bool.and_eq_true, Bool.or_eq_true, decide_eq_true_eq, Bool.not_eq_true'] at h
  obtain ⟨⟨h1, h2⟩, h3⟩ := h
  refine ⟨?_, h2, h3⟩
  rw [d.sc]
  rcases h1 with (h1 | h1) | h1
  · exact .inl h1
  · exact .inr (.inl h1)
  · exact .inr (.inr h1)
theorem DX.loc (d : DX X C G sc) (h : locB sc x = true) : Loc X.env.scope x := by
  unfold locB at h
  simp only [Bool.or_eq_true, decide_eq_true_eq] at h
  rw [d.sc]; exact h
theorem star_cons {e : Expr} {es : List Expr} {env : PySem.Env} (h : plainE e = true) : starEach (e :: es) env = (false, eval e env) :: starEach es env := by
  cases e <;> first | rfl | exact absurd (show false = true from h) Bool.false_ne_true
theorem star_map {env : PySem.Env} : ∀ {es : List Expr}, es.all plainE = true → (starEach es env).map (·.1) = es.map fun _ => false
  | [], _ => rfl
  | e :: es, h => by
    rw [List.all_cons, Bool.and_eq_true] at h
    rw [star_cons h.1, List.map_cons, List.map_cons, star_map h.2]
theorem back_map (pos : Pos) (l : List (Bool × Sem Value)) : (backTo pos l).map (·.1) = l.map (·.1) := by
  unfold backTo
  rw [List.map_map]
  rfl
theorem any_map (l : List (Bool × Sem Value)) : l.any (·.1) = (l.map (·.1)).any id := by rw [List.any_map]; rfl
theorem star_any {env : PySem.Env} {pos : Pos} {es : List Expr} (h : es.all plainE = true) : (backTo pos (starEach es env)).any (·.1) = false := by
  rw [any_map, back_map, star_map h, List.any_map]
  exact List.any_eq_false.mpr fun _ _ => by simp
theorem star_few {env : PySem.Env} {pos : Pos} {es : List Expr} (h : es.all plainE = true) : (backTo pos (starEach es env)).all (fun x => !x.1) = true := by
  rw [List.all_eq_true]
  intro y hy
  have : (backTo pos (starEach es env)).any (·.1) = false := star_any h
  rw [List.any_eq_false] at this
  have := this y hy
  simpa using this
theorem plain_sub {b : Expr} (h : plainE b = true) : PlainIx b := by
  intro o i
  cases b <;> first | rfl | exact absurd (show false = true from h) Bool.false_ne_true
theorem plain_mark {b : Expr} {op : CmpOp} (h : plainE b = true) : behindInMarks op b = false := by
  cases b <;> first | rfl | exact absurd (show false = true from h) Bool.false_ne_true
theorem plain_fold {b : Expr} {env : PySem.Env} (h : plainE b = true) : ∀ x, foldedSetIterable b env x = pure x := by
  intro x
  cases b <;> first | rfl | exact absurd (show false = true from h) Bool.false_ne_true
theorem okEs_all : ∀ {es : Es} {pes : List Expr}, okEs C sc es pes = true → pes.all plainE = true
  | .nil, [], _ => rfl
  | .nil, _ :: _, h => by simp [okEs] at h
  | .cons e es, [], h => by simp [okEs] at h
  | .cons e es, pe :: pr, h => by
    simp only [okEs, Bool.and_eq_true] at h
    rw [List.all_cons, h.1.1, okEs_all h.2]; rfl
end
end PD

set_option maxHeartbeats 1000000
/-! enumerate and zip over lists, tuples and texts -/
namespace PD
open PySem PySem.Spec PyProof.Rows L2
/-- what is walked inside: a list, a tuple, a text -/
inductive Sid where
  | l (a : Addr)
  | t (a : Addr)
  | s (z : Str)
def Sid.val : Sid → V
  | .l a => .ref a
  | .t a => .ref a
  | .s z => .str z
def Sid.adr : Sid → List Addr
  | .l a => [a]
  | .t a => [a]
  | .s _ => []
def chars (z : Str) : List V := z.cps.toList.map fun c => .str ⟨#[c]⟩
def Sid.vw (K : PySem.W.Frag) (H : Hp) (xs : List V) : Sid → Prop
  | .l a => SqL K H a xs
  | .t a => SqT K H a xs
  | .s z => xs = chars z
def Sid.its (it : Addr) (i : Nat) (h : Heap) : Sid → Prop
  | .l a => h.IsListIter it a i
  | .t a => h.IsTupleIter it a i
  | .s z => ∃ t, h.IsStrIter it (strIterType z) z t i
/-- the iterator's cell by itself -/
structure ItCell (T : String) (x : Value) (it : Addr) (i : Nat) (h : Heap) : Prop where
  ex : ∃ o, h.get? it = some o ∧ o.cls = .type T ∧ o.data = .fields #[x, .int i 0]
theorem Sid.cell {sid : Sid} {it : Addr} {i : Nat} {h : Heap} (x : sid.its it i h) : ∃ o, h.get? it = some o ∧ ∀ v, o.data ≠ .cell v := by
  cases sid with
  | l a => obtain ⟨o, e, _, d⟩ := x; exact ⟨o, e, fun v q => by rw [d] at q; cases q⟩
  | t a => obtain ⟨o, e, _, d⟩ := x; exact ⟨o, e, fun v q => by rw [d] at q; cases q⟩
  | s z => obtain ⟨t, o, e, _, d⟩ := x; exact ⟨o, e, fun v q => by rw [d] at q; cases q⟩
theorem Sid.at {sid : Sid} {it : Addr} {i : Nat} {h h' : Heap} (x : sid.its it i h) (k : ∀ o, h.get? it = some o → h'.get? it = some o) : sid.its it i h' := by
  cases sid with
  | l a => obtain ⟨o, e, r⟩ := x; exact ⟨o, k _ e, r⟩
  | t a => obtain ⟨o, e, r⟩ := x; exact ⟨o, k _ e, r⟩
  | s z => obtain ⟨t, o, e, r⟩ := x; exact ⟨t, o, k _ e, r⟩
section
variable {X : Cx} {pins : List (Addr × Obj)} {σ : L2.St} {H : Hp} {s : Shared}
theorem Sid.inj {sid : Sid} {xs ys : List V} (I : Inv X pins σ H s) (a : sid.vw X.K H xs) (b : sid.vw X.K H ys) : xs = ys := by
  cases sid with
  | l _ => exact I.list_inj a b
  | t _ => exact I.tuple_inj a b
  | s _ => exact a.trans (Eq.symm b)
/-- it begins with a new cell -/
theorem Sid.begins {sid : Sid} {xs : List V} {v : Value} (I : Inv X pins σ H s) (w : sid.vw X.K H xs) (r : RelV sid.val v) :
    ∃ o Hh, Begins v o Hh ∧ Hh s.heap ∧ (∀ it (h' : Heap), h'.get? it = some o → sid.its it 0 h') ∧ ∀ b ∈ sid.adr, b < s.heap.objs.size := by
  cases sid with
  | l a =>
    obtain rfl : v = .ref a := r
    obtain ⟨its, _, pl, _⟩ := I.list w
    exact ⟨_, _, begins_list a its.toArray, pl.isList, fun it h' e => ⟨_, e, rfl, rfl⟩, fun b hb => by
      obtain ⟨o, e, _⟩ := pl.isList
      have : b = a := by simpa [Sid.adr] using hb
      rw [this]; exact Heap.lt_size e⟩
  | t a =>
    obtain rfl : v = .ref a := r
    obtain ⟨its, _, pl, _⟩ := I.tuple w
    exact ⟨_, _, begins_tuple a its.toArray, pl, fun it h' e => ⟨_, e, rfl, rfl⟩, fun b hb => by
      obtain ⟨o, e, _⟩ := pl
      have : b = a := by simpa [Sid.adr] using hb
      rw [this]; exact Heap.lt_size e⟩
  | s z =>
    obtain ⟨t, rfl⟩ := r
    exact ⟨_, _, begins_text z t, True.intro, fun it h' e => ⟨t, _, e, rfl, rfl⟩, fun b hb => by cases hb⟩
/-- what it draws -/
theorem Sid.draws {sid : Sid} {xs : List V} {it : Addr} {A : Around} {j : Nat} (I : Inv X pins σ H s) (hh : A.handled = none) (w : sid.vw X.K H xs) (hj : sid.its it j s.heap) (ne : it ∉ sid.adr) :
    ∃ (P : Nat → Value → Prop) (St : Nat → Heap → Prop), Draws X.prog X.w A it (it :: sid.adr) xs.length P St ∧ St j s.heap ∧ (∀ i h, St i h → sid.its it i h) ∧ ∀ (i : Nat) (u : Value), P i u → ∃ y, xs[i]? = some y ∧ RelV y u := by
  have hv : ∀ {its : List Value}, Vals xs its → ∀ (i : Nat) (u : Value), its.toArray[i]? = some u → ∃ y, xs[i]? = some y ∧ RelV y u := by
    intro its rv i u e
    have e : its[i]? = some u := by simpa using e
    cases c : xs[i]? with
    | none => rw [rv.none_of c] at e; cases e
    | some y =>
      obtain ⟨u', e', r'⟩ := rv.get c
      rw [e] at e'
      cases e'
      exact ⟨y, rfl, r'⟩
  cases sid with
  | l a =>
    obtain ⟨its, rv, pl, _⟩ := I.list w
    have hne : a ≠ it := fun e => ne (by simp [Sid.adr, e])
    have D := Draws.list (prog := X.prog) (w := X.w) hh it a hne its.toArray
    rw [List.size_toArray, ← rv.length] at D
    exact ⟨_, _, D, ⟨hj, pl.isList⟩, fun i h q => q.1, hv rv⟩
  | t a =>
    obtain ⟨its, rv, pl, _⟩ := I.tuple w
    have hne : a ≠ it := fun e => ne (by simp [Sid.adr, e])
    have D := Draws.tuple (prog := X.prog) (w := X.w) hh it a hne its.toArray
    rw [List.size_toArray, ← rv.length] at D
    exact ⟨_, _, D, ⟨hj, pl⟩, fun i h q => q.1, hv rv⟩
  | s z =>
    obtain ⟨t, hj⟩ := hj
    have w : xs = chars z := w
    subst w
    have D := Draws.text (prog := X.prog) (w := X.w) hh it z t
    have hl : (chars z).length = z.cps.size := by unfold chars; rw [List.length_map, Array.length_toList]
    rw [← hl] at D
    refine ⟨_, _, D, hj, fun i h q => ⟨t, q⟩, fun i u hu => ?_⟩
    obtain ⟨c, tk, e, eu⟩ := hu
    refine ⟨.str ⟨#[c]⟩, ?_, tk, eu⟩
    unfold chars
    rw [List.getElem?_map, Array.getElem?_toList, e]; rfl
end

/-! ### enumerate -/
def ItEn (K : PySem.W.Frag) (sid : Sid) : It :=
  ⟨fun i H => ∃ xs : List V, sid.vw K H xs ∧ i < xs.length, fun i H v H' => ∃ T x, v = .ref T ∧ H T = none ∧ H' = upd H T (.tup [.int (i : Nat), x]) ∧ ∀ xs, sid.vw K H xs → xs[i]? = some x, fun i H => ∃ xs : List V, sid.vw K H xs ∧ i = xs.length⟩
theorem turn_en {P : Program} {w : World} {K : PySem.W.Frag} {elts : List Expr} {kk : Nat} {tpos : Pos} {sid : Sid} {e it : Addr} (hne : e ≠ it) (hea : e ∉ sid.adr) (hia : it ∉ sid.adr) :
    Turn P w K (.Tuple elts kk tpos) (ItEn K sid) [e, it] e (fun i h => (∃ old, IsEnum h e it ((i : Nat) : Int) old) ∧ sid.its it i h) where
  mem := List.mem_cons_self
  obj := fun i h ⟨⟨old, he⟩, hi⟩ b hb => by
    rcases List.mem_cons.mp hb with rfl | hb
    · exact ⟨_, he, fun v q => nomatch q⟩
    · cases List.mem_singleton.mp hb
      exact (Sid.cell hi)
  keep := fun i h h' ⟨⟨old, he⟩, hi⟩ k => ⟨⟨old, k e List.mem_cons_self _ he⟩, Sid.at hi fun o q => k it (by simp) o q⟩
  item := by
    intro X hP hw hK hc i pins s σ H E I hf ⟨⟨old, he⟩, hit⟩ ⟨xs, hvw, hlt⟩
    subst hP hw hK
    obtain ⟨PP, St, D, st, back, hP⟩ := Sid.draws (A := X.A.in1) I (I.ok.hd hc) hvw hit hia
    have hel : e < s.heap.objs.size := Heap.lt_size he
    have hil : it < s.heap.objs.size := by obtain ⟨o, q, _⟩ := (Sid.cell hit); exact Heap.lt_size q
    have hef : e ∉ it :: sid.adr := by
      rw [List.mem_cons, not_or]; exact ⟨hne, hea⟩
    refine wpAny_pyNext_enum_itemD D he st hlt hne hef fun u h' tk hPu ho st' hT hsz hk => ?_
    obtain ⟨x, hx, ru⟩ := hP i u hPu
    refine ⟨_, rfl, wpAny_letOwnedTupleGo_enum (s := { s with heap := h', toks := tk + 1 }) ho fun h'' he' sb => ?_⟩
    have hT2 : h''.get? s.heap.objs.size = some { cls := .type "tuple", data := .seq #[.int i tk, u] } := (sb.2 _ (Nat.ne_of_gt hel)).trans hT
    have new : ObjOk X.prog X.w (upd H s.heap.objs.size (.tup [.int (i : Nat), x])) h'' s.heap.objs.size (.tup [.int (i : Nat), x]) :=
      ⟨by show 2 ≤ sizeLine; decide, [.int i tk, u], .cons ⟨_, rfl⟩ (.cons ru .nil), ⟨_, hT2, rfl, _, rfl⟩⟩
    have I1 := I.turnedNew (t' := tk + 1) (ch := [e, it]) (fun b ob hb q => (sb.2 b (fun z => hb (by simp [z]))).trans (hk b ob (fun z => hb (by simp [z])) (fun z => hb (by simp [z])) q)) hf (Nat.le_refl _) new
    refine ⟨.ref s.heap.objs.size, _, I1, rfl, ⟨_, x, rfl, I.hok.fresh (Nat.le_refl _), rfl, fun ys hy => by rw [Sid.inj I hy hvw]; exact hx⟩, ⟨⟨u, ?_⟩, Sid.at (back _ _ st') fun o q => (sb.2 it (Ne.symm hne)).trans q⟩, fun b hb => ?_⟩
    · have e1 : ((i + 1 : Nat) : Int) = (i : Int) + 1 := Int.natCast_add i 1
      rw [e1]; exact he'
    · have hb' : b < s.heap.objs.size := by
        rcases List.mem_cons.mp hb with rfl | hb
        · exact hel
        · cases List.mem_singleton.mp hb
          exact hil
      rw [upd_ne (Nat.ne_of_lt hb')]
      exact (hf b hb).1
  done := by
    intro X hP hw hK hc i pins s σ H E I hf ⟨⟨old, he⟩, hit⟩ ⟨xs, hvw, hlt⟩
    subst hP hw hK hlt
    obtain ⟨PP, St, D, st, back, hP⟩ := Sid.draws (A := X.A.in1) I (I.ok.hd hc) hvw hit hia
    exact wpAny_pyNext_enum_endD D he st fun h' eb => ⟨rfl, I.turnedL (t' := s.toks) (ch := [e, it]) (fun b o hb q => eb b o (fun z => hb (by simp [z])) q) hf⟩
  self := fun A i s Q E ⟨⟨_, he⟩, _⟩ h => wpAny_pyIter_enum he h
set_option maxHeartbeats 2000000 in
theorem en_new {v : Value} {o : Obj} {Hh : Heap → Prop} (B : Begins v o Hh) :
    Meets (Builtin.«enumerate.__new__» ⟨[.type "enumerate", v], []⟩) (fun _ R s => Hh s.heap ∧
      R (.ok (.ret (.ref (s.heap.push o).objs.size))) { s with heap := (s.heap.push o).push { cls := .type "enumerate", data := .fields #[.none, .bool false, .ref s.heap.objs.size, rawInt 0, .none, .none] } }) :=
  .of_wp fun prog w A R s0 hq => by
    obtain ⟨hp, g, d, tk, os⟩ := s0
    obtain ⟨h1, h⟩ := hq
    have sube := sub_enumerate
    have go : ∀ {A' : Around} {E : Value → Shared → Prop} {Q : Value → Shared → Prop}, Q (.ref hp.objs.size) ⟨hp.push o, g, d, tk, os⟩ → wpAny (model prog w) A' (pyIter v) Q E ⟨hp, g, d, tk, os⟩ :=
      fun {A' E Q} q => B.iter prog w A' E ⟨hp, g, d, tk, os⟩ Q h1 q
    wp_walk using go
    refine wpAny_stack_any fun st => wpAny_pure ?_
    split
    · rename_i c _ _ _ _ _
      cases (c == Value.type "enumerate") <;> (wp_walk using go; exact ⟨_, rfl, h⟩)
    · wp_walk using go
      exact ⟨_, rfl, h⟩
theorem en_call {prog : Program} {w : World} {A : Around} {E : Value → Shared → Prop} {s : Shared} {v : Value} {o : Obj} {Hh : Heap → Prop} {Q : Value → Shared → Prop} (B : Begins v o Hh) (h1 : Hh s.heap)
    (h : ∀ h', IsEnum h' (s.heap.objs.size + 1) s.heap.objs.size 0 .none → h'.get? s.heap.objs.size = some o → (∀ b o', s.heap.get? b = some o' → h'.get? b = some o') → Q (.ref (s.heap.objs.size + 1)) { s with heap := h' }) :
    wpAny (model prog w) A (call (.type "enumerate") [v]) Q E s := by
  refine callType_new F.called_enumerate (by decide) (F.typeCall_enumerate_1 _) (F.newCall_enumerate_1 _) (fun obj => F.args_object_init_2 obj _) F.entry_enumerate_new (en_new B) ⟨h1, ?_⟩
  have hz : (s.heap.push o).objs.size = s.heap.objs.size + 1 := Heap.size_push ..
  show _ ∧ _
  rw [hz]
  have hg := Heap.get?_push_size (s.heap.push o) (o := { cls := .type "enumerate", data := .fields #[.none, .bool false, .ref s.heap.objs.size, rawInt 0, .none, .none] }) rfl
  rw [hz] at hg
  exact ⟨⟨_, hg, rfl⟩, h _ hg (Heap.get?_push_of_some _ (Heap.get?_push_size _ B.free)) fun b o' x => Heap.get?_push_of_some _ (Heap.get?_push_of_some _ x)⟩
def iEn (K : PySem.W.Frag) (ta : TA) : TI := fun σ H R => ta σ H fun vs H1 => ∃ sid xs, vs = [sid.val] ∧ Sid.vw K H1 xs sid ∧ R (ItEn K sid) H1
theorem pi_en {X : Cx} {e : Expr} {ta : TA} {p pos tpos : Pos} {elts : List Expr} {kk : Nat} (hg : Gl X "enumerate") (hm : X.mg "enumerate" = none) (ha : PA X [e] ta) (hs : starEach [e] X.env = [(false, eval e X.env)]) :
    PI X (.Tuple elts kk tpos) (.Call (.Name "enumerate" p) [e] [] pos) (iEn X.K ta) := by
  refine ⟨fun pins s σ H R I h => ?_⟩
  refine Call_ (ld_blt I hg hm boot_enumerate (PyProof.Rows.callWith_type1 (thn (ha.run pos pins s σ H _ I h) fun us s1 ⟨vs, H1, I1, r1, sid, xs, ex, hvw, q⟩ => ?_) hs rfl))
  subst ex
  obtain ⟨u, rfl, r⟩ := r1.one
  obtain ⟨o, Hh, B, h1, h2, h3⟩ := Sid.begins I1 hvw r
  refine en_call B h1 fun h' he ho hk => wpAny_pyIter_enum he ?_
  have I2 : Inv X pins σ H1 { s1 with heap := h' } := I1.kept (t' := s1.toks) hk
  refine ⟨s1.heap.objs.size + 1, [s1.heap.objs.size + 1, s1.heap.objs.size], _, _, H1, rfl, I2, turn_en (Nat.succ_ne_self _) (fun z => ?_) (fun z => ?_), ⟨⟨.none, he⟩, h2 _ _ ho⟩, fun b hb => ?_, q⟩
  · exact absurd (h3 _ z) (Nat.not_lt.mpr (Nat.le_add_right _ _))
  · exact absurd (h3 _ z) (Nat.lt_irrefl _)
  · have hle : s1.heap.objs.size ≤ b := by
      rcases List.mem_cons.mp hb with rfl | hb
      · exact Nat.le_succ _
      · cases List.mem_singleton.mp hb; exact Nat.le_refl _
    exact I1.fpOk hle (I1.hok.fresh hle)

/-! ### zip -/
def ItZp (K : PySem.W.Frag) (a b : Sid) : It :=
  ⟨fun i H => ∃ xs ys : List V, a.vw K H xs ∧ b.vw K H ys ∧ i < xs.length ∧ i < ys.length,
    fun i H v H' => ∃ T x y, v = .ref T ∧ H T = none ∧ H' = upd H T (.tup [x, y]) ∧ (∀ xs, a.vw K H xs → xs[i]? = some x) ∧ ∀ ys, b.vw K H ys → ys[i]? = some y,
    fun i H => ∃ xs ys : List V, a.vw K H xs ∧ b.vw K H ys ∧ i ≤ xs.length ∧ i ≤ ys.length ∧ (i = xs.length ∨ i = ys.length)⟩
theorem turn_zp {P : Program} {w : World} {K : PySem.W.Frag} {elts : List Expr} {kk : Nat} {tpos : Pos} {a b : Sid} {z TI TO i1 i2 : Addr} (S : ZipSep2 z TI TO i1 i2 (i1 :: a.adr) (i2 :: b.adr)) (n1 : i1 ∉ a.adr) (n2 : i2 ∉ b.adr) :
    Turn P w K (.Tuple elts kk tpos) (ItZp K a b) [z, TI, TO, i1, i2] z (fun i h => IsZip h z TI TO .none ∧ IsTupOf2 h TI (.ref i1) (.ref i2) ∧ (∃ x y, IsTupOf2 h TO x y) ∧ a.its i1 i h ∧ b.its i2 i h) where
  mem := List.mem_cons_self
  obj := fun i h ⟨hz, hTI, ⟨x, y, hTO⟩, h1, h2⟩ c hc => by
    simp only [List.mem_cons, List.not_mem_nil, or_false] at hc
    rcases hc with rfl | rfl | rfl | rfl | rfl
    · exact ⟨_, hz, fun v q => nomatch q⟩
    · exact ⟨_, hTI, fun v q => nomatch q⟩
    · exact ⟨_, hTO, fun v q => nomatch q⟩
    · exact (Sid.cell h1)
    · exact (Sid.cell h2)
  keep := fun i h h' ⟨hz, hTI, ⟨x, y, hTO⟩, h1, h2⟩ k => ⟨k z (by simp) _ hz, k TI (by simp) _ hTI, ⟨x, y, k TO (by simp) _ hTO⟩, Sid.at h1 fun o q => k i1 (by simp) o q, Sid.at h2 fun o q => k i2 (by simp) o q⟩
  item := by
    intro X hP hw hK hc i pins s σ H E I hf ⟨hz, hTI, ⟨x0, y0, hTO⟩, h1, h2⟩ ⟨xs, ys, v1, v2, l1, l2⟩
    subst hP hw hK
    obtain ⟨P1, S1, D1, st1, b1, p1⟩ := Sid.draws (A := X.A.in1) I (I.ok.hd hc) v1 h1 n1
    obtain ⟨P2, S2, D2, st2, b2, p2⟩ := Sid.draws (A := X.A.in1) I (I.ok.hd hc) v2 h2 n2
    have hzl : z < s.heap.objs.size := Heap.lt_size hz
    refine wpAny_pyNext_zipD2_item S D1 D2 hz hTI hTO st1 st2 l1 l2 fun u1 u2 h' tk y1 y2 hz' hTO' st1' st2' hT hsz hk => ?_
    obtain ⟨x, hx, rx⟩ := p1 i u1 y1
    obtain ⟨y, hy, ry⟩ := p2 i u2 y2
    refine ⟨_, rfl, wpAny_letOwnedTupleGo_zip (s := { s with heap := h', toks := tk }) hz' fun h'' z'' sb => ?_⟩
    have hT2 : h''.get? s.heap.objs.size = some { cls := .type "tuple", data := .seq #[u1, u2] } := (sb.2 _ (Nat.ne_of_gt hzl)).trans hT
    have new : ObjOk X.prog X.w (upd H s.heap.objs.size (.tup [x, y])) h'' s.heap.objs.size (.tup [x, y]) :=
      ⟨by show 2 ≤ sizeLine; decide, [u1, u2], .cons rx (.cons ry .nil), ⟨_, hT2, rfl, _, rfl⟩⟩
    have I1 := I.turnedNew (t' := tk) (ch := [z, TI, TO, i1, i2]) (fun c o hb q => (sb.2 c (fun q' => hb (by simp [q']))).trans (hk c o (fun q' => hb (by simp [q'])) (fun q' => hb (by simp [q'])) (fun q' => hb (by simp [q'])) (fun q' => hb (by simp [q'])) q)) hf (Nat.le_refl _) new
    refine ⟨.ref s.heap.objs.size, _, I1, rfl, ⟨_, x, y, rfl, I.hok.fresh (Nat.le_refl _), rfl, fun l hl => by rw [Sid.inj I hl v1]; exact hx, fun l hl => by rw [Sid.inj I hl v2]; exact hy⟩, ⟨z'', ?_, ⟨u1, u2, ?_⟩, ?_, ?_⟩, fun c hcm => ?_⟩
    · exact (sb.2 _ S.TIz).trans (hk _ _ S.TIz S.TITO S.TIi1 S.TIi2 hTI)
    · exact (sb.2 _ S.TOz).trans hTO'
    · exact Sid.at (b1 _ _ st1') fun o q => (sb.2 _ (Ne.symm S.zi1)).trans q
    · exact Sid.at (b2 _ _ st2') fun o q => (sb.2 _ (Ne.symm S.zi2)).trans q
    · have hlt : c < s.heap.objs.size := by
        simp only [List.mem_cons, List.not_mem_nil, or_false] at hcm
        rcases hcm with rfl | rfl | rfl | rfl | rfl
        · exact hzl
        · exact Heap.lt_size hTI
        · exact Heap.lt_size hTO
        · obtain ⟨o, q, _⟩ := (Sid.cell h1); exact Heap.lt_size q
        · obtain ⟨o, q, _⟩ := (Sid.cell h2); exact Heap.lt_size q
      rw [upd_ne (Nat.ne_of_lt hlt)]
      exact (hf c hcm).1
  done := by
    intro X hP hw hK hc i pins s σ H E I hf ⟨hz, hTI, ⟨x0, y0, hTO⟩, h1, h2⟩ ⟨xs, ys, v1, v2, l1, l2, hend⟩
    subst hP hw hK
    obtain ⟨P1, S1, D1, st1, b1, p1⟩ := Sid.draws (A := X.A.in1) I (I.ok.hd hc) v1 h1 n1
    obtain ⟨P2, S2, D2, st2, b2, p2⟩ := Sid.draws (A := X.A.in1) I (I.ok.hd hc) v2 h2 n2
    exact wpAny_pyNext_zipD2_end S D1 D2 hz hTI hTO st1 st2 l1 l2 hend fun h' tk hk => ⟨rfl, I.turnedL (t' := tk) (ch := [z, TI, TO, i1, i2]) (fun c o hb q =>
      hk c o (fun q' => hb (by simp [q'])) (fun q' => hb (by simp [q'])) (fun q' => hb (by simp [q'])) (fun q' => hb (by simp [q'])) q) hf⟩
  self := fun A i s Q E st h => wpAny_pyIter_zip st.1 h
def iZp (K : PySem.W.Frag) (ta : TA) : TI := fun σ H R => ta σ H fun vs H1 => ∃ (a b : Sid) (xs ys : List V), vs = [a.val, b.val] ∧ a.vw K H1 xs ∧ b.vw K H1 ys ∧ R (ItZp K a b) H1
theorem pi_zp {X : Cx} {e e2 : Expr} {ta : TA} {p pos tpos : Pos} {elts : List Expr} {kk : Nat} (hg : Gl X "zip") (hm : X.mg "zip" = none) (ha : PA X [e, e2] ta)
    (hs : starEach [e, e2] X.env = (false, eval e X.env) :: starEach [e2] X.env) (hpl : (backTo pos (starEach [e2] X.env)).any (·.1) = false) :
    PI X (.Tuple elts kk tpos) (.Call (.Name "zip" p) [e, e2] [] pos) (iZp X.K ta) := by
  refine ⟨fun pins s σ H R I h => ?_⟩
  refine Call_ (ld_blt I hg hm PyProof.Rows.boot_zip (PyProof.Rows.callWith_type1 (thn (ha.run pos pins s σ H _ I h) fun us s1 ⟨vs, H1, I1, r1, a, b, xs, ys, ex, va, vb, q⟩ => ?_) hs hpl))
  subst ex
  obtain ⟨u, w, rfl, ra, rb⟩ := r1.two
  obtain ⟨o1, Hh1, B1, g1, k1, l1⟩ := Sid.begins I1 va ra
  obtain ⟨o2, Hh2, B2, g2, k2, l2⟩ := Sid.begins I1 vb rb
  refine zip_begins2 B1 B2 g1 g2 fun h' hz hTI hTO e1 e2 hsz hk => wpAny_pyIter_zip hz ?_
  have I2 : Inv X pins σ H1 { s1 with heap := h' } := I1.kept (t' := s1.toks) hk
  refine ⟨s1.heap.objs.size + 4, _, _, _, H1, rfl, I2, turn_zp (zip_sep2 l1 l2) (fun z => ?_) (fun z => ?_), ⟨hz, hTI, ⟨_, _, hTO⟩, k1 _ _ e1, k2 _ _ e2⟩, fun c hcm => ?_, q⟩
  · exact absurd (l1 _ z) (Nat.lt_irrefl _)
  · exact absurd (l2 _ z) (Nat.not_lt.mpr (Nat.le_add_right _ _))
  · have hle : s1.heap.objs.size ≤ c := by
      simp only [List.mem_cons, List.not_mem_nil, or_false] at hcm
      rcases hcm with rfl | rfl | rfl | rfl | rfl <;> first | exact Nat.le_refl _ | exact Nat.le_add_right _ _
    exact I1.fpOk hle (I1.hok.fresh hle)

/-! ### zip of three -/
def ItZq (K : PySem.W.Frag) (a b c : Sid) : It :=
  ⟨fun i H => ∃ xs ys zs : List V, a.vw K H xs ∧ b.vw K H ys ∧ c.vw K H zs ∧ i < xs.length ∧ i < ys.length ∧ i < zs.length,
    fun i H v H' => ∃ T x y z, v = .ref T ∧ H T = none ∧ H' = upd H T (.tup [x, y, z]) ∧ (∀ xs, a.vw K H xs → xs[i]? = some x) ∧ (∀ ys, b.vw K H ys → ys[i]? = some y) ∧ ∀ zs, c.vw K H zs → zs[i]? = some z,
    fun i H => ∃ xs ys zs : List V, a.vw K H xs ∧ b.vw K H ys ∧ c.vw K H zs ∧ i ≤ xs.length ∧ i ≤ ys.length ∧ i ≤ zs.length ∧ (i = xs.length ∨ i = ys.length ∨ i = zs.length)⟩
theorem turn_zq {P : Program} {w : World} {K : PySem.W.Frag} {elts : List Expr} {kk : Nat} {tpos : Pos} {a b c : Sid} {z TI TO i1 i2 i3 : Addr} (S : ZipSep3 z TI TO i1 i2 i3 (i1 :: a.adr) (i2 :: b.adr) (i3 :: c.adr)) (n1 : i1 ∉ a.adr) (n2 : i2 ∉ b.adr) (n3 : i3 ∉ c.adr) :
    Turn P w K (.Tuple elts kk tpos) (ItZq K a b c) [z, TI, TO, i1, i2, i3] z (fun i h => IsZip h z TI TO .none ∧ IsTupOf3 h TI (.ref i1) (.ref i2) (.ref i3) ∧ (∃ x y v, IsTupOf3 h TO x y v) ∧ a.its i1 i h ∧ b.its i2 i h ∧ c.its i3 i h) where
  mem := List.mem_cons_self
  obj := fun i h ⟨hz, hTI, ⟨x, y, v, hTO⟩, h1, h2, h3⟩ d hd => by
    simp only [List.mem_cons, List.not_mem_nil, or_false] at hd
    rcases hd with rfl | rfl | rfl | rfl | rfl | rfl
    · exact ⟨_, hz, fun v q => nomatch q⟩
    · exact ⟨_, hTI, fun v q => nomatch q⟩
    · exact ⟨_, hTO, fun v q => nomatch q⟩
    · exact (Sid.cell h1)
    · exact (Sid.cell h2)
    · exact (Sid.cell h3)
  keep := fun i h h' ⟨hz, hTI, ⟨x, y, v, hTO⟩, h1, h2, h3⟩ k => ⟨k z (by simp) _ hz, k TI (by simp) _ hTI, ⟨x, y, v, k TO (by simp) _ hTO⟩, Sid.at h1 fun o q => k i1 (by simp) o q, Sid.at h2 fun o q => k i2 (by simp) o q, Sid.at h3 fun o q => k i3 (by simp) o q⟩
  item := by
    intro X hP hw hK hc i pins s σ H E I hf ⟨hz, hTI, ⟨x0, y0, v0, hTO⟩, h1, h2, h3⟩ ⟨xs, ys, zs, v1, v2, v3, l1, l2, l3⟩
    subst hP hw hK
    obtain ⟨P1, S1, D1, st1, b1, p1⟩ := Sid.draws (A := X.A.in1) I (I.ok.hd hc) v1 h1 n1
    obtain ⟨P2, S2, D2, st2, b2, p2⟩ := Sid.draws (A := X.A.in1) I (I.ok.hd hc) v2 h2 n2
    obtain ⟨P3, S3, D3, st3, b3, p3⟩ := Sid.draws (A := X.A.in1) I (I.ok.hd hc) v3 h3 n3
    have hzl : z < s.heap.objs.size := Heap.lt_size hz
    refine wpAny_pyNext_zipD3_item S D1 D2 D3 hz hTI hTO st1 st2 st3 l1 l2 l3 fun u1 u2 u3 h' tk y1 y2 y3 hz' hTO' st1' st2' st3' hT hsz hk => ?_
    obtain ⟨x, hx, rx⟩ := p1 i u1 y1
    obtain ⟨y, hy, ry⟩ := p2 i u2 y2
    obtain ⟨v, hv, rv⟩ := p3 i u3 y3
    refine ⟨_, rfl, wpAny_letOwnedTupleGo_zip (s := { s with heap := h', toks := tk }) hz' fun h'' z'' sb => ?_⟩
    have hT2 : h''.get? s.heap.objs.size = some { cls := .type "tuple", data := .seq #[u1, u2, u3] } := (sb.2 _ (Nat.ne_of_gt hzl)).trans hT
    have new : ObjOk X.prog X.w (upd H s.heap.objs.size (.tup [x, y, v])) h'' s.heap.objs.size (.tup [x, y, v]) :=
      ⟨by show 3 ≤ sizeLine; decide, [u1, u2, u3], .cons rx (.cons ry (.cons rv .nil)), ⟨_, hT2, rfl, _, rfl⟩⟩
    have I1 := I.turnedNew (t' := tk) (ch := [z, TI, TO, i1, i2, i3]) (fun d o hb q => (sb.2 d (fun q' => hb (by simp [q']))).trans (hk d o (fun q' => hb (by simp [q'])) (fun q' => hb (by simp [q'])) (fun q' => hb (by simp [q'])) (fun q' => hb (by simp [q'])) (fun q' => hb (by simp [q'])) q)) hf (Nat.le_refl _) new
    refine ⟨.ref s.heap.objs.size, _, I1, rfl, ⟨_, x, y, v, rfl, I.hok.fresh (Nat.le_refl _), rfl, fun l hl => by rw [Sid.inj I hl v1]; exact hx, fun l hl => by rw [Sid.inj I hl v2]; exact hy, fun l hl => by rw [Sid.inj I hl v3]; exact hv⟩, ⟨z'', ?_, ⟨u1, u2, u3, ?_⟩, ?_, ?_, ?_⟩, fun d hdm => ?_⟩
    · exact (sb.2 _ S.TIz).trans (hk _ _ S.TIz S.TITO S.TIi1 S.TIi2 S.TIi3 hTI)
    · exact (sb.2 _ S.TOz).trans hTO'
    · exact Sid.at (b1 _ _ st1') fun o q => (sb.2 _ (fun e => S.zf1 (by rw [← e]; exact S.mem1))).trans q
    · exact Sid.at (b2 _ _ st2') fun o q => (sb.2 _ (fun e => S.zf2 (by rw [← e]; exact S.mem2))).trans q
    · exact Sid.at (b3 _ _ st3') fun o q => (sb.2 _ (fun e => S.zf3 (by rw [← e]; exact S.mem3))).trans q
    · have hlt : d < s.heap.objs.size := by
        simp only [List.mem_cons, List.not_mem_nil, or_false] at hdm
        rcases hdm with rfl | rfl | rfl | rfl | rfl | rfl
        · exact hzl
        · exact Heap.lt_size hTI
        · exact Heap.lt_size hTO
        · obtain ⟨o, q, _⟩ := (Sid.cell h1); exact Heap.lt_size q
        · obtain ⟨o, q, _⟩ := (Sid.cell h2); exact Heap.lt_size q
        · obtain ⟨o, q, _⟩ := (Sid.cell h3); exact Heap.lt_size q
      rw [upd_ne (Nat.ne_of_lt hlt)]
      exact (hf d hdm).1
  done := by
    intro X hP hw hK hc i pins s σ H E I hf ⟨hz, hTI, ⟨x0, y0, v0, hTO⟩, h1, h2, h3⟩ ⟨xs, ys, zs, v1, v2, v3, l1, l2, l3, hend⟩
    subst hP hw hK
    obtain ⟨P1, S1, D1, st1, b1, p1⟩ := Sid.draws (A := X.A.in1) I (I.ok.hd hc) v1 h1 n1
    obtain ⟨P2, S2, D2, st2, b2, p2⟩ := Sid.draws (A := X.A.in1) I (I.ok.hd hc) v2 h2 n2
    obtain ⟨P3, S3, D3, st3, b3, p3⟩ := Sid.draws (A := X.A.in1) I (I.ok.hd hc) v3 h3 n3
    exact wpAny_pyNext_zipD3_end S D1 D2 D3 hz hTI hTO st1 st2 st3 l1 l2 l3 hend fun h' tk hk => ⟨rfl, I.turnedL (t' := tk) (ch := [z, TI, TO, i1, i2, i3]) (fun d o hb q =>
      hk d o (fun q' => hb (by simp [q'])) (fun q' => hb (by simp [q'])) (fun q' => hb (by simp [q'])) (fun q' => hb (by simp [q'])) (fun q' => hb (by simp [q'])) q) hf⟩
  self := fun A i s Q E st h => wpAny_pyIter_zip st.1 h
def iZq (K : PySem.W.Frag) (ta : TA) : TI := fun σ H R => ta σ H fun vs H1 => ∃ (a b c : Sid) (xs ys zs : List V), vs = [a.val, b.val, c.val] ∧ a.vw K H1 xs ∧ b.vw K H1 ys ∧ c.vw K H1 zs ∧ R (ItZq K a b c) H1
theorem vals_three {x y z : V} {us : List Value} (h : Vals [x, y, z] us) : ∃ u v w, us = [u, v, w] ∧ RelV x u ∧ RelV y v ∧ RelV z w := by
  cases h with
  | cons r t =>
    obtain ⟨v, w, e, r2, r3⟩ := Vals.two t
    exact ⟨_, v, w, by rw [e], r, r2, r3⟩
theorem pi_zq {X : Cx} {e e2 e3 : Expr} {ta : TA} {p pos tpos : Pos} {elts : List Expr} {kk : Nat} (hg : Gl X "zip") (hm : X.mg "zip" = none) (ha : PA X [e, e2, e3] ta)
    (hs : starEach [e, e2, e3] X.env = (false, eval e X.env) :: starEach [e2, e3] X.env) (hpl : (backTo pos (starEach [e2, e3] X.env)).any (·.1) = false) :
    PI X (.Tuple elts kk tpos) (.Call (.Name "zip" p) [e, e2, e3] [] pos) (iZq X.K ta) := by
  refine ⟨fun pins s σ H R I h => ?_⟩
  refine Call_ (ld_blt I hg hm PyProof.Rows.boot_zip (PyProof.Rows.callWith_type1 (thn (ha.run pos pins s σ H _ I h) fun us s1 ⟨vs, H1, I1, r1, a, b, c, xs, ys, zs, ex, va, vb, vc, q⟩ => ?_) hs hpl))
  subst ex
  obtain ⟨u, v, w, rfl, ra, rb, rc⟩ := vals_three r1
  obtain ⟨o1, Hh1, B1, g1, k1, l1⟩ := Sid.begins I1 va ra
  obtain ⟨o2, Hh2, B2, g2, k2, l2⟩ := Sid.begins I1 vb rb
  obtain ⟨o3, Hh3, B3, g3, k3, l3⟩ := Sid.begins I1 vc rc
  refine zip_begins3 B1 B2 B3 g1 g2 g3 fun h' hz hTI hTO e1 e2 e3 hsz hk => wpAny_pyIter_zip hz ?_
  have I2 : Inv X pins σ H1 { s1 with heap := h' } := I1.kept (t' := s1.toks) hk
  refine ⟨s1.heap.objs.size + 5, _, _, _, H1, rfl, I2, turn_zq (zip_sep3 l1 l2 l3) (fun z => ?_) (fun z => ?_) (fun z => ?_), ⟨hz, hTI, ⟨_, _, _, hTO⟩, k1 _ _ e1, k2 _ _ e2, k3 _ _ e3⟩, fun d hdm => ?_, q⟩
  · exact absurd (l1 _ z) (Nat.lt_irrefl _)
  · exact absurd (l2 _ z) (Nat.not_lt.mpr (Nat.le_add_right _ _))
  · exact absurd (l3 _ z) (Nat.not_lt.mpr (Nat.le_add_right _ _))
  · have hle : s1.heap.objs.size ≤ d := by
      simp only [List.mem_cons, List.not_mem_nil, or_false] at hdm
      rcases hdm with rfl | rfl | rfl | rfl | rfl | rfl <;> first | exact Nat.le_refl _ | exact Nat.le_add_right _ _
    exact I1.fpOk hle (I1.hok.fresh hle)
end PD

set_option maxHeartbeats 2000000
namespace PD
open PySem PySem.Spec PyProof.Rows L2

section
variable {X : Cx} {C : Ck} {G : Gb} {sc : Scope}

theorem slot_of {K : Kx} {F0 H0 F : Hp} {ρ : Env} {σ : Sg} {H : Hp} (r : R K F0 H0 F ρ σ H) (i : Nat) : ∃ os, SlRep K F H (gt ρ i) (gt σ i) os := by
  obtain ⟨O, o⟩ := r.own
  exact ⟨_, o.rep i⟩
theorem own2_pair {K : Kx} {F H : Hp} : ∀ {bs : List Addr} {dss : List (List D)}, Own2 K F H bs dss → Paired (Res K F H 1) (bs.map V.ref) (dss.map PyData.list)
  | [], [], _ => .nil
  | b :: bs, ds :: dss, ⟨⟨xs, e, q⟩, t⟩ => .cons (.inr (.inl ⟨b, xs, ds, rfl, rfl, e, paired_imp (fun _ _ z => z) (paired_of q)⟩)) (own2_pair t)
  | [], _ :: _, h => h.elim
  | _ :: _, [], h => h.elim
theorem own2_len {K : Kx} {F H : Hp} : ∀ {bs : List Addr} {dss : List (List D)}, Own2 K F H bs dss → bs.length = dss.length
  | [], [], _ => rfl
  | b :: bs, ds :: dss, ⟨_, t⟩ => by rw [List.length_cons, List.length_cons, own2_len t]
  | [], _ :: _, h => h.elim
  | _ :: _, [], h => h.elim
theorem res1_list {K : Kx} {F H : Hp} {a : Addr} {xs : List V} {ds : List D} {n : Nat} (e : H a = some (.lst xs)) (q : RpAll K F xs ds) : Res K F H (n + 1) (.ref a) (.list ds) :=
  .inr (.inl ⟨a, xs, ds, rfl, rfl, e, paired_imp (fun _ _ z => Res.of z) (paired_of q)⟩)
theorem res_up {K : Kx} {F H : Hp} : ∀ {n m : Nat} {v : V} {d : D}, n ≤ m → Res K F H n v d → Res K F H m v d
  | 0, _, _, _, _, h => Res.of h
  | n + 1, 0, _, _, hl, _ => absurd hl (Nat.not_succ_le_zero n)
  | n + 1, m + 1, v, d, hl, h => by
    rcases h with h | ⟨a, xs, ds, e1, e2, e3, p⟩ | ⟨a, es, kvs, e1, e2, e3, p⟩
    · exact .inl h
    · exact .inr (.inl ⟨a, xs, ds, e1, e2, e3, paired_imp (fun _ _ q => res_up (Nat.le_of_succ_le_succ hl) q) p⟩)
    · exact .inr (.inr ⟨a, es, kvs, e1, e2, e3, pdc_imp (Same.refl F) (fun _ _ q => res_up (Nat.le_of_succ_le_succ hl) q) p⟩)
theorem res1_dict {K : Kx} {F H : Hp} {a : Addr} {es : List Ent} {kvs : List (D × D)} {n : Nat} (e : H a = some (DO K.P K.w a es)) (q : RpD K F es kvs) : Res K F H (n + 1) (.ref a) (.dict kvs) :=
  .inr (.inr ⟨a, es, kvs, rfl, rfl, e, pdc_imp (Same.refl F) (fun _ _ z => Res.of z) (pdc_of q)⟩)
theorem ownD_pair {K : Kx} {F H : Hp} : ∀ {es : List Ent} {bs : List Addr} {kvs : List (D × List D)}, OwnD K F H es bs kvs → PDc K F (Res K F H 1) es (kvs.map fun p => (p.1, PyData.list p.2))
  | [], [], [], _ => .nil
  | (n, x, y) :: es, b :: bs, (k, ds) :: kvs, ⟨⟨h1, h2, h3, xs, e, q⟩, t⟩ => .cons ⟨h1, h2, by
      have h3 : y = .ref b := h3
      show Res K F H 1 y _
      rw [h3]; exact res1_list e q⟩ (ownD_pair t)
  | [], [], _ :: _, h => h.elim
  | [], _ :: _, _, h => by cases ‹List (D × List D)› <;> exact h.elim
  | _ :: _, [], _, h => h.elim
  | _ :: _, _ :: _, [], h => h.elim

theorem snd_var {i : Nat} {pe : Expr} (dx : DX X C G sc) (h : okE C sc (.var i) pe = true) : Snd X pe (fun md => wE G md (.var i)) := by
  unfold okE at h
  cases e : asName pe with
  | none => rw [e] at h; cases h
  | some x =>
    rw [e] at h
    obtain ⟨p, rfl⟩ := asName_s e
    simp only [Bool.and_eq_true, decide_eq_true_eq] at h
    obtain ⟨h1, h2⟩ := h
    obtain ⟨v1, v2, v3⟩ := dx.vis h2
    have pv : PE X (.Name x p) (tVar i) := pe_var (by rw [dx.N]; exact h1) v1 v2 v3
    refine ⟨fun n => pe_w pv fun σ H Z ⟨F0, H0, F, ρ, Q, r, hw, k⟩ => ?_, pe_w pv fun σ H Z ⟨F0, H0, F, ρ, Q, r, hw, k⟩ => ?_, pt_w (pt_tru pv fun _ => rfl) fun σ H Z ⟨F0, H0, F, ρ, Q, r, hw, k⟩ => ?_⟩
    · obtain ⟨os, q⟩ := slot_of r i
      have hw : (match gt ρ i with | some (.fz d) => fin (.t n) Q d | some (.ow ds) => (match (Md.t n) with | .t (_ + 1) => Q (.list ds) | .tst => Q (.bool (!ds.isEmpty)) | _ => False) | some (.ow2 dss) => (match (Md.t n) with | .t (_ + 2) => Q (.list (dss.map .list)) | .tst => Q (.bool (!dss.isEmpty)) | _ => False) | some (.od kvs) => (match (Md.t n) with | .t (_ + 1) => Q (.dict kvs) | .tst => Q (.bool (!kvs.isEmpty)) | _ => False) | some (.odl kvs) => (match (Md.t n) with | .t (_ + 2) => Q (.dict (kvs.map fun p => (p.1, .list p.2))) | .tst => Q (.bool (!kvs.isEmpty)) | _ => False) | none => False : Prop) := hw
      cases eg : gt ρ i with
      | none => rw [eg] at hw; exact hw.elim
      | some s =>
        rw [eg] at hw q
        cases s with
        | fz d =>
          obtain ⟨_, y, e1, q⟩ := q
          exact ⟨y, gt_some e1, k y F H d (Ext.refl F H) r.sub (Res.of q) hw⟩
        | ow ds =>
          obtain ⟨a, xs, e1, _, e2, q⟩ := q
          cases n with
          | zero => exact hw.elim
          | succ n => exact ⟨_, gt_some e1, k _ F H _ (Ext.refl F H) r.sub (res1_list e2 q) hw⟩
        | ow2 dss =>
          obtain ⟨a, bs, e1, _, e2, q⟩ := q
          cases n with
          | zero => exact hw.elim
          | succ n =>
            cases n with
            | zero => exact hw.elim
            | succ n => exact ⟨_, gt_some e1, k _ F H _ (Ext.refl F H) r.sub (.inr (.inl ⟨a, _, _, rfl, rfl, e2, paired_imp (fun _ _ z => res_up (by omega) z) (own2_pair q)⟩)) hw⟩
        | od kvs =>
          obtain ⟨a, es, e1, _, e2, q⟩ := q
          cases n with
          | zero => exact hw.elim
          | succ n => exact ⟨_, gt_some e1, k _ F H _ (Ext.refl F H) r.sub (res1_dict e2 q) hw⟩
        | odl kvs =>
          obtain ⟨a, bs, es, e1, _, e2, q⟩ := q
          cases n with
          | zero => exact hw.elim
          | succ n =>
            cases n with
            | zero => exact hw.elim
            | succ n => exact ⟨_, gt_some e1, k _ F H _ (Ext.refl F H) r.sub (.inr (.inr ⟨a, _, _, rfl, rfl, e2, pdc_imp (Same.refl F) (fun _ _ z => res_up (by omega) z) (ownD_pair q)⟩)) hw⟩
    · have hw : (match gt ρ i with | some (.fz d) => fin .fr Q d | some (.ow ds) => False | some (.ow2 dss) => False | some (.od _) => False | some (.odl _) => False | none => False : Prop) := hw
      cases eg : gt ρ i with
      | none => rw [eg] at hw; exact hw.elim
      | some s => rw [eg] at hw; cases s <;> exact (show False from hw).elim
    · obtain ⟨os, q⟩ := slot_of r i
      have hw : (match gt ρ i with | some (.fz d) => fin .tst Q d | some (.ow ds) => Q (.bool (!ds.isEmpty)) | some (.ow2 dss) => Q (.bool (!dss.isEmpty)) | some (.od kvs) => Q (.bool (!kvs.isEmpty)) | some (.odl kvs) => Q (.bool (!kvs.isEmpty)) | none => False : Prop) := hw
      cases eg : gt ρ i with
      | none => rw [eg] at hw; exact hw.elim
      | some s =>
        rw [eg] at hw q
        cases s with
        | fz d =>
          obtain ⟨_, y, e1, q⟩ := q
          obtain ⟨b, h1, h2⟩ := tru_of (n := 0) (Q := fun b => Q (.bool b)) r.sub q hw
          exact ⟨y, gt_some e1, b, h1, k b F H (Ext.refl F H) r.sub h2⟩
        | ow ds =>
          obtain ⟨a, xs, e1, _, e2, q⟩ := q
          obtain ⟨b, h1, h2⟩ := tru_of (Q := fun b => Q (.bool b)) r.sub (res1_list (n := 0) e2 q) hw
          exact ⟨_, gt_some e1, b, h1, k b F H (Ext.refl F H) r.sub h2⟩
        | ow2 dss =>
          obtain ⟨a, bs, e1, _, e2, q⟩ := q
          have rr : Res (kxOf X) F H 2 (.ref a) (.list (dss.map .list)) := .inr (.inl ⟨a, _, _, rfl, rfl, e2, own2_pair q⟩)
          obtain ⟨b, h1, h2⟩ := tru_of (Q := fun b => Q (.bool b)) r.sub rr (show Q (.bool (!(dss.map PyData.list).isEmpty)) by rw [List.isEmpty_map]; exact hw)
          exact ⟨_, gt_some e1, b, h1, k b F H (Ext.refl F H) r.sub h2⟩
        | od kvs =>
          obtain ⟨a, es, e1, _, e2, q⟩ := q
          obtain ⟨b, h1, h2⟩ := tru_of (Q := fun b => Q (.bool b)) r.sub (res1_dict (n := 0) e2 q) hw
          exact ⟨_, gt_some e1, b, h1, k b F H (Ext.refl F H) r.sub h2⟩
        | odl kvs =>
          obtain ⟨a, bs, es, e1, _, e2, q⟩ := q
          have rr : Res (kxOf X) F H 2 (.ref a) (.dict (kvs.map fun p => (p.1, .list p.2))) := .inr (.inr ⟨a, _, _, rfl, rfl, e2, ownD_pair q⟩)
          obtain ⟨b, h1, h2⟩ := tru_of (Q := fun b => Q (.bool b)) r.sub rr (show Q (.bool (!(kvs.map fun p => (p.1, PyData.list p.2)).isEmpty)) by rw [List.isEmpty_map]; exact hw)
          exact ⟨_, gt_some e1, b, h1, k b F H (Ext.refl F H) r.sub h2⟩

/-- a value that is known -/
theorem pe_known {pe : Expr} {v : V} {d : D} (h : PE X pe (tC v)) (hr : ∀ F, Rp (kxOf X) F v d) : PE X pe (tN (kxOf X) 0 (fun _ Q => Q d)) :=
  pe_w h fun σ H Z ⟨F0, H0, F, ρ, Q, r, hw, k⟩ => k v F H d (Ext.refl F H) r.sub (hr F) hw
theorem snd_const {e : E} {pe : Expr} (d : D) (hw : ∀ md ρ Q, wE G md e ρ Q = fin md Q d) {v : V} (h : PE X pe (tC v)) (hr : ∀ F, Rp (kxOf X) F v d) (hp : PlainT X pe) : Snd X pe (fun md => wE G md e) := by
  have m := mkPure (pe_known h hr) hp
  have e : (fun md => wE G md e) = fun md ρ Q => (fun (_ : Env) (Q : D → Prop) => Q d) ρ (fin md Q) := by
    funext md ρ Q
    exact hw md ρ Q
  rw [e]
  exact m
theorem snd_ct {i : Nat} {pe : Expr} (dx : DX X C G sc) (h : okE C sc (.ct i) pe = true) : Snd X pe (fun md => wE G md (.ct i)) := by
  unfold okE at h
  cases e : asName pe with
  | none => rw [e] at h; cases h
  | some x =>
    rw [e] at h
    obtain ⟨p, rfl⟩ := asName_s e
    simp only [Bool.and_eq_true, decide_eq_true_eq] at h
    obtain ⟨g1, g2⟩ := dx.gl h.2
    obtain ⟨u, v, m1, m2, m3⟩ := dx.ct i x h.1
    exact snd_const (G.ct i) (fun _ _ _ => rfl) (pe_glob g1 m1 m2 g2) m3 (fun _ => rfl)
theorem snd_non {pe : Expr} (h : okE C sc .non pe = true) : Snd X pe (fun md => wE G md .non) := by
  unfold okE at h
  split at h
  · rename_i e
    obtain ⟨j, p, rfl⟩ := asConst_s e
    exact snd_const .none (fun _ _ _ => rfl) pe_non (fun _ => .non) (fun _ => rfl)
  · cases h
theorem snd_bl {b : Bool} {pe : Expr} (h : okE C sc (.bl b) pe = true) : Snd X pe (fun md => wE G md (.bl b)) := by
  unfold okE at h
  split at h
  · rename_i e
    obtain ⟨j, p, rfl⟩ := asConst_s e
    obtain rfl := of_decide_eq_true h
    exact snd_const (.bool b) (fun _ _ _ => rfl) pe_bl (fun _ => .bl b) (fun _ => rfl)
  · cases h
theorem snd_int {b : Int} {pe : Expr} (h : okE C sc (.int b) pe = true) : Snd X pe (fun md => wE G md (.int b)) := by
  unfold okE at h
  split at h
  · rename_i e
    obtain ⟨j, p, rfl⟩ := asConst_s e
    obtain rfl := of_decide_eq_true h
    exact snd_const (.int b) (fun _ _ _ => rfl) pe_int (fun _ => .int b) (fun _ => rfl)
  · cases h
theorem snd_str {b : List Nat} {pe : Expr} (h : okE C sc (.str b) pe = true) : Snd X pe (fun md => wE G md (.str b)) := by
  unfold okE at h
  split at h
  · rename_i e
    obtain ⟨j, p, rfl⟩ := asConst_s e
    obtain rfl := of_decide_eq_true h
    exact snd_const (.str ⟨b.toArray⟩) (fun _ _ _ => rfl) pe_str (fun _ => .str _) (fun _ => rfl)
  · cases h

theorem snd_bin {op : Operator} {a b : E} {pa pb : Expr} {p : Pos} (ha : Snd X pa (fun md => wE G md a)) (hb : Snd X pb (fun md => wE G md b)) : Snd X (.BinOp pa op pb p) (fun md => wE G md (.bin op a b)) := by
  obtain ⟨r, h1, h2⟩ := bin_ok X op
  refine mkDyn (w0 := fun ρ Q => wE G (.t 1) a ρ fun x => wE G (.t 1) b ρ fun y => wBin op x y Q) (pe_w (pe_op h1 (ha.n 1) (hb.n 1)) fun σ H Z ⟨F0, H0, F, ρ, Q, rr, hw, k⟩ => ?_) (fun _ => rfl)
  exact two rr hw fun v1 v2 d1 d2 F' H' e s q1 q2 hq => h2 F' H' v1 v2 d1 d2 Q s q1 q2 hq Z fun v F'' H'' d e2 s2 q hd => k v F'' H'' d (e.trans e2) s2 (q.free e.h) hd
theorem snd_neg {a : E} {pa : Expr} {p : Pos} (ha : Snd X pa (fun md => wE G md a)) : Snd X (.UnaryOp .USub pa p) (fun md => wE G md (.neg a)) := by
  refine mkPure (w0 := fun ρ Q => wE G (.t 0) a ρ fun x => ∃ i, x = .int i ∧ Q (.int (-i))) (pe_w (pe_un un_neg (ha.n 0)) fun σ H Z ⟨F0, H0, F, ρ, Q, rr, hw, k⟩ => ?_) (fun _ => rfl)
  refine ⟨F0, H0, F, ρ, _, rr, hw, fun v F' H' d e s q ⟨i, hd, hq⟩ => ?_⟩
  subst hd
  obtain rfl := sc_int q
  exact ⟨i, rfl, k _ F' H' _ e s (.int _) hq⟩
theorem snd_cmp {op : CmpOp} {a b : E} {pa pb : Expr} {p : Pos} (dx : DX X C G sc) (hpb : plainE pb = true) (ha : Snd X pa (fun md => wE G md a)) (hb : Snd X pb (fun md => wE G md b)) : Snd X (.Compare pa [op] [pb] p) (fun md => wE G md (.cmp op a b)) := by
  have hu : X.A.units + 65 < cLine := by have := dx.room.un; omega
  obtain ⟨r, h1, h2⟩ := cmp_ok X hu op
  have base : PE X (.Compare pa [op] [pb] p) (tN (kxOf X) 0 (fun ρ Q => wE G (.t 2) a ρ fun x => wE G (.t 2) b ρ fun y => wCmp op x y fun c => Q (.bool c))) :=
    pe_w (pe_cmpR h1 (ha.n 2) (hb.n 2) (plain_mark hpb)) fun σ H Z ⟨F0, H0, F, ρ, Q, rr, hw, k⟩ =>
      two rr hw fun v1 v2 d1 d2 F' H' e s q1 q2 hq => h2 F' H' v1 v2 d1 d2 _ s q1 q2 hq Z fun b hb => k _ F' H' _ e s (.bl b) hb
  refine ⟨fun n => pe_w base fun σ H Z ⟨F0, H0, F, ρ, Q, r, hw, k⟩ => ⟨F0, H0, F, ρ, Q, r, hw, fun v F' H' d e s q hq => k v F' H' d e s (Res.of q) hq⟩, ?_, ?_⟩
  · refine pe_w base fun σ H Z ⟨F0, H0, F, ρ, Q, r, hw, k⟩ => ⟨F0, H0, F, ρ, fun _ => False, r, ?_, fun v F' H' d e s q hq => hq.elim⟩
    exact hw
  · exact pt_w (pt_cmpR h1 (ha.n 2) (hb.n 2) (plain_mark hpb)) fun σ H Z ⟨F0, H0, F, ρ, Q, rr, hw, k⟩ =>
      two (Z := fun x y H2 => r x y H2 fun x H' => ∃ k, x = .bl k ∧ Z k H') rr hw fun v1 v2 d1 d2 F' H' e s q1 q2 hq => h2 F' H' v1 v2 d1 d2 _ s q1 q2 hq _ fun b hb => ⟨b, rfl, k b F' H' e s hb⟩

/-! ### and, or, not, if -/
theorem snd_not {a : E} {pa : Expr} {p : Pos} (ha : Snd X pa (fun md => wE G md a)) : Snd X (.UnaryOp .Not pa p) (fun md => wE G md (.nt a)) := by
  have base : PE X (.UnaryOp .Not pa p) (tN (kxOf X) 0 (wE G (.t 0) (.nt a))) := pe_w (pe_not (ha.n 0)) fun σ H Z ⟨F0, H0, F, ρ, Q, rr, hw, k⟩ => by
    have hw : wE G (.t 0) a ρ fun x => ∃ c, x = .bool c ∧ Q (.bool (!c)) := hw
    refine ⟨F0, H0, F, ρ, _, rr, hw, fun v F' H' d e s q ⟨c, hd, hq⟩ => ?_⟩
    subst hd
    obtain rfl := sc_bl q
    exact ⟨c, rfl, k _ F' H' _ e s (.bl _) hq⟩
  refine ⟨fun n => pe_w base fun σ H Z ⟨F0, H0, F, ρ, Q, r, hw, k⟩ => ⟨F0, H0, F, ρ, Q, r, hw, fun v F' H' d e s q hq => k v F' H' d e s (Res.of q) hq⟩,
    pe_w base fun σ H Z ⟨F0, H0, F, ρ, Q, r, hw, k⟩ => (show False from hw).elim, pt_w (pt_not ha.t) fun σ H Z ⟨F0, H0, F, ρ, Q, rr, hw, k⟩ => ?_⟩
  have hw : wE G .tst a ρ fun x => ∃ c, x = .bool c ∧ Q (.bool (!c)) := hw
  exact ⟨F0, H0, F, ρ, _, rr, hw, fun b F' H' e s ⟨c, hd, hq⟩ => by cases hd; exact k _ F' H' e s hq⟩
theorem pt_ifx {c a b : Expr} {tc ta tb : TT} {p : Pos} (hc : PT X c tc) (ha : PT X a ta) (hb : PT X b tb) : PT X (.IfExp c a b p) (fun σ H Q => tc σ H fun k H1 => if k = true then ta σ H1 Q else tb σ H1 Q) := by
  refine ⟨fun pins s σ H Q I h => ?_⟩
  show wpAny _ _ (do if ← isTrue c X.env (eval c X.env) then isTrue a X.env (eval a X.env) else isTrue b X.env (eval b X.env)) _ _ _
  refine wpAny_bind (thn (hc.run pins s σ H _ I h) fun d s1 ⟨H1, I1, q1⟩ => ?_)
  cases d with
  | true => exact ha.run pins s1 σ H1 Q I1 q1
  | false => exact hb.run pins s1 σ H1 Q I1 q1
theorem snd_ifx {c a b : E} {pc pa pb : Expr} {p : Pos} (hc : Snd X pc (fun md => wE G md c)) (ha : Snd X pa (fun md => wE G md a)) (hb : Snd X pb (fun md => wE G md b)) : Snd X (.IfExp pc pa pb p) (fun md => wE G md (.ifx c a b)) := by
  have go : ∀ (md : Md) {F0 H0 F : Hp} {ρ : Env} {σ : Sg} {H : Hp} {Q : D → Prop} {Z1 Z2 : Hp → Prop}, R (kxOf X) F0 H0 F ρ σ H → wE G md (.ifx c a b) ρ Q →
      (∀ F' H', Ext F H F' H' → Same F' H' → R (kxOf X) F0 H0 F' ρ σ H' → wE G md a ρ Q → Z1 H') → (∀ F' H', Ext F H F' H' → Same F' H' → R (kxOf X) F0 H0 F' ρ σ H' → wE G md b ρ Q → Z2 H') →
      (tTs (kxOf X) (wE G .tst c)) σ H fun k H1 => if k = true then Z1 H1 else Z2 H1 := by
    intro md F0 H0 F ρ σ H Q Z1 Z2 rr hw k1 k2
    have hw : wE G .tst c ρ fun x => ∃ k, x = .bool k ∧ (if k = true then wE G md a ρ Q else wE G md b ρ Q) := hw
    refine ⟨F0, H0, F, ρ, _, rr, hw, fun k F' H' e s ⟨k', hk, hq⟩ => ?_⟩
    cases hk
    cases k with
    | true => exact k1 F' H' e s (rr.go e s) hq
    | false => exact k2 F' H' e s (rr.go e s) hq
  refine ⟨fun n => pe_w (pe_ifExp hc.t (ha.n n) (hb.n n)) fun σ H Z ⟨F0, H0, F, ρ, Q, rr, hw, k⟩ => ?_, pe_w (pe_ifExp hc.t ha.f hb.f) fun σ H Z ⟨F0, H0, F, ρ, Q, rr, hw, k⟩ => ?_, pt_w (pt_ifx hc.t ha.t hb.t) fun σ H Z ⟨F0, H0, F, ρ, Q, rr, hw, k⟩ => ?_⟩
  · exact go _ rr hw (fun F' H' e s r2 h2 => ⟨F0, H0, F', ρ, Q, r2, h2, fun v F'' H'' d e2 s2 q hq => k v F'' H'' d (e.trans e2) s2 q hq⟩) (fun F' H' e s r2 h2 => ⟨F0, H0, F', ρ, Q, r2, h2, fun v F'' H'' d e2 s2 q hq => k v F'' H'' d (e.trans e2) s2 q hq⟩)
  · exact go _ rr hw (fun F' H' e s r2 h2 => ⟨F0, H0, F', ρ, Q, r2, h2, fun v F'' H'' d e2 s2 f hq => k v F'' H'' d (e.trans e2) s2 (f.free e.h) hq⟩)
      (fun F' H' e s r2 h2 => ⟨F0, H0, F', ρ, Q, r2, h2, fun v F'' H'' d e2 s2 f hq => k v F'' H'' d (e.trans e2) s2 (f.free e.h) hq⟩)
  · exact go _ rr hw (fun F' H' e s r2 h2 => ⟨F0, H0, F', ρ, Q, r2, h2, fun b F'' H'' e2 s2 hq => k b F'' H'' (e.trans e2) s2 hq⟩) (fun F' H' e s r2 h2 => ⟨F0, H0, F', ρ, Q, r2, h2, fun b F'' H'' e2 s2 hq => k b F'' H'' (e.trans e2) s2 hq⟩)

def bop (conj : Bool) : BoolOp := if conj then .And else .Or
theorem snd_ts1 {conj : Bool} {e : E} {pe : Expr} {p : Pos} (h : Snd X pe (fun md => wE G md e)) : PW X (.BoolOp (bop conj) [pe] p) (tTs (kxOf X) (wTs G conj (.cons e .nil))) := by
  cases conj with
  | true => exact pw_and1 h.t
  | false => exact pw_or1 h.t
theorem snd_ts2 {conj : Bool} {e e2 : E} {es2 : Es} {pe pe2 : Expr} {pr : List Expr} {p : Pos} (h : Snd X pe (fun md => wE G md e)) (hr : PW X (.BoolOp (bop conj) (pe2 :: pr) p) (tTs (kxOf X) (wTs G conj (.cons e2 es2)))) :
    PW X (.BoolOp (bop conj) (pe :: pe2 :: pr) p) (tTs (kxOf X) (wTs G conj (.cons e (.cons e2 es2)))) := by
  cases conj with
  | true =>
    refine pw_w (pw_and h.t hr) fun σ H Z ⟨F0, H0, F, ρ, Q, rr, hw, k⟩ => ?_
    have hw : wE G .tst e ρ fun x => ∃ c, x = .bool c ∧ (if c = true then wTs G true (.cons e2 es2) ρ Q else Q (.bool (!true))) := hw
    refine ⟨F0, H0, F, ρ, _, rr, hw, fun b F' H' e s ⟨c, hd, hq⟩ => ?_⟩
    cases hd
    cases b with
    | true => exact ⟨F0, H0, F', ρ, Q, rr.go e s, hq, fun b F'' H'' e2 s2 hq => k b F'' H'' (e.trans e2) s2 hq⟩
    | false => exact k _ F' H' e s hq
  | false =>
    refine pw_w (pw_or h.t hr) fun σ H Z ⟨F0, H0, F, ρ, Q, rr, hw, k⟩ => ?_
    have hw : wE G .tst e ρ fun x => ∃ c, x = .bool c ∧ (if c = false then wTs G false (.cons e2 es2) ρ Q else Q (.bool (!false))) := hw
    refine ⟨F0, H0, F, ρ, _, rr, hw, fun b F' H' e s ⟨c, hd, hq⟩ => ?_⟩
    cases hd
    cases b with
    | false => exact ⟨F0, H0, F', ρ, Q, rr.go e s, hq, fun b F'' H'' e2 s2 hq => k b F'' H'' (e.trans e2) s2 hq⟩
    | true => exact k _ F' H' e s hq
theorem snd_bs1 {conj : Bool} {e : E} {pe : Expr} {p : Pos} (h : Snd X pe (fun md => wE G md e)) : PE X (.BoolOp (bop conj) [pe] p) (tN (kxOf X) 0 (wBs G conj (.cons e .nil))) := pe_one (h.n 0)
theorem snd_bs2 {conj : Bool} {e e2 : E} {es2 : Es} {pe pe2 : Expr} {pr : List Expr} {p : Pos} (h : Snd X pe (fun md => wE G md e)) (hr : PE X (.BoolOp (bop conj) (pe2 :: pr) p) (tN (kxOf X) 0 (wBs G conj (.cons e2 es2)))) :
    PE X (.BoolOp (bop conj) (pe :: pe2 :: pr) p) (tN (kxOf X) 0 (wBs G conj (.cons e (.cons e2 es2)))) := by
  cases conj with
  | true =>
    refine pe_w (pe_and (h.n 0) hr) fun σ H Z ⟨F0, H0, F, ρ, Q, rr, hw, k⟩ => ?_
    have hw : wE G (.t 0) e ρ fun x => ∃ c, x = .bool c ∧ (if c = true then wBs G true (.cons e2 es2) ρ Q else Q (.bool (!true))) := hw
    refine ⟨F0, H0, F, ρ, _, rr, hw, fun v F' H' d e s q ⟨c, hd, hq⟩ => ?_⟩
    subst hd
    obtain rfl := sc_bl q
    refine ⟨c, rfl, ?_⟩
    cases c with
    | true => exact ⟨F0, H0, F', ρ, Q, rr.go e s, hq, fun v F'' H'' d e2 s2 q hq => k v F'' H'' d (e.trans e2) s2 q hq⟩
    | false => exact k _ F' H' _ e s (.bl _) hq
  | false =>
    refine pe_w (pe_or (h.n 0) hr) fun σ H Z ⟨F0, H0, F, ρ, Q, rr, hw, k⟩ => ?_
    have hw : wE G (.t 0) e ρ fun x => ∃ c, x = .bool c ∧ (if c = false then wBs G false (.cons e2 es2) ρ Q else Q (.bool (!false))) := hw
    refine ⟨F0, H0, F, ρ, _, rr, hw, fun v F' H' d e s q ⟨c, hd, hq⟩ => ?_⟩
    subst hd
    obtain rfl := sc_bl q
    refine ⟨c, rfl, ?_⟩
    cases c with
    | false => exact ⟨F0, H0, F', ρ, Q, rr.go e s, hq, fun v F'' H'' d e2 s2 q hq => k v F'' H'' d (e.trans e2) s2 q hq⟩
    | true => exact k _ F' H' _ e s (.bl _) hq
theorem snd_bop {conj : Bool} {es : Es} {pes : List Expr} {p : Pos} (ht : PW X (.BoolOp (bop conj) pes p) (tTs (kxOf X) (wTs G conj es))) (hv : PE X (.BoolOp (bop conj) pes p) (tN (kxOf X) 0 (wBs G conj es))) :
    Snd X (.BoolOp (bop conj) pes p) (fun md => wE G md (.bop conj es)) := by
  refine ⟨fun n => pe_w hv fun σ H Z ⟨F0, H0, F, ρ, Q, r, hw, k⟩ => ⟨F0, H0, F, ρ, Q, r, hw, fun v F' H' d e s q hq => k v F' H' d e s (Res.of q) hq⟩,
    pe_w hv fun σ H Z ⟨F0, H0, F, ρ, Q, r, hw, k⟩ => (show False from hw).elim, ht.pt⟩

/-! ### subscripts and slices -/
theorem snd_ix {a i : E} {pa pi : Expr} {p : Pos} (dx : DX X C G sc) (hp : plainE pi = true) (ha : Snd X pa (fun md => wE G md a)) (hi : Snd X pi (fun md => wE G md i)) : Snd X (.Subscript pa pi p) (fun md => wE G md (.ix a i)) := by
  have base : ∀ n, PE X (.Subscript pa pi p) (tN (kxOf X) n (wE G (.t n) (.ix a i))) := fun n => pe_w (pe_ix (ix_A (by have := dx.room.un; omega)) (ha.n (n + 1)) (hi.n 0) (plain_sub hp)) fun σ H Z ⟨F0, H0, F, ρ, Q, rr, hw, k⟩ => by
    have hw : wE G (.t (n + 1)) a ρ fun x => wE G (.t 0) i ρ fun y => wIx x y Q := hw
    exact two rr hw fun v1 v2 d1 d2 F' H' e s q1 q2 hq => ix_ok F' H' v1 v2 d1 d2 Q s q1 q2 hq Z fun v d q hd => k v F' H' d e s q hd
  refine ⟨base, pe_w (base 0) fun σ H Z ⟨F0, H0, F, ρ, Q, r, hw, k⟩ => (show False from hw).elim, ?_⟩
  refine pt_w (pt_tru (base 0) fun _ => rfl) fun σ H Z ⟨F0, H0, F, ρ, Q, r, hw, k⟩ => ?_
  refine ⟨F0, H0, F, ρ, _, r, hw, fun v F' H' d e s q hq => ?_⟩
  obtain ⟨b, h1, h2⟩ := tru_of s q hq
  exact ⟨b, h1, k b F' H' e s h2⟩
theorem snd_sl {a : E} {lo hi : Eo} {pa : Expr} {pl ph : Option Expr} {p p2 : Pos} (ha : Snd X pa (fun md => wE G md a)) (hl : PO X pl (tOs (kxOf X) (wEo G lo))) (hh : PO X ph (tOs (kxOf X) (wEo G hi))) : Snd X (.Subscript pa (.Slice pl ph none p2) p) (fun md => wE G md (.sl a lo hi)) := by
  refine mkDyn (w0 := fun ρ Q => wE G (.t 1) a ρ fun x => wEo G lo ρ fun l => wEo G hi ρ fun h => wSl x l h Q)
    (pe_w (pe_slice sl_X (ha.n 1) hl hh) fun σ H Z ⟨F0, H0, F, ρ, Q, rr, hw, k⟩ => ?_) (fun _ => rfl)
  refine ⟨F0, H0, F, ρ, _, rr, hw, fun v F1 H1 d e1 s1 q1 h1 => ⟨F0, H0, F1, ρ, _, rr.go e1 s1, h1, fun o2 F2 H2 e2 s2 h2 => ⟨F0, H0, F2, ρ, _, (rr.go e1 s1).go e2 s2, h2, fun o3 F3 H3 e3 s3 h3 => ?_⟩⟩⟩
  have e13 : Ext F1 H1 F3 H3 := e2.trans e3
  exact sl_ok F3 H3 v d o2 o3 Q s3 (q1.mono e13.f e13.h) h3 Z fun v' F'' H'' d' e4 s4 q hd => k v' F'' H'' d' ((e1.trans e13).trans e4) s4 (q.free (e1.trans e13).h) hd
theorem po_no : PO X none (tOs (kxOf X) (wEo G .no)) := po_w po_none fun σ H Z ⟨F0, H0, F, ρ, Q, rr, hw, k⟩ => k none F H (Ext.refl F H) rr.sub hw
theorem po_yes {e : E} {pe : Expr} (h : Snd X pe (fun md => wE G md e)) : PO X (some pe) (tOs (kxOf X) (wEo G (.yes e))) :=
  po_w (po_some (h.n 0)) fun σ H Z ⟨F0, H0, F, ρ, Q, rr, hw, k⟩ => ⟨F0, H0, F, ρ, _, rr, hw, fun v F' H' d e s q ⟨i, hd, hq⟩ => by
    subst hd
    obtain rfl := sc_int q
    exact ⟨i, rfl, k _ F' H' e s hq⟩⟩
/-! ### chains, new dicts, d.get, list(range) -/
theorem mark_last {b c : Expr} {op op' : CmpOp} (h : plainE c = true) : lastMarks [op, op'] [b, c] = false := plain_mark h
theorem snd_chn {op op' : CmpOp} {a b c : E} {pa pb pc : Expr} {p : Pos} (dx : DX X C G sc) (hpc : plainE pc = true) (ha : Snd X pa (fun md => wE G md a)) (hb : Snd X pb (fun md => wE G md b)) (hc : Snd X pc (fun md => wE G md c)) : Snd X (.Compare pa [op, op'] [pb, pc] p) (fun md => wE G md (.chn op op' a b c)) := by
  have hu : X.A.units + 65 < cLine := by have := dx.room.un; omega
  obtain ⟨r, h1, h2⟩ := cmp_ok X hu op
  obtain ⟨r', h3, h4⟩ := cmp_ok X hu op'
  have go : ∀ {σ : Sg} {H : Hp} {Zk : Bool → Hp → Prop} {Y : VK} {F0 H0 F : Hp} {ρ : Env} {Q : Bool → Prop}, R (kxOf X) F0 H0 F ρ σ H →
      (wE G (.t 2) a ρ fun x => wE G (.t 2) b ρ fun y => wCmp op x y fun k => if k = true then wE G (.t 2) c ρ fun z => wCmp op' y z Q else Q false) → (∀ b F' H', Ext F H F' H' → Same F' H' → Q b → Zk b H') → (∀ b H', Zk b H' → Y (.bl b) H') →
      tChain r r' (tN (kxOf X) 2 (wE G (.t 2) a)) (tN (kxOf X) 2 (wE G (.t 2) b)) (tN (kxOf X) 2 (wE G (.t 2) c)) σ H Y := by
    intro σ H Zk Y F0 H0 F ρ Q rr hw k ky
    refine two (Z := fun x y H2 => r x y H2 fun z H3 => ∃ k, z = .bl k ∧ (if k = true then (tN (kxOf X) 2 (wE G (.t 2) c)) σ H3 fun w' H4 => r' y w' H4 Y else Y (.bl false) H3)) rr hw fun v1 v2 d1 d2 F' H' e s q1 q2 hq => ?_
    refine h2 F' H' v1 v2 d1 d2 _ s q1 q2 hq _ fun kk hk => ⟨kk, rfl, ?_⟩
    cases kk with
    | false =>
      rw [if_neg Bool.false_ne_true] at hk ⊢
      exact ky _ _ (k false F' H' e s hk)
    | true =>
      rw [if_pos rfl] at hk ⊢
      refine ⟨F0, H0, F', ρ, _, rr.go e s, hk, fun v3 F3 H3 d3 e3 s3 q3 hq3 => ?_⟩
      exact h4 F3 H3 v2 v3 d2 d3 _ s3 (q2.mono e3.f e3.h) q3 hq3 _ fun b hb => ky _ _ (k b F3 H3 (e.trans e3) s3 hb)
  have base : PE X (.Compare pa [op, op'] [pb, pc] p) (tN (kxOf X) 0 (fun ρ Q => wE G (.t 2) a ρ fun x => wE G (.t 2) b ρ fun y => wCmp op x y fun k => if k = true then wE G (.t 2) c ρ fun z => wCmp op' y z fun k' => Q (.bool k') else Q (.bool false))) :=
    pe_w (pe_chain h1 h3 (ha.n 2) (hb.n 2) (hc.n 2) (mark_last hpc)) fun σ H Z ⟨F0, H0, F, ρ, Q, rr, hw, k⟩ =>
      go (Q := fun b => Q (.bool b)) (Zk := fun b H' => Z (.bl b) H') rr hw (fun b F' H' e s hq => k _ F' H' _ e s (.bl b) hq) fun b H' h => h
  refine ⟨fun n => pe_w base fun σ H Z ⟨F0, H0, F, ρ, Q, r, hw, k⟩ => ⟨F0, H0, F, ρ, Q, r, hw, fun v F' H' d e s q hq => k v F' H' d e s (Res.of q) hq⟩, ?_, ?_⟩
  · refine pe_w base fun σ H Z ⟨F0, H0, F, ρ, Q, r, hw, k⟩ => ⟨F0, H0, F, ρ, fun _ => False, r, ?_, fun v F' H' d e s q hq => hq.elim⟩
    exact hw
  · exact pt_w (pt_chain h1 h3 (ha.n 2) (hb.n 2) (hc.n 2) (mark_last hpc)) fun σ H Z ⟨F0, H0, F, ρ, Q, rr, hw, k⟩ =>
      go (Q := fun b => Q (.bool b)) (Zk := Z) rr hw k fun b H' h => ⟨b, rfl, h⟩
theorem do_empty {P : Program} {w : World} {H : Hp} (h : Heap) (hb : sysModules < h.objs.size) : ObjOk P w H (h.push { cls := .type "dict", data := .dict #[] }) h.objs.size (DO P w h.objs.size []) := by
  refine do_new (beq_eq_false_iff_ne.mpr (Ne.symm (Nat.ne_of_lt hb))) (Nat.zero_le _) (.inr ⟨[], .nil, ?_⟩)
  obtain ⟨o, es, ep, g1, g2, g3, g4, _, g5⟩ := Heap.DictOfH.new (knd := nestedKind P w) h
  exact ⟨o, es, ep, g1, g2, g3, g4, g5⟩
def tDNewO (X : Cx) : TE := fun _ H Q => ∀ p, H p = none → Q (.ref p) (upd H p (DO X.prog X.w p []))
theorem pe_dnewO {pos : Pos} : PE X (.Dict [] [] pos) (tDNewO X) := ⟨fun pins s σ H Q I h =>
  wpAny_Dict_empty ⟨.ref s.heap.objs.size, _, I.laid (a := s.heap.objs.size) (o := DO X.prog X.w s.heap.objs.size []) (t' := s.toks) (fun _ _ q => Heap.get?_push_of_some _ q) (Nat.le_refl _) (do_empty s.heap I.big), rfl, h _ (I.hok.fresh (Nat.le_refl _))⟩⟩
theorem snd_dnew {p : Pos} : Snd X (.Dict [] [] p) (fun md => wE G md .dnew) := by
  refine mkDict (wl := fun ρ Q => Q []) (pe_w pe_dnewO fun σ H Z ⟨F0, H0, F, ρ, Q, rr, hw, k⟩ => ?_) (fun _ => rfl)
  exact fun q hq => k _ F _ _ (Ext.mkO hq) (same_upd2 rr.sub (rr.sub.free hq)) (.inr ⟨[], rfl, q, [], rfl, hq, rr.sub.free hq, upd_same, .nil⟩) hw
/-- a method of what is known to be of a type -/
def TyR (X : Cx) (T : String) (ty : V → Hp → Prop) : Prop := ∀ (pins : List (Addr × Obj)) (σ : Sg) (H : Hp) (s : Shared) (x : V) (v : Value), Inv X pins σ H s → RelV x v → ty x H → s.TypeIs v T ∧ ∀ a, v = .ref a → ∃ ob, s.heap.get? a = some ob ∧ ob.dict = none
def tBMy (ty : V → Hp → Prop) (r : V → List V → Hp → VK → Prop) (to : TE) (t : TA) : TE := fun σ H Q => to σ H fun x H1 => ty x H1 ∧ t σ H1 fun xs H2 => r x xs H2 Q
theorem pe_bmy {T id : String} {name : Str} {o e : Expr} {es : List Expr} {apos cpos : Pos} {ty : V → Hp → Prop} {r : V → List V → Hp → VK → Prop} {to : TE} {t : TA} (hT : TyR X T ty) (pa : PlainAttrs T) (slot : Slot T name id) (hty : typeOf (.builtin id) = pure (.type "method_descriptor")) (hm : MtR X id r) (ho : PE X o to) (ha : PA X (e :: es) t)
    (hbase : attributeBase o name X.env (eval o X.env) = eval o X.env)
    (hfew : ((backTo cpos (starEach (e :: es) X.env)).all (fun x => !x.1) && (backToKw cpos (keywordEach [] X.env)).all (fun x => x.1.isSome)
      && decide ((e :: es).length + ([] : List Keyword).length + (if ([] : List Keyword).isEmpty then 0 else 1) < 30)) = true)
    (hline : (apos.endLine == cpos.line) = true) (hs : starEach (e :: es) X.env = (false, eval e X.env) :: starEach es X.env) (hplain : (backTo cpos (starEach es X.env)).any (·.1) = false) :
    PE X (.Call (.Attribute o name apos) (e :: es) [] cpos) (tBMy ty r to t) := by
  refine ⟨fun pins s σ H Q I h => wpAny_Call_method_late hbase hfew hline rfl (thn (ho.run pins s σ H _ I h) fun v s1 ⟨x, H1, I1, r1, hy, q1⟩ => ?_)⟩
  obtain ⟨h1, h2⟩ := hT pins σ H1 s1 x v I1 r1 hy
  refine ⟨T, id, pa, slot, hty, h1, h2, ?_⟩
  have hA := ha.run cpos pins s1 σ H1 _ I1 q1
  rw [hs] at hA ⊢
  exact Calls.callWith_builtin (by show (false || (backTo cpos (starEach es X.env)).any (·.1)) = false; rw [hplain]; rfl) (Calls.evalArgs_plain (thn hA fun us s2 ⟨vs, H2, I2, r2, q2⟩ => hm pins s2 σ H2 x vs v us Q I2 r1 r2 q2))
theorem ty_do : TyR X "dict" (fun x H => ∃ a es, x = .ref a ∧ H a = some (DO X.prog X.w a es)) := by
  intro pins σ H s x v I r ⟨a, es, ex, ha⟩
  subst ex
  obtain rfl : v = .ref a := r
  exact do_type I ha
theorem few_of {cp : Pos} {env : PySem.Env} {pes : List Expr} (hp : pes.all plainE = true) (hl : pes.length < 20) : ((backTo cp (starEach pes env)).all (fun x => !x.1) && (backToKw cp (keywordEach [] env)).all (fun x => x.1.isSome)
      && decide (pes.length + ([] : List Keyword).length + (if ([] : List Keyword).isEmpty then 0 else 1) < 30)) = true := by
  rw [star_few hp, Bool.true_and]
  show (true && decide _) = true
  rw [Bool.true_and, decide_eq_true_eq]
  show pes.length + 0 + 0 < 30
  omega
theorem base_id {o : Expr} {x : Str} {env : PySem.Env} {w : Sem Value} (h : noSup o = true) : attributeBase o x env w = w := by
  unfold attributeBase
  split
  · exact absurd (show false = true from h) Bool.false_ne_true
  · rfl
theorem snd_dget {o k x : E} {po pk px : Expr} {ap cp : Pos} (dx : DX X C G sc) (hl : (ap.endLine == cp.line) = true) (h1 : plainE pk = true) (h2 : plainE px = true) (hs : noSup po = true) (ho : Snd X po (fun md => wE G md o)) (hk : Snd X pk (fun md => wE G md k)) (hx : Snd X px (fun md => wE G md x)) :
    Snd X (.Call (.Attribute po "get" ap) [pk, px] [] cp) (fun md => wE G md (.dget o k x)) := by
  have hp : [pk, px].all plainE = true := by simp [h1, h2]
  refine mkPure (w0 := fun ρ Q => wE G (.t 1) o ρ fun d => ∃ kvs, d = .dict kvs ∧ wE G (.t 0) k ρ fun y => wE G (.t 0) x ρ fun z => keyD y = true ∧ uniD (kvs.map (·.1)) y = true ∧ Q ((dget kvs y).getD z))
    (pe_w (pe_bmy ty_do PySem.F.plainAttrs_dict PySem.F.slot_dict_get PySem.F.type_dict_get (mt_get_do (by have := dx.room.un; omega)) (ho.n 1) (pa_cons (hk.n 0) (pa_cons (hx.n 0) pa_nil (star_cons h2)) (star_cons h1)) (base_id hs) (few_of hp (show 2 < 20 by decide)) hl (star_cons h1) (star_any (by simp [h2])))
      fun σ H Z ⟨F0, H0, F, ρ, Q, rr, hw, kz⟩ => ?_) (fun _ => rfl)
  refine ⟨F0, H0, F, ρ, _, rr, hw, fun v F1 H1 d e1 s1 q1 ⟨kvs, hd, hw1⟩ => ?_⟩
  subst hd
  obtain ⟨a, es, rfl, ha, p⟩ := q1.dict s1
  refine ⟨⟨a, es, rfl, ha⟩, F0, H0, F1, ρ, _, rr.go e1 s1, hw1, fun y F2 H2 dy e2 s2 q2 hw2 => ⟨F0, H0, F2, ρ, _, (rr.go e1 s1).go e2 s2, hw2, fun z F3 H3 dz e3 s3 q3 ⟨hky, hun, hq⟩ => ?_⟩⟩
  obtain ⟨n, hn⟩ := keyD_nk hky
  have e23 := e2.trans e3
  have p3 := pdc_imp e23.f (fun _ _ (z : Rp _ _ _ _) => dp_m z e23.f) p
  refine ⟨a, es, n, y, z, rfl, rfl, ⟨F3, _, dy, s3, e23.h _ _ ha, pdc_keys p3, dp_m q2 e3.f, ⟨hn, hky⟩, hun⟩, ?_⟩
  rcases pdc_get hn p3 with ⟨g1, g2⟩ | ⟨u, du, g1, g2, g3⟩
  · rw [g1]
    rw [g2] at hq
    exact kz z F3 H3 dz (e1.trans e23) s3 q3 hq
  · rw [g1]
    rw [g2] at hq
    exact kz u F3 H3 du (e1.trans e23) s3 g3 hq
theorem snd_lrg {a : E} {pa : Expr} {p q p2 q2 : Pos} (dx : DX X C G sc) (hg : glB sc "range" = true) (hm : C.bl.contains "range" = true) (hg2 : glB sc "list" = true) (hm2 : C.bl.contains "list" = true) (hp : plainE pa = true) (h : Snd X pa (fun md => wE G md a)) :
    Snd X (.Call (.Name "list" p2) [.Call (.Name "range" p) [pa] [] q] [] q2) (fun md => wE G md (.lrg a)) := by
  obtain ⟨g1, g2⟩ := dx.gl hg
  obtain ⟨g3, g4⟩ := dx.gl hg2
  refine mkList (wl := fun ρ Q => wE G (.t 0) a ρ fun d => ∃ j, d = .int j ∧ (-(2 ^ 62) ≤ j ∧ j ≤ 16777216) ∧ Q ((List.range j.toNat).map fun (k : Nat) => .int k))
    (pe_w (pe_listRg dx.calm g3 (dx.bl _ hm2) (prg_1 g1 (dx.bl _ hm) (h.n 0) (star_cons hp))) fun σ H Z ⟨F0, H0, F, ρ, Q, rr, hw, k⟩ => ?_) (fun _ => rfl)
  refine ⟨F0, H0, F, ρ, _, rr, hw, fun v F' H' d e s r ⟨j, hd, ⟨h1, h2⟩, hq⟩ => ?_⟩
  subst hd
  obtain rfl := sc_int r
  refine ⟨j, rfl, ⟨by omega, by omega, by omega, by omega, by omega⟩, fun q hq' => ?_⟩
  have hr : RpAll (kxOf X) F' (rgV 0 j) ((List.range j.toNat).map fun (k : Nat) => PyData.int k) := by
    unfold rgV
    rw [Int.sub_zero]
    generalize List.range j.toNat = l
    induction l with
    | nil => exact .nil
    | cons x l ih =>
      rw [List.map_cons, List.map_cons]
      refine .cons ?_ ih
      rw [Int.zero_add]; exact .int _
  obtain ⟨e2, s2, f⟩ := dy_lst s hq' hr
  exact k _ _ _ _ (e.trans e2) s2 ((show FreC (kxOf X) H' F' _ _ _ from .inl ⟨_, rfl, f⟩).free e.h) hq
end
end PD

set_option maxHeartbeats 2000000
namespace PD
open PySem PySem.Spec PyProof.Rows L2

section
variable {X : Cx} {C : Ck} {G : Gb} {sc : Scope}

/-! ### argument lists, displays, calls -/
theorem pas_nil {n : Nat} : PA X [] (tAs (kxOf X) n (wEs G n .nil)) := pa_w pa_nil fun σ H Z ⟨F0, H0, F, ρ, Q, rr, hw, k⟩ => k [] F H [] (Ext.refl F H) rr.sub .nil hw
theorem pas_cons {n : Nat} {e : E} {es : Es} {pe : Expr} {pes : List Expr} (hp : plainE pe = true) (h : Snd X pe (fun md => wE G md e)) (hr : PA X pes (tAs (kxOf X) n (wEs G n es))) : PA X (pe :: pes) (tAs (kxOf X) n (wEs G n (.cons e es))) :=
  pa_w (pa_cons (h.n n) hr (star_cons hp)) fun σ H Z ⟨F0, H0, F, ρ, Q, rr, hw, k⟩ => by
    have hw : wE G (.t n) e ρ fun d => wEs G n es ρ fun ds => Q (d :: ds) := hw
    exact ⟨F0, H0, F, ρ, _, rr, hw, fun v F1 H1 d e1 s1 q1 h1 => ⟨F0, H0, F1, ρ, _, rr.go e1 s1, h1, fun vs F2 H2 ds e2 s2 p2 h2 => k (v :: vs) F2 H2 (d :: ds) (e1.trans e2) s2 (.cons (q1.mono e2.f e2.h) p2) h2⟩⟩
theorem snd_tup {es : Es} {pes : List Expr} {j : Nat} {p : Pos} (h : PA X pes (tAs (kxOf X) 0 (wEs G 0 es))) : Snd X (.Tuple pes j p) (fun md => wE G md (.tup es)) := by
  refine mkPure (w0 := fun ρ Q => wEs G 0 es ρ fun ds => ds.length ≤ sizeLine ∧ Q (.tuple ds)) (pe_w (pe_tup h) fun σ H Z ⟨F0, H0, F, ρ, Q, rr, hw, k⟩ => ?_) (fun _ => rfl)
  refine ⟨F0, H0, F, ρ, _, rr, hw, fun vs F' H' ds e s p ⟨hz, hq⟩ => ⟨by rw [paired_len p]; exact hz, fun q hq' => ?_⟩⟩
  obtain ⟨e2, s2, q2⟩ := dy_tup (xs := vs) (ds := ds) s hq' (ra_of p)
  exact k _ _ _ _ (e.trans e2) s2 q2 hq
theorem snd_lst {es : Es} {pes : List Expr} {p : Pos} (h : PA X pes (tAs (kxOf X) 0 (wEs G 0 es))) : Snd X (.List pes p) (fun md => wE G md (.lst es)) := by
  refine mkList (wl := fun ρ Q => wEs G 0 es ρ fun ds => ds.length ≤ sizeLine ∧ Q ds) (pe_w (pe_lst h) fun σ H Z ⟨F0, H0, F, ρ, Q, rr, hw, k⟩ => ?_) (fun _ => rfl)
  refine ⟨F0, H0, F, ρ, _, rr, hw, fun vs F' H' ds e s p ⟨hz, hq⟩ => ⟨by rw [paired_len p]; exact hz, fun q hq' => ?_⟩⟩
  obtain ⟨e2, s2, a, xs, e3, g1, g2⟩ := dy_lst (xs := vs) (ds := ds) s hq' (ra_of p)
  exact k _ _ _ _ (e.trans e2) s2 (.inl ⟨ds, rfl, a, xs, e3, Same.free e.h g1, g2⟩) hq
theorem snd_call {j : Nat} {es : Es} {x : Str} {pes : List Expr} {p q : Pos} (dx : DX X C G sc) (hf : C.fnN j = some x) (hg : glB sc x = true) (ho : okEs C sc es pes = true) (h : PA X pes (tAs (kxOf X) 0 (wEs G 0 es))) :
    Snd X (.Call (.Name x p) pes [] q) (fun md => wE G md (.call j es)) := by
  have hp := okEs_all ho
  obtain ⟨a, fd, ps, lv, dvl, dvs, dd, f0, m1, m2, m3, mv, md, m4, m5, sh⟩ := (dx.fn j x hf).ex
  obtain ⟨g1, g2⟩ := dx.gl hg
  refine mkPure (w0 := fun ρ Q => wEs G 0 es ρ fun ds => (G.fn j).pre ds ∧ ∀ d, (G.fn j).post ds d → Q d) ?_ (fun _ => rfl)
  have go : ∀ (vs : List V) (F' H' : Hp) (ds : List D) (Z : VK) {F H : Hp} {Q : D → Prop}, Ext F H F' H' → Same F' H' → Paired (Res (kxOf X) F' H' 0) vs ds → ((G.fn j).pre ds ∧ ∀ d, (G.fn j).post ds d → Q d) →
      (∀ v F' H' d, Ext F H F' H' → Same F' H' → Rp (kxOf X) F' v d → Q d → Z v H') → spD (kxOf X) f0 (vs ++ dvs) H' Z E0 := by
    intro vs F' H' ds Z F H Q e s p ⟨h1, h2⟩ k
    obtain ⟨h3, h4⟩ := sh ds h1
    exact ⟨F', ds ++ dd, s, da_app (ra_of p) (md F'), h3, fun d v F'' H'' hd e2 s2 q2 => k v F'' H'' d (e.trans e2) s2 q2 (h2 d (h4 d hd))⟩
  cases pes with
  | nil =>
    refine pe_w (pe_call0 m4 m5 g1 m1 m2 m3 mv pass0 g2) fun σ H Z ⟨F0, H0, F, ρ, Q, rr, hw, k⟩ => ?_
    cases es with
    | nil =>
      have hw : (G.fn j).pre [] ∧ ∀ d, (G.fn j).post [] d → Q d := hw
      exact go [] F H [] Z (Ext.refl F H) rr.sub .nil hw k
    | cons e es => simp [okEs] at ho
  | cons pe pr =>
    rw [List.all_cons, Bool.and_eq_true] at hp
    refine pe_w (pe_call m4 m5 g1 m1 m2 m3 mv pass0 h g2 (star_cons hp.1) (star_any hp.2)) fun σ H Z ⟨F0, H0, F, ρ, Q, rr, hw, k⟩ => ?_
    exact ⟨F0, H0, F, ρ, _, rr, hw, fun vs F' H' ds e s p hq => go vs F' H' ds Z e s p hq k⟩
/-- the keywords' values -/
theorem pk_nil0 {n : Nat} : PK X [] (tAs (kxOf X) n (wEs G n .nil)) := ⟨fun pos pins s σ H Q I ⟨F0, H0, F, ρ, Q2, rr, hw, k⟩ => pk_nil.run pos pins s σ H Q I (k [] F H [] (Ext.refl F H) rr.sub .nil hw)⟩
theorem pk_cons0 {n : Nat} {e : E} {es : Es} {nm : Option Str} {pe : Expr} {kp : Pos} {kws : List Keyword} (h : Snd X pe (fun md => wE G md e)) (hr : PK X kws (tAs (kxOf X) n (wEs G n es))) : PK X (⟨nm, pe, kp⟩ :: kws) (tAs (kxOf X) n (wEs G n (.cons e es))) :=
  ⟨fun pos pins s σ H Z I ⟨F0, H0, F, ρ, Q, rr, hw, k⟩ => (pk_cons (h.n n) hr).run pos pins s σ H Z I (by
    have hw : wE G (.t n) e ρ fun d => wEs G n es ρ fun ds => Q (d :: ds) := hw
    exact ⟨F0, H0, F, ρ, _, rr, hw, fun v F1 H1 d e1 s1 q1 h1 => ⟨F0, H0, F1, ρ, _, rr.go e1 s1, h1, fun vs F2 H2 ds e2 s2 p2 h2 => k (v :: vs) F2 H2 (d :: ds) (e1.trans e2) s2 (.cons (q1.mono e2.f e2.h) p2) h2⟩⟩)⟩
theorem kw_map {env : PySem.Env} {pos : Pos} {kws : List Keyword} : (backToKw pos (keywordEach kws env)).map (·.1) = kws.map (·.arg) := by
  induction kws with
  | nil => rfl
  | cons k kws ih =>
    cases k with
    | mk a v p =>
      show a :: (backToKw pos (keywordEach kws env)).map (·.1) = _
      rw [ih]; rfl
theorem snd_callk {j n : Nat} {es kes : Es} {ks : List Str} {x : Str} {pes : List Expr} {kws : List Keyword} {p q : Pos} (dx : DX X C G sc) (hf : C.fnK j = some (x, n, ks)) (hg : glB sc x = true) (hn : kws.map (·.arg) = ks.map some) (he : pes ≠ [])
    (ho : okEs C sc es pes = true) (h : PA X pes (tAs (kxOf X) 0 (wEs G 0 es))) (hz : PK X kws (tAs (kxOf X) 0 (wEs G 0 kes))) :
    Snd X (.Call (.Name x p) pes kws q) (fun md => wE G md (.callk j n es ks kes)) := by
  have hp := okEs_all ho
  obtain ⟨a, fd, ps, lv, m1, m2, m3, m4, m5⟩ := (dx.fk j x n ks hf).ex
  obtain ⟨g1, g2⟩ := dx.gl hg
  refine mkPure (w0 := fun ρ Q => wEs G 0 es ρ fun ds => wEs G 0 kes ρ fun zs => (ds.length = n ∧ zs.length = ks.length) ∧ (G.fn j).pre (ds ++ zs) ∧ ∀ d, (G.fn j).post (ds ++ zs) d → Q d) ?_ (fun _ => rfl)
  cases pes with
  | nil => exact absurd rfl he
  | cons pe pr =>
    rw [List.all_cons, Bool.and_eq_true] at hp
    have a1 : (backToKw q (keywordEach kws X.env)).filterMap (·.1) = ks := by
      have : ∀ (l : List (Option Str × Sem Value)) (ks : List Str), l.map (·.1) = ks.map some → l.filterMap (·.1) = ks := by
        intro l
        induction l with
        | nil => intro ks e; cases ks with | nil => rfl | cons _ _ => cases e
        | cons y l ih =>
          intro ks e
          cases ks with
          | nil => cases e
          | cons k ks =>
            rw [List.map_cons, List.map_cons] at e
            have e1 := (List.cons.inj e).1
            rw [List.filterMap_cons, e1]
            show k :: _ = _
            rw [ih ks (List.cons.inj e).2]
      exact this _ _ (kw_map.trans hn)
    have a2 : (backToKw q (keywordEach kws X.env)).all (·.1.isSome) = true := by
      have : ∀ (l : List (Option Str × Sem Value)) (ks : List Str), l.map (·.1) = ks.map some → l.all (·.1.isSome) = true := by
        intro l
        induction l with
        | nil => intro ks e; rfl
        | cons y l ih =>
          intro ks e
          cases ks with
          | nil => cases e
          | cons k ks =>
            rw [List.map_cons, List.map_cons] at e
            have e1 := (List.cons.inj e).1
            rw [List.all_cons, e1, ih ks (List.cons.inj e).2]; rfl
      exact this _ _ (kw_map.trans hn)
    have a3 : (backToKw q (keywordEach kws X.env)).any (·.1.isNone) = false := by
      rw [List.any_eq_false]
      intro y hy
      have := List.all_eq_true.mp a2 y hy
      cases e : y.1 with
      | none => rw [e] at this; cases this
      | some _ => simp
    have a4 : ((backTo q (starEach (pe :: pr) X.env)).any (·.1) || (backToKw q (keywordEach kws X.env)).any (·.1.isNone)) = false := by
      rw [a3, star_any (by rw [List.all_cons, hp.1, hp.2]; rfl)]; rfl
    refine pe_w (pe_callN m4 m5 g1 m1 m2 m3 pass0 h hz a2 a1 g2 (star_cons hp.1) a4) fun σ H Z ⟨F0, H0, F, ρ, Q, rr, hw, k⟩ => ?_
    refine ⟨F0, H0, F, ρ, _, rr, hw, fun vs F1 H1 ds e1 s1 p1 h1 => ⟨F0, H0, F1, ρ, _, rr.go e1 s1, h1, fun zs F2 H2 es2 e2 s2 p2 ⟨⟨l1, l2⟩, h2, h3⟩ => ?_⟩⟩
    have p1' : Paired (Res (kxOf X) F2 H2 0) vs ds := paired_imp (fun _ _ q => q.mono e2.f e2.h) p1
    exact ⟨(paired_len p1).trans l1, (paired_len p2).trans l2, F2, ds ++ es2, s2, da_app (ra_of p1') (ra_of p2), h2, fun d v F3 H3 hd e3 s3 q3 => k v F3 H3 d ((e1.trans e2).trans e3) s3 q3 (h3 d hd)⟩

/-! ### built-in functions and types -/
theorem pair_ints {K : Kx} {F H : Hp} {n : Nat} : ∀ {xs : List V} {ns : List Int}, Paired (Res K F H n) xs (ns.map PyData.int) → xs = ns.map V.int
  | _, [], .nil => rfl
  | _, m :: ns, .cons (a := x) h t => by
    obtain rfl := sc_int h
    rw [pair_ints t]; rfl
theorem pair_strs {K : Kx} {F H : Hp} {n : Nat} : ∀ {xs : List V} {ns : List Str}, Paired (Res K F H n) xs (ns.map PyData.str) → xs = ns.map V.str
  | _, [], .nil => rfl
  | _, m :: ns, .cons (a := x) h t => by
    obtain rfl := sc_str h
    rw [pair_strs t]; rfl
theorem pair1 {K : Kx} {F H : Hp} {n : Nat} {vs : List V} {d : D} (p : Paired (Res K F H n) vs [d]) : ∃ v, vs = [v] ∧ Res K F H n v d := by
  cases p with
  | cons h t => cases t; exact ⟨_, rfl, h⟩
theorem pair2 {K : Kx} {F H : Hp} {n : Nat} {vs : List V} {d e : D} (p : Paired (Res K F H n) vs [d, e]) : ∃ v w, vs = [v, w] ∧ Res K F H n v d ∧ Res K F H n w e := by
  cases p with
  | cons h t =>
    cases t with
    | cons h2 t => cases t; exact ⟨_, _, rfl, h, h2⟩
theorem pair3 {K : Kx} {F H : Hp} {n : Nat} {vs : List V} {d e f : D} (p : Paired (Res K F H n) vs [d, e, f]) : ∃ v w x, vs = [v, w, x] ∧ Res K F H n v d ∧ Res K F H n w e ∧ Res K F H n x f := by
  cases p with
  | cons h t =>
    cases t with
    | cons h2 t =>
      cases t with
      | cons h3 t => cases t; exact ⟨_, _, _, rfl, h, h2, h3⟩
/-- what a call by values needs -/
def Cl1 (K : Kx) (n : Nat) (r : List V → Hp → VK → Prop) (w : List D → (D → Prop) → Prop) : Prop :=
  ∀ F H vs ds Q, Same F H → Paired (Res K F H n) vs ds → w ds Q → ∀ Z : VK, (∀ v F' H' d, Ext F H F' H' → Same F' H' → Dyn K H F' H' v d → Q d → Z v H') → r vs H Z
theorem cl_len {K : Kx} : Cl1 K 2 (fun xs H Q => (∃ x n, xs = [x] ∧ LenV K x H n ∧ Q (.int n) H) ∨ ∃ a es, xs = [.ref a] ∧ KDk K H a es ∧ Q (.int es.length) H) (wBl .len) := by
  intro F H vs ds Q s p hw Z k
  have fin : ∀ n : Nat, Q (.int n) → Z (.int n) H := fun n hq => k _ F H _ (Ext.refl F H) s (.inr ⟨rfl, Rp.int _⟩) hq
  match ds, hw with
  | [.list xs], hw =>
    obtain ⟨v, rfl, r⟩ := pair1 p
    obtain ⟨a, ys, rfl, h1, p1⟩ := r.list s
    exact .inl ⟨_, ys.length, rfl, .inl ⟨ys, h1, rfl⟩, by rw [paired_len p1]; exact fin _ hw⟩
  | [.tuple xs], hw =>
    obtain ⟨v, rfl, r⟩ := pair1 p
    obtain ⟨a, ys, rfl, h1, p1⟩ := sc_tup r
    exact .inl ⟨_, ys.length, rfl, .inr ⟨ys, sqT_mono s h1, rfl⟩, by rw [da_len p1]; exact fin _ hw⟩
  | [.str x], hw =>
    obtain ⟨v, rfl, r⟩ := pair1 p
    obtain rfl := sc_str r
    exact .inl ⟨_, x.length, rfl, ⟨hw.1, rfl⟩, fin _ hw.2⟩
  | [.dict kvs], hw =>
    obtain ⟨v, rfl, r⟩ := pair1 p
    obtain ⟨a, es, rfl, ha, p1⟩ := r.dict s
    exact .inr ⟨a, es, rfl, ⟨F, _, s, ha, pdc_keys p1⟩, by rw [paired_len p1]; exact fin _ hw⟩
theorem cl_int {K : Kx} : Cl1 K 1 (fun xs H Q => (∃ i, xs = [.int i] ∧ Q (.int i) H) ∨ ∃ k, xs = [.bl k] ∧ Q (.int (if k then 1 else 0)) H) (wBl .int) := by
  intro F H vs ds Q s p hw Z k
  have fin : ∀ n : Int, Q (.int n) → Z (.int n) H := fun n hq => k _ F H _ (Ext.refl F H) s (.inr ⟨rfl, Rp.int _⟩) hq
  match ds, hw with
  | [.int i], hw =>
    obtain ⟨v, rfl, r⟩ := pair1 p
    obtain rfl := sc_int r
    exact .inl ⟨i, rfl, fin _ hw⟩
  | [.bool i], hw =>
    obtain ⟨v, rfl, r⟩ := pair1 p
    obtain rfl := sc_bl r
    exact .inr ⟨i, rfl, fin _ hw⟩
theorem cl_str {K : Kx} : Cl1 K 1 (fun xs H Q => ∃ i, xs = [.int i] ∧ i.natAbs.log2 < 1920 ∧ Q (.str (toString i)) H) (wBl .str) := by
  intro F H vs ds Q s p hw Z k
  match ds, hw with
  | [.int i], hw =>
    obtain ⟨v, rfl, r⟩ := pair1 p
    obtain rfl := sc_int r
    exact ⟨i, rfl, hw.1, k _ F H _ (Ext.refl F H) s (.inr ⟨rfl, Rp.str _⟩) hw.2⟩
theorem cl_abs {K : Kx} : Cl1 K 1 (fun xs H Q => ∃ i, xs = [.int i] ∧ Q (.int (if i < 0 then -i else i)) H) (wBl .abs) := by
  intro F H vs ds Q s p hw Z k
  match ds, hw with
  | [.int i], hw =>
    obtain ⟨v, rfl, r⟩ := pair1 p
    obtain rfl := sc_int r
    exact ⟨i, rfl, k _ F H _ (Ext.refl F H) s (.inr ⟨rfl, Rp.int _⟩) hw⟩
theorem cl_max {K : Kx} : Cl1 K 1 (fun xs H Q => (∃ i j, xs = [.int i, .int j] ∧ Q (.int (if j > i then j else i)) H) ∨ rMax K xs H Q) (wBl .max) := by
  intro F H vs ds Q s p hw Z k
  match ds, hw with
  | [.int i, .int j], hw =>
    obtain ⟨v, w, rfl, r, r2⟩ := pair2 p
    obtain rfl := sc_int r
    obtain rfl := sc_int r2
    exact .inl ⟨i, j, rfl, k _ F H _ (Ext.refl F H) s (.inr ⟨rfl, Rp.int _⟩) hw⟩
  | [.list xs], hw =>
    obtain ⟨ns, e0, hne, hw⟩ := hw
    subst e0
    obtain ⟨v, rfl, r⟩ := pair1 p
    obtain ⟨a, ys, rfl, h1, p1⟩ := r.list s
    have e := pair_ints p1
    subst e
    exact .inr ⟨a, ns, rfl, h1, by cases ns with | nil => exact absurd rfl hne | cons _ _ => exact Nat.zero_lt_succ _, fun m hm hall => k _ F H _ (Ext.refl F H) s (.inr ⟨rfl, Rp.int _⟩) (hw m hm hall)⟩
theorem cl_min {K : Kx} : Cl1 K 1 (fun xs H Q => (∃ i j, xs = [.int i, .int j] ∧ Q (.int (if j < i then j else i)) H) ∨ rMin K xs H Q) (wBl .min) := by
  intro F H vs ds Q s p hw Z k
  match ds, hw with
  | [.int i, .int j], hw =>
    obtain ⟨v, w, rfl, r, r2⟩ := pair2 p
    obtain rfl := sc_int r
    obtain rfl := sc_int r2
    exact .inl ⟨i, j, rfl, k _ F H _ (Ext.refl F H) s (.inr ⟨rfl, Rp.int _⟩) hw⟩
  | [.list xs], hw =>
    obtain ⟨ns, e0, hne, hw⟩ := hw
    subst e0
    obtain ⟨v, rfl, r⟩ := pair1 p
    obtain ⟨a, ys, rfl, h1, p1⟩ := r.list s
    have e := pair_ints p1
    subst e
    exact .inr ⟨a, ns, rfl, h1, by cases ns with | nil => exact absurd rfl hne | cons _ _ => exact Nat.zero_lt_succ _, fun m hm hall => k _ F H _ (Ext.refl F H) s (.inr ⟨rfl, Rp.int _⟩) (hw m hm hall)⟩
theorem cl_sum {K : Kx} : Cl1 K 1 (rSum K) (wBl .sum) := by
  intro F H vs ds Q s p hw Z k
  match ds, hw with
  | [.list xs], hw =>
    obtain ⟨ns, e0, hw⟩ := hw
    subst e0
    obtain ⟨v, rfl, r⟩ := pair1 p
    obtain ⟨a, ys, rfl, h1, p1⟩ := r.list s
    have e := pair_ints p1
    subst e
    exact ⟨a, ns, rfl, h1, k _ F H _ (Ext.refl F H) s (.inr ⟨rfl, Rp.int _⟩) hw⟩
theorem cl_tuple {K : Kx} : Cl1 K 1 (fun xs H Q => ∃ p ys, xs = [.ref p] ∧ ((SqL K H p ys ∧ ∀ l, H l = none → Q (.ref l) (upd H l (.tup ys))) ∨ (SqT K H p ys ∧ Q (.ref p) H))) (wBl .tuple) := by
  intro F H vs ds Q s p hw Z k
  match ds, hw with
  | [.list xs], hw =>
    obtain ⟨v, rfl, r⟩ := pair1 p
    obtain ⟨a, ys, rfl, h1, p1⟩ := r.list s
    refine ⟨a, ys, rfl, .inl ⟨h1, fun l hl => ?_⟩⟩
    obtain ⟨e2, s2, q2⟩ := dy_tup (xs := ys) (ds := xs) s hl (ra_of p1)
    exact k _ _ _ _ e2 s2 (.inr ⟨rfl, q2⟩) hw
  | [.tuple xs], hw =>
    obtain ⟨v, rfl, r⟩ := pair1 p
    obtain ⟨a, ys, rfl, h1, p1⟩ := sc_tup r
    exact ⟨a, ys, rfl, .inr ⟨sqT_mono s h1, k _ F H _ (Ext.refl F H) s (.inr ⟨rfl, Rp.tup h1 p1⟩) hw⟩⟩
theorem pair_bools {K : Kx} {F H : Hp} {n : Nat} : ∀ {xs : List V} {bs : List Bool}, Paired (Res K F H n) xs (bs.map PyData.bool) → xs = bs.map V.bl
  | _, [], .nil => rfl
  | _, m :: bs, .cons (a := x) h t => by
    obtain rfl := sc_bl h
    rw [pair_bools t]; rfl
theorem cl_all {K : Kx} : Cl1 K 1 (rAll K) (wBl .all) := by
  intro F H vs ds Q s p hw Z k
  match ds, hw with
  | [.list xs], ⟨bs, e0, hw⟩ =>
    subst e0
    obtain ⟨v, rfl, r⟩ := pair1 p
    obtain ⟨a, ys, rfl, h1, p1⟩ := r.list s
    have e := pair_bools p1
    subst e
    exact ⟨a, bs, rfl, h1, k _ F H _ (Ext.refl F H) s (.inr ⟨rfl, Rp.bl _⟩) hw⟩
theorem cl_any {K : Kx} : Cl1 K 1 (rAny K) (wBl .any) := by
  intro F H vs ds Q s p hw Z k
  match ds, hw with
  | [.list xs], ⟨bs, e0, hw⟩ =>
    subst e0
    obtain ⟨v, rfl, r⟩ := pair1 p
    obtain ⟨a, ys, rfl, h1, p1⟩ := r.list s
    have e := pair_bools p1
    subst e
    exact ⟨a, bs, rfl, h1, k _ F H _ (Ext.refl F H) s (.inr ⟨rfl, Rp.bl _⟩) hw⟩
theorem rpk_ra {K : Kx} {F : Hp} : ∀ {es : List Ent} {ks : List D}, RpK K F es ks → RpAll K F (es.map (·.2.1)) ks
  | _, _, .nil => .nil
  | _, _, .cons h _ t => .cons h (rpk_ra t)
theorem cl_sorted {K : Kx} : Cl1 K 1 (rSortA K) (wBl .sorted) := by
  intro F H vs ds Q s p hw Z k
  match ds, hw with
  | [.list xs], ⟨⟨c1, c2, c3, c4⟩, hw⟩ =>
    obtain ⟨v, rfl, r⟩ := pair1 p
    obtain ⟨a, ys, rfl, h1, p1⟩ := r.list s
    refine ⟨_, F, ys, xs, rfl, s, .inl ⟨a, rfl, h1⟩, ra_of p1, c1, c2, c3, c4, fun q zs hq hz => ?_⟩
    obtain ⟨e2, s2, f⟩ := dy_lst (xs := zs) s hq hz
    exact k _ _ _ _ e2 s2 (.inl (.inl ⟨_, rfl, f⟩)) hw
  | [.dict kvs], ⟨⟨c1, c2, c3, c4⟩, hw⟩ =>
    obtain ⟨v, rfl, r⟩ := pair1 p
    obtain ⟨a, es, rfl, ha, p1⟩ := r.dict s
    refine ⟨_, F, _, _, rfl, s, .inr ⟨a, es, rfl, ha, rfl⟩, rpk_ra (pdc_keys p1), c1, c2, c3, c4, fun q zs hq hz => ?_⟩
    obtain ⟨e2, s2, f⟩ := dy_lst (xs := zs) s hq hz
    exact k _ _ _ _ e2 s2 (.inl (.inl ⟨_, rfl, f⟩)) hw
/-- list(text) -/
theorem call_list_chars {X : Cx} (hc : X.calm = true) : CallR X (.type "list") (fun xs H Q => ∃ z : Str, xs = [.str z] ∧ z.cps.size ≤ sizeLine ∧ ∀ p, H p = none → Q (.ref p) (upd H p (.lst (chars z)))) := by
  intro pins s σ H xs us Q I r ⟨z, ex, hz, q⟩
  subst ex
  obtain ⟨u, rfl, rx⟩ := r.one
  obtain ⟨t, rfl⟩ := rx
  refine call_list_str (hn := hz) (I.ok.hd hc) z t fun h' tk acc' c' hk hS hacc => ?_
  have hl : (chars z).length = z.cps.size := by unfold chars; rw [List.length_map, Array.length_toList]
  refine ⟨.ref s.heap.objs.size, _, I.laid hk (Nat.le_refl _) (show ObjOk X.prog X.w _ _ _ (.lst (chars z)) from ⟨by rw [hl]; exact hz, acc'.toList, c', vals_of_at (by rw [hl, Array.length_toList, hacc.1]) fun j x u e1 e2 => ?_, by rw [Array.toArray_toList]; exact hS⟩), rfl, q _ (I.hok.fresh (Nat.le_refl _))⟩
  obtain ⟨c, tk', m1, m2⟩ := hacc.2 j u (by rw [← Array.getElem?_toList]; exact e2)
  unfold chars at e1
  rw [List.getElem?_map, Array.getElem?_toList, m1] at e1
  cases e1
  exact ⟨tk', m2⟩
theorem chars_ra {K : Kx} {F : Hp} (z : Str) : RpAll K F (chars z) (z.cps.toList.map fun c => PyData.str ⟨#[c]⟩) := by
  unfold chars
  generalize z.cps.toList = l
  induction l with
  | nil => exact .nil
  | cons c l ih => exact .cons (.str _) ih
theorem cl_list {X : Cx} : Cl1 (kxOf X) 1 (fun xs H Q => (∃ p ys, xs = [.ref p] ∧ (SqL (kxOf X) H p ys ∨ SqT (kxOf X) H p ys) ∧ ∀ l, H l = none → Q (.ref l) (upd H l (.lst ys))) ∨
    ((∃ a es, xs = [.ref a] ∧ H a = some (DO X.prog X.w a es) ∧ ∀ p, H p = none → Q (.ref p) (upd H p (.lst (es.map (·.2.1))))) ∨ ∃ z : Str, xs = [.str z] ∧ z.cps.size ≤ sizeLine ∧ ∀ p, H p = none → Q (.ref p) (upd H p (.lst (chars z))))) (wBl .list) := by
  intro F H vs ds Q s p hw Z k
  match ds, hw with
  | [.list xs], hw =>
    obtain ⟨v, rfl, r⟩ := pair1 p
    obtain ⟨a, ys, rfl, h1, p1⟩ := r.list s
    refine .inl ⟨a, ys, rfl, .inl h1, fun l hl => ?_⟩
    obtain ⟨e2, s2, f⟩ := dy_lst (xs := ys) (ds := xs) s hl (ra_of p1)
    exact k _ _ _ _ e2 s2 (.inl (.inl ⟨_, rfl, f⟩)) hw
  | [.tuple xs], hw =>
    obtain ⟨v, rfl, r⟩ := pair1 p
    obtain ⟨a, ys, rfl, h1, p1⟩ := sc_tup r
    refine .inl ⟨a, ys, rfl, .inr (sqT_mono s h1), fun l hl => ?_⟩
    obtain ⟨e2, s2, f⟩ := dy_lst (xs := ys) (ds := xs) s hl p1
    exact k _ _ _ _ e2 s2 (.inl (.inl ⟨_, rfl, f⟩)) hw
  | [.dict kvs], hw =>
    obtain ⟨v, rfl, r⟩ := pair1 p
    obtain ⟨a, es, rfl, ha, p1⟩ := r.dict s
    refine .inr (.inl ⟨a, es, rfl, ha, fun l hl => ?_⟩)
    obtain ⟨e2, s2, f⟩ := dy_lst s hl (rpk_ra (pdc_keys p1))
    exact k _ _ _ _ e2 s2 (.inl (.inl ⟨_, rfl, f⟩)) hw
  | [.str z], hw =>
    obtain ⟨v, rfl, r⟩ := pair1 p
    obtain rfl := sc_str r
    refine .inr (.inr ⟨z, rfl, hw.1, fun l hl => ?_⟩)
    obtain ⟨e2, s2, f⟩ := dy_lst s hl (chars_ra z)
    exact k _ _ _ _ e2 s2 (.inl (.inl ⟨_, rfl, f⟩)) hw.2
theorem dyn_ext {K : Kx} {F H F1 H1 F' H' : Hp} {v : V} {d : D} (e : Ext F H F1 H1) (q : Dyn K H1 F' H' v d) : Dyn K H F' H' v d := q.free e.h
theorem snd_blt {b : Bl} {es : Es} {pes : List Expr} {p q : Pos} (dx : DX X C G sc) (hg : glB sc b.nm = true) (hm : C.bl.contains b.nm = true) (hn : pes ≠ []) (ho : okEs C sc es pes = true) (h : PA X pes (tAs (kxOf X) (bLv b + 1) (wEs G (bLv b + 1) es))) :
    Snd X (.Call (.Name b.nm p) pes [] q) (fun md => wE G md (.blt b es)) := by
  have hp := okEs_all ho
  obtain ⟨g1, g2⟩ := dx.gl hg
  have hmg := dx.bl _ hm
  cases pes with
  | nil => exact absurd rfl hn
  | cons pe pr =>
    rw [List.all_cons, Bool.and_eq_true] at hp
    have go : ∀ (r : List V → Hp → VK → Prop), Cl1 (kxOf X) (bLv b + 1) r (wBl b) → PE X (.Call (.Name b.nm p) (pe :: pr) [] q) (tCB r (tAs (kxOf X) (bLv b + 1) (wEs G (bLv b + 1) es))) → Snd X (.Call (.Name b.nm p) (pe :: pr) [] q) (fun md => wE G md (.blt b es)) := fun r hr hpe =>
      mkDyn (w0 := fun ρ Q => wEs G (bLv b + 1) es ρ fun ds => wBl b ds Q) (pe_w hpe fun σ H Z ⟨F0, H0, F, ρ, Q, rr, hw, k⟩ =>
        ⟨F0, H0, F, ρ, _, rr, hw, fun vs F' H' ds e s pp hq => hr F' H' vs ds Q s pp hq Z fun v F'' H'' d e2 s2 q2 hd => k v F'' H'' d (e.trans e2) s2 (dyn_ext e q2) hd⟩) (fun _ => rfl)
    have B : ∀ {id : String} {r : List V → Hp → VK → Prop}, CallR X (.builtin id) r → bootBuiltins b.nm = some (.builtin id) → b.nm ≠ "__name__" → PE X (.Call (.Name b.nm p) (pe :: pr) [] q) (tCB r (tAs (kxOf X) (bLv b + 1) (wEs G (bLv b + 1) es))) := fun hc hv h3 =>
      pe_callB hc g1 hmg hv h h3 g2 (star_cons hp.1) (star_any hp.2)
    have T : ∀ {id : String} {r : List V → Hp → VK → Prop}, CallR X (.type id) r → bootBuiltins b.nm = some (.type id) → b.nm ≠ "__name__" → PE X (.Call (.Name b.nm p) (pe :: pr) [] q) (tCB r (tAs (kxOf X) (bLv b + 1) (wEs G (bLv b + 1) es))) := fun hc hv h3 =>
      pe_callTy hc g1 hmg hv h h3 g2 (star_cons hp.1) (star_any hp.2)
    cases b with
    | len => exact go _ cl_len (B (call_len.or call_len_do) (by decide +kernel) (by decide +kernel))
    | int => exact go _ cl_int (T call_int1 (by decide +kernel) (by decide +kernel))
    | str => exact go _ cl_str (T call_str_int (by decide +kernel) (by decide +kernel))
    | tuple => exact go _ cl_tuple (T call_tuple_of (by decide +kernel) (by decide +kernel))
    | list => exact go _ cl_list (T (call_list_of.or ((call_list_do dx.calm).or (call_list_chars dx.calm))) (by decide +kernel) (by decide +kernel))
    | abs => exact go _ cl_abs (B call_abs (by decide +kernel) (by decide +kernel))
    | max => exact go _ cl_max (B ((call_max2 dx.calm).or (cr_max dx.calm)) (by decide +kernel) (by decide +kernel))
    | min => exact go _ cl_min (B ((call_min2 dx.calm).or (cr_min dx.calm)) (by decide +kernel) (by decide +kernel))
    | sum => exact go _ cl_sum (B (cr_sum dx.calm) (by decide +kernel) (by decide +kernel))
    | sorted => exact go _ cl_sorted (B (call_sortA dx.calm (by have := dx.room.un; omega)) (by decide +kernel) (by decide +kernel))
    | all => exact go _ cl_all (B (cr_all dx.calm) (by decide +kernel) (by decide +kernel))
    | any => exact go _ cl_any (B (cr_any dx.calm) (by decide +kernel) (by decide +kernel))

/-! ### isinstance -/
theorem ty_of {K : Kx} {F H : Hp} (s : Same F H) {n : Nat} {v : V} {d : D} (hd : noDc d = true) (r : Res K F H n v d) : TyX K H v (.type (tyN d)) := by
  cases d with
  | none => obtain rfl := sc_non r; exact .base .non
  | bool b => obtain rfl := sc_bl r; exact .base (.bl b)
  | int b => obtain rfl := sc_int r; exact .base (.int b)
  | str b => obtain rfl := sc_str r; exact .base (.str b)
  | list ds =>
    obtain ⟨a, xs, rfl, h, _⟩ := (res_up (Nat.le_succ n) r).list s
    rcases h with (h | ⟨o, h⟩) | ⟨o, its, m, h1, h2, _⟩
    · exact .base (.lst h)
    · exact .base (.frz h)
    · exact .kList h1 h2
  | tuple ds =>
    obtain ⟨a, xs, rfl, h, _⟩ := sc_tup r
    rcases sqT_mono s h with (h | ⟨o, h⟩) | ⟨o, its, m, h1, h2, _⟩
    · exact .base (.tup h)
    · exact .fTuple h
    · exact .kTuple h1 h2
  | dict kvs => cases hd
theorem kit_all (d : D) (t : String) (h : ["int", "bool", "str", "list", "tuple"].contains t = true) (hd : tyN d ≠ "dict") : kitB (tyN d) t = some (isOne d t) := by
  have ht : t = "int" ∨ t = "bool" ∨ t = "str" ∨ t = "list" ∨ t = "tuple" := by
    simp only [List.contains_cons, Bool.or_eq_true, beq_iff_eq, List.contains_nil, Bool.false_eq_true, or_false] at h
    exact h
  have hn : tyN d = "NoneType" ∨ tyN d = "bool" ∨ tyN d = "int" ∨ tyN d = "str" ∨ tyN d = "list" ∨ tyN d = "tuple" := by
    cases d <;> first | exact absurd rfl hd | (simp [tyN])
  unfold isOne
  generalize tyN d = n at hn
  rcases ht with rfl | rfl | rfl | rfl | rfl <;> rcases hn with rfl | rfl | rfl | rfl | rfl | rfl <;> decide +kernel
theorem typ_s {t : String} {pe : Expr} (dx : DX X C G sc) (h : typB C sc t pe = true) : PE X pe (tC (.ty t)) ∧ ["int", "bool", "str", "list", "tuple"].contains t = true := by
  unfold typB at h
  split at h
  · rename_i x e
    obtain ⟨p, rfl⟩ := asName_s e
    simp only [Bool.and_eq_true, decide_eq_true_eq] at h
    obtain ⟨⟨⟨rfl, h2⟩, h3⟩, h4⟩ := h
    obtain ⟨g1, g2⟩ := dx.gl h2
    have hm := dx.bl _ h3
    refine ⟨?_, h4⟩
    have ht : t = "int" ∨ t = "bool" ∨ t = "str" ∨ t = "list" ∨ t = "tuple" := by
      simp only [List.contains_cons, Bool.or_eq_true, beq_iff_eq, List.contains_nil, Bool.false_eq_true, or_false] at h4
      exact h4
    rcases ht with rfl | rfl | rfl | rfl | rfl
    all_goals exact pe_bltn (u := .type _) g1 hm (by decide +kernel) rfl (by decide +kernel) g2
  · cases h
theorem typs_s (dx : DX X C G sc) : ∀ {ts : List String} {pes : List Expr}, typsB C sc ts pes = true → pes.all plainE = true → PA X pes (fun σ H Z => Z (ts.map V.ty) H) ∧ ts.all (fun t => ["int", "bool", "str", "list", "tuple"].contains t) = true
  | [], [], _, _ => ⟨pa_nil, rfl⟩
  | t :: ts, pe :: pes, h, hp => by
    simp only [typsB, Bool.and_eq_true] at h
    rw [List.all_cons, Bool.and_eq_true] at hp
    obtain ⟨a1, a2⟩ := typ_s dx h.1
    obtain ⟨b1, b2⟩ := typs_s dx h.2 hp.2
    exact ⟨pa_w (pa_cons a1 b1 (star_cons hp.1)) fun σ H Z h => h, by rw [List.all_cons, a2, b2]; rfl⟩
  | [], _ :: _, h, _ => by simp [typsB] at h
  | _ :: _, [], h, _ => by simp [typsB] at h
theorem kits_all {K : Kx} (d : D) (hd : tyN d ≠ "dict") : ∀ ts : List String, ts.all (fun t => ["int", "bool", "str", "list", "tuple"].contains t) = true → PySem.W.kitAny K (.type (tyN d)) (ts.map Value.type) = some (ts.any (isOne d))
  | [], _ => kitAny_nil
  | t :: ts, h => by
    rw [List.all_cons, Bool.and_eq_true] at h
    have e1 := kit_ty (K := K) (kit_all d t h.1 hd)
    have e2 := kits_all (K := K) d hd ts h.2
    rw [List.map_cons, List.any_cons]
    refine kitAny_cons e1 (fun e => ?_) (fun e => ?_)
    · rw [e, Bool.false_or]; exact e2
    · rw [e, Bool.true_or]
theorem tys_pair : ∀ ts : List String, Paired ClsV (ts.map V.ty) (ts.map Value.type)
  | [] => .nil
  | t :: ts => .cons (.ty t) (tys_pair ts)
theorem res_nodict {d : D} (h : noDc d = true) : tyN d ≠ "dict" := by
  cases d with
  | dict kvs => cases h
  | _ => simp [tyN]
theorem snd_isi {a : E} {ts : List String} {pa pt : Expr} {p q : Pos} (dx : DX X C G sc) (hg : glB sc "isinstance" = true) (hm : C.bl.contains "isinstance" = true) (hpa : plainE pa = true) (hpt : plainE pt = true) (ha : Snd X pa (fun md => wE G md a))
    (h : (match asTup pt with | some pts => typsB C sc ts pts && pts.all plainE && decide (ts.length ≤ 1000) | none => typsB C sc ts [pt]) = true) : Snd X (.Call (.Name "isinstance" p) [pa, pt] [] q) (fun md => wE G md (.isi a ts)) := by
  obtain ⟨g1, g2⟩ := dx.gl hg
  have hmg := dx.bl _ hm
  refine mkPure (w0 := fun ρ Q => wE G (.t 2) a ρ fun x => noDc x = true ∧ Q (.bool (ts.any (isOne x)))) ?_ (fun _ => rfl)
  have hst : starEach [pa, pt] X.env = (false, eval pa X.env) :: starEach [pt] X.env := star_cons hpa
  have hpl : (backTo q (starEach [pt] X.env)).any (·.1) = false := star_any (by rw [List.all_cons, hpt]; rfl)
  have hboot : bootBuiltins "isinstance" = some (.builtin "isinstance") := by decide +kernel
  cases e : asTup pt with
  | some pts =>
    rw [e] at h
    obtain ⟨j, p2, rfl⟩ := asTup_s e
    simp only [Bool.and_eq_true, decide_eq_true_eq] at h
    obtain ⟨b1, b2⟩ := typs_s dx h.1.1 h.1.2
    refine pe_w (pe_callB call_isiT g1 hmg hboot (pa_cons (ha.n 2) (pa_cons (pe_tup b1) pa_nil (star_cons hpt)) hst) (by decide) g2 hst hpl) fun σ H Z ⟨F0, H0, F, ρ, Q, rr, hw, k⟩ => ?_
    refine ⟨F0, H0, F, ρ, _, rr, hw, fun v F' H' d e s r ⟨hnd, hq⟩ => ⟨by rw [List.length_map]; exact Nat.le_of_lt (small1000 h.2), fun tp htp => ?_⟩⟩
    have e2 : Ext F' H' F' (upd H' tp (.tup (ts.map V.ty))) := Ext.mkO htp
    have s2 : Same F' (upd H' tp (.tup (ts.map V.ty))) := same_upd2 s (s.free htp)
    exact ⟨v, tp, ts.map V.ty, _, ts.map Value.type, _, rfl, upd_same, tys_pair ts, ty_of s2 hnd (r.mono e2.f e2.h), kits_all (K := kxOf X) d (res_nodict hnd) ts b2, k _ F' _ _ (e.trans e2) s2 (.bl _) hq⟩
  | none =>
    rw [e] at h
    have h : typsB C sc ts [pt] = true := h
    cases ts with
    | nil => simp [typsB] at h
    | cons t ts =>
      cases ts with
      | cons _ _ => simp [typsB] at h
      | nil =>
        simp only [typsB, Bool.and_true] at h
        obtain ⟨a1, a2⟩ := typ_s dx h
        refine pe_w (pe_callB call_isi g1 hmg hboot (pa_cons (ha.n 2) (pa_cons a1 pa_nil (star_cons hpt)) hst) (by decide) g2 hst hpl) fun σ H Z ⟨F0, H0, F, ρ, Q, rr, hw, k⟩ => ?_
        refine ⟨F0, H0, F, ρ, _, rr, hw, fun v F' H' d e s r ⟨hnd, hq⟩ => ?_⟩
        have hq : Q (.bool ([t].any (isOne d))) := hq
        rw [show [t].any (isOne d) = isOne d t by simp] at hq
        exact ⟨v, .ty t, _, .type t, _, rfl, .ty t, ty_of s hnd r, kit_ty (kit_all d t a2 (res_nodict hnd)), k _ F' H' _ e s (.bl _) hq⟩

/-! ### methods -/
def Mth1 (K : Kx) (T : String) (r : V → List V → Hp → VK → Prop) (w : D → List D → (D → Prop) → Prop) : Prop :=
  ∀ F H v d vs ds Q, Same F H → Res K F H 1 v d → Paired (Res K F H 1) vs ds → w d ds Q → ∀ Z : VK, (∀ v F' H' d, Ext F H F' H' → Same F' H' → Dyn K H F' H' v d → Q d → Z v H') → r v vs H Z
theorem dy_fin {K : Kx} {F H : Hp} {Q : D → Prop} {Z : VK} {v : V} {d : D} (s : Same F H) (k : ∀ v F' H' d, Ext F H F' H' → Same F' H' → Dyn K H F' H' v d → Q d → Z v H') (h : Rp K F v d) (hn : isCon d = false) (hq : Q d) : Z v H :=
  k v F H d (Ext.refl F H) s (.inr ⟨hn, h⟩) hq
/-- the receiver is of that type -/
def tyM (K : Kx) (T : String) : V → Hp → Prop := fun x H => ∃ F n d, Same F H ∧ Res K F H (n + 1) x d ∧ tyN d = T ∧ noDc d = true
theorem tyM_is {T : String} (hT : T = "str" ∨ T = "list") : TyR X T (tyM (kxOf X) T) := by
  intro pins σ H s x v I rx ⟨F, n, d, sm, r, ht, hd⟩
  cases d with
  | str z =>
    obtain rfl := sc_str r
    subst ht
    obtain ⟨t, rfl⟩ := rx
    exact ⟨typeIs_str s z t, fun _ e => nomatch e⟩
  | list ds =>
    subst ht
    obtain ⟨a, xs, rfl, h, _⟩ := r.list sm
    obtain rfl : v = .ref a := rx
    obtain ⟨its, _, pl, _⟩ := I.list h
    refine ⟨pl.isList.typeIs, fun b e => ?_⟩
    cases e
    obtain ⟨o, n, e, c, hdd, _⟩ := pl
    exact ⟨o, e, hdd⟩
  | tuple _ => subst ht; simp [tyN] at hT
  | none => subst ht; simp [tyN] at hT
  | bool _ => subst ht; simp [tyN] at hT
  | int _ => subst ht; simp [tyN] at hT
  | dict _ => cases hd
theorem mth_join {K : Kx} : Mth1 K "str" (fun x xs H Q => ∃ a p, ∃ ys : List Str, x = .str a ∧ xs = [.ref p] ∧ (SqL K H p (ys.map V.str) ∨ SqT K H p (ys.map V.str)) ∧
    (ys.map (·.length)).sum + ys.length * a.length ≤ 16777216 ∧ Q (.str (Txt.join a ys)) H) (wMt .join) := by
  intro F H v d vs ds Q s r p hw Z k
  match d, ds, hw with
  | .str a, [.list xs], hw =>
    obtain ⟨ys, e, hz, hq⟩ := hw
    subst e
    obtain rfl := sc_str r
    obtain ⟨u, rfl, r2⟩ := pair1 p
    obtain ⟨b, zs, rfl, h1, p1⟩ := r2.list s
    have e := pair_strs p1
    subst e
    exact ⟨a, b, ys, rfl, rfl, .inl h1, hz, dy_fin s k (.str _) rfl hq⟩
theorem mth_find3 {K : Kx} : Mth1 K "str" (fun x xs H Q => ∃ (a b : Str) (i : Int), x = .str a ∧ xs = [.str b, .int i] ∧ Q (.int (Txt.find3 a b i)) H) (wMt .find3) := by
  intro F H v d vs ds Q s r p hw Z k
  match d, ds, hw with
  | .str a, [.str b, .int i], hw =>
    obtain rfl := sc_str r
    obtain ⟨u, w, rfl, r2, r3⟩ := pair2 p
    obtain rfl := sc_str r2
    obtain rfl := sc_int r3
    exact ⟨a, b, i, rfl, rfl, dy_fin s k (.int _) rfl hw⟩
theorem mth_rfind4 {K : Kx} : Mth1 K "str" (fun x xs H Q => ∃ (a b : Str) (i j : Int), x = .str a ∧ xs = [.str b, .int i, .int j] ∧ Q (.int (Txt.rfindIn a b i j)) H) (wMt .rfind4) := by
  intro F H v d vs ds Q s r p hw Z k
  match d, ds, hw with
  | .str a, [.str b, .int i, .int j], hw =>
    obtain rfl := sc_str r
    obtain ⟨u, w, x, rfl, r2, r3, r4⟩ := pair3 p
    obtain rfl := sc_str r2
    obtain rfl := sc_int r3
    obtain rfl := sc_int r4
    exact ⟨a, b, i, j, rfl, rfl, dy_fin s k (.int _) rfl hw⟩
theorem mth_sindex {K : Kx} : Mth1 K "str" (fun x xs H Q => ∃ a b i rest, x = .str a ∧ xs = [.str b] ∧ Builtin.Str.occurrences a b 0 a.length 1 = i :: rest ∧ Q (.int (i : Nat)) H) (wMt .sindex) := by
  intro F H v d vs ds Q s r p hw Z k
  match d, ds, hw with
  | .str a, [.str b], ⟨i, rest, e, hq⟩ =>
    obtain rfl := sc_str r
    obtain ⟨u, rfl, r2⟩ := pair1 p
    obtain rfl := sc_str r2
    exact ⟨a, b, i, rest, rfl, rfl, e, dy_fin s k (.int _) rfl hq⟩
theorem mth_count {K : Kx} : Mth1 K "str" (fun x xs H Q => ∃ a b, x = .str a ∧ xs = [.str b] ∧ Q (.int (Txt.count a b)) H) (wMt .count) := by
  intro F H v d vs ds Q s r p hw Z k
  match d, ds, hw with
  | .str a, [.str b], hw =>
    obtain rfl := sc_str r
    obtain ⟨u, rfl, r2⟩ := pair1 p
    obtain rfl := sc_str r2
    exact ⟨a, b, rfl, rfl, dy_fin s k (.int _) rfl hw⟩
theorem mth_rfind {K : Kx} : Mth1 K "str" (fun x xs H Q => ∃ a b, x = .str a ∧ xs = [.str b] ∧ Q (.int (Txt.rfind a b)) H) (wMt .rfind) := by
  intro F H v d vs ds Q s r p hw Z k
  match d, ds, hw with
  | .str a, [.str b], hw =>
    obtain rfl := sc_str r
    obtain ⟨u, rfl, r2⟩ := pair1 p
    obtain rfl := sc_str r2
    exact ⟨a, b, rfl, rfl, dy_fin s k (.int _) rfl hw⟩
/-- the first place of x in a list that reads as data -/
def rIndexP (K : Kx) : V → List V → Hp → VK → Prop := fun x xs H Q => ∃ a y d ds j, x = .ref a ∧ xs = [y] ∧ Dp K H (.ref a) (.list ds) ∧ Dp K H y d ∧ shp d = true ∧ PyData.plainAll ds = true ∧ SeqAt.dataPlace ds d = some j ∧ Q (.int (j : Nat)) H
theorem mt_indexP {X : Cx} (hu : X.A.units + 65 < cLine) : MtR X "list.index" (rIndexP (kxOf X)) := by
  intro pins s σ H x xs v us Q I rx rs ⟨a, y, d, ds, j, ex, exs, hl, hy, sd, pa, hj, q⟩
  subst ex exs
  obtain rfl : v = .ref a := rx
  obtain ⟨u, rfl, r1⟩ := rs.one
  obtain ⟨bs, rd⟩ := Dp.reads I d y u hy r1
  have h1 := shp_d sd
  have h2 := Nat.min_le_right (PyData.depthAll ds) d.depth
  cases hl with
  | lst hs ha =>
    obtain ⟨its, rv, ⟨⟨c, dd, da, sl⟩, n, ho, hc, hdn, hdt⟩, hz⟩ := I.list hs
    cases hc; cases hdt
    obtain ⟨as, rr⟩ := Dp.readsAll I ds _ its ha rv
    have rr' : ReadsAll s.heap its.toArray.toList ds as := by rw [List.toList_toArray]; exact rr
    obtain ⟨hjs, hit, hno⟩ := SeqAt.hit_at rr' pa hj
    have hjl : j < its.length := by simpa using hjs
    have hvl := rv.length
    have hsl := sizeLine_eq
    have he := SeqAt.items_plain rr' rd pa (shp_p sd) (A := X.A) (by omega)
    refine call_meets PySem.F.slot_list_index ⟨_, ho, rfl⟩ PySem.F.entry_list_index (PySem.F.args_list_index_2 _ _)
      (SeqAt.list_indexAt a its.toArray n dd sl u (fun w => PyData.eqv (SeqAt.readOf s.heap w) d) j hjs (by omega) hit hno) ⟨ho, he, .int (j : Nat), H, I.tok _, ⟨_, rfl⟩, q⟩
theorem mth_lindex {K : Kx} : Mth1 K "list" (rIndexP K) (wMt .lindex) := by
  intro F H v d vs ds Q s r p hw Z k
  match d, ds, hw with
  | .list xs, [x], ⟨⟨sd, pa⟩, j, hj, hq⟩ =>
    obtain ⟨u, rfl, r2⟩ := pair1 p
    obtain ⟨a, ys, rfl, h1, p1⟩ := r.list s
    have hp : (PyData.list xs).plain = true := by unfold PyData.plain; exact pa
    exact ⟨a, u, x, xs, j, rfl, rfl, r.dp s hp, r2.dp s (shp_p sd), sd, pa, hj, dy_fin s k (.int _) rfl hq⟩
theorem snd_mth {m : Mt} {o : E} {es : Es} {po : Expr} {pes : List Expr} {ap cp : Pos} (dx : DX X C G sc) (hl : (ap.endLine == cp.line) = true) (hn : pes ≠ []) (hc : pes.length < 20) (hs : noSup po = true) (hp : pes.all plainE = true)
    (hO : Snd X po (fun md => wE G md o)) (h : PA X pes (tAs (kxOf X) 1 (wEs G 1 es))) : Snd X (.Call (.Attribute po m.nm ap) pes [] cp) (fun md => wE G md (.mth m o es)) := by
  cases pes with
  | nil => exact absurd rfl hn
  | cons pe pr =>
    have hp' := hp
    rw [List.all_cons, Bool.and_eq_true] at hp'
    have few := few_of (cp := cp) (env := X.env) hp hc
    have go : ∀ {T : String} {r : V → List V → Hp → VK → Prop}, T = mtTy m → (T ≠ "dict") → Mth1 (kxOf X) T r (wMt m) → PE X (.Call (.Attribute po m.nm ap) (pe :: pr) [] cp) (tBMy (tyM (kxOf X) T) r (tN (kxOf X) 1 (wE G (.t 1) o)) (tAs (kxOf X) 1 (wEs G 1 es))) → Snd X (.Call (.Attribute po m.nm ap) (pe :: pr) [] cp) (fun md => wE G md (.mth m o es)) := fun {T r} hT hTd hr hpe => by
      refine mkDyn (w0 := fun ρ Q => wE G (.t 1) o ρ fun x => tyN x = mtTy m ∧ wEs G 1 es ρ fun ds => wMt m x ds Q) (pe_w hpe fun σ H Z ⟨F0, H0, F, ρ, Q, rr, hw, k⟩ => ?_) (fun _ => rfl)
      refine ⟨F0, H0, F, ρ, _, rr, hw, fun v F1 H1 d e1 s1 q1 ⟨ht, h1⟩ => ?_⟩
      have hnd : noDc d = true := by
        cases d with
        | dict _ => exact absurd (hT.trans ht.symm) hTd
        | _ => rfl
      exact ⟨⟨F1, 0, d, s1, q1, ht.trans hT.symm, hnd⟩, F0, H0, F1, ρ, _, rr.go e1 s1, h1, fun vs F2 H2 ds e2 s2 pp hq => hr F2 H2 v d vs ds Q s2 (q1.mono e2.f e2.h) pp hq Z fun v F'' H'' d e3 s3 q3 hd => k v F'' H'' d ((e1.trans e2).trans e3) s3 (dyn_ext (e1.trans e2) q3) hd⟩
    have St := tyM_is (X := X) (T := "str") (.inl rfl)
    have Lt := tyM_is (X := X) (T := "list") (.inr rfl)
    cases m with
    | join => exact go rfl (by decide) mth_join (pe_bmy St F.plainAttrs_str F.slot_str_join F.type_str_join mt_join (hO.n 1) h (base_id hs) few hl (star_cons hp'.1) (star_any hp'.2))
    | find3 => exact go rfl (by decide) mth_find3 (pe_bmy St F.plainAttrs_str F.slot_str_find F.type_str_find mt_find3 (hO.n 1) h (base_id hs) few hl (star_cons hp'.1) (star_any hp'.2))
    | rfind4 => exact go rfl (by decide) mth_rfind4 (pe_bmy St F.plainAttrs_str F.slot_str_rfind F.type_str_rfind mt_rfind4 (hO.n 1) h (base_id hs) few hl (star_cons hp'.1) (star_any hp'.2))
    | sindex => exact go rfl (by decide) mth_sindex (pe_bmy St F.plainAttrs_str F.slot_str_index F.type_str_index mt_sindex (hO.n 1) h (base_id hs) few hl (star_cons hp'.1) (star_any hp'.2))
    | count => exact go rfl (by decide) mth_count (pe_bmy St F.plainAttrs_str F.slot_str_count F.type_str_count mt_count (hO.n 1) h (base_id hs) few hl (star_cons hp'.1) (star_any hp'.2))
    | rfind => exact go rfl (by decide) mth_rfind (pe_bmy St F.plainAttrs_str F.slot_str_rfind F.type_str_rfind mt_rfind (hO.n 1) h (base_id hs) few hl (star_cons hp'.1) (star_any hp'.2))
    | lindex => exact go rfl (by decide) mth_lindex (pe_bmy Lt F.plainAttrs_list F.slot_list_index F.type_list_index (mt_indexP (by have := dx.room.un; omega)) (hO.n 1) h (base_id hs) few hl (star_cons hp'.1) (star_any hp'.2))
end
end PD

set_option maxHeartbeats 2000000
namespace PD
open PySem PySem.Spec PyProof.Rows L2

/-! ### what is walked -/
/-- J yields the data ds, one after another; fz: whatever is written meanwhile (but what never changes) -/
structure Srv (K : Kx) (fz : Bool) (F H : Hp) (ds : List D) (J : It) : Prop where
  turn : ∀ i F' H', Same F F' → (fz = false → Same H H') → Same F' H' → ∀ d, ds[i]? = some d → J.go i H' ∧ ∀ x H'', J.yld i H' x H'' → ∃ F'', Ext F' H' F'' H'' ∧ Same F'' H'' ∧ Rp K F'' x d
  stop : ∀ i F' H', Same F F' → (fz = false → Same H H') → Same F' H' → i = ds.length → J.stop i H'
theorem Srv.le {K : Kx} {fz : Bool} {F H : Hp} {ds : List D} {J : It} (t : ∀ i F' H', Same F F' → (fz = false → Same H H') → Same F' H' → ∀ d, ds[i]? = some d → J.go i H' ∧ ∀ x H'', J.yld i H' x H'' → ∃ F'', Ext F' H' F'' H'' ∧ Same F'' H'' ∧ Rp K F'' x d)
    (st : ∀ i F' H', Same F F' → (fz = false → Same H H') → Same F' H' → ds.length ≤ i → J.stop i H') : Srv K fz F H ds J := ⟨t, fun i F' H' f g s hi => st i F' H' f g s (Nat.le_of_eq hi.symm)⟩
def tIs (K : Kx) (fz : Bool) (w : Env → (List D → Prop) → Prop) : TI := fun σ H Z =>
  ∃ F0 H0 F ρ Q, R K F0 H0 F ρ σ H ∧ w ρ Q ∧ ∀ J F' H' ds, Ext F H F' H' → Same F' H' → Srv K fz F' H' ds J → Q ds → Z J H'
theorem pi_w {X : Cx} {tg e : Expr} {t t' : TI} (h : PI X tg e t) (k : ∀ σ H Q, t' σ H Q → t σ H Q) : PI X tg e t' := ⟨fun pins s σ H Q I hw => h.run pins s σ H Q I (k σ H Q hw)⟩
def iSeq (K : Kx) (tl : TE) : TI := fun σ H Z => tl σ H fun x H1 => (∃ a, x = .ref a ∧ (∃ xs, SqL K H1 a xs) ∧ Z (Itl K a) H1) ∨ (∃ a, x = .ref a ∧ (∃ xs, SqT K H1 a xs) ∧ Z (Itt K a) H1) ∨ (∃ y, x = .str y ∧ Z (Its y) H1)
theorem pi_seq {X : Cx} {tg l : Expr} {tl : TE} (hl : PE X l tl) : PI X tg l (iSeq (kxOf X) tl) := by
  refine ⟨fun pins s σ H R I h => ?_⟩
  refine thn (hl.run pins s σ H _ I h) fun v s1 ⟨x, H1, I1, r1, q1⟩ => ?_
  rcases q1 with ⟨a, e, ⟨xs, hq⟩, q⟩ | ⟨a, e, ⟨xs, hq⟩, q⟩ | ⟨y, ex, q⟩
  · subst e
    cases r1
    obtain ⟨its, rv, p, hz⟩ := I1.list hq
    refine wpAny_pyIter_list p.isList ?_
    refine ⟨s1.heap.objs.size, [s1.heap.objs.size], _, _, H1, rfl, I1.kept (t' := s1.toks) fun b o e => Heap.get?_push_of_some _ e, turn_list a _, ⟨_, Heap.get?_push_size _ rfl, rfl, rfl⟩, fun b hb => ?_, q⟩
    have e : b = s1.heap.objs.size := by simpa using hb
    subst e
    exact I1.fpOk (Nat.le_refl _) (I1.hok.fresh (Nat.le_refl _))
  · subst e
    cases r1
    obtain ⟨its, rv, p, hz⟩ := I1.tuple hq
    refine wpAny_pyIter_tuple (show s1.heap.IsTuple a its.toArray from p) ?_
    refine ⟨s1.heap.objs.size, [s1.heap.objs.size], _, _, H1, rfl, I1.kept (t' := s1.toks) fun b o e => Heap.get?_push_of_some _ e, turn_tuple a _, ⟨_, Heap.get?_push_size _ rfl, rfl, rfl⟩, fun b hb => ?_, q⟩
    have e : b = s1.heap.objs.size := by simpa using hb
    subst e
    exact I1.fpOk (Nat.le_refl _) (I1.hok.fresh (Nat.le_refl _))
  · subst ex
    obtain ⟨t, rfl⟩ := r1
    cases ha : y.cps.all (· < 128)
    · exact wpAny_pyIter_wide ha (pi_one (tk := s1.toks) I1 _ (turn_str _ y t "str_iterator" (.inr rfl)) ⟨_, Heap.get?_push_size _ rfl, rfl, rfl⟩ q)
    · exact wpAny_pyIter_ascii ha (pi_one (tk := s1.toks) I1 _ (turn_str _ y t "str_ascii_iterator" (.inl rfl)) ⟨_, Heap.get?_push_size _ rfl, rfl, rfl⟩ q)
section
variable {K : Kx} {F H : Hp}
theorem srv_list {fz : Bool} {a : Addr} {xs : List V} {ds : List D} (h : ∀ F' H', Same F F' → (fz = false → Same H H') → Same F' H' → SqL K H' a xs) (p : RpAll K F xs ds) : Srv K fz F H ds (Itl K a) := by
  refine Srv.le (fun i F' H' f g s d hd => ?_) (fun i F' H' f g s hi => ⟨xs, h F' H' f g s, by rw [da_len p]; exact hi⟩)
  obtain ⟨v, hv, rv⟩ := da_get p hd
  refine ⟨⟨xs, v, h F' H' f g s, hv⟩, fun x H'' ⟨e, y⟩ => ?_⟩
  subst e
  have := (y xs (h F' H'' f g s)).symm.trans hv
  cases this
  exact ⟨F', Ext.refl F' _, s, dp_m rv f⟩
theorem srv_tup {fz : Bool} {a : Addr} {xs : List V} {ds : List D} (h : SqT K F a xs) (p : RpAll K F xs ds) : Srv K fz F H ds (Itt K a) := by
  refine Srv.le (fun i F' H' f g s d hd => ?_) (fun i F' H' f g s hi => ⟨xs, sqT_mono s (sqT_mono f h), by rw [da_len p]; exact hi⟩)
  obtain ⟨v, hv, rv⟩ := da_get p hd
  refine ⟨⟨xs, v, sqT_mono s (sqT_mono f h), hv⟩, fun x H'' ⟨e, y⟩ => ?_⟩
  subst e
  have := (y xs (sqT_mono s (sqT_mono f h))).symm.trans hv
  cases this
  exact ⟨F', Ext.refl F' _, s, dp_m rv f⟩
theorem srv_str {fz : Bool} {z : Str} : Srv K fz F H (z.cps.toList.map fun c => PyData.str ⟨#[c]⟩) (Its z) := by
  refine Srv.le (fun i F' H' f g s d hd => ?_) (fun i F' H' f g s hi => by
    show z.cps.size ≤ i
    rw [List.length_map, Array.length_toList] at hi; exact hi)
  rw [List.getElem?_map] at hd
  cases e : z.cps.toList[i]? with
  | none => rw [e] at hd; cases hd
  | some c =>
    rw [e] at hd
    cases hd
    have hi := (List.getElem?_eq_some_iff.mp e).1
    refine ⟨by show i < z.cps.size; rw [Array.length_toList] at hi; exact hi, fun x H'' ⟨e1, c', e2, e3⟩ => ?_⟩
    subst e1 e3
    have : c = c' := by
      rw [Array.getElem?_toList] at e
      exact Option.some.inj (e.symm.trans e2)
    subst this
    exact ⟨F', Ext.refl F' _, s, .str _⟩
theorem srv_rng {fz : Bool} {lo : Int} {n : Nat} : Srv K fz F H ((List.range n).map fun (k : Nat) => PyData.int (lo + k)) (Itr lo n) := by
  refine Srv.le (fun i F' H' f g s d hd => ?_) (fun i F' H' f g s hi => by
    show n ≤ i
    rw [List.length_map, List.length_range] at hi; exact hi)
  rw [List.getElem?_map] at hd
  by_cases hi : i < n
  · rw [List.getElem?_range hi] at hd
    cases hd
    refine ⟨hi, fun x H'' ⟨e1, e2⟩ => ?_⟩
    subst e1 e2
    exact ⟨F', Ext.refl F' _, s, .int _⟩
  · rw [List.getElem?_eq_none (by simpa using hi)] at hd
    cases hd
end
section
variable {X : Cx} {C : Ck} {G : Gb} {sc : Scope}
/-- n = 0 : nothing that may change is walked -/
theorem snd_ls {n : Nat} (hn : n ≤ 1) {tg : Expr} {e : E} {pe : Expr} (h : Snd X pe (fun md => wE G md e)) : PI X tg pe (tIs (kxOf X) (n == 0) (wI G n (.ls e))) := by
  refine pi_w (pi_seq (h.n n)) fun σ H Z ⟨F0, H0, F, ρ, Q, rr, hw, k⟩ => ?_
  have hw : wE G (.t n) e ρ fun d => ∃ ds, seqOf d = some ds ∧ Q ds := hw
  refine ⟨F0, H0, F, ρ, _, rr, hw, fun v F' H' d e s q ⟨ds, hd, hq⟩ => ?_⟩
  cases d with
  | list xs =>
    cases hd
    cases n with
    | zero =>
      cases q with
      | lst hr ha => exact .inl ⟨_, rfl, ⟨_, sqL_mono s hr⟩, k _ F' H' _ e s (srv_list (fun F'' H'' f g s2 => sqL_mono s2 (sqL_mono f hr)) ha) hq⟩
    | succ n =>
      have : n = 0 := by omega
      subst this
      obtain ⟨a, ys, rfl, h1, p⟩ := q.list s
      exact .inl ⟨a, rfl, ⟨ys, h1⟩, k _ F' H' _ e s (srv_list (fun F'' H'' f g s2 => sqL_mono (g rfl) h1) (ra_of p)) hq⟩
  | tuple xs =>
    cases hd
    obtain ⟨a, ys, rfl, h1, p⟩ := sc_tup q
    exact .inr (.inl ⟨a, rfl, ⟨ys, sqT_mono s h1⟩, k _ F' H' _ e s (srv_tup h1 p) hq⟩)
  | str z =>
    cases hd
    obtain rfl := sc_str q
    exact .inr (.inr ⟨z, rfl, k _ F' H' _ e s srv_str hq⟩)
  | _ => cases hd
theorem snd_r1 {n : Nat} {tg : Expr} {a : E} {pa : Expr} {p q : Pos} (dx : DX X C G sc) (hg : glB sc "range" = true) (hm : C.bl.contains "range" = true) (hp : plainE pa = true) (h : Snd X pa (fun md => wE G md a)) :
    PI X tg (.Call (.Name "range" p) [pa] [] q) (tIs (kxOf X) (n == 0) (wI G n (.r1 a))) := by
  obtain ⟨g1, g2⟩ := dx.gl hg
  refine pi_w (pi_range1 g1 (dx.bl _ hm) (pa_cons (h.n 0) pa_nil (star_cons hp)) (star_cons hp)) fun σ H Z ⟨F0, H0, F, ρ, Q, rr, hw, k⟩ => ?_
  have hw : wE G (.t 0) a ρ fun d => ∃ j, d = .int j ∧ (-(2 ^ 62) ≤ j ∧ j < 2 ^ 62) ∧ Q ((List.range j.toNat).map fun (k : Nat) => .int k) := hw
  refine ⟨F0, H0, F, ρ, _, rr, hw, fun v F' H' d e s r ⟨j, hd, ⟨h1, h2⟩, hq⟩ => ?_⟩
  subst hd
  obtain rfl := sc_int r
  refine ⟨j, rfl, h1, h2, k _ F' H' _ e s (srv_rng (lo := 0)) ?_⟩
  simp only [Int.zero_add]
  exact hq
theorem snd_r2 {n : Nat} {tg : Expr} {a b : E} {pa pb : Expr} {p q : Pos} (dx : DX X C G sc) (hg : glB sc "range" = true) (hm : C.bl.contains "range" = true) (hp : plainE pa = true) (hpb : plainE pb = true) (h : Snd X pa (fun md => wE G md a)) (hb : Snd X pb (fun md => wE G md b)) :
    PI X tg (.Call (.Name "range" p) [pa, pb] [] q) (tIs (kxOf X) (n == 0) (wI G n (.r2 a b))) := by
  obtain ⟨g1, g2⟩ := dx.gl hg
  have e1 : starEach [pa, pb] X.env = [(false, eval pa X.env), (false, eval pb X.env)] := by rw [star_cons hp, star_cons hpb]; rfl
  refine pi_w (pi_range2 g1 (dx.bl _ hm) (pa_cons (h.n 0) (pa_cons (hb.n 0) pa_nil (star_cons hpb)) (star_cons hp)) e1 (star_cons hpb)) fun σ H Z ⟨F0, H0, F, ρ, Q, rr, hw, k⟩ => ?_
  have hw : wE G (.t 0) a ρ fun d => wE G (.t 0) b ρ fun e => ∃ i j, d = .int i ∧ e = .int j ∧ (-(2 ^ 62) ≤ i ∧ i < 2 ^ 62 ∧ -(2 ^ 62) ≤ j ∧ j < 2 ^ 62) ∧ Q ((List.range (j - i).toNat).map fun (k : Nat) => .int (i + k)) := hw
  refine ⟨F0, H0, F, ρ, _, rr, hw, fun v F1 H1 d e1 s1 r1 h1 => ⟨F0, H0, F1, ρ, _, rr.go e1 s1, h1, fun v2 F2 H2 d2 e2 s2 r2 ⟨i, j, hd, hd2, hb, hq⟩ => ?_⟩⟩
  subst hd hd2
  obtain rfl := sc_int r1
  obtain rfl := sc_int r2
  exact ⟨i, j, rfl, hb, k _ F2 H2 _ (e1.trans e2) s2 srv_rng hq⟩

theorem rev_get {α : Type} {xs : List α} {i : Nat} {x : α} (h : xs.reverse[i]? = some x) : xs[xs.length - 1 - i]? = some x ∧ i < xs.length := by
  have hi := (List.getElem?_eq_some_iff.mp h).1
  rw [List.length_reverse] at hi
  rw [List.getElem?_reverse hi] at h
  exact ⟨h, hi⟩
theorem srv_rev {K : Kx} {F H : Hp} {fz : Bool} {a : Addr} {xs : List V} {ds : List D} (h : ∀ F' H', Same F F' → (fz = false → Same H H') → Same F' H' → SqL K H' a xs) (p : RpAll K F xs ds) : Srv K fz F H ds.reverse (Itv K a xs.length) := by
  refine Srv.le (fun i F' H' f g s d hd => ?_) (fun i F' H' f g s hi => by rw [List.length_reverse, ← da_len p] at hi; exact hi)
  obtain ⟨hd, hi⟩ := rev_get hd
  obtain ⟨v, hv, rv⟩ := da_get p hd
  rw [← da_len p] at hv hi
  refine ⟨⟨hi, xs, v, h F' H' f g s, hv⟩, fun x H'' ⟨e, y⟩ => ?_⟩
  subst e
  have := (y xs (h F' H'' f g s)).symm.trans hv
  cases this
  exact ⟨F', Ext.refl F' _, s, dp_m rv f⟩
theorem srv_revT {K : Kx} {F H : Hp} {fz : Bool} {a : Addr} {xs : List V} {ds : List D} (h : SqT K F a xs) (p : RpAll K F xs ds) : Srv K fz F H ds.reverse (RT.ItvT K a xs.length) := by
  refine Srv.le (fun i F' H' f g s d hd => ?_) (fun i F' H' f g s hi => by rw [List.length_reverse, ← da_len p] at hi; exact hi)
  obtain ⟨hd, hi⟩ := rev_get hd
  obtain ⟨v, hv, rv⟩ := da_get p hd
  rw [← da_len p] at hv hi
  refine ⟨⟨hi, xs, v, sqT_mono s (sqT_mono f h), hv⟩, fun x H'' ⟨e, y⟩ => ?_⟩
  subst e
  have := (y xs (sqT_mono s (sqT_mono f h))).symm.trans hv
  cases this
  exact ⟨F', Ext.refl F' _, s, dp_m rv f⟩
theorem srv_down {K : Kx} {F H : Hp} {fz : Bool} {lo : Int} {n : Nat} : Srv K fz F H ((List.range n).map fun (k : Nat) => PyData.int (lo + k)).reverse (Itc (lo + ((n : Nat) : Int) - 1) (-1) n) := by
  refine Srv.le (fun i F' H' f g s d hd => ?_) (fun i F' H' f g s hi => by
    show n ≤ i
    rw [List.length_reverse, List.length_map, List.length_range] at hi; exact hi)
  obtain ⟨hd, hi⟩ := rev_get hd
  rw [List.length_map, List.length_range] at hd hi
  rw [List.getElem?_map, List.getElem?_range (by omega)] at hd
  cases hd
  refine ⟨hi, fun x H'' ⟨e1, e2⟩ => ?_⟩
  subst e1 e2
  refine ⟨F', Ext.refl F' _, s, ?_⟩
  rw [show lo + (n : Int) - 1 + (i : Int) * -1 = lo + ((n - 1 - i : Nat) : Int) by omega]
  exact .int _
theorem snd_rv {n : Nat} (hn : n ≤ 1) {tg : Expr} {e : E} {pe : Expr} {p q : Pos} (dx : DX X C G sc) (hg : glB sc "reversed" = true) (hm : C.bl.contains "reversed" = true) (hp : plainE pe = true) (h : Snd X pe (fun md => wE G md e)) :
    PI X tg (.Call (.Name "reversed" p) [pe] [] q) (tIs (kxOf X) (n == 0) (wI G n (.rv e))) := by
  obtain ⟨g1, g2⟩ := dx.gl hg
  refine pi_w (RT.pi_revA g1 (dx.bl _ hm) (h.n n) (star_cons hp)) fun σ H Z ⟨F0, H0, F, ρ, Q, rr, hw, k⟩ => ?_
  have hw : wE G (.t n) e ρ fun d => ∃ ds, lsOf d = some ds ∧ Q ds.reverse := hw
  refine ⟨F0, H0, F, ρ, _, rr, hw, fun v F' H' d e s q ⟨ds, hd, hq⟩ => ?_⟩
  cases d with
  | list xs =>
    cases hd
    cases n with
    | zero =>
      cases q with
      | lst hr ha => exact ⟨_, _, rfl, .inl ⟨sqL_mono s hr, k _ F' H' _ e s (srv_rev (fun F'' H'' f g s2 => sqL_mono s2 (sqL_mono f hr)) ha) hq⟩⟩
    | succ n =>
      have : n = 0 := by omega
      subst this
      obtain ⟨a, ys, rfl, h1, p⟩ := q.list s
      exact ⟨a, ys, rfl, .inl ⟨h1, k _ F' H' _ e s (srv_rev (fun F'' H'' f g s2 => sqL_mono (g rfl) h1) (ra_of p)) hq⟩⟩
  | tuple xs =>
    cases hd
    obtain ⟨a, ys, rfl, h1, p⟩ := sc_tup q
    exact ⟨a, ys, rfl, .inr ⟨sqT_mono s h1, k _ F' H' _ e s (srv_revT h1 p) hq⟩⟩
  | _ => cases hd
theorem snd_rr1 {n : Nat} {tg : Expr} {a : E} {pa : Expr} {p q p2 q2 : Pos} (dx : DX X C G sc) (hg : glB sc "range" = true) (hm : C.bl.contains "range" = true) (hg2 : glB sc "reversed" = true) (hm2 : C.bl.contains "reversed" = true) (hp : plainE pa = true) (h : Snd X pa (fun md => wE G md a)) :
    PI X tg (.Call (.Name "reversed" p2) [.Call (.Name "range" p) [pa] [] q] [] q2) (tIs (kxOf X) (n == 0) (wI G n (.rr1 a))) := by
  obtain ⟨g1, g2⟩ := dx.gl hg
  obtain ⟨g3, g4⟩ := dx.gl hg2
  refine pi_w (pi_revR g3 (dx.bl _ hm2) (prg_1 g1 (dx.bl _ hm) (h.n 0) (star_cons hp))) fun σ H Z ⟨F0, H0, F, ρ, Q, rr, hw, k⟩ => ?_
  have hw : wE G (.t 0) a ρ fun d => ∃ j, d = .int j ∧ (-(2 ^ 62) ≤ j ∧ j < 2 ^ 62) ∧ Q ((List.range j.toNat).map fun (k : Nat) => .int k).reverse := hw
  refine ⟨F0, H0, F, ρ, _, rr, hw, fun v F' H' d e s r ⟨j, hd, ⟨h1, h2⟩, hq⟩ => ?_⟩
  subst hd
  obtain rfl := sc_int r
  refine ⟨j, rfl, by decide, by decide, h1, h2, ?_⟩
  rw [Int.sub_zero]
  refine k _ F' H' _ e s (srv_down (lo := 0)) ?_
  simp only [Int.zero_add]
  exact hq
theorem snd_rr2 {n : Nat} {tg : Expr} {a b : E} {pa pb : Expr} {p q p2 q2 : Pos} (dx : DX X C G sc) (hg : glB sc "range" = true) (hm : C.bl.contains "range" = true) (hg2 : glB sc "reversed" = true) (hm2 : C.bl.contains "reversed" = true) (hp : plainE pa = true) (hpb : plainE pb = true) (h : Snd X pa (fun md => wE G md a)) (hb : Snd X pb (fun md => wE G md b)) :
    PI X tg (.Call (.Name "reversed" p2) [.Call (.Name "range" p) [pa, pb] [] q] [] q2) (tIs (kxOf X) (n == 0) (wI G n (.rr2 a b))) := by
  obtain ⟨g1, g2⟩ := dx.gl hg
  obtain ⟨g3, g4⟩ := dx.gl hg2
  refine pi_w (pi_revR g3 (dx.bl _ hm2) (prg_2 g1 (dx.bl _ hm) (h.n 0) (hb.n 0) (star_cons hp) (star_cons hpb) (star_any (by rw [List.all_cons, hpb]; rfl)))) fun σ H Z ⟨F0, H0, F, ρ, Q, rr, hw, k⟩ => ?_
  have hw : wE G (.t 0) a ρ fun d => wE G (.t 0) b ρ fun e => ∃ i j, d = .int i ∧ e = .int j ∧ (-(2 ^ 62) ≤ i ∧ i < 2 ^ 62 ∧ -(2 ^ 62) ≤ j ∧ j < 2 ^ 62) ∧ Q ((List.range (j - i).toNat).map fun (k : Nat) => .int (i + k)).reverse := hw
  refine ⟨F0, H0, F, ρ, _, rr, hw, fun v F1 H1 d e1 s1 r1 h1 => ⟨F0, H0, F1, ρ, _, rr.go e1 s1, h1, fun v2 F2 H2 d2 e2 s2 r2 ⟨i, j, hd, hd2, ⟨b1, b2, b3, b4⟩, hq⟩ => ?_⟩⟩
  subst hd hd2
  obtain rfl := sc_int r1
  obtain rfl := sc_int r2
  exact ⟨i, j, rfl, rfl, b1, b2, b3, b4, k _ F2 H2 _ (e1.trans e2) s2 srv_down hq⟩

/-! ### enumerate, zip -/
/-- a source that keeps its items while it is walked -/
def SrcK (K : Kx) (fz : Bool) (F H : Hp) (ds : List D) (sid : Sid) (xs : List V) : Prop := (∀ F' H', Same F F' → (fz = false → Same H H') → Same F' H' → sid.vw K H' xs) ∧ RpAll K F xs ds
theorem src_of {K : Kx} {F H : Hp} (s : Same F H) {n : Nat} (hn : n ≤ 1) {v : V} {d : D} {ds : List D} (r : Res K F H n v d) (h : seqOf d = some ds) : ∃ sid xs, v = Sid.val sid ∧ sid.vw K H xs ∧ SrcK K (n == 0) F H ds sid xs := by
  cases d with
  | list zs =>
    cases h
    cases n with
    | zero =>
      cases r with
      | lst hr ha => exact ⟨.l _, _, rfl, sqL_mono s hr, fun F'' H'' f g s2 => sqL_mono s2 (sqL_mono f hr), ha⟩
    | succ n =>
      have : n = 0 := by omega
      subst this
      obtain ⟨a, ys, rfl, h1, p⟩ := r.list s
      exact ⟨.l a, ys, rfl, h1, fun F'' H'' f g s2 => sqL_mono (g rfl) h1, ra_of p⟩
  | tuple zs =>
    cases h
    obtain ⟨a, ys, rfl, h1, p⟩ := sc_tup r
    exact ⟨.t a, ys, rfl, sqT_mono s h1, fun F'' H'' f g s2 => sqT_mono s2 (sqT_mono f h1), p⟩
  | str z =>
    cases h
    obtain rfl := sc_str r
    exact ⟨.s z, chars z, rfl, rfl, fun F'' H'' f g s2 => rfl, chars_ra z⟩
  | _ => cases h
theorem SrcK.go {K : Kx} {fz : Bool} {F H F' H' : Hp} {ds : List D} {sid : Sid} {xs : List V} (k : SrcK K fz F H ds sid xs) (f : Same F F') (g : fz = false → Same H H') (s : Same F' H') : SrcK K fz F' H' ds sid xs :=
  ⟨fun F'' H'' f2 g2 s2 => k.1 F'' H'' (f.trans f2) (fun z => (g z).trans (g2 z)) s2, da_m k.2 f⟩
theorem enD_get : ∀ (ds : List D) (j i : Nat), (enD j ds)[i]? = (ds[i]?).map fun d => PyData.tuple [.int ((j + i : Nat) : Int), d]
  | [], j, i => by simp [enD]
  | d :: ds, j, 0 => by simp [enD]
  | d :: ds, j, i + 1 => by
    rw [enD, List.getElem?_cons_succ, enD_get ds (j + 1) i, List.getElem?_cons_succ]
    rw [show j + 1 + i = j + (i + 1) by omega]
theorem enD_len : ∀ (ds : List D) (j : Nat), (enD j ds).length = ds.length
  | [], _ => rfl
  | _ :: ds, j => congrArg (· + 1) (enD_len ds (j + 1))
theorem zpD_get : ∀ (ds es : List D) (i : Nat), (zpD ds es)[i]? = match ds[i]?, es[i]? with | some d, some e => some (PyData.tuple [d, e]) | _, _ => none
  | [], es, i => by simp [zpD]
  | d :: ds, [], i => by cases i <;> simp [zpD] <;> (split <;> simp_all)
  | d :: ds, e :: es, 0 => by simp [zpD]
  | d :: ds, e :: es, i + 1 => by
    rw [zpD, List.getElem?_cons_succ, zpD_get ds es i]; simp
theorem zpD_len : ∀ (ds es : List D), (zpD ds es).length = min ds.length es.length
  | [], es => by simp [zpD]
  | d :: ds, [] => by simp [zpD]
  | d :: ds, e :: es => by
    rw [zpD, List.length_cons, zpD_len ds es, List.length_cons, List.length_cons]; omega
theorem zp3D_get : ∀ (ds es fs : List D) (i : Nat) (t : D), (zp3D ds es fs)[i]? = some t → ∃ d e f, ds[i]? = some d ∧ es[i]? = some e ∧ fs[i]? = some f ∧ t = .tuple [d, e, f]
  | [], _, _, i, t, h => by simp [zp3D] at h
  | _ :: _, [], _, i, t, h => by simp [zp3D] at h
  | _ :: _, _ :: _, [], i, t, h => by simp [zp3D] at h
  | d :: ds, e :: es, f :: fs, 0, t, h => by
    simp [zp3D] at h; exact ⟨d, e, f, rfl, rfl, rfl, h.symm⟩
  | d :: ds, e :: es, f :: fs, i + 1, t, h => by
    rw [zp3D, List.getElem?_cons_succ] at h
    obtain ⟨d', e', f', h1, h2, h3, h4⟩ := zp3D_get ds es fs i t h
    exact ⟨d', e', f', by simpa using h1, by simpa using h2, by simpa using h3, h4⟩
theorem zp3D_len : ∀ (ds es fs : List D), (zp3D ds es fs).length = min ds.length (min es.length fs.length)
  | [], es, fs => by simp [zp3D]
  | d :: ds, [], fs => by simp [zp3D]
  | d :: ds, e :: es, [] => by simp [zp3D]
  | d :: ds, e :: es, f :: fs => by
    rw [zp3D, List.length_cons, zp3D_len ds es fs, List.length_cons, List.length_cons, List.length_cons]; omega
theorem srv_en {K : Kx} {fz : Bool} {F H : Hp} {ds : List D} {sid : Sid} {xs : List V} (k : SrcK K fz F H ds sid xs) : Srv K fz F H (enD 0 ds) (ItEn K sid) := by
  have hlen := da_len k.2
  refine ⟨fun i F' H' f g s d hd => ?_, fun i F' H' f g s hi => ⟨xs, k.1 F' H' f g s, by rw [hi, enD_len, hlen]⟩⟩
  rw [enD_get] at hd
  cases e : ds[i]? with
  | none => rw [e] at hd; cases hd
  | some d0 =>
    rw [e] at hd
    cases hd
    obtain ⟨v, hv, rv⟩ := da_get k.2 e
    refine ⟨⟨xs, k.1 F' H' f g s, (List.getElem?_eq_some_iff.mp hv).1⟩, fun x H'' hy => ?_⟩
    obtain ⟨T, x0, ex, hT, eH, hx⟩ := hy
    have hx := (hx xs (k.1 F' H' f g s)).symm.trans hv
    cases hx
    subst ex eH
    obtain ⟨e2, s2, q2⟩ := dy_tup (xs := [.int (i : Nat), v]) (ds := [.int ((0 + i : Nat) : Int), d0]) s hT (.cons (by rw [Nat.zero_add]; exact .int _) (.cons (dp_m rv f) .nil))
    exact ⟨_, e2, s2, q2⟩
theorem srv_zp {K : Kx} {fz : Bool} {F H : Hp} {ds es : List D} {a b : Sid} {xs ys : List V} (k : SrcK K fz F H ds a xs) (k2 : SrcK K fz F H es b ys) : Srv K fz F H (zpD ds es) (ItZp K a b) := by
  have l1 := da_len k.2
  have l2 := da_len k2.2
  refine ⟨fun i F' H' f g s d hd => ?_, fun i F' H' f g s hi => ⟨xs, ys, k.1 F' H' f g s, k2.1 F' H' f g s, ?_, ?_, ?_⟩⟩
  · rw [zpD_get] at hd
    cases e : ds[i]? with
    | none => rw [e] at hd; cases hd
    | some d0 =>
      cases e2 : es[i]? with
      | none => rw [e, e2] at hd; cases hd
      | some e0 =>
        rw [e, e2] at hd
        cases hd
        obtain ⟨v, hv, rv⟩ := da_get k.2 e
        obtain ⟨v2, hv2, rv2⟩ := da_get k2.2 e2
        refine ⟨⟨xs, ys, k.1 F' H' f g s, k2.1 F' H' f g s, (List.getElem?_eq_some_iff.mp hv).1, (List.getElem?_eq_some_iff.mp hv2).1⟩, fun x H'' hy => ?_⟩
        obtain ⟨T, x0, y0, ex, hT, eH, hx, hy⟩ := hy
        have hx := (hx xs (k.1 F' H' f g s)).symm.trans hv
        have hy := (hy ys (k2.1 F' H' f g s)).symm.trans hv2
        cases hx; cases hy
        subst ex eH
        obtain ⟨e3, s3, q3⟩ := dy_tup (xs := [v, v2]) (ds := [d0, e0]) s hT (.cons (dp_m rv f) (.cons (dp_m rv2 f) .nil))
        exact ⟨_, e3, s3, q3⟩
  · rw [hi, zpD_len, l1]; exact Nat.min_le_left _ _
  · rw [hi, zpD_len, l2]; exact Nat.min_le_right _ _
  · rw [hi, zpD_len, l1, l2]; omega
theorem srv_zq {K : Kx} {fz : Bool} {F H : Hp} {ds es fs : List D} {a b c : Sid} {xs ys zs : List V} (k : SrcK K fz F H ds a xs) (k2 : SrcK K fz F H es b ys) (k3 : SrcK K fz F H fs c zs) : Srv K fz F H (zp3D ds es fs) (ItZq K a b c) := by
  have l1 := da_len k.2
  have l2 := da_len k2.2
  have l3 := da_len k3.2
  refine ⟨fun i F' H' f g s d hd => ?_, fun i F' H' f g s hi => ⟨xs, ys, zs, k.1 F' H' f g s, k2.1 F' H' f g s, k3.1 F' H' f g s, ?_, ?_, ?_, ?_⟩⟩
  · obtain ⟨d0, e0, f0, e, e2, e3, rfl⟩ := zp3D_get ds es fs i d hd
    obtain ⟨v, hv, rv⟩ := da_get k.2 e
    obtain ⟨v2, hv2, rv2⟩ := da_get k2.2 e2
    obtain ⟨v3, hv3, rv3⟩ := da_get k3.2 e3
    refine ⟨⟨xs, ys, zs, k.1 F' H' f g s, k2.1 F' H' f g s, k3.1 F' H' f g s, (List.getElem?_eq_some_iff.mp hv).1, (List.getElem?_eq_some_iff.mp hv2).1, (List.getElem?_eq_some_iff.mp hv3).1⟩, fun x H'' hy => ?_⟩
    obtain ⟨T, x0, y0, z0, ex, hT, eH, hx, hy, hz⟩ := hy
    have hx := (hx xs (k.1 F' H' f g s)).symm.trans hv
    have hy := (hy ys (k2.1 F' H' f g s)).symm.trans hv2
    have hz := (hz zs (k3.1 F' H' f g s)).symm.trans hv3
    cases hx; cases hy; cases hz
    subst ex eH
    obtain ⟨e4, s4, q4⟩ := dy_tup (xs := [v, v2, v3]) (ds := [d0, e0, f0]) s hT (.cons (dp_m rv f) (.cons (dp_m rv2 f) (.cons (dp_m rv3 f) .nil)))
    exact ⟨_, e4, s4, q4⟩
  · rw [hi, zp3D_len, l1]; exact Nat.min_le_left _ _
  · rw [hi, zp3D_len, l2]; omega
  · rw [hi, zp3D_len, l3]; omega
  · rw [hi, zp3D_len, l1, l2, l3]; omega
theorem snd_en {n : Nat} (hn : n ≤ 1) {tg : Expr} (ht : (asTup tg).isSome = true) {e : E} {pe : Expr} {p q : Pos} (dx : DX X C G sc) (hg : glB sc "enumerate" = true) (hm : C.bl.contains "enumerate" = true) (hp : plainE pe = true) (h : Snd X pe (fun md => wE G md e)) :
    PI X tg (.Call (.Name "enumerate" p) [pe] [] q) (tIs (kxOf X) (n == 0) (wI G n (.en e))) := by
  obtain ⟨g1, g2⟩ := dx.gl hg
  obtain ⟨els, hels⟩ := Option.isSome_iff_exists.mp ht
  obtain ⟨kk, tp, rfl⟩ := asTup_s hels
  refine pi_w (pi_en g1 (dx.bl _ hm) (pa_cons (h.n n) pa_nil (star_cons hp)) (star_cons hp)) fun σ H Z ⟨F0, H0, F, ρ, Q, rr, hw, k⟩ => ?_
  have hw : wE G (.t n) e ρ fun d => ∃ ds, seqOf d = some ds ∧ Q (enD 0 ds) := hw
  refine ⟨F0, H0, F, ρ, _, rr, hw, fun v F' H' d e s r ⟨ds, hd, hq⟩ => ?_⟩
  obtain ⟨sid, xs, rfl, hv, sk⟩ := src_of s hn r hd
  exact ⟨sid, xs, rfl, hv, k _ F' H' _ e s (srv_en sk) hq⟩
theorem snd_zp {n : Nat} (hn : n ≤ 1) {tg : Expr} (ht : (asTup tg).isSome = true) {a b : E} {pa pb : Expr} {p q : Pos} (dx : DX X C G sc) (hg : glB sc "zip" = true) (hm : C.bl.contains "zip" = true) (hp : plainE pa = true) (hpb : plainE pb = true) (h : Snd X pa (fun md => wE G md a)) (h2 : Snd X pb (fun md => wE G md b)) :
    PI X tg (.Call (.Name "zip" p) [pa, pb] [] q) (tIs (kxOf X) (n == 0) (wI G n (.zp a b))) := by
  obtain ⟨g1, g2⟩ := dx.gl hg
  obtain ⟨els, hels⟩ := Option.isSome_iff_exists.mp ht
  obtain ⟨kk, tp, rfl⟩ := asTup_s hels
  refine pi_w (pi_zp g1 (dx.bl _ hm) (pa_cons (h.n n) (pa_cons (h2.n n) pa_nil (star_cons hpb)) (star_cons hp)) (star_cons hp) (star_any (by simp [hpb]))) fun σ H Z ⟨F0, H0, F, ρ, Q, rr, hw, k⟩ => ?_
  have hw : wE G (.t n) a ρ fun d => wE G (.t n) b ρ fun e => ∃ ds es, seqOf d = some ds ∧ seqOf e = some es ∧ Q (zpD ds es) := hw
  refine ⟨F0, H0, F, ρ, _, rr, hw, fun v F1 H1 d e1 s1 r1 h1 => ⟨F0, H0, F1, ρ, _, rr.go e1 s1, h1, fun v2 F2 H2 d2 e2 s2 r2 ⟨ds, es, hd, he, hq⟩ => ?_⟩⟩
  obtain ⟨sid, xs, rfl, hv, sk⟩ := src_of s2 hn (r1.mono e2.f e2.h) hd
  obtain ⟨sid2, ys, rfl, hv2, sk2⟩ := src_of s2 hn r2 he
  exact ⟨sid, sid2, xs, ys, rfl, hv, hv2, k _ F2 H2 _ (e1.trans e2) s2 (srv_zp sk sk2) hq⟩
theorem snd_zp3 {n : Nat} (hn : n ≤ 1) {tg : Expr} (ht : (asTup tg).isSome = true) {a b c : E} {pa pb pc : Expr} {p q : Pos} (dx : DX X C G sc) (hg : glB sc "zip" = true) (hm : C.bl.contains "zip" = true) (hp : plainE pa = true) (hpb : plainE pb = true) (hpc : plainE pc = true) (h : Snd X pa (fun md => wE G md a)) (h2 : Snd X pb (fun md => wE G md b)) (h3 : Snd X pc (fun md => wE G md c)) :
    PI X tg (.Call (.Name "zip" p) [pa, pb, pc] [] q) (tIs (kxOf X) (n == 0) (wI G n (.zp3 a b c))) := by
  obtain ⟨g1, g2⟩ := dx.gl hg
  obtain ⟨els, hels⟩ := Option.isSome_iff_exists.mp ht
  obtain ⟨kk, tp, rfl⟩ := asTup_s hels
  refine pi_w (pi_zq g1 (dx.bl _ hm) (pa_cons (h.n n) (pa_cons (h2.n n) (pa_cons (h3.n n) pa_nil (star_cons hpc)) (star_cons hpb)) (star_cons hp)) (star_cons hp) (star_any (by simp [hpb, hpc]))) fun σ H Z ⟨F0, H0, F, ρ, Q, rr, hw, k⟩ => ?_
  have hw : wE G (.t n) a ρ fun d => wE G (.t n) b ρ fun e => wE G (.t n) c ρ fun f => ∃ ds es fs, seqOf d = some ds ∧ seqOf e = some es ∧ seqOf f = some fs ∧ Q (zp3D ds es fs) := hw
  refine ⟨F0, H0, F, ρ, _, rr, hw, fun v F1 H1 d e1 s1 r1 h1 => ⟨F0, H0, F1, ρ, _, rr.go e1 s1, h1, fun v2 F2 H2 d2 e2 s2 r2 h2 => ⟨F0, H0, F2, ρ, _, (rr.go e1 s1).go e2 s2, h2, fun v3 F3 H3 d3 e3 s3 r3 ⟨ds, es, fs, hd, he, hf, hq⟩ => ?_⟩⟩⟩
  have e23 := e2.trans e3
  obtain ⟨sid, xs, rfl, hv, sk⟩ := src_of s3 hn (r1.mono e23.f e23.h) hd
  obtain ⟨sid2, ys, rfl, hv2, sk2⟩ := src_of s3 hn (r2.mono e3.f e3.h) he
  obtain ⟨sid3, zs, rfl, hv3, sk3⟩ := src_of s3 hn r3 hf
  exact ⟨sid, sid2, sid3, xs, ys, zs, rfl, hv, hv2, hv3, k _ F3 H3 _ ((e1.trans e2).trans e3) s3 (srv_zq sk sk2 sk3) hq⟩

/-! ### targets -/
def gDs (K : Kx) (sl : List Nat) (w : D → Env → (Env → Prop) → Prop) : TG := fun v σ H Z =>
  ∃ F0 H0 F ρ d Q, R K F0 H0 F ρ σ H ∧ Rp K F v d ∧ w d ρ Q ∧ ∀ ρ' σ', R K F0 H0 F ρ' σ' H → σ'.length = σ.length → (∀ j, j ∉ sl → σ'[j]? = σ[j]?) → Q ρ' → Z σ' H
theorem pg_w {X : Cx} {e : Expr} {t t' : TG} (h : PG X e t) (k : ∀ v σ H Q, t' v σ H Q → t v σ H Q) : PG X e t' := ⟨fun pins s σ H v u Q I r hw => h.run pins s σ H v u Q I r (k v σ H Q hw)⟩
theorem pgs_w {X : Cx} {e : List Expr} {t t' : TGs} (h : PGs X e t) (k : ∀ v σ H Q, t' v σ H Q → t v σ H Q) : PGs X e t' := ⟨fun pins s σ H v u Q I r hw => h.run pins s σ H v u Q I r (k v σ H Q hw)⟩
theorem tg_plain {es : List Expr} {is : List Nat} {env : PySem.Env} (h : okTgs C sc is es = true) : (assignEach es env).map (·.2) = es.map (fun e => assign e env) ∧ (assignEach es env).length = es.length ∧ (assignEach es env).findIdx? (·.1) = none := by
  induction es generalizing is with
  | nil => exact ⟨rfl, rfl, rfl⟩
  | cons e es ih =>
    cases is with
    | nil => simp [okTgs] at h
    | cons i is =>
      simp only [okTgs, Bool.and_eq_true] at h
      obtain ⟨h1, h2⟩ := h
      cases e1 : asName e with
      | none => rw [e1] at h1; cases h1
      | some x =>
        obtain ⟨p, rfl⟩ := asName_s e1
        obtain ⟨a, b, c⟩ := ih h2
        refine ⟨?_, ?_, ?_⟩
        · show assign _ env :: (assignEach es env).map (·.2) = _
          rw [a]; rfl
        · show (assignEach es env).length + 1 = _
          rw [b]; rfl
        · show ((false, assign (.Name x p) env) :: assignEach es env).findIdx? (·.1) = none
          rw [List.findIdx?_cons, c]; rfl
theorem snd_nm (X : Cx) (hN : X.N = C.N) (nd : C.N.Nodup) (hs : X.env.scope = sc) {i : Nat} {pe : Expr} (h : okTg C sc (.nm i) pe = true) (hf : ∀ x ∈ tgNames pe, X.fn x = true ∨ X.env.scope.names.lookup x = some .local) :
    PG X pe (gDs (kxOf X) [i] (wG (.nm i))) := by
  replace h : (match asName pe with | some x => decide (C.N[i]? = some x) && locB sc x | none => false) = true := h
  cases e : asName pe with
  | none => rw [e] at h; cases h
  | some x =>
    rw [e] at h
    obtain ⟨p, rfl⟩ := asName_s e
    simp only [Bool.and_eq_true, decide_eq_true_eq] at h
    have hl : Loc X.env.scope x := by
      have := h.2
      unfold locB at this
      simp only [Bool.or_eq_true, decide_eq_true_eq] at this
      rw [hs]; exact this
    refine pg_w (pg_name (i := i) (by rw [hN]; exact nd) (by rw [hN]; exact h.1) hl (hf x (by simp [tgNames]))) fun v σ H Z ⟨F0, H0, F, ρ, d, Q, rr, q, hw, k⟩ => ?_
    obtain ⟨hi, hq⟩ : i < ρ.length ∧ Q (ρ.set i (some (.fz d))) := hw
    refine k _ _ (rr.setF hi q) (List.length_set ..) (fun j hj => ?_) hq
    have : i ≠ j := fun z => hj (by rw [z]; simp)
    rw [List.getElem?_set_ne this]
theorem snd_nms (X : Cx) (hN : X.N = C.N) (nd : C.N.Nodup) (hs : X.env.scope = sc)   : ∀ {is : List Nat} {es : List Expr}, okTgs C sc is es = true → (∀ x ∈ es.filterMap asName, X.fn x = true ∨ X.env.scope.names.lookup x = some .local) →
    PGs X es (fun vs σ H Z => ∃ (F0 H0 F : Hp) (ρ : Env) (ds : List D) (Q : Env → Prop), R (kxOf X) F0 H0 F ρ σ H ∧ RpAll (kxOf X) F vs ds ∧ (∃ ρ', setAll is ds ρ = some ρ' ∧ Q ρ') ∧ ∀ ρ' σ', R (kxOf X) F0 H0 F ρ' σ' H → σ'.length = σ.length → (∀ j, j ∉ is → σ'[j]? = σ[j]?) → Q ρ' → Z σ' H)
  | [], [], h, _ => pgs_w pgs_nil fun vs σ H Z ⟨F0, H0, F, ρ, ds, Q, rr, q, ⟨ρ', h1, hq⟩, k⟩ => by
    cases ds with
    | nil =>
      cases q
      cases h1
      exact ⟨rfl, k ρ σ rr rfl (fun _ _ => rfl) hq⟩
    | cons _ _ => cases h1
  | i :: is, e :: es, h, hf => by
    have h0 := h
    simp only [okTgs, Bool.and_eq_true] at h
    obtain ⟨h1, h2⟩ := h
    have hn := snd_nm X hN nd hs (i := i) (pe := e) h1 (fun x hx => hf x (by
      cases e1 : asName e with
      | none => rw [e1] at h1; cases h1
      | some y =>
        obtain ⟨p, rfl⟩ := asName_s e1
        rw [List.filterMap_cons, e1]
        have : x = y := by simpa [tgNames] using hx
        rw [this]; exact List.mem_cons_self))
    have ih := snd_nms X hN nd hs h2 (fun x hx => hf x (by
      rw [List.filterMap_cons]
      split
      · exact hx
      · exact List.mem_cons_of_mem _ hx))
    refine pgs_w (pgs_cons hn ih ?_) fun vs σ H Z ⟨F0, H0, F, ρ, ds, Q, rr, q, ⟨ρ', h1, hq⟩, k⟩ => ?_
    · have a := (tg_plain (env := X.env) h0).1
      have b := (tg_plain (env := X.env) h2).1
      rw [a, b]; rfl
    · cases ds with
      | nil => cases h1
      | cons d ds =>
        cases q with
        | cons q1 q2 =>
          unfold setAll at h1
          split at h1
          · rename_i hi
            refine ⟨_, _, rfl, F0, H0, F, ρ, d, fun ρ1 => ρ1 = ρ.set i (some (.fz d)), rr, q1, ⟨hi, rfl⟩, fun ρ1 σ1 r1 l1 e1 eq => ?_⟩
            subst eq
            refine ⟨F0, H0, F, _, ds, Q, r1, q2, ⟨ρ', h1, hq⟩, fun ρ2 σ2 r2 l2 e2 hq2 => k ρ2 σ2 r2 (l2.trans l1) (fun j hj => ?_) hq2⟩
            simp only [List.mem_cons, not_or] at hj
            exact (e2 j hj.2).trans (e1 j (by simpa using hj.1))
          · cases h1
  | [], _ :: _, h, _ => by simp [okTgs] at h
  | _ :: _, [], h, _ => by simp [okTgs] at h
theorem snd_tg (X : Cx) (hc : X.calm = true) (hN : X.N = C.N) (nd : C.N.Nodup) (hs : X.env.scope = sc) {tg : Tg} {pe : Expr} (h : okTg C sc tg pe = true) (hf : ∀ x ∈ tgNames pe, X.fn x = true ∨ X.env.scope.names.lookup x = some .local) :
    PG X pe (gDs (kxOf X) tg.slots (wG tg)) := by
  cases tg with
  | nm i => exact snd_nm X hN nd hs h hf
  | tp is =>
    replace h : (match asTup pe with | some es => okTgs C sc is es | none => false) = true := h
    cases e : asTup pe with
    | none => rw [e] at h; cases h
    | some es =>
      rw [e] at h
      obtain ⟨j, p, rfl⟩ := asTup_s e
      obtain ⟨a, b, c⟩ := tg_plain (env := X.env) h
      refine pg_w (pg_tup hc (snd_nms X hN nd hs h hf) b c) fun v σ H Z ⟨F0, H0, F, ρ, d, Q, rr, q, hw, k⟩ => ?_
      cases d with
      | tuple ds =>
        obtain ⟨ρ', h1, hq⟩ : ∃ ρ', setAll is ds ρ = some ρ' ∧ Q ρ' := hw
        cases q with
        | tup hs ha =>
          refine ⟨_, _, rfl, sqT_mono rr.sub hs, ?_, F0, H0, F, ρ, ds, Q, rr, ha, ⟨ρ', h1, hq⟩, k⟩
          rw [da_len ha]
          have l1 : ∀ (is : List Nat) (ds : List D) (ρ ρ' : Env), setAll is ds ρ = some ρ' → is.length = ds.length := by
            intro is
            induction is with
            | nil => intro ds ρ ρ' h; cases ds with
              | nil => rfl
              | cons _ _ => cases h
            | cons i is ih => intro ds ρ ρ' h; cases ds with
              | nil => cases h
              | cons d ds =>
                unfold setAll at h
                split at h
                · rw [List.length_cons, List.length_cons, ih _ _ _ h]
                · cases h
          have l2 : ∀ (is : List Nat) (es : List Expr), okTgs C sc is es = true → is.length = es.length := by
            intro is
            induction is with
            | nil => intro es h; cases es with
              | nil => rfl
              | cons _ _ => simp [okTgs] at h
            | cons i is ih => intro es h; cases es with
              | nil => simp [okTgs] at h
              | cons e es =>
                simp only [okTgs, Bool.and_eq_true] at h
                rw [List.length_cons, List.length_cons, ih _ h.2]
          rw [← l1 _ _ _ _ h1, l2 _ _ h]
      | _ => exact (show False from hw).elim
end
end PD

set_option maxHeartbeats 2000000
/-! dict comprehensions whose dicts have keys of any sort -/
namespace PD
open PySem PySem.Spec PyProof.Rows L2
section
variable {X : Cx} {pins : List (Addr × Obj)} {σ : L2.St} {H : Hp} {s : Shared} {A : Around} {E : Value → Shared → Prop} {a b : Addr} {es : List Ent} {k : NestedKey} {u : Value}
/-- .. by a comprehension -/
theorem n_dictSet {y v : V} {r : Value} {Q : Unit → Shared → Prop} (hu : A.units + 1 + 8 < cLine) (I : Inv X pins σ H s) (ha : H a = some (DO X.prog X.w a es)) (hk : KeysIn X.prog X.w s.heap es) (hy : KyU X.prog X.w s.heap k u) (ry : RelV y u) (hs : Uni es (isTupK k)) (rv : RelV v r) (hz : es.length < sizeLine)
    (h : ∀ s', Inv X pins σ (upd H a (DO X.prog X.w a (dPut es k y v))) s' → Q () s') : wpAny (model X.prog X.w) A (dictSet a u r) Q E s := by
  have hl : (dPut es k y v).length ≤ sizeLine := Nat.le_trans (dPut_len y v) hz
  rcases hy with ⟨q, rfl, rq⟩ | ⟨b, rfl, hb, ht⟩
  · rw [nkK_tup] at hs
    obtain ⟨h1, h2, ks, p, d⟩ := do_sc I ha hs
    have ey : y = kV q := by
      cases q with
      | inl i =>
        obtain ⟨t, rfl⟩ := rq
        cases y <;> first | (obtain ⟨t', e⟩ := ry; cases e; rfl) | (cases (show _ = _ from ry)) | (obtain ⟨t', e⟩ := ry; cases e)
      | inr i =>
        obtain ⟨t, rfl⟩ := rq
        cases y <;> first | (obtain ⟨t', e⟩ := ry; cases e; rfl) | (cases (show _ = _ from ry)) | (obtain ⟨t', e⟩ := ry; cases e)
    subst ey
    refine wpAny_dictSet_pairs (hsz := by rw [← Paired.length p]; exact h2) (kV_is rq) d fun h' d' hs' => h _ ?_
    have he : ∃ q, h'.get? a = some q := let ⟨q, _, _, hq, _⟩ := d'; ⟨q, hq⟩
    exact d_write I (by rw [ha]; exact True.intro) hs' he (do_new h1 hl (.inl ⟨_, kp_put p q rv, d'⟩))
  · rw [ht] at hs
    obtain ⟨h1, h2, xs, p, d⟩ := do_tp I ha hs hk
    have ey : y = .ref b := relV_ref ry
    subst ey
    refine wpAny_dictSet_heap (knd := nestedKind X.prog X.w) (hsz := by rw [← Paired.length p]; exact h2) (show A.units + 8 < cLine by omega) hb d fun h' d' hs' => h _ ?_
    have he : ∃ q, h'.get? a = some q := let ⟨q, _, _, hq, _⟩ := d'; ⟨q, hq⟩
    exact d_write I (by rw [ha]; exact True.intro) hs' he (do_new h1 hl (.inr ⟨_, np_put p k ht b rv, dofh_raw d'⟩))
end
section
variable {X : Cx}
/-- {k: v for target in iter if ..}: D the new dict -/
def tDcO (X : Cx) (wi : TI) (g : TG) (tt : TT) (tk tv : TE) (vs : List Nat) : TE := fun σ H Q => wi σ H fun J H1 => ∀ D, H1 D = none → ∃ W : Nat → Nat → Hp → Prop, (∃ m, W 0 m (upd H1 D (DO X.prog X.w D []))) ∧ ∀ i m H, W i m H →
  (J.stop i H ∧ Q (.ref D) H) ∨ (J.go i H ∧ ∃ Nx : Hp → Prop, (∀ H', Nx H' → ∃ m', m' < m ∧ W (i + 1) m' H') ∧ ∀ x H', J.yld i H x H' → g x (wipe σ vs) H' fun σ2 H2 => wipe σ2 vs = wipe σ vs ∧ tt σ2 H2 fun b H3 =>
    if b = true then tk σ2 H3 fun y H4 => tv σ2 H4 fun z H5 => ∃ es n, KFor (kxOf X) H5 D es y n ∧ es.length < sizeLine ∧ Nx (upd H5 D (DO X.prog X.w D (dPut es n y z))) else Nx H3)
theorem dcO_core {pins : List (Addr × Obj)} {s : Shared} {σ : L2.St} {H : Hp} {Q : VK} {kx vx tg iter : Expr} {ifs : List Expr} {scope : Scope} {own : List (Str × Nat)} {pos pos' : Pos} {wi : TI} {g : TG} {tt : TT} {tk tv : TE} {use : Option (Value → Sem Unit)} {Qf : Value → Shared → Prop}
    (hu : X.A.units + 9 < cLine) (hc : X.calm = true) (hN : X.N.Nodup) (I : Inv X pins σ H s) (hi : PI X tg iter wi) (ok : BlkOk X.N X.env.scope scope own)
    (hg : ∀ (s : Shared) (H : Hp) (C : Addr) (cl : List (Str × Addr)) (fp : List Addr), PG (X.blk s H scope (compEnvC scope cl C X.env) fp) tg g) (ht : ∀ (s : Shared) (H : Hp) (C : Addr) (cl : List (Str × Addr)) (fp : List Addr), PTs (X.blk s H scope (compEnvC scope cl C X.env) fp) ifs tt)
    (hk : ∀ (s : Shared) (H : Hp) (C : Addr) (cl : List (Str × Addr)) (fp : List Addr), PE (X.blk s H scope (compEnvC scope cl C X.env) fp) kx tk)
    (he : ∀ (s : Shared) (H : Hp) (C : Addr) (cl : List (Str × Addr)) (fp : List Addr), PE (X.blk s H scope (compEnvC scope cl C X.env) fp) vx tv) (hs : ∀ x, foldedSetIterable iter X.env x = pure x)
    (h : tDcO X wi g tt tk tv (own.map (·.2)) σ H Q)
    (hRR : ∀ D C s' m H', Inv X pins σ H' s' → Q (.ref D) H' → s'.heap.Ns C m → FpOk X pins H' C → compPost (model X.prog X.w) X.A X.xe use Qf (.ref D) C (.ok .next) s') :
    wpAny (model X.prog X.w) X.A (comprehension (.DictComp kx vx [⟨tg, iter, ifs, 0⟩] scope pos) scope X.env pos' newDict false (eval iter X.env) use) Qf X.xe s := by
  have hfree : ∀ y ∈ scope.names, y.2 = .free → ∃ c, X.env.cells.lookup y.1 = some c := fun y hy e => by
    rcases ok.free y hy e with k | k
    · exact I.ok.has _ (.inl k)
    · exact I.ok.has _ (.inr k)
  refine wpAny_comprehension_free (use := use) rfl hs (closure_ok hfree) ok.kind (fun y hy e => by rw [ok.uniq y hy, e])
    (thn (hi.run pins s σ H _ I h) fun xv s1 hx => thn hx fun itv s2 h2 => ?_)
  obtain ⟨it, fp, tn, J, H2, e, I2, T, st2, f2, q⟩ := h2
  subst e
  refine wpAny_newObj_type (newEnv_comp ?_)
  generalize hD : s2.heap.objs.size = D
  have hDn : H2 D = none := I2.hok.fresh (Nat.le_of_eq hD)
  obtain ⟨W, ⟨m0, w0⟩, turn⟩ := q D hDn
  -- the new list
  generalize hs3 : ({ s2 with heap := s2.heap.push { cls := .type "dict", data := .dict #[] } } : Shared) = s3
  have I3 : Inv X pins σ (upd H2 D (DO X.prog X.w D [])) s3 := by
    rw [← hs3]
    refine I2.laid (t' := s2.toks) (fun b o e => Heap.get?_push_of_some _ e) (Nat.le_of_eq hD) ?_
    rw [← hD]
    exact do_empty s2.heap I2.big
  have h3 : s3.heap = s2.heap.push { cls := .type "dict", data := .dict #[] } := by rw [← hs3]
  have sz : ∀ b ∈ fp, b < s2.heap.objs.size := fun b hb => by
    obtain ⟨o, e, _⟩ := T.obj _ _ st2 b hb
    exact Heap.lt_size e
  have f3 : ∀ b ∈ fp, FpOk X pins (upd H2 D (DO X.prog X.w D [])) b ∧ b < s3.heap.objs.size := fun b hb => by
    have hlt := sz b hb
    refine ⟨⟨?_, (f2 b hb).2⟩, by rw [h3, Heap.size_push]; exact Nat.lt_succ_of_lt hlt⟩
    rw [upd_ne (by rw [← hD]; exact Nat.ne_of_lt hlt)]
    exact (f2 b hb).1
  have st3 : tn 0 s3.heap := T.keep _ _ _ st2 fun b _ o e => by rw [h3]; exact Heap.get?_push_of_some _ e
  have I4 := block_start I3 ok hN f3
  have pg := hg s3 (upd H2 D (DO X.prog X.w D [])) s3.heap.objs.size (cellsFrom (s3.heap.objs.size + 1) scope.names (cloFrom X.env.cells scope.names [])) fp
  have pt := ht s3 (upd H2 D (DO X.prog X.w D [])) s3.heap.objs.size (cellsFrom (s3.heap.objs.size + 1) scope.names (cloFrom X.env.cells scope.names [])) fp
  have pk := hk s3 (upd H2 D (DO X.prog X.w D [])) s3.heap.objs.size (cellsFrom (s3.heap.objs.size + 1) scope.names (cloFrom X.env.cells scope.names [])) fp
  have pe := he s3 (upd H2 D (DO X.prog X.w D [])) s3.heap.objs.size (cellsFrom (s3.heap.objs.size + 1) scope.names (cloFrom X.env.cells scope.names [])) fp
  show codeAny _ _ (.compStart (.DictComp kx vx [⟨tg, iter, ifs, 0⟩] scope pos) 0 (.ref it) (.ref D) (compEnvC scope (cellsFrom (s3.heap.objs.size + 1) scope.names (cloFrom X.env.cells scope.names [])) s3.heap.objs.size X.env)) (compPost (model X.prog X.w) X.A X.xe use Qf (.ref D) s3.heap.objs.size) { s3 with heap := pushCells (s3.heap.push { cls := .type "dict", data := .dict #[] }) scope.names }
  have nfp : ∀ b ∈ fp, (upd H2 D (DO X.prog X.w D [])) b = none := fun b hb => (f3 b hb).1.1
  generalize hce : compEnvC scope (cellsFrom (s3.heap.objs.size + 1) scope.names (cloFrom X.env.cells scope.names [])) s3.heap.objs.size X.env = ce at I4 pg pt pk pe ⊢
  have cL : ce.locals = s3.heap.objs.size := by subst hce; rfl
  generalize hH3 : upd H2 D (DO X.prog X.w D []) = H3 at I3 I4 pg pt pk pe w0 nfp f3
  generalize hs4 : ({ s3 with heap := pushCells (s3.heap.push { cls := .type "dict", data := .dict #[] }) scope.names } : Shared) = s4 at I4 ⊢
  have st4 : tn 0 s4.heap := T.keep _ _ _ st3 fun b _ o e => by rw [← hs4]; exact pushCells_keeps _ _ _ _ (Heap.get?_push_of_some _ e)
  have stat : ∀ {σ' : L2.St} {H' : Hp} {s' : Shared}, Inv (X.blk s3 H3 scope ce fp) [] σ' H' s' → (∀ b ∈ fp, H' b = none) → ∀ b ∈ fp, FpOk (X.blk s3 H3 scope ce fp) [] H' b := fun {σ' H' s'} I' hn b hb =>
    ⟨hn b hb, (I'.ok.exf b hb).1, I'.ok.exfs b hb, .inl hb, fun x c e => (I'.ok.exf b hb).2 x c e, fun p hp => absurd (show p ∈ ([] : List (Addr × Obj)) ++ [] from hp) (by simp)⟩
  have loop : codeAny (model X.prog X.w) X.A (.compLoop (.DictComp kx vx [⟨tg, iter, ifs, 0⟩] scope pos) 0 (.ref it) (.ref D) ce) (compPost (model X.prog X.w) X.A X.xe use Qf (.ref D) s3.heap.objs.size) s4 := by
    refine compLoop_anyD (fun n s' => ∃ i H', Inv (X.blk s3 H3 scope ce fp) [] (wipe σ (own.map (·.2))) H' s' ∧ tn i s'.heap ∧ (∀ b ∈ fp, H' b = none) ∧ W i n H') ?_ m0 ⟨0, H3, I4, st4, nfp, w0⟩
    rintro n s5 ⟨i, H5, I5, st5, n5, w5⟩
    rcases turn i n H5 w5 with ⟨stop, qq⟩ | ⟨go, Nx, hNx, step⟩
    · have td := T.done (X.blk s3 H3 scope ce fp) rfl rfl rfl hc i [] s5 _ H5 (fun _ _ => False) I5 (stat I5 n5) st5 stop
      refine thnF td fun r s6 ⟨hr, I6⟩ => ?_
      subst hr
      -- back in the def's context
      have I7 : Inv X pins σ H5 s6 := I3.call' (ch := fp) I6.os I6.base I6.hok I6.bare fun b hb => ⟨(f3 b hb).1.2.2.2.1, (f3 b hb).1.2.1, (f3 b hb).1.2.2.2.2.1, (f3 b hb).1.2.2.2.2.2⟩
      have nC : H5 s3.heap.objs.size = none := by
        have z : H5 ce.locals = none := I6.free
        rw [cL] at z
        exact z
      obtain ⟨m, hn, _⟩ := I6.loc
      have hn : s6.heap.Ns ce.locals m := hn
      rw [cL] at hn
      exact hRR D s3.heap.objs.size s6 m H5 I7 qq hn (I3.fpOk (Nat.le_refl _) nC)
    · have ti := T.item (X.blk s3 H3 scope ce fp) rfl rfl rfl hc i [] s5 _ H5 (fun _ _ => False) I5 (stat I5 n5) st5 go
      refine thnF ti fun r s6 ⟨u, hr, h6⟩ => ?_
      subst hr
      refine thnF h6 fun _ s7 ⟨x, H7, I7, r7, y7, st7, n7⟩ => ?_
      have I7' := I7.pinned (stat I7 n7) (T.obj _ _ st7)
      refine thnF (pg.run _ s7 _ H7 x u _ I7' r7 (step x H7 y7)) fun _ s8 ⟨σ8, H8, I8, hw8, q8⟩ => ?_
      refine thnF (pt.run _ s8 σ8 H8 _ I8 q8) fun b s9 ⟨H9, I9, q9⟩ => ?_
      -- the turn's end
      have fin : ∀ {s' : Shared} {H' : Hp}, Inv (X.blk s3 H3 scope ce fp) ([] ++ pinsAt fp s7.heap) σ8 H' s' → Nx H' → ∃ m, m < n ∧ ∃ i H', Inv (X.blk s3 H3 scope ce fp) [] (wipe σ (own.map (·.2))) H' s' ∧ tn i s'.heap ∧ (∀ b ∈ fp, H' b = none) ∧ W i m H' := fun {s' H'} I' nx => by
        obtain ⟨m', hm, w'⟩ := hNx H' nx
        have pin' : ∀ b ∈ fp, ∀ o, s7.heap.get? b = some o → s'.heap.get? b = some o ∧ H' b = none := fun b hb o e =>
          let z := I'.pin (b, o) (List.mem_append_right _ (List.mem_append_right _ (mem_pinsAt hb e)))
          ⟨z.1, z.2.1⟩
        have hl : (wipe σ (own.map (·.2))).length = σ8.length := by rw [← hw8, wipe_length]
        refine ⟨m', hm, i + 1, H', (I'.unpinned (pins := [])).weak hl (fun j v e => ?_), T.keep _ _ _ st7 fun b hb o e => (pin' b hb o e).1, fun b hb => ?_, w'⟩
        · rw [← hw8] at e
          exact (wipe_some e).1
        · obtain ⟨o, e, _⟩ := T.obj _ _ st7 b hb
          exact (pin' b hb o e).2
      cases b with
      | false =>
        simp only [Bool.false_eq_true, if_false] at q9 ⊢
        exact fin I9 q9
      | true =>
        simp only [if_true] at q9 ⊢
        refine thnF (pk.run _ s9 σ8 H9 _ I9 q9) fun z s10 ⟨yk, H10, I10, r10, q10⟩ => ?_
        refine thnF (pe.run _ s10 σ8 H10 _ I10 q10) fun z2 s11 ⟨yv, H11, I11, r11, es, n, ⟨F, ks, kd, sm, hD11, rk, rp, hn, hun⟩, hz11, nx⟩ => ?_
        exact n_dictSet (X := X.blk s3 H3 scope ce fp) (show X.A.units + 1 + 8 < cLine by omega) I11 hD11 (keysIn_of I11 sm rk) (ky_of I11 sm rp hn r10) r10 (uni_of rk hun hn.1) r11 hz11 fun s12 I12 => fin I12 nx
  exact codeAny_compStart_dict loop (T.self X.A 0 _ _ _ st4 loop)
/-- as a value -/
theorem pe_dcO {kx vx tg iter : Expr} {ifs : List Expr} {scope : Scope} {own : List (Str × Nat)} {pos : Pos} {wi : TI} {g : TG} {tt : TT} {tk tv : TE} (hu : X.A.units + 9 < cLine) (hc : X.calm = true) (hN : X.N.Nodup) (hi : PI X tg iter wi) (ok : BlkOk X.N X.env.scope scope own)
    (hg : ∀ (s : Shared) (H : Hp) (C : Addr) (cl : List (Str × Addr)) (fp : List Addr), PG (X.blk s H scope (compEnvC scope cl C X.env) fp) tg g) (ht : ∀ (s : Shared) (H : Hp) (C : Addr) (cl : List (Str × Addr)) (fp : List Addr), PTs (X.blk s H scope (compEnvC scope cl C X.env) fp) ifs tt)
    (hk : ∀ (s : Shared) (H : Hp) (C : Addr) (cl : List (Str × Addr)) (fp : List Addr), PE (X.blk s H scope (compEnvC scope cl C X.env) fp) kx tk)
    (he : ∀ (s : Shared) (H : Hp) (C : Addr) (cl : List (Str × Addr)) (fp : List Addr), PE (X.blk s H scope (compEnvC scope cl C X.env) fp) vx tv) (hs : ∀ x, foldedSetIterable iter X.env x = pure x := by intro _; rfl) :
    PE X (.DictComp kx vx [⟨tg, iter, ifs, 0⟩] scope pos) (tDcO X wi g tt tk tv (own.map (·.2))) := by
  refine ⟨fun pins s σ H Q I h => ?_⟩
  rw [arm_eval_DictComp]
  refine dcO_core hu hc hN I hi ok hg ht hk he hs h fun D C s' m H' I' q hn f => ⟨m, hn, fun h'' sb => ?_⟩
  obtain ⟨f0, f1, f2, f3, f4, f5⟩ := f
  exact ⟨.ref D, H', I'.turned (t' := s'.toks) (fun b o hb e => (sb.2 b hb).trans e) f0 f1 f3 f4 f5, rfl, q⟩
/-- name = {..}: the name is written before the comprehension's frame goes -/
theorem ps_setDcO {i : Nat} {y : Str} {py : Pos} {kx vx tg iter : Expr} {ifs : List Expr} {scope : Scope} {own : List (Str × Nat)} {pos spos : Pos} {wi : TI} {g : TG} {tt : TT} {tk te : TE} (hu : X.A.units + 9 < cLine) (hc : X.calm = true) (hN : X.N.Nodup) (hy : X.N[i]? = some y) (hyl : X.env.scope.names.lookup y = some .local)
    (hsw : swapsWith (.DictComp kx vx [⟨tg, iter, ifs, 0⟩] scope pos) (some (.Name y py)) spos.line X.env = pure true) (hi : PI X tg iter wi) (ok : BlkOk X.N X.env.scope scope own)
    (hg : ∀ (s : Shared) (H : Hp) (C : Addr) (cl : List (Str × Addr)) (fp : List Addr), PG (X.blk s H scope (compEnvC scope cl C X.env) fp) tg g) (ht : ∀ (s : Shared) (H : Hp) (C : Addr) (cl : List (Str × Addr)) (fp : List Addr), PTs (X.blk s H scope (compEnvC scope cl C X.env) fp) ifs tt)
    (hk : ∀ (s : Shared) (H : Hp) (C : Addr) (cl : List (Str × Addr)) (fp : List Addr), PE (X.blk s H scope (compEnvC scope cl C X.env) fp) kx tk)
    (he : ∀ (s : Shared) (H : Hp) (C : Addr) (cl : List (Str × Addr)) (fp : List Addr), PE (X.blk s H scope (compEnvC scope cl C X.env) fp) vx te) (hs : ∀ x, foldedSetIterable iter X.env x = pure x := by intro _; rfl) :
    PS X (.Assign [.Name y py] (.DictComp kx vx [⟨tg, iter, ifs, 0⟩] scope pos) spos) (tAsg (tDcO X wi g tt tk te (own.map (·.2))) (gName i)) := by
  refine ⟨fun pins s σ H D I h => ?_⟩
  rw [exec_Assign_Name_used _ _ _ _ hsw]
  refine wpAny_bind (wpAny_standAt (wpAny_bind ?_))
  show wpAny _ X.A (do let _ ← comprehension (.DictComp kx vx [⟨tg, iter, ifs, 0⟩] scope pos) scope X.env (firstIterPos [⟨tg, iter, ifs, 0⟩] pos) newDict false (eval iter X.env) (some (assign (.Name y py) X.env))) _ _ s
  have h : tDcO X wi g tt tk te (own.map (·.2)) σ H (fun x H1 => gName i x σ H1 D.nx) := h
  refine wpAny_bind (thn (dcO_core (Qf := fun _ s' => SP X pins D .next s') hu hc hN I hi ok hg ht hk he hs h fun L C s' m H' I' q hn f => ?_) fun _ s' hq => wpAny_pure (wpAny_pure hq))
  show wpAny _ _ (assign (.Name y py) X.env (.ref L)) _ _ _
  refine wpAny_assign_Name (store_ok2 (v := V.ref L) I' hN hy (.inl hyl) rfl (fun s2 I2 ⟨a, sb, ha⟩ => ?_) (.inr hyl))
  obtain ⟨f0, f1, f2, f3, f4, f5⟩ := f
  have haC : C ≠ a := by
    rcases ha with z | z
    · rw [z]; exact f1
    · exact fun e => f4 y a z e.symm
  refine ⟨m, hn.sameBut sb haC, fun h3 sb3 => ?_⟩
  exact ⟨_, H', I2.turned (t' := s2.toks) (fun b o hb e => (sb3.2 b hb).trans e) f0 f1 f3 f4 f5, q⟩
theorem sw_trueD {kx vx : Expr} {gs : List Comprehension} {scope : Scope} {pos py : Pos} {y : Str} {l : Nat} {env : PySem.Env} (hk : env.scope.kind = .function) (hy : env.scope.names.lookup y = some .local) (hl : (py.line == pos.line) = true)
    (ha : (scope.names.any fun (n, k) => n == y && (k == .local || k == .cell)) = false) : swapsWith (.DictComp kx vx gs scope pos) (some (.Name y py)) l env = pure true := by
  have ky : env.kindOf y = some .local := hy
  have hb : env.blockKind = .function := by unfold Env.blockKind; rw [hk]; rfl
  unfold swapsWith
  simp only [hb, ky, ha, Expr.pos, hl]
  rfl
end
end PD

set_option maxHeartbeats 2000000
namespace PD
open PySem PySem.Spec PyProof.Rows L2

section
variable {K : Kx} {F0 H0 F H : Hp}
theorem R.wipe {ρ : Env} {σ : Sg} (r : R K F0 H0 F ρ σ H) : ∀ vs : List Nat, R K F0 H0 F (wipeE ρ vs) (wipe σ vs) H
  | [] => r
  | v :: vs => R.wipe1 (R.wipe r vs)
theorem wipe_at (σ : Sg) : ∀ (vs : List Nat) (j : Nat), j ∈ vs → (wipe σ vs)[j]? = none ∨ (wipe σ vs)[j]? = some none
  | [], j, h => by simp at h
  | v :: vs, j, h => by
    unfold L2.wipe
    by_cases e : j = v
    · subst e
      by_cases hl : j < (L2.wipe σ vs).length
      · exact .inr (List.getElem?_set_self hl)
      · exact .inl (List.getElem?_eq_none (by rw [List.length_set]; omega))
    · rw [List.getElem?_set_ne (Ne.symm e)]
      exact wipe_at σ vs j (by simpa [e] using h)
theorem wipe_same {σ σ2 : Sg} {vs sl : List Nat} (hs : ∀ i ∈ sl, i ∈ vs) (hl : σ2.length = (L2.wipe σ vs).length) (he : ∀ j, j ∉ sl → σ2[j]? = (L2.wipe σ vs)[j]?) : L2.wipe σ2 vs = L2.wipe σ vs := by
  apply List.ext_getElem?
  intro j
  by_cases hj : j ∈ vs
  · have hlen : (L2.wipe σ2 vs).length = (L2.wipe σ vs).length := by rw [wipe_length, hl]
    by_cases hb : j < (L2.wipe σ vs).length
    · rcases wipe_at σ2 vs j hj with a | a
      · exact absurd (List.getElem?_eq_none_iff.mp a) (by omega)
      · rcases wipe_at σ vs j hj with b | b
        · exact absurd (List.getElem?_eq_none_iff.mp b) (by omega)
        · rw [a, b]
    · rw [List.getElem?_eq_none (by omega), List.getElem?_eq_none (by omega)]
  · rw [wipe_out hj]
    exact he j fun h => hj (hs j h)
end
def tCs (K : Kx) (w : Env → (Bool → Prop) → Prop) : TT := fun σ H Z =>
  ∃ F0 H0 F ρ Q, R K F0 H0 F ρ σ H ∧ w ρ Q ∧ ∀ b F' H', Ext F H F' H' → Same F' H' → Q b → Z b H'
theorem pts_w {X : Cx} {e : List Expr} {t t' : TT} (h : PTs X e t) (k : ∀ σ H Q, t' σ H Q → t σ H Q) : PTs X e t' := ⟨fun pins s σ H Q I hw => h.run pins s σ H Q I (k σ H Q hw)⟩
def wLc (G : Gb) (own : List (Str × Nat)) (elt : E) (tg : Tg) (it : I) (cs : Eo) : Env → (List D → Prop) → Prop := fun ρ Q => wI G 1 it ρ fun ds => ds.length ≤ sizeLine ∧
  wMap (fun d K => wG tg d (wipeE ρ (own.map (·.2))) fun ρ' => wC G cs ρ' fun k => if k = true then wE G (.t 0) elt ρ' fun y => K (some y) else K none) ds [] Q
theorem lc_rd {K : Kx} {G : Gb} {own : List (Str × Nat)} {elt : E} {tg : Tg} {it : I} {cs : Eo} (hs : ∀ i ∈ tg.slots, i ∈ own.map (·.2)) {σ : Sg} {H : Hp} {Z : VK}
    (h : tX K (rF K) (fun ρ Q => wLc G own elt tg it cs ρ fun ds => Q (.list ds)) σ H Z) :
    tLc (tIs K false (wI G 1 it)) (gDs K tg.slots (wG tg)) (tCs K (wC G cs)) (tN K 0 (wE G (.t 0) elt)) (own.map (·.2)) σ H Z := by
  obtain ⟨F0, H0, F, ρ, Q, rr, hw, k⟩ := h
  refine ⟨F0, H0, F, ρ, _, rr, hw, fun J F1 H1 ds e1 s1 srv ⟨hz, hm⟩ L hD => ?_⟩
  generalize hf : (fun (d : D) (K : Option PyData → Prop) => wG tg d (wipeE ρ (own.map (·.2))) fun ρ' => wC G cs ρ' fun k => if k = true then wE G (.t 0) elt ρ' fun y => K (some y) else K none) = f at hm
  refine ⟨fun i m Hc => m = ds.length - i ∧ i ≤ ds.length ∧ ∃ F' acc dacc, Ext F1 H1 F' Hc ∧ Same F' Hc ∧ F' L = none ∧ Hc L = some (.lst acc) ∧ RpAll K F' acc dacc ∧ acc.length ≤ i ∧ wMap f (ds.drop i) dacc fun ds => Q (.list ds),
    ⟨ds.length, by simp, Nat.zero_le _, F1, [], [], Ext.mkO hD, same_upd2 s1 (s1.free hD), s1.free hD, upd_same, .nil, Nat.zero_le _, hm⟩, ?_⟩
  rintro i m Hc ⟨rfl, hi, F', acc, dacc, e2, s2, hF, hL, hacc, hal, hm⟩
  by_cases hlt : i < ds.length
  · have hd : ds[i]? = some ds[i] := List.getElem?_eq_getElem hlt
    obtain ⟨go, yl⟩ := srv.turn i F' Hc e2.f (fun _ => e2.h) s2 _ hd
    refine .inr ⟨go, fun H' => (fun i m Hc => m = ds.length - i ∧ i ≤ ds.length ∧ ∃ F' acc dacc, Ext F1 H1 F' Hc ∧ Same F' Hc ∧ F' L = none ∧ Hc L = some (.lst acc) ∧ RpAll K F' acc dacc ∧ acc.length ≤ i ∧ wMap f (ds.drop i) dacc fun ds => Q (.list ds)) (i + 1) (ds.length - (i + 1)) H',
      fun H' w => ⟨ds.length - (i + 1), by omega, w⟩, fun x H2 hy => ?_⟩
    obtain ⟨F2, e3, s3, rx⟩ := yl x H2 hy
    rw [List.drop_eq_getElem_cons hlt] at hm
    have hm : f ds[i] fun o => match o with | some y => wMap f (ds.drop (i + 1)) (dacc ++ [y]) (fun ds => Q (.list ds)) | none => wMap f (ds.drop (i + 1)) dacc (fun ds => Q (.list ds)) := hm
    rw [← hf] at hm
    have eAll : Ext F H F2 H2 := (e1.trans e2).trans e3
    have hne : ∀ {Fx Hx : Hp}, Ext F' Hc Fx Hx → Fx L = none ∧ Hx L = some (.lst acc) := fun e => ⟨(e.new L (some_ne hL)).trans hF, e.h L _ hL⟩
    refine ⟨F0, H0, F2, wipeE ρ (own.map (·.2)), ds[i], _, R.wipe (rr.go eAll s3) _, rx, hm, fun ρ2 σ2 r2 l2 q2 hq => ⟨wipe_same hs l2 q2, ?_⟩⟩
    refine ⟨F0, H0, F2, ρ2, _, r2, hq, fun b F3 H3 e4 s4 hb => ?_⟩
    cases b with
    | true =>
      show (tN K 0 (wE G (.t 0) elt)) σ2 H3 _
      rw [if_pos rfl] at hb
      refine ⟨F0, H0, F3, ρ2, _, r2.go e4 s4, hb, fun y F4 H4 dy e5 s5 qy hy => ?_⟩
      have eT : Ext F' Hc F4 H4 := (e3.trans e4).trans e5
      obtain ⟨n1, n2⟩ := hne eT
      refine ⟨acc, n2, by omega, rfl, hlt, F4, acc ++ [y], dacc ++ [dy], ?_, same_upd2 s5 n1, n1, upd_same, da_snoc (da_m hacc eT.f) qy, by rw [List.length_append]; simp; omega, ?_⟩
      · have eX := e2.trans eT
        exact ⟨eX.f, fun b o q => by rw [upd_ne (ne_of_none q hD)]; exact eX.h b o q, eX.new⟩
      · rw [hf] at *
        exact hy
    | false =>
      show _ ∧ _
      rw [if_neg Bool.false_ne_true] at hb
      have eT : Ext F' Hc F3 H3 := e3.trans e4
      obtain ⟨n1, n2⟩ := hne eT
      exact ⟨rfl, hlt, F3, acc, dacc, e2.trans eT, s4, n1, n2, da_m hacc eT.f, by omega, by rw [hf] at *; exact hb⟩
  · have : i = ds.length := by omega
    subst this
    refine .inl ⟨srv.stop _ F' Hc e2.f (fun _ => e2.h) s2 rfl, ?_⟩
    rw [List.drop_length] at hm
    exact k _ F' Hc _ (e1.trans e2) s2 (.inl ⟨dacc, rfl, L, acc, rfl, Same.free e1.h hD, hF, hL, hacc⟩) hm
/-! ### two clauses -/
def noOw (ρ : Env) : Prop := ∀ j, gt ρ j = none ∨ ∃ d, gt ρ j = some (.fz d)
theorem gt_cons {α : Type} {x : Option α} {l : List (Option α)} {j : Nat} : gt (x :: l) (j + 1) = gt l j := rfl
theorem dropOw_len : ∀ ρ : Env, (dropOw ρ).length = ρ.length
  | [] => rfl
  | some (.fz d) :: l => congrArg (· + 1) (dropOw_len l)
  | some (.ow _) :: l => congrArg (· + 1) (dropOw_len l)
  | some (.ow2 _) :: l => congrArg (· + 1) (dropOw_len l)
  | some (.od _) :: l => congrArg (· + 1) (dropOw_len l)
  | some (.odl _) :: l => congrArg (· + 1) (dropOw_len l)
  | none :: l => congrArg (· + 1) (dropOw_len l)
theorem dropOw_gt : ∀ (ρ : Env) (j : Nat), gt (dropOw ρ) j = none ∨ ∃ d, gt (dropOw ρ) j = some (.fz d) ∧ gt ρ j = some (.fz d)
  | [], j => .inl rfl
  | some (.fz d) :: l, 0 => .inr ⟨d, rfl, rfl⟩
  | some (.ow _) :: l, 0 => .inl rfl
  | some (.ow2 _) :: l, 0 => .inl rfl
  | some (.od _) :: l, 0 => .inl rfl
  | some (.odl _) :: l, 0 => .inl rfl
  | none :: l, 0 => .inl rfl
  | some (.fz d) :: l, j + 1 => dropOw_gt l j
  | some (.ow _) :: l, j + 1 => dropOw_gt l j
  | some (.ow2 _) :: l, j + 1 => dropOw_gt l j
  | some (.od _) :: l, j + 1 => dropOw_gt l j
  | some (.odl _) :: l, j + 1 => dropOw_gt l j
  | none :: l, j + 1 => dropOw_gt l j
theorem dropOw_no (ρ : Env) : noOw (dropOw ρ) := fun j => (dropOw_gt ρ j).imp_right fun ⟨d, h, _⟩ => ⟨d, h⟩
section
variable {K : Kx} {F0 H0 F H F' H' : Hp} {ρ : Env} {σ : Sg}
theorem R.dropO (r : R K F0 H0 F ρ σ H) : R K F0 H0 F (dropOw ρ) σ H := by
  obtain ⟨O, o⟩ := r.own
  refine ⟨r.ext, r.sub, by rw [dropOw_len]; exact r.len, fun _ => [], fun _ => List.nodup_nil, fun i j a h => by simp at h, fun i a h => by simp at h, fun j => ?_⟩
  rcases dropOw_gt ρ j with h | ⟨d, h, h2⟩
  · rw [h]; exact rfl
  · rw [h]
    have := o.rep j
    rw [h2] at this
    exact ⟨rfl, this.2⟩
/-- without owned lists nothing but what never changes matters -/
theorem R.any (r : R K F0 H0 F ρ σ H) (n : noOw ρ) (f : Same F F') (s : Same F' H') (e : Ext F0 H0 F' H') : R K F0 H0 F' ρ σ H' := by
  obtain ⟨O, o⟩ := r.own
  refine ⟨e, s, r.len, fun _ => [], fun _ => List.nodup_nil, fun i j a h => by simp at h, fun i a h => by simp at h, fun j => ?_⟩
  rcases n j with h | ⟨d, h⟩
  · rw [h]; exact rfl
  · rw [h]
    have := o.rep j
    rw [h] at this
    obtain ⟨_, x, e1, q⟩ := this
    exact ⟨rfl, x, e1, dp_m q f⟩
theorem noOw.set {i : Nat} {d : D} (n : noOw ρ) : noOw (ρ.set i (some (.fz d))) := by
  intro j
  unfold gt
  rw [List.getD_eq_getElem?_getD]
  by_cases e : i = j
  · subst e
    by_cases h : i < ρ.length
    · rw [List.getElem?_set_self h]; exact .inr ⟨d, rfl⟩
    · rw [List.getElem?_eq_none (by rw [List.length_set]; omega)]; exact .inl rfl
  · rw [List.getElem?_set_ne e]
    have := n j
    unfold gt at this
    rw [List.getD_eq_getElem?_getD] at this
    exact this
theorem noOw.wipe1 {i : Nat} (n : noOw ρ) : noOw (ρ.set i none) := by
  intro j
  unfold gt
  rw [List.getD_eq_getElem?_getD]
  by_cases e : i = j
  · subst e
    by_cases h : i < ρ.length
    · rw [List.getElem?_set_self h]; exact .inl rfl
    · rw [List.getElem?_eq_none (by rw [List.length_set]; omega)]; exact .inl rfl
  · rw [List.getElem?_set_ne e]
    have := n j
    unfold gt at this
    rw [List.getD_eq_getElem?_getD] at this
    exact this
theorem noOw.wipe (n : noOw ρ) : ∀ vs : List Nat, noOw (wipeE ρ vs)
  | [] => n
  | v :: vs => (noOw.wipe n vs).wipe1
theorem setAll_no : ∀ {is : List Nat} {ds : List D} {ρ ρ' : Env}, noOw ρ → setAll is ds ρ = some ρ' → noOw ρ'
  | [], [], ρ, ρ', n, h => by cases h; exact n
  | i :: is, d :: ds, ρ, ρ', n, h => by
    unfold setAll at h
    split at h
    · exact setAll_no n.set h
    · cases h
  | [], _ :: _, _, _, _, h => by cases h
  | _ :: _, [], _, _, _, h => by cases h
theorem wG_no {tg : Tg} {d : D} {Q : Env → Prop} (n : noOw ρ) (h : wG tg d ρ Q) : wG tg d ρ fun ρ' => noOw ρ' ∧ Q ρ' := by
  cases tg with
  | nm i => exact ⟨h.1, n.set, h.2⟩
  | tp is =>
    cases d with
    | tuple ds => obtain ⟨ρ', e, q⟩ := h; exact ⟨ρ', e, setAll_no n e, q⟩
    | _ => exact h.elim
end
def wLc2 (G : Gb) (own : List (Str × Nat)) (elt : E) (tg : Tg) (it : I) (cs : Eo) (vs1 : List Nat) (tg1 : Tg) (it1 : I) (cs1 : Eo) : Env → (List D → Prop) → Prop := fun ρ Q => wI G 1 it ρ fun ds => ∃ M, ds.length * M ≤ sizeLine ∧
  wMapL (fun d K => wG tg d (dropOw (wipeE ρ (own.map (·.2)))) fun ρ2 => wC G cs ρ2 fun k => if k = true then wI G 0 it1 ρ2 fun ds1 => ds1.length ≤ M ∧
    wMap (fun d K1 => wG tg1 d (wipeE ρ2 vs1) fun ρ3 => wC G cs1 ρ3 fun k => if k = true then wE G (.t 0) elt ρ3 fun y => K1 (some y) else K1 none) ds1 [] K else K []) ds [] Q
theorem wMap_acc (f : D → (Option D → Prop) → Prop) : ∀ (ds acc : List D) (Q : List D → Prop) (pre : List D), wMap f ds acc (fun ys => Q (pre ++ ys)) → wMap f ds acc fun ys => Q (pre ++ ys) := fun _ _ _ _ h => h
theorem lc2_rd {K : Kx} {G : Gb} {own : List (Str × Nat)} {elt : E} {tg : Tg} {it : I} {cs : Eo} {vs1 : List Nat} {tg1 : Tg} {it1 : I} {cs1 : Eo} (hs : ∀ i ∈ tg.slots, i ∈ own.map (·.2)) (hs1 : ∀ i ∈ tg1.slots, i ∈ vs1) {σ : Sg} {H : Hp} {Z : VK}
    (h : tX K (rF K) (fun ρ Q => wLc2 G own elt tg it cs vs1 tg1 it1 cs1 ρ fun ds => Q (.list ds)) σ H Z) :
    tLc2 (tIs K false (wI G 1 it)) (gDs K tg.slots (wG tg)) (tCs K (wC G cs)) (tIs K true (wI G 0 it1)) (gDs K tg1.slots (wG tg1)) (tCs K (wC G cs1)) (tN K 0 (wE G (.t 0) elt)) (own.map (·.2)) vs1 σ H Z := by
  obtain ⟨F0, H0, F, ρ, Q, rr, hw, k⟩ := h
  refine ⟨F0, H0, F, ρ, _, rr, hw, fun J F1 H1 ds e1 s1 srv ⟨M, hz, hm⟩ L hD => ?_⟩
  generalize hf1 : (fun (ρ2 : Env) (d : D) (K1 : Option PyData → Prop) => wG tg1 d (wipeE ρ2 vs1) fun ρ3 => wC G cs1 ρ3 fun k => if k = true then wE G (.t 0) elt ρ3 fun y => K1 (some y) else K1 none) = f1
  have hm' : wMapL (fun d K => wG tg d (dropOw (wipeE ρ (own.map (·.2)))) fun ρ2 => wC G cs ρ2 fun k => if k = true then wI G 0 it1 ρ2 fun ds1 => ds1.length ≤ M ∧ wMap (f1 ρ2) ds1 [] K else K []) ds [] fun ds => Q (.list ds) := by
    rw [← hf1]; exact hm
  clear hm
  generalize hf : (fun (d : D) (K : List PyData → Prop) => wG tg d (dropOw (wipeE ρ (own.map (·.2)))) fun ρ2 => wC G cs ρ2 fun k => if k = true then wI G 0 it1 ρ2 fun ds1 => ds1.length ≤ M ∧ wMap (f1 ρ2) ds1 [] K else K []) = f at hm'
  -- what holds of the list under way
  let V : Hp → Hp → List V → List D → Prop := fun F' Hc acc dacc => Ext F1 H1 F' Hc ∧ Same F' Hc ∧ F' L = none ∧ Hc L = some (.lst acc) ∧ RpAll K F' acc dacc
  refine ⟨fun i m Hc => m = ds.length - i ∧ i ≤ ds.length ∧ ∃ F' acc dacc, V F' Hc acc dacc ∧ acc.length ≤ i * M ∧ wMapL f (ds.drop i) dacc fun ds => Q (.list ds),
    ⟨ds.length, by simp, Nat.zero_le _, F1, [], [], ⟨Ext.mkO hD, same_upd2 s1 (s1.free hD), s1.free hD, upd_same, .nil⟩, Nat.zero_le _, hm'⟩, ?_⟩
  rintro i m Hc ⟨rfl, hi, F', acc, dacc, ⟨e2, s2, hF, hL, hacc⟩, hal, hm⟩
  by_cases hlt : i < ds.length
  · have hd : ds[i]? = some ds[i] := List.getElem?_eq_getElem hlt
    obtain ⟨go, yl⟩ := srv.turn i F' Hc e2.f (fun _ => e2.h) s2 _ hd
    refine .inr ⟨go, fun H' => (fun i m Hc => m = ds.length - i ∧ i ≤ ds.length ∧ ∃ F' acc dacc, V F' Hc acc dacc ∧ acc.length ≤ i * M ∧ wMapL f (ds.drop i) dacc fun ds => Q (.list ds)) (i + 1) (ds.length - (i + 1)) H',
      fun H' w => ⟨ds.length - (i + 1), by omega, w⟩, fun x H2 hy => ?_⟩
    obtain ⟨F2, e3, s3, rx⟩ := yl x H2 hy
    rw [List.drop_eq_getElem_cons hlt] at hm
    have hm : f ds[i] fun ys => wMapL f (ds.drop (i + 1)) (dacc ++ ys) (fun ds => Q (.list ds)) := hm
    rw [← hf] at hm
    have eAll : Ext F H F2 H2 := (e1.trans e2).trans e3
    have hiM : i * M + M ≤ ds.length * M := by
      have := Nat.mul_le_mul_right M (show i + 1 ≤ ds.length by omega)
      rw [Nat.succ_mul] at this; exact this
    have vgo : ∀ {Fa Ha Fb Hb : Hp} {acc : List L2.V} {dacc : List D}, V Fa Ha acc dacc → Ext Fa Ha Fb Hb → Same Fb Hb → V Fb Hb acc dacc := fun ⟨a1, a2, a3, a4, a5⟩ e s =>
      ⟨a1.trans e, s, (e.new L (some_ne a4)).trans a3, e.h L _ a4, da_m a5 e.f⟩
    have v2 : V F2 H2 acc dacc := vgo ⟨e2, s2, hF, hL, hacc⟩ e3 s3
    refine ⟨F0, H0, F2, dropOw (wipeE ρ (own.map (·.2))), ds[i], _, (R.wipe (rr.go eAll s3) _).dropO, rx, wG_no (dropOw_no _) hm, fun ρ2 σ2 r2 l2 q2 ⟨no2, hq⟩ => ⟨wipe_same hs l2 q2, ?_⟩⟩
    refine ⟨F0, H0, F2, ρ2, _, r2, hq, fun b F3 H3 e4 s4 hb => ?_⟩
    have v3 := vgo v2 e4 s4
    cases b with
    | false =>
      show _ ∧ _
      rw [if_neg Bool.false_ne_true, List.append_nil] at hb
      rw [hf] at hb
      exact ⟨rfl, hlt, F3, acc, dacc, v3, by rw [Nat.succ_mul]; omega, hb⟩
    | true =>
      show (tIs K true (wI G 0 it1)) σ2 H3 _
      rw [if_pos rfl] at hb
      refine ⟨F0, H0, F3, ρ2, _, r2.go e4 s4, hb, fun J1 F4 H4 ds1 e5 s5 srv1 ⟨hM, hb1⟩ => ?_⟩
      rw [hf] at hb1
      have v4 := vgo v3 e5 s5
      have r4 := (r2.go e4 s4).go e5 s5
      refine ⟨fun j k Hc => k = ds1.length - j ∧ j ≤ ds1.length ∧ ∃ Fx accx daccx dys, V Fx Hc accx (dacc ++ daccx) ∧ Same F4 Fx ∧ accx.length ≤ i * M + j ∧ dys = daccx ∧ wMap (f1 ρ2) (ds1.drop j) dys fun ys => wMapL f (ds.drop (i + 1)) (dacc ++ ys) (fun ds => Q (.list ds)),
        ⟨ds1.length, by simp, Nat.zero_le _, F4, acc, [], [], by rw [List.append_nil]; exact v4, Same.refl F4, by omega, rfl, hb1⟩, ?_⟩
      rintro j kk Hx ⟨rfl, hj, Fx, accx, daccx, dys, vx, fx, hax, rfl, hmx⟩
      have sx : Same Fx Hx := vx.2.1
      by_cases hlt1 : j < ds1.length
      · have hd1 : ds1[j]? = some ds1[j] := List.getElem?_eq_getElem hlt1
        obtain ⟨go1, yl1⟩ := srv1.turn j Fx Hx fx (fun z => by cases z) sx _ hd1
        refine .inr ⟨go1, fun H' => (fun j k Hc => k = ds1.length - j ∧ j ≤ ds1.length ∧ ∃ Fx accx daccx dys, V Fx Hc accx (dacc ++ daccx) ∧ Same F4 Fx ∧ accx.length ≤ i * M + j ∧ dys = daccx ∧ wMap (f1 ρ2) (ds1.drop j) dys fun ys => wMapL f (ds.drop (i + 1)) (dacc ++ ys) (fun ds => Q (.list ds))) (j + 1) (ds1.length - (j + 1)) H',
          fun H' w => ⟨ds1.length - (j + 1), by omega, w⟩, fun x1 H5 hy1 => ?_⟩
        obtain ⟨F5, e6, s6, rx1⟩ := yl1 x1 H5 hy1
        have v5 := vgo vx e6 s6
        rw [List.drop_eq_getElem_cons hlt1] at hmx
        have hmx : f1 ρ2 ds1[j] fun o => match o with | some y => wMap (f1 ρ2) (ds1.drop (j + 1)) (dys ++ [y]) (fun ys => wMapL f (ds.drop (i + 1)) (dacc ++ ys) (fun ds => Q (.list ds))) | none => wMap (f1 ρ2) (ds1.drop (j + 1)) dys (fun ys => wMapL f (ds.drop (i + 1)) (dacc ++ ys) (fun ds => Q (.list ds))) := hmx
        rw [← hf1] at hmx
        have hmx : wG tg1 ds1[j] (wipeE ρ2 vs1) _ := hmx
        have r5 : R K F0 H0 F5 ρ2 σ2 H5 := r4.any no2 (fx.trans e6.f) s6 ((rr.go e1 s1).ext.trans v5.1)
        refine ⟨F0, H0, F5, wipeE ρ2 vs1, ds1[j], _, R.wipe r5 _, rx1, hmx, fun ρ3 σ3 r3 l3 q3 hq3 => ⟨wipe_same hs1 l3 q3, ?_⟩⟩
        refine ⟨F0, H0, F5, ρ3, _, r3, hq3, fun b F6 H6 e7 s7 hb6 => ?_⟩
        have v6 := vgo v5 e7 s7
        cases b with
        | false =>
          show _ ∧ _
          rw [if_neg Bool.false_ne_true] at hb6
          exact ⟨rfl, hlt1, F6, accx, dys, dys, v6, (fx.trans e6.f).trans e7.f, by omega, rfl, by rw [hf1] at *; exact hb6⟩
        | true =>
          show (tN K 0 (wE G (.t 0) elt)) σ3 H6 _
          rw [if_pos rfl] at hb6
          refine ⟨F0, H0, F6, ρ3, _, r3.go e7 s7, hb6, fun y F7 H7 dy e8 s8 qy hy7 => ?_⟩
          obtain ⟨a1, a2, a3, a4, a5⟩ := vgo v6 e8 s8
          refine ⟨accx, a4, by omega, rfl, hlt1, F7, accx ++ [y], dys ++ [dy], dys ++ [dy], ⟨?_, same_upd2 s8 a3, a3, upd_same, ?_⟩, ((fx.trans e6.f).trans e7.f).trans e8.f, by rw [List.length_append]; simp; omega, rfl, by rw [hf1] at *; exact hy7⟩
          · exact ⟨a1.f, fun b o q => by rw [upd_ne (ne_of_none q hD)]; exact a1.h b o q, a1.new⟩
          · rw [← List.append_assoc]
            exact da_snoc a5 qy
      · have : j = ds1.length := by omega
        subst this
        rw [List.drop_length] at hmx
        exact .inl ⟨srv1.stop _ Fx Hx fx (fun z => by cases z) sx rfl, rfl, hlt, Fx, accx, dacc ++ dys, vx, by rw [Nat.succ_mul]; omega, hmx⟩
  · have : i = ds.length := by omega
    subst this
    refine .inl ⟨srv.stop _ F' Hc e2.f (fun _ => e2.h) s2 rfl, ?_⟩
    rw [List.drop_length] at hm
    exact k _ F' Hc _ (e1.trans e2) s2 (.inl ⟨dacc, rfl, L, acc, rfl, Same.free e1.h hD, hF, hL, hacc⟩) hm
/-! ### dict comprehensions -/
def wDc (G : Gb) (own : List (Str × Nat)) (ke ve : E) (tg : Tg) (it : I) (cs : Eo) : Env → (List (D × D) → Prop) → Prop := fun ρ Q => wI G 1 it ρ fun ds => ds.length ≤ sizeLine ∧
  wMapD (fun d K => wG tg d (wipeE ρ (own.map (·.2))) fun ρ' => wC G cs ρ' fun k => if k = true then wE G (.t 0) ke ρ' fun x => wE G (.t 0) ve ρ' fun y => K (some (x, y)) else K none) ds [] Q
theorem dc_rd {X : Cx} {G : Gb} {own : List (Str × Nat)} {ke ve : E} {tg : Tg} {it : I} {cs : Eo} (hs : ∀ i ∈ tg.slots, i ∈ own.map (·.2)) {σ : Sg} {H : Hp} {Z : VK}
    (h : tX (kxOf X) (rF (kxOf X)) (fun ρ Q => wDc G own ke ve tg it cs ρ fun ds => Q (.dict ds)) σ H Z) :
    tDcO X (tIs (kxOf X) false (wI G 1 it)) (gDs (kxOf X) tg.slots (wG tg)) (tCs (kxOf X) (wC G cs)) (tN (kxOf X) 0 (wE G (.t 0) ke)) (tN (kxOf X) 0 (wE G (.t 0) ve)) (own.map (·.2)) σ H Z := by
  obtain ⟨F0, H0, F, ρ, Q, rr, hw, k⟩ := h
  refine ⟨F0, H0, F, ρ, _, rr, hw, fun J F1 H1 ds e1 s1 srv ⟨hz, hm⟩ L hD => ?_⟩
  generalize hf : (fun (d : D) (K : Option (D × D) → Prop) => wG tg d (wipeE ρ (own.map (·.2))) fun ρ' => wC G cs ρ' fun k => if k = true then wE G (.t 0) ke ρ' fun x => wE G (.t 0) ve ρ' fun y => K (some (x, y)) else K none) = f at hm
  refine ⟨fun i m Hc => m = ds.length - i ∧ i ≤ ds.length ∧ ∃ F' acc dacc, Ext F1 H1 F' Hc ∧ Same F' Hc ∧ F' L = none ∧ Hc L = some (DO X.prog X.w L acc) ∧ RpD (kxOf X) F' acc dacc ∧ acc.length ≤ i ∧ wMapD f (ds.drop i) dacc fun ds => Q (.dict ds),
    ⟨ds.length, by simp, Nat.zero_le _, F1, [], [], Ext.mkO hD, same_upd2 s1 (s1.free hD), s1.free hD, upd_same, .nil, Nat.zero_le _, hm⟩, ?_⟩
  rintro i m Hc ⟨rfl, hi, F', acc, dacc, e2, s2, hF, hL, hacc, hal, hm⟩
  by_cases hlt : i < ds.length
  · have hd : ds[i]? = some ds[i] := List.getElem?_eq_getElem hlt
    obtain ⟨go, yl⟩ := srv.turn i F' Hc e2.f (fun _ => e2.h) s2 _ hd
    refine .inr ⟨go, fun H' => (fun i m Hc => m = ds.length - i ∧ i ≤ ds.length ∧ ∃ F' acc dacc, Ext F1 H1 F' Hc ∧ Same F' Hc ∧ F' L = none ∧ Hc L = some (DO X.prog X.w L acc) ∧ RpD (kxOf X) F' acc dacc ∧ acc.length ≤ i ∧ wMapD f (ds.drop i) dacc fun ds => Q (.dict ds)) (i + 1) (ds.length - (i + 1)) H',
      fun H' w => ⟨ds.length - (i + 1), by omega, w⟩, fun x H2 hy => ?_⟩
    obtain ⟨F2, e3, s3, rx⟩ := yl x H2 hy
    rw [List.drop_eq_getElem_cons hlt] at hm
    have hm : f ds[i] fun o => match o with | some p => keyD p.1 = true ∧ uniD (dacc.map (·.1)) p.1 = true ∧ wMapD f (ds.drop (i + 1)) (dput dacc p.1 p.2) (fun ds => Q (.dict ds)) | none => wMapD f (ds.drop (i + 1)) dacc (fun ds => Q (.dict ds)) := hm
    rw [← hf] at hm
    have eAll : Ext F H F2 H2 := (e1.trans e2).trans e3
    have hne : ∀ {Fx Hx : Hp}, Ext F' Hc Fx Hx → Fx L = none ∧ Hx L = some (DO X.prog X.w L acc) := fun e => ⟨(e.new L (some_ne hL)).trans hF, e.h L _ hL⟩
    refine ⟨F0, H0, F2, wipeE ρ (own.map (·.2)), ds[i], _, R.wipe (rr.go eAll s3) _, rx, hm, fun ρ2 σ2 r2 l2 q2 hq => ⟨wipe_same hs l2 q2, ?_⟩⟩
    refine ⟨F0, H0, F2, ρ2, _, r2, hq, fun b F3 H3 e4 s4 hb => ?_⟩
    cases b with
    | true =>
      show (tN (kxOf X) 0 (wE G (.t 0) ke)) σ2 H3 _
      rw [if_pos rfl] at hb
      refine ⟨F0, H0, F3, ρ2, _, r2.go e4 s4, hb, fun y F4 H4 dy e5 s5 qy hy => ?_⟩
      refine ⟨F0, H0, F4, ρ2, _, (r2.go e4 s4).go e5 s5, hy, fun z F5 H5 dz e6 s6 qz ⟨hk1, hk2, hz2⟩ => ?_⟩
      have eT : Ext F' Hc F5 H5 := ((e3.trans e4).trans e5).trans e6
      obtain ⟨n1, n2⟩ := hne eT
      obtain ⟨n, hn⟩ := keyD_nk hk1
      have qy' : Rp (kxOf X) F5 y dy := dp_m qy e6.f
      have hacc' := dd_m hacc eT.f
      refine ⟨acc, n, ⟨F5, dacc.map (·.1), dy, s6, n2, hacc'.keys, qy', ⟨hn, hk1⟩, hk2⟩, by omega, rfl, hlt, F5, dPut acc n y z, dput dacc dy dz, ?_, same_upd2 s6 n1, n1, upd_same, rpd_put ⟨hn, hk1⟩ qy' qz hacc', Nat.le_trans (dPut_len _ _) (by omega), ?_⟩
      · have eX := e2.trans eT
        exact ⟨eX.f, fun b o q => by rw [upd_ne (ne_of_none q hD)]; exact eX.h b o q, eX.new⟩
      · rw [hf] at *
        exact hz2
    | false =>
      show _ ∧ _
      rw [if_neg Bool.false_ne_true] at hb
      have eT : Ext F' Hc F3 H3 := e3.trans e4
      obtain ⟨n1, n2⟩ := hne eT
      exact ⟨rfl, hlt, F3, acc, dacc, e2.trans eT, s4, n1, n2, dd_m hacc eT.f, by omega, by rw [hf] at *; exact hb⟩
  · have : i = ds.length := by omega
    subst this
    refine .inl ⟨srv.stop _ F' Hc e2.f (fun _ => e2.h) s2 rfl, ?_⟩
    rw [List.drop_length] at hm
    exact k _ F' Hc _ (e1.trans e2) s2 (.inr ⟨dacc, rfl, L, acc, rfl, Same.free e1.h hD, hF, hL, hacc⟩) hm
section
variable {X : Cx} {C : Ck} {G : Gb} {sc : Scope}
theorem DX.blk (dx : DX X C G sc) {scope : Scope} {s : Shared} {H : Hp} {Cc : Addr} {cl : List (Str × Addr)} {fp : List Addr} : DX (X.blk s H scope (compEnvC scope cl Cc X.env) fp) C G (relS scope sc) :=
  ⟨dx.N, dx.nd, by
    show relS scope X.env.scope = _
    rw [dx.sc], dx.calm, dx.room, dx.bl, fun k x h => ⟨(dx.fn k x h).ex⟩, fun k x n ks h => ⟨(dx.fk k x n ks h).ex⟩, dx.ct⟩
theorem relS_local {scope sc : Scope} {x : Str} (h : scope.names.lookup x = some .local) : (relS scope sc).names.lookup x = some .local :=
  lookup_relS_keep (by decide) h
/-- what a comprehension's parts must be -/
structure LcIn (X : Cx) (C : Ck) (G : Gb) (sc : Scope) (own : List (Str × Nat)) (elt : E) (tg : Tg) (it : I) (cs : Eo) (pelt ptg pit : Expr) (pifs : List Expr) (scope : Scope) : Prop where
  ok : BlkOk X.N X.env.scope scope own
  hs : ∀ i ∈ tg.slots, i ∈ own.map (·.2)
  pl : plainE pit = true
  it : PI X ptg pit (tIs (kxOf X) false (wI G 1 it))
  tg : ∀ (s : Shared) (H : Hp) (Cc : Addr) (cl : List (Str × Addr)) (fp : List Addr), PG (X.blk s H scope (compEnvC scope cl Cc X.env) fp) ptg (gDs (kxOf X) tg.slots (wG tg))
  cs : ∀ (s : Shared) (H : Hp) (Cc : Addr) (cl : List (Str × Addr)) (fp : List Addr), PTs (X.blk s H scope (compEnvC scope cl Cc X.env) fp) pifs (tCs (kxOf X) (wC G cs))
  elt : ∀ (s : Shared) (H : Hp) (Cc : Addr) (cl : List (Str × Addr)) (fp : List Addr), PE (X.blk s H scope (compEnvC scope cl Cc X.env) fp) pelt (tN (kxOf X) 0 (wE G (.t 0) elt))
theorem LcIn.pe {own : List (Str × Nat)} {elt : E} {tg : Tg} {it : I} {cs : Eo} {pelt ptg pit : Expr} {pifs : List Expr} {scope : Scope} {p : Pos} (dx : DX X C G sc) (l : LcIn X C G sc own elt tg it cs pelt ptg pit pifs scope) :
    PE X (.ListComp pelt [⟨ptg, pit, pifs, 0⟩] scope p) (tX (kxOf X) (rF (kxOf X)) (fun ρ Q => wLc G own elt tg it cs ρ fun ds => Q (.list ds))) :=
  pe_w (pe_lc dx.calm (by rw [dx.N]; exact dx.nd) l.it l.ok l.tg l.cs l.elt (plain_fold l.pl)) fun σ H Z h => lc_rd l.hs h
theorem snd_lc {own : List (Str × Nat)} {elt : E} {tg : Tg} {it : I} {cs : Eo} {pelt ptg pit : Expr} {pifs : List Expr} {scope : Scope} {p : Pos} (dx : DX X C G sc) (l : LcIn X C G sc own elt tg it cs pelt ptg pit pifs scope) :
    Snd X (.ListComp pelt [⟨ptg, pit, pifs, 0⟩] scope p) (fun md => wE G md (.lc own elt tg it cs)) :=
  mkList (wl := wLc G own elt tg it cs) (l.pe dx) (fun _ => rfl)
/-- a dict comprehension's parts -/
structure DcIn (X : Cx) (C : Ck) (G : Gb) (sc : Scope) (own : List (Str × Nat)) (ke ve : E) (tg : Tg) (it : I) (cs : Eo) (pk pv ptg pit : Expr) (pifs : List Expr) (scope : Scope) : Prop where
  ok : BlkOk X.N X.env.scope scope own
  hs : ∀ i ∈ tg.slots, i ∈ own.map (·.2)
  pl : plainE pit = true
  it : PI X ptg pit (tIs (kxOf X) false (wI G 1 it))
  tg : ∀ (s : Shared) (H : Hp) (Cc : Addr) (cl : List (Str × Addr)) (fp : List Addr), PG (X.blk s H scope (compEnvC scope cl Cc X.env) fp) ptg (gDs (kxOf X) tg.slots (wG tg))
  cs : ∀ (s : Shared) (H : Hp) (Cc : Addr) (cl : List (Str × Addr)) (fp : List Addr), PTs (X.blk s H scope (compEnvC scope cl Cc X.env) fp) pifs (tCs (kxOf X) (wC G cs))
  ke : ∀ (s : Shared) (H : Hp) (Cc : Addr) (cl : List (Str × Addr)) (fp : List Addr), PE (X.blk s H scope (compEnvC scope cl Cc X.env) fp) pk (tN (kxOf X) 0 (wE G (.t 0) ke))
  ve : ∀ (s : Shared) (H : Hp) (Cc : Addr) (cl : List (Str × Addr)) (fp : List Addr), PE (X.blk s H scope (compEnvC scope cl Cc X.env) fp) pv (tN (kxOf X) 0 (wE G (.t 0) ve))
theorem DcIn.pe {own : List (Str × Nat)} {ke ve : E} {tg : Tg} {it : I} {cs : Eo} {pk pv ptg pit : Expr} {pifs : List Expr} {scope : Scope} {p : Pos} (dx : DX X C G sc) (l : DcIn X C G sc own ke ve tg it cs pk pv ptg pit pifs scope) :
    PE X (.DictComp pk pv [⟨ptg, pit, pifs, 0⟩] scope p) (tX (kxOf X) (rF (kxOf X)) (fun ρ Q => wDc G own ke ve tg it cs ρ fun ds => Q (.dict ds))) :=
  pe_w (pe_dcO (by have := dx.room.un; omega) dx.calm (by rw [dx.N]; exact dx.nd) l.it l.ok l.tg l.cs l.ke l.ve (plain_fold l.pl)) fun σ H Z h => dc_rd l.hs h
theorem snd_dcm {own : List (Str × Nat)} {ke ve : E} {tg : Tg} {it : I} {cs : Eo} {pk pv ptg pit : Expr} {pifs : List Expr} {scope : Scope} {p : Pos} (dx : DX X C G sc) (l : DcIn X C G sc own ke ve tg it cs pk pv ptg pit pifs scope) :
    Snd X (.DictComp pk pv [⟨ptg, pit, pifs, 0⟩] scope p) (fun md => wE G md (.dcm own ke ve tg it cs)) :=
  mkDict (wl := wDc G own ke ve tg it cs) (l.pe dx) (fun _ => rfl)
structure LcIn2 (X : Cx) (C : Ck) (G : Gb) (sc : Scope) (own : List (Str × Nat)) (elt : E) (tg : Tg) (it : I) (cs : Eo) (vs1 : List Nat) (tg1 : Tg) (it1 : I) (cs1 : Eo) (pelt ptg pit : Expr) (pifs : List Expr) (ptg1 pit1 : Expr) (pifs1 : List Expr) (scope : Scope) : Prop where
  a : LcIn X C G sc own elt tg it cs pelt ptg pit pifs scope
  hs1 : ∀ i ∈ tg1.slots, i ∈ vs1
  hv : ∀ i ∈ vs1, i ∈ own.map (·.2)
  pl1 : plainE pit1 = true
  it1 : ∀ (s : Shared) (H : Hp) (Cc : Addr) (cl : List (Str × Addr)) (fp : List Addr), PI (X.blk s H scope (compEnvC scope cl Cc X.env) fp) ptg1 pit1 (tIs (kxOf X) true (wI G 0 it1))
  tg1 : ∀ (s : Shared) (H : Hp) (Cc : Addr) (cl : List (Str × Addr)) (fp : List Addr), PG (X.blk s H scope (compEnvC scope cl Cc X.env) fp) ptg1 (gDs (kxOf X) tg1.slots (wG tg1))
  cs1 : ∀ (s : Shared) (H : Hp) (Cc : Addr) (cl : List (Str × Addr)) (fp : List Addr), PTs (X.blk s H scope (compEnvC scope cl Cc X.env) fp) pifs1 (tCs (kxOf X) (wC G cs1))
theorem LcIn2.pe {own : List (Str × Nat)} {elt : E} {tg : Tg} {it : I} {cs : Eo} {vs1 : List Nat} {tg1 : Tg} {it1 : I} {cs1 : Eo} {pelt ptg pit : Expr} {pifs : List Expr} {ptg1 pit1 : Expr} {pifs1 : List Expr} {scope : Scope} {p : Pos} (dx : DX X C G sc) (l : LcIn2 X C G sc own elt tg it cs vs1 tg1 it1 cs1 pelt ptg pit pifs ptg1 pit1 pifs1 scope) :
    PE X (.ListComp pelt [⟨ptg, pit, pifs, 0⟩, ⟨ptg1, pit1, pifs1, 0⟩] scope p) (tX (kxOf X) (rF (kxOf X)) (fun ρ Q => wLc2 G own elt tg it cs vs1 tg1 it1 cs1 ρ fun ds => Q (.list ds))) :=
  pe_w (pe_lc2 dx.calm (by rw [dx.N]; exact dx.nd) l.a.it l.a.ok l.hv l.a.tg l.a.cs l.it1 l.tg1 l.cs1 l.a.elt (plain_fold l.a.pl) (fun env => plain_fold l.pl1)) fun σ H Z h => lc2_rd l.a.hs l.hs1 h
theorem snd_lc2 {own : List (Str × Nat)} {elt : E} {tg : Tg} {it : I} {cs : Eo} {vs1 : List Nat} {tg1 : Tg} {it1 : I} {cs1 : Eo} {pelt ptg pit : Expr} {pifs : List Expr} {ptg1 pit1 : Expr} {pifs1 : List Expr} {scope : Scope} {p : Pos} (dx : DX X C G sc) (l : LcIn2 X C G sc own elt tg it cs vs1 tg1 it1 cs1 pelt ptg pit pifs ptg1 pit1 pifs1 scope) :
    Snd X (.ListComp pelt [⟨ptg, pit, pifs, 0⟩, ⟨ptg1, pit1, pifs1, 0⟩] scope p) (fun md => wE G md (.lc2 own elt tg it cs vs1 tg1 it1 cs1)) :=
  mkList (wl := wLc2 G own elt tg it cs vs1 tg1 it1 cs1) (l.pe dx) (fun _ => rfl)
theorem tg_in {own : List (Str × Nat)} {tg : Tg} {ptg : Expr} {scope : Scope} (dx : DX X C G sc) (h1 : okTg C (relS scope sc) tg ptg = true) (h2 : (tgNames ptg).all (fun x => decide (scope.names.lookup x = some .local) || decide (scope.names.lookup x = some .cell)) = true)
    (s : Shared) (H : Hp) (Cc : Addr) (cl : List (Str × Addr)) (fp : List Addr) : PG (X.blk s H scope (compEnvC scope cl Cc X.env) fp) ptg (gDs (kxOf X) tg.slots (wG tg)) := by
  have d := dx.blk (scope := scope) (s := s) (H := H) (Cc := Cc) (cl := cl) (fp := fp)
  refine snd_tg (X.blk s H scope (compEnvC scope cl Cc X.env) fp) d.calm d.N d.nd d.sc h1 fun x hx => ?_
  have := List.all_eq_true.mp h2 x hx
  simp only [Bool.or_eq_true, decide_eq_true_eq] at this
  rcases this with e | e
  · exact .inr (relS_local e)
  · left
    show (scope.names.lookup x == some .cell) = true
    rw [e]; rfl
theorem pts_no : PTs X [] (tCs (kxOf X) (wC G .no)) := pts_w pts_nil fun σ H Z ⟨F0, H0, F, ρ, Q, rr, hw, k⟩ => k true F H (Ext.refl F H) rr.sub hw
theorem pts_yes {e : E} {pe : Expr} (h : Snd X pe (fun md => wE G md e)) : PTs X [pe] (tCs (kxOf X) (wC G (.yes e))) :=
  pts_w (pts_one h.t) fun σ H Z ⟨F0, H0, F, ρ, Q, rr, hw, k⟩ => ⟨F0, H0, F, ρ, _, rr, hw, fun b F' H' e s ⟨b', hb, hq⟩ => by cases hb; exact k b F' H' e s hq⟩
end

/-! ### all expressions -/
mutual
theorem sE {C : Ck} {G : Gb} : ∀ (e : E) (X : Cx) (sc : Scope) (pe : Expr), DX X C G sc → okE C sc e pe = true → Snd X pe (fun md => wE G md e)
  | .var i, X, sc, pe, dx, h => snd_var dx h
  | .ct i, X, sc, pe, dx, h => snd_ct dx h
  | .non, X, sc, pe, dx, h => snd_non h
  | .bl b, X, sc, pe, dx, h => snd_bl h
  | .int b, X, sc, pe, dx, h => snd_int h
  | .str b, X, sc, pe, dx, h => snd_str h
  | .bin op a b, X, sc, pe, dx, h => by
    unfold okE at h
    split at h
    · rename_i pa o pb e
      obtain ⟨p, rfl⟩ := asBin_s e
      simp only [Bool.and_eq_true, decide_eq_true_eq] at h
      obtain ⟨⟨rfl, h1⟩, h2⟩ := h
      exact snd_bin (sE a X sc pa dx h1) (sE b X sc pb dx h2)
    · cases h
  | .neg a, X, sc, pe, dx, h => by
    unfold okE at h
    split at h
    · rename_i pa e
      obtain ⟨p, rfl⟩ := asNeg_s e
      exact snd_neg (sE a X sc pa dx h)
    · cases h
  | .cmp op a b, X, sc, pe, dx, h => by
    unfold okE at h
    split at h
    · rename_i pa o pb e
      obtain ⟨p, rfl⟩ := asCmp_s e
      simp only [Bool.and_eq_true, decide_eq_true_eq] at h
      obtain ⟨⟨⟨rfl, h0⟩, h1⟩, h2⟩ := h
      exact snd_cmp dx h0 (sE a X sc pa dx h1) (sE b X sc pb dx h2)
    · cases h
  | .bop conj es, X, sc, pe, dx, h => by
    unfold okE at h
    split at h
    · rename_i o pes e
      obtain ⟨p, rfl⟩ := asBool_s e
      simp only [Bool.and_eq_true, decide_eq_true_eq, Bool.not_eq_true'] at h
      obtain ⟨⟨rfl, h1⟩, h2⟩ := h
      have hn : pes ≠ [] := fun z => by rw [z] at h1; cases h1
      obtain ⟨a, b⟩ := sB es X sc pes dx h2 hn conj p
      exact snd_bop a b
    · cases h
  | .nt a, X, sc, pe, dx, h => by
    unfold okE at h
    split at h
    · rename_i pa e
      obtain ⟨p, rfl⟩ := asNot_s e
      exact snd_not (sE a X sc pa dx h)
    · cases h
  | .ifx c a b, X, sc, pe, dx, h => by
    unfold okE at h
    split at h
    · rename_i pc pa pb e
      obtain ⟨p, rfl⟩ := asIfE_s e
      simp only [Bool.and_eq_true] at h
      exact snd_ifx (sE c X sc pc dx h.1.1) (sE a X sc pa dx h.1.2) (sE b X sc pb dx h.2)
    · cases h
  | .ix a i, X, sc, pe, dx, h => by
    unfold okE at h
    split at h
    · rename_i pa pi e
      obtain ⟨p, rfl⟩ := asSub_s e
      simp only [Bool.and_eq_true] at h
      exact snd_ix dx h.1.1 (sE a X sc pa dx h.1.2) (sE i X sc pi dx h.2)
    · cases h
  | .sl a lo hi, X, sc, pe, dx, h => by
    unfold okE at h
    split at h
    · rename_i pa pi e
      obtain ⟨p, rfl⟩ := asSub_s e
      split at h
      · rename_i pl ph e2
        obtain ⟨p2, rfl⟩ := asSl_s e2
        simp only [Bool.and_eq_true] at h
        exact snd_sl (sE a X sc pa dx h.1.1) (sO lo X sc pl dx h.1.2) (sO hi X sc ph dx h.2)
      · cases h
    · cases h
  | .call k es, X, sc, pe, dx, h => by
    unfold okE at h
    split at h
    · rename_i x pes e
      obtain ⟨p, q, rfl⟩ := asCall_s e
      simp only [Bool.and_eq_true, decide_eq_true_eq] at h
      exact snd_call dx h.1.1 h.1.2 h.2 (sA es X sc pes dx h.2 0)
    · cases h
  | .callk k n es ks kes, X, sc, pe, dx, h => by
    unfold okE at h
    split at h
    · rename_i x pes ns vs e
      obtain ⟨p, q, kws, rfl, rfl, rfl⟩ := asCallK_s e
      simp only [Bool.and_eq_true, decide_eq_true_eq, Bool.not_eq_true'] at h
      obtain ⟨⟨⟨⟨⟨h1, h2⟩, h3⟩, h4⟩, h5⟩, h6⟩ := h
      have hn : pes ≠ [] := fun z => by rw [z] at h4; cases h4
      exact snd_callk dx h1 h2 h3 hn h5 (sA es X sc pes dx h5 0) (sK kes X sc kws dx h6)
    · cases h
  | .blt b es, X, sc, pe, dx, h => by
    unfold okE at h
    split at h
    · rename_i x pes e
      obtain ⟨p, q, rfl⟩ := asCall_s e
      simp only [Bool.and_eq_true, decide_eq_true_eq, Bool.not_eq_true'] at h
      obtain ⟨⟨⟨⟨rfl, h1⟩, h2⟩, h3⟩, h4⟩ := h
      have hn : pes ≠ [] := fun z => by rw [z] at h3; cases h3
      exact snd_blt dx h1 h2 hn h4 (sA es X sc pes dx h4 (bLv b + 1))
    · cases h
  | .isi a ts, X, sc, pe, dx, h => by
    unfold okE at h
    split at h
    · rename_i x pa pt e
      obtain ⟨p, q, rfl⟩ := asCall_s e
      simp only [Bool.and_eq_true, decide_eq_true_eq] at h
      obtain ⟨⟨⟨⟨⟨⟨rfl, h1⟩, h2⟩, h3⟩, h4⟩, h5⟩, h6⟩ := h
      refine snd_isi dx h1 h2 h3 h4 (sE a X sc pa dx h5) ?_
      cases e6 : asTup pt with
      | some pts => rw [e6] at h6; simpa using h6
      | none => rw [e6] at h6; exact h6
    · cases h
  | .mth m o es, X, sc, pe, dx, h => by
    unfold okE at h
    split at h
    · rename_i po x pes b e
      obtain ⟨ap, cp, rfl, hb⟩ := asMeth_s e
      simp only [Bool.and_eq_true, decide_eq_true_eq, Bool.not_eq_true'] at h
      obtain ⟨⟨⟨⟨⟨⟨rfl, h1⟩, h2⟩, h3⟩, h4⟩, h5⟩, h6⟩ := h
      have hn : pes ≠ [] := fun z => by rw [z] at h2; cases h2
      exact snd_mth dx (hb.trans h1) hn h3 h4 (okEs_all h6) (sE o X sc po dx h5) (sA es X sc pes dx h6 1)
    · cases h
  | .tup es, X, sc, pe, dx, h => by
    unfold okE at h
    split at h
    · rename_i pes e
      obtain ⟨j, p, rfl⟩ := asTup_s e
      exact snd_tup (sA es X sc pes dx h 0)
    · cases h
  | .lst es, X, sc, pe, dx, h => by
    unfold okE at h
    split at h
    · rename_i pes e
      obtain ⟨p, rfl⟩ := asLst_s e
      exact snd_lst (sA es X sc pes dx h 0)
    · cases h
  | .lc own elt tg it cs, X, sc, pe, dx, h => by
    unfold okE at h
    split at h
    · rename_i pelt ptg pit pifs scope e
      obtain ⟨p, rfl⟩ := asLC_s e
      simp only [Bool.and_eq_true] at h
      obtain ⟨⟨⟨⟨⟨⟨⟨h1, h2⟩, h3⟩, h4⟩, h5⟩, h6⟩, h7⟩, h8⟩ := h
      exact snd_lc dx ⟨by rw [dx.N, dx.sc]; exact blkOk_by h1, fun i hi => by simpa using List.all_eq_true.mp h6 i hi, h5, sI it X sc pit ptg 1 (by decide) dx h2.1 h2.2, tg_in (own := own) dx h3 (by rw [List.all_eq_true]; exact fun x hx => by simpa using List.all_eq_true.mp h4 x hx),
        fun s H Cc cl fp => sC cs (X.blk s H scope (compEnvC scope cl Cc X.env) fp) (relS scope sc) pifs dx.blk h8,
        fun s H Cc cl fp => (sE elt (X.blk s H scope (compEnvC scope cl Cc X.env) fp) (relS scope sc) pelt dx.blk h7).n 0⟩
    · cases h
  | .lc2 own elt tg it cs vs1 tg1 it1 cs1, X, sc, pe, dx, h => by
    unfold okE at h
    split at h
    · rename_i pelt ptg pit pifs ptg1 pit1 pifs1 scope e
      obtain ⟨p, rfl⟩ := asLC2_s e
      simp only [Bool.and_eq_true] at h
      obtain ⟨⟨⟨⟨⟨⟨⟨⟨h1, h2⟩, h3⟩, h4⟩, h5⟩, h6⟩, h7⟩, h8⟩, ⟨⟨⟨⟨⟨⟨k1, k2⟩, k3⟩, k4⟩, k5⟩, k6⟩, k7⟩⟩ := h
      exact snd_lc2 dx ⟨⟨by rw [dx.N, dx.sc]; exact blkOk_by h1, fun i hi => by simpa using List.all_eq_true.mp h6 i hi, h5, sI it X sc pit ptg 1 (by decide) dx h2.1 h2.2, tg_in (own := own) dx h3 (by rw [List.all_eq_true]; exact fun x hx => by simpa using List.all_eq_true.mp h4 x hx),
        fun s H Cc cl fp => sC cs (X.blk s H scope (compEnvC scope cl Cc X.env) fp) (relS scope sc) pifs dx.blk h8,
        fun s H Cc cl fp => (sE elt (X.blk s H scope (compEnvC scope cl Cc X.env) fp) (relS scope sc) pelt dx.blk h7).n 0⟩,
        fun i hi => by simpa using List.all_eq_true.mp k4 i hi, fun i hi => by simpa using List.all_eq_true.mp k5 i hi, k3, fun s H Cc cl fp => sI it1 (X.blk s H scope (compEnvC scope cl Cc X.env) fp) (relS scope sc) pit1 ptg1 0 (by decide) dx.blk k6.1 k6.2,
        tg_in (own := own) dx k1 (by rw [List.all_eq_true]; exact fun x hx => by simpa using List.all_eq_true.mp k2 x hx),
        fun s H Cc cl fp => sC cs1 (X.blk s H scope (compEnvC scope cl Cc X.env) fp) (relS scope sc) pifs1 dx.blk k7⟩
    · cases h
  | .dnew, X, sc, pe, dx, h => by
    unfold okE at h
    split at h
    · rename_i e
      obtain ⟨p, rfl⟩ := asDict_s e
      exact snd_dnew
    · cases h
  | .done a b, X, sc, pe, dx, h => by unfold okE at h; cases h
  | .dget o k x, X, sc, pe, dx, h => by
    unfold okE at h
    split at h
    · rename_i po m pk px b e
      obtain ⟨ap, cp, rfl, hb⟩ := asMeth_s e
      simp only [Bool.and_eq_true, decide_eq_true_eq] at h
      obtain ⟨⟨⟨⟨⟨⟨⟨rfl, h1⟩, h2⟩, h3⟩, h4⟩, h5⟩, h6⟩, h7⟩ := h
      exact snd_dget dx (hb.trans h1) h2 h3 h4 (sE o X sc po dx h5) (sE k X sc pk dx h6) (sE x X sc px dx h7)
    · cases h
  | .dcm own ke ve tg it cs, X, sc, pe, dx, h => by
    unfold okE at h
    split at h
    · rename_i pk pv ptg pit pifs scope e
      obtain ⟨p, rfl⟩ := asDC_s e
      simp only [Bool.and_eq_true] at h
      obtain ⟨⟨⟨⟨⟨⟨⟨h1, h2⟩, h3⟩, h4⟩, h5⟩, h6⟩, h7⟩, h8⟩ := h
      exact snd_dcm dx ⟨by rw [dx.N, dx.sc]; exact blkOk_by h1, fun i hi => by simpa using List.all_eq_true.mp h6 i hi, h5, sI it X sc pit ptg 1 (by decide) dx h2.1 h2.2, tg_in (own := own) dx h3 (by rw [List.all_eq_true]; exact fun x hx => by simpa using List.all_eq_true.mp h4 x hx),
        fun s H Cc cl fp => sC cs (X.blk s H scope (compEnvC scope cl Cc X.env) fp) (relS scope sc) pifs dx.blk h8,
        fun s H Cc cl fp => (sE ke (X.blk s H scope (compEnvC scope cl Cc X.env) fp) (relS scope sc) pk dx.blk h7.1).n 0,
        fun s H Cc cl fp => (sE ve (X.blk s H scope (compEnvC scope cl Cc X.env) fp) (relS scope sc) pv dx.blk h7.2).n 0⟩
    · cases h
  | .chn op op' a b c, X, sc, pe, dx, h => by
    unfold okE at h
    split at h
    · rename_i pa o o' pb pc e
      obtain ⟨p, rfl⟩ := asChn_s e
      simp only [Bool.and_eq_true, decide_eq_true_eq] at h
      obtain ⟨⟨⟨⟨⟨⟨rfl, rfl⟩, h1⟩, h2⟩, h3⟩, h4⟩, h5⟩ := h
      exact snd_chn dx h2 (sE a X sc pa dx h3) (sE b X sc pb dx h4) (sE c X sc pc dx h5)
    · cases h
  | .lrg a, X, sc, pe, dx, h => by
    unfold okE at h
    split at h
    · rename_i x pr e1
      obtain ⟨p, q, rfl⟩ := asCall_s e1
      simp only [Bool.and_eq_true, decide_eq_true_eq] at h
      obtain ⟨⟨⟨⟨rfl, h1⟩, h2⟩, h3⟩, h4⟩ := h
      split at h4
      · rename_i y pa e2
        obtain ⟨p', q', rfl⟩ := asCall_s e2
        simp only [Bool.and_eq_true, decide_eq_true_eq] at h4
        obtain ⟨⟨⟨⟨rfl, h5⟩, h6⟩, h7⟩, h8⟩ := h4
        exact snd_lrg dx h5 h6 h1 h2 h7 (sE a X sc pa dx h8)
      · cases h4
    · cases h
theorem sO {C : Ck} {G : Gb} : ∀ (o : Eo) (X : Cx) (sc : Scope) (po : Option Expr), DX X C G sc → okEo C sc o po = true → PO X po (tOs (kxOf X) (wEo G o))
  | .no, X, sc, none, dx, h => po_no
  | .yes e, X, sc, some pe, dx, h => po_yes (sE e X sc pe dx (by unfold okEo at h; exact h))
  | .no, X, sc, some pe, dx, h => by simp [okEo] at h
  | .yes e, X, sc, none, dx, h => by simp [okEo] at h
theorem sC {C : Ck} {G : Gb} : ∀ (o : Eo) (X : Cx) (sc : Scope) (po : List Expr), DX X C G sc → okC C sc o po = true → PTs X po (tCs (kxOf X) (wC G o))
  | .no, X, sc, [], dx, h => pts_no
  | .no, X, sc, _ :: _, dx, h => by simp [okC] at h
  | .yes e, X, sc, [pe], dx, h => pts_yes (sE e X sc pe dx (by unfold okC at h; exact h))
  | .yes e, X, sc, [], dx, h => by simp [okC] at h
  | .yes e, X, sc, _ :: _ :: _, dx, h => by simp [okC] at h
theorem sA {C : Ck} {G : Gb} : ∀ (es : Es) (X : Cx) (sc : Scope) (pes : List Expr), DX X C G sc → okEs C sc es pes = true → ∀ n, PA X pes (tAs (kxOf X) n (wEs G n es))
  | .nil, X, sc, [], dx, h, n => pas_nil
  | .nil, X, sc, _ :: _, dx, h, n => by simp [okEs] at h
  | .cons e es, X, sc, [], dx, h, n => by simp [okEs] at h
  | .cons e es, X, sc, pe :: pr, dx, h, n => by
    simp only [okEs, Bool.and_eq_true] at h
    exact pas_cons h.1.1 (sE e X sc pe dx h.1.2) (sA es X sc pr dx h.2 n)
theorem sK {C : Ck} {G : Gb} : ∀ (es : Es) (X : Cx) (sc : Scope) (kws : List Keyword), DX X C G sc → okEs C sc es (kws.map (·.value)) = true → PK X kws (tAs (kxOf X) 0 (wEs G 0 es))
  | .nil, X, sc, [], dx, h => pk_nil0
  | .nil, X, sc, ⟨_, _, _⟩ :: _, dx, h => by simp [okEs] at h
  | .cons e es, X, sc, [], dx, h => by simp [okEs] at h
  | .cons e es, X, sc, ⟨nm, pe, kp⟩ :: kws, dx, h => by
    rw [List.map_cons] at h
    simp only [okEs, Bool.and_eq_true] at h
    exact pk_cons0 (sE e X sc pe dx h.1.2) (sK es X sc kws dx h.2)
theorem sB {C : Ck} {G : Gb} : ∀ (es : Es) (X : Cx) (sc : Scope) (pes : List Expr), DX X C G sc → okEs C sc es pes = true → pes ≠ [] → ∀ (conj : Bool) (p : Pos),
    PW X (.BoolOp (bop conj) pes p) (tTs (kxOf X) (wTs G conj es)) ∧ PE X (.BoolOp (bop conj) pes p) (tN (kxOf X) 0 (wBs G conj es))
  | .nil, X, sc, [], dx, h, hn, conj, p => absurd rfl hn
  | .nil, X, sc, _ :: _, dx, h, hn, conj, p => by simp [okEs] at h
  | .cons e es, X, sc, [], dx, h, hn, conj, p => absurd rfl hn
  | .cons e .nil, X, sc, [pe], dx, h, hn, conj, p => by
    simp only [okEs, Bool.and_eq_true] at h
    have := sE e X sc pe dx h.1.2
    exact ⟨snd_ts1 this, snd_bs1 this⟩
  | .cons e .nil, X, sc, pe :: pe2 :: pr, dx, h, hn, conj, p => by simp [okEs] at h
  | .cons e (.cons e2 es2), X, sc, [pe], dx, h, hn, conj, p => by simp [okEs] at h
  | .cons e (.cons e2 es2), X, sc, pe :: pe2 :: pr, dx, h, hn, conj, p => by
    have h0 := h
    rw [okEs, Bool.and_eq_true, Bool.and_eq_true] at h0
    have := sE e X sc pe dx h0.1.2
    obtain ⟨a, b⟩ := sB (.cons e2 es2) X sc (pe2 :: pr) dx h0.2 (by simp) conj p
    exact ⟨snd_ts2 this a, snd_bs2 this b⟩
theorem sI {C : Ck} {G : Gb} : ∀ (it : I) (X : Cx) (sc : Scope) (pe tg : Expr) (n : Nat), n ≤ 1 → DX X C G sc → okI C sc it pe = true → itOk it tg = true → PI X tg pe (tIs (kxOf X) (n == 0) (wI G n it))
  | .ls e, X, sc, pe, tg, n, hn, dx, h, ht => by
    simp only [okI, Bool.and_eq_true] at h
    exact snd_ls hn (sE e X sc pe dx h.2)
  | .r1 a, X, sc, pe, tg, n, hn, dx, h, ht => by
    unfold okI at h
    split at h
    · rename_i x pa e
      obtain ⟨p, q, rfl⟩ := asCall_s e
      simp only [Bool.and_eq_true, decide_eq_true_eq] at h
      obtain ⟨⟨⟨⟨rfl, h1⟩, h2⟩, h3⟩, h4⟩ := h
      exact snd_r1 dx h1 h2 h3 (sE a X sc pa dx h4)
    · cases h
  | .r2 a b, X, sc, pe, tg, n, hn, dx, h, ht => by
    unfold okI at h
    split at h
    · rename_i x pa pb e
      obtain ⟨p, q, rfl⟩ := asCall_s e
      simp only [Bool.and_eq_true, decide_eq_true_eq] at h
      obtain ⟨⟨⟨⟨⟨⟨rfl, h1⟩, h2⟩, h3⟩, h4⟩, h5⟩, h6⟩ := h
      exact snd_r2 dx h1 h2 h3 h4 (sE a X sc pa dx h5) (sE b X sc pb dx h6)
    · cases h
  | .rv e, X, sc, pe, tg, n, hn, dx, h, ht => by
    unfold okI at h
    split at h
    · rename_i x pa e1
      obtain ⟨p, q, rfl⟩ := asCall_s e1
      simp only [Bool.and_eq_true, decide_eq_true_eq] at h
      obtain ⟨⟨⟨⟨rfl, h1⟩, h2⟩, h3⟩, h4⟩ := h
      exact snd_rv hn dx h1 h2 h3 (sE e X sc pa dx h4)
    · cases h
  | .rr1 a, X, sc, pe, tg, n, hn, dx, h, ht => by
    unfold okI at h
    split at h
    · rename_i x pr e1
      obtain ⟨p, q, rfl⟩ := asCall_s e1
      simp only [Bool.and_eq_true, decide_eq_true_eq] at h
      obtain ⟨⟨⟨⟨rfl, h1⟩, h2⟩, h3⟩, h4⟩ := h
      split at h4
      · rename_i y pa e2
        obtain ⟨p', q', rfl⟩ := asCall_s e2
        simp only [Bool.and_eq_true, decide_eq_true_eq] at h4
        obtain ⟨⟨⟨⟨rfl, h5⟩, h6⟩, h7⟩, h8⟩ := h4
        exact snd_rr1 dx h5 h6 h1 h2 h7 (sE a X sc pa dx h8)
      · cases h4
    · cases h
  | .rr2 a b, X, sc, pe, tg, n, hn, dx, h, ht => by
    unfold okI at h
    split at h
    · rename_i x pr e1
      obtain ⟨p, q, rfl⟩ := asCall_s e1
      simp only [Bool.and_eq_true, decide_eq_true_eq] at h
      obtain ⟨⟨⟨⟨rfl, h1⟩, h2⟩, h3⟩, h4⟩ := h
      split at h4
      · rename_i y pa pb e2
        obtain ⟨p', q', rfl⟩ := asCall_s e2
        simp only [Bool.and_eq_true, decide_eq_true_eq] at h4
        obtain ⟨⟨⟨⟨⟨⟨rfl, h5⟩, h6⟩, h7⟩, h8⟩, h9⟩, h10⟩ := h4
        exact snd_rr2 dx h5 h6 h1 h2 h7 h8 (sE a X sc pa dx h9) (sE b X sc pb dx h10)
      · cases h4
    · cases h
  | .en e, X, sc, pe, tg, n, hn, dx, h, ht => by
    unfold okI at h
    split at h
    · rename_i x pa e1
      obtain ⟨p, q, rfl⟩ := asCall_s e1
      simp only [Bool.and_eq_true, decide_eq_true_eq] at h
      obtain ⟨⟨⟨⟨rfl, h1⟩, h2⟩, h3⟩, h4⟩ := h
      exact snd_en hn ht dx h1 h2 h3 (sE e X sc pa dx h4)
    · cases h
  | .zp a b, X, sc, pe, tg, n, hn, dx, h, ht => by
    unfold okI at h
    split at h
    · rename_i x pa pb e
      obtain ⟨p, q, rfl⟩ := asCall_s e
      simp only [Bool.and_eq_true, decide_eq_true_eq] at h
      obtain ⟨⟨⟨⟨⟨⟨rfl, h1⟩, h2⟩, h3⟩, h4⟩, h5⟩, h6⟩ := h
      exact snd_zp hn ht dx h1 h2 h3 h4 (sE a X sc pa dx h5) (sE b X sc pb dx h6)
    · cases h
  | .zp3 a b c, X, sc, pe, tg, n, hn, dx, h, ht => by
    unfold okI at h
    split at h
    · rename_i x pa pb pc e
      obtain ⟨p, q, rfl⟩ := asCall_s e
      simp only [Bool.and_eq_true, decide_eq_true_eq] at h
      obtain ⟨⟨⟨⟨⟨⟨⟨⟨rfl, h1⟩, h2⟩, h3⟩, h4⟩, h5⟩, h6⟩, h7⟩, h8⟩ := h
      exact snd_zp3 hn ht dx h1 h2 h3 h4 h5 (sE a X sc pa dx h6) (sE b X sc pb dx h7) (sE c X sc pc dx h8)
    · cases h
end
end PD

set_option maxHeartbeats 2000000
namespace PD
open PySem PySem.Spec PyProof.Rows L2

/-! ### the slots change -/
section
variable {K : Kx} {F0 H0 F H F' H' : Hp} {ρ : Env} {σ : Sg}
/-- what slot i owns never changes from now on -/
theorem R.freeze {i : Nat} {O : Nat → List Addr} {d : D} (r : R K F0 H0 F ρ σ H) (o : Owns K H0 F ρ σ H O) (hi : i < ρ.length)
    (q : ∀ F', Same F F' → (∀ b ∈ O i, F' b = H b) → ∃ x, gt σ i = some x ∧ Rp K F' x d) : ∃ F', Same F F' ∧ R K F0 H0 F' (ρ.set i (some (.fz d))) σ H := by
  have fn : ∀ b, b ∈ O i → F b = none := fun b hb => (o.no i b hb).1
  have e1 : Same F (fun b => if b ∈ O i then H b else F b) := fun b x hb => by
    have : b ∉ O i := fun h => by rw [fn b h] at hb; cases hb
    show (if b ∈ O i then H b else F b) = some x
    rw [if_neg this]; exact hb
  refine ⟨fun b => if b ∈ O i then H b else F b, e1, ⟨⟨r.ext.f.trans e1, r.ext.h, fun b hb => ?_⟩, fun b x hb => ?_, by rw [List.length_set]; exact r.len, fun j => if j = i then [] else O j, ⟨fun j => ?_, fun j k a h1 h2 => ?_, fun j a h1 => ?_, fun j => ?_⟩⟩⟩
  · have : b ∉ O i := fun h => hb (o.no i b h).2
    show (if b ∈ O i then H b else F b) = _
    rw [if_neg this]; exact r.ext.new b hb
  · by_cases h : b ∈ O i
    · rw [if_pos h] at hb; exact hb
    · rw [if_neg h] at hb; exact r.sub b x hb
  · split
    · exact List.nodup_nil
    · exact o.nd j
  · by_cases ej : j = i
    · rw [if_pos ej] at h1; simp at h1
    · rw [if_neg ej] at h1
      by_cases ek : k = i
      · rw [if_pos ek] at h2; simp at h2
      · rw [if_neg ek] at h2; exact o.dj j k a h1 h2
  · by_cases ej : j = i
    · rw [if_pos ej] at h1; simp at h1
    · rw [if_neg ej] at h1
      have : a ∉ O i := fun h => ej (o.dj j i a h1 h)
      refine ⟨?_, (o.no j a h1).2⟩
      show (if a ∈ O i then H a else F a) = none
      rw [if_neg this]; exact (o.no j a h1).1
  · rw [gt_set hi]
    by_cases ej : j = i
    · rw [if_pos ej, if_pos ej]
      subst ej
      obtain ⟨x, h1, h2⟩ := q _ e1 (fun b hb => if_pos hb)
      exact ⟨rfl, x, h1, h2⟩
    · rw [if_neg ej, if_neg ej]
      exact (o.rep j).mono e1 fun b _ x h => h
/-- what slot i owns is written -/
theorem R.write {i : Nat} {O : Nat → List Addr} {s : Sl} {os : List Addr} (r : R K F0 H0 F ρ σ H) (o : Owns K H0 F ρ σ H O) (hi : i < ρ.length) (nd : os.Nodup) (no : ∀ b ∈ os, F b = none ∧ H0 b = none)
    (ap : ∀ j, j ≠ i → ∀ b ∈ os, b ∉ O j) (he : ∀ b, b ∉ os → H' b = H b) (q : SlRep K F H' (some s) (gt σ i) os) : R K F0 H0 F (ρ.set i (some s)) σ H' := by
  refine ⟨⟨r.ext.f, fun b x hb => ?_, r.ext.new⟩, fun b x hb => ?_, by rw [List.length_set]; exact r.len, fun j => if j = i then os else O j, ⟨fun j => ?_, fun j k a h1 h2 => ?_, fun j a h1 => ?_, fun j => ?_⟩⟩
  · have : b ∉ os := fun h => by rw [(no b h).2] at hb; cases hb
    rw [he b this]; exact r.ext.h b x hb
  · have : b ∉ os := fun h => by rw [(no b h).1] at hb; cases hb
    rw [he b this]; exact r.sub b x hb
  · split
    · exact nd
    · exact o.nd j
  · by_cases ej : j = i
    · rw [if_pos ej] at h1
      by_cases ek : k = i
      · rw [ej, ek]
      · rw [if_neg ek] at h2; exact absurd h2 (ap k ek a h1)
    · rw [if_neg ej] at h1
      by_cases ek : k = i
      · rw [if_pos ek] at h2; exact absurd h1 (ap j ej a h2)
      · rw [if_neg ek] at h2; exact o.dj j k a h1 h2
  · by_cases ej : j = i
    · rw [if_pos ej] at h1; exact no a h1
    · rw [if_neg ej] at h1; exact o.no j a h1
  · rw [gt_set hi]
    by_cases ej : j = i
    · rw [if_pos ej, if_pos ej, ej]; exact q
    · rw [if_neg ej, if_neg ej]
      refine (o.rep j).mono (Same.refl F) fun b hb x h => ?_
      have : b ∉ os := fun h' => ap j ej b h' hb
      rw [he b this]; exact h
theorem R.lt {i : Nat} {s : Sl} (h : gt ρ i = some s) : i < ρ.length := gt_lt h
/-- slot i is set to something new, which it owns -/
theorem R.newS {i : Nat} {v : V} {a : Addr} {sl : Sl} (r : R K F0 H0 F ρ σ H) (hi : i < ρ.length) (e : Ext F H F' H') (s : Same F' H') (h1 : H a = none) (h2 : F' a = none) (q : SlRep K F' H' (some sl) (some v) [a]) : R K F0 H0 F' (ρ.set i (some sl)) (σ.set i (some v)) H' := by
  obtain ⟨O, o⟩ := r.own
  have r' := r.go e s
  have hi' : i < σ.length := by rw [r.len]; exact hi
  have hO : ∀ j, a ∉ O j := fun j h => (o.rep j).there a h h1
  refine ⟨r'.ext, r'.sub, by rw [List.length_set, List.length_set]; exact r.len, fun j => if j = i then [a] else O j, ⟨fun j => ?_, fun j k b g1 g2 => ?_, fun j b g1 => ?_, fun j => ?_⟩⟩
  · split
    · simp
    · exact o.nd j
  · by_cases ej : j = i
    · rw [if_pos ej] at g1
      have : b = a := by simpa using g1
      subst this
      by_cases ek : k = i
      · rw [ej, ek]
      · rw [if_neg ek] at g2; exact absurd g2 (hO k)
    · rw [if_neg ej] at g1
      by_cases ek : k = i
      · rw [if_pos ek] at g2
        have : b = a := by simpa using g2
        subst this
        exact absurd g1 (hO j)
      · rw [if_neg ek] at g2; exact o.dj j k b g1 g2
  · by_cases ej : j = i
    · rw [if_pos ej] at g1
      have : b = a := by simpa using g1
      subst this
      exact ⟨h2, Same.free r.ext.h h1⟩
    · rw [if_neg ej] at g1
      refine ⟨?_, (o.no j b g1).2⟩
      rw [e.new b ((o.rep j).there b g1)]; exact (o.no j b g1).1
  · rw [gt_set hi, gt_set hi']
    by_cases ej : j = i
    · rw [if_pos ej, if_pos ej, if_pos ej]
      exact q
    · rw [if_neg ej, if_neg ej, if_neg ej]
      exact (o.rep j).mono e.f fun b _ x h => e.h b x h
theorem R.new {i : Nat} {v : V} {ds : List D} (r : R K F0 H0 F ρ σ H) (hi : i < ρ.length) (e : Ext F H F' H') (s : Same F' H') (f : Fre K H F' H' v ds) : R K F0 H0 F' (ρ.set i (some (.ow ds))) (σ.set i (some v)) H' := by
  obtain ⟨a, xs, rfl, h1, h2, h3, h4⟩ := f
  exact r.newS hi e s h1 h2 ⟨a, xs, rfl, rfl, h3, h4⟩
theorem R.newD {i : Nat} {v : V} {kvs : List (D × D)} (r : R K F0 H0 F ρ σ H) (hi : i < ρ.length) (e : Ext F H F' H') (s : Same F' H') (f : FreD K H F' H' v kvs) : R K F0 H0 F' (ρ.set i (some (.od kvs))) (σ.set i (some v)) H' := by
  obtain ⟨a, es, rfl, h1, h2, h3, h4⟩ := f
  exact r.newS hi e s h1 h2 ⟨a, es, rfl, rfl, h3, h4⟩
/-- .. a list or a dict -/
def wOwn (i : Nat) (ρ : Env) (P : Env → Prop) : D → Prop
  | .list ds => P (ρ.set i (some (.ow ds)))
  | .dict kvs => P (ρ.set i (some (.od kvs)))
  | _ => False
theorem R.newC {i : Nat} {v : V} {d : D} (r : R K F0 H0 F ρ σ H) (hi : i < ρ.length) (e : Ext F H F' H') (s : Same F' H') (f : FreC K H F' H' v d) {P : Env → Prop} (h : wOwn i ρ P d) : ∃ ρ', R K F0 H0 F' ρ' (σ.set i (some v)) H' ∧ P ρ' := by
  rcases f with ⟨ds, rfl, f⟩ | ⟨kvs, rfl, f⟩
  · exact ⟨_, r.new hi e s f, h⟩
  · exact ⟨_, r.newD hi e s f, h⟩
/-- .. to a new empty list of lists -/
theorem R.new2 {i : Nat} {p : Addr} (r : R K F0 H0 F ρ σ H) (hi : i < ρ.length) (hp : H p = none) : R K F0 H0 F (ρ.set i (some (.ow2 []))) (σ.set i (some (.ref p))) (upd H p (.lst [])) :=
  r.newS hi (Ext.mkO hp) (same_upd2 r.sub (r.sub.free hp)) hp (r.sub.free hp) ⟨p, [], rfl, rfl, upd_same, True.intro⟩
/-- .. to a new empty dict of lists -/
theorem R.newDl {i : Nat} {p : Addr} (r : R K F0 H0 F ρ σ H) (hi : i < ρ.length) (hp : H p = none) : R K F0 H0 F (ρ.set i (some (.odl []))) (σ.set i (some (.ref p))) (upd H p (DO K.P K.w p [])) :=
  r.newS hi (Ext.mkO hp) (same_upd2 r.sub (r.sub.free hp)) hp (r.sub.free hp) ⟨p, [], [], rfl, rfl, upd_same, True.intro⟩
theorem own2_get : ∀ {bs : List Addr} {dss : List (List D)} {n : Nat} {ds : List D}, Own2 K F H bs dss → dss[n]? = some ds → ∃ b xs, bs[n]? = some b ∧ H b = some (.lst xs) ∧ RpAll K F xs ds
  | [], [], _, _, _, e => by simp at e
  | b :: bs, d :: dss, 0, ds, ⟨⟨xs, h1, h2⟩, _⟩, e => by
    have : d = ds := by simpa using e
    subst this
    exact ⟨b, xs, rfl, h1, h2⟩
  | b :: bs, d :: dss, n + 1, ds, ⟨_, t⟩, e => by
    obtain ⟨b', xs, h1, h2⟩ := own2_get t (show dss[n]? = some ds by simpa using e)
    exact ⟨b', xs, by simpa using h1, h2⟩
  | [], _ :: _, _, _, h, _ => h.elim
  | _ :: _, [], _, _, h, _ => h.elim
theorem own2_set {xs' : List V} {ds' : List D} (q : RpAll K F xs' ds') : ∀ {bs : List Addr} {dss : List (List D)} {n : Nat} {b : Addr}, bs.Nodup → Own2 K F H bs dss → bs[n]? = some b → Own2 K F (upd H b (.lst xs')) bs (dss.set n ds')
  | [], [], _, _, _, _, e => by simp at e
  | c :: bs, d :: dss, 0, b, nd, ⟨_, t⟩, e => by
    have : c = b := by simpa using e
    subst this
    refine ⟨⟨xs', upd_same, q⟩, Own2.mono (Same.refl F) (fun b' hb o h => ?_) t⟩
    have : b' ≠ c := fun z => (List.nodup_cons.mp nd).1 (z ▸ hb)
    rw [upd_ne this]; exact h
  | c :: bs, d :: dss, n + 1, b, nd, ⟨⟨xs, h1, h2⟩, t⟩, e => by
    have e' : bs[n]? = some b := by simpa using e
    have : c ≠ b := fun z => (List.nodup_cons.mp nd).1 (z ▸ List.mem_of_getElem? e')
    exact ⟨⟨xs, by rw [upd_ne this]; exact h1, h2⟩, own2_set q (List.nodup_cons.mp nd).2 t e'⟩
  | [], _ :: _, _, _, _, h, _ => h.elim
  | _ :: _, [], _, _, _, h, _ => h.elim
theorem own2_snoc {b : Addr} {xs : List V} {ds : List D} (h1 : H b = some (.lst xs)) (h2 : RpAll K F xs ds) : ∀ {bs : List Addr} {dss : List (List D)}, Own2 K F H bs dss → Own2 K F H (bs ++ [b]) (dss ++ [ds])
  | [], [], _ => ⟨⟨xs, h1, h2⟩, True.intro⟩
  | c :: bs, d :: dss, ⟨q, t⟩ => ⟨q, own2_snoc h1 h2 t⟩
  | [], _ :: _, h => h.elim
  | _ :: _, [], h => h.elim
theorem own2_rp : ∀ {bs : List Addr} {dss : List (List D)}, Own2 K F H bs dss → ∀ {F' : Hp}, Same F F' → (∀ b ∈ bs, F' b = H b) → RpAll K F' (bs.map V.ref) (dss.map PyData.list)
  | [], [], _, _, _, _ => .nil
  | b :: bs, ds :: dss, ⟨⟨xs, h1, h2⟩, t⟩, F', f, he => .cons (.lst (SqL.of (by rw [he b List.mem_cons_self]; exact h1)) (da_m h2 f)) (own2_rp t f fun c hc => he c (List.mem_cons_of_mem _ hc))
  | [], _ :: _, h, _, _, _ => h.elim
  | _ :: _, [], h, _, _, _ => h.elim
theorem ownd_rp : ∀ {es : List Ent} {bs : List Addr} {kvs : List (D × List D)}, OwnD K F H es bs kvs → ∀ {F' : Hp}, Same F F' → (∀ b ∈ bs, F' b = H b) → RpD K F' es (kvs.map fun p => (p.1, .list p.2))
  | [], [], [], _, _, _, _ => .nil
  | (n, y, v) :: es, b :: bs, (k, ds) :: kvs, ⟨⟨h1, h2, h3, xs, e1, r⟩, t⟩, F', f, he => by
    have h3 : v = .ref b := h3
    subst h3
    exact .cons (dp_m h1 f) h2 (.lst (SqL.of (by rw [he b List.mem_cons_self]; exact e1)) (da_m r f)) (ownd_rp t f fun c hc => he c (List.mem_cons_of_mem _ hc))
  | [], [], _ :: _, h, _, _, _ => h.elim
  | [], _ :: _, _, h, _, _, _ => by cases ‹List (D × List D)› <;> exact h.elim
  | _ :: _, [], _, h, _, _, _ => h.elim
  | _ :: _, _ :: _, [], h, _, _, _ => h.elim
end

/-! ### the readings of statements, by data -/
structure Lift (K : Kx) (F0 H0 Fm : Hp) (P : DP) (Dn : Ends) : Prop where
  nx : ∀ F ρ σ H, R K F0 H0 F ρ σ H → Same Fm F → P.nx ρ → Dn.nx σ H
  bk : ∀ F ρ σ H, R K F0 H0 F ρ σ H → Same Fm F → P.bk ρ → Dn.bk σ H
  ct : ∀ F ρ σ H, R K F0 H0 F ρ σ H → Same Fm F → P.ct ρ → Dn.ct σ H
  rt : ∀ v F H d, Ext F0 H0 F H → Same F H → Rp K F v d → P.rt d → Dn.rt v H
def tSs (K : Kx) (w : DP → Env → Prop) : TS := fun Dn σ H => ∃ F0 H0 Fm F ρ P, R K F0 H0 F ρ σ H ∧ Same Fm F ∧ w P ρ ∧ Lift K F0 H0 Fm P Dn
theorem ps_w {X : Cx} {st : Stmt} {t t' : TS} (h : PS X st t) (k : ∀ D σ H, t' D σ H → t D σ H) : PS X st t' := ⟨fun pins s σ H D I hw => h.run pins s σ H D I (k D σ H hw)⟩
theorem pss_w {X : Cx} {st : List Stmt} {t t' : TS} (h : PSs X st t) (k : ∀ D σ H, t' D σ H → t D σ H) : PSs X st t' := ⟨fun pins s σ H D I hw => h.run pins s σ H D I (k D σ H hw)⟩

section
variable {X : Cx} {C : Ck} {G : Gb} {sc : Scope}
theorem ss_nil : PSs X [] (tSs (kxOf X) (wSs G .nil)) := pss_w pss_nil fun D σ H ⟨F0, H0, Fm, F, ρ, P, rr, sm, hw, L⟩ => L.nx F ρ σ H rr sm hw
theorem ss_cons {s : S} {ss : Ss} {st : Stmt} {sts : List Stmt} (h : PS X st (tSs (kxOf X) (wS G s))) (hr : PSs X sts (tSs (kxOf X) (wSs G ss))) : PSs X (st :: sts) (tSs (kxOf X) (wSs G (.cons s ss))) :=
  pss_w (pss_cons h hr) fun D σ H ⟨F0, H0, Fm, F, ρ, P, rr, sm, hw, L⟩ =>
    ⟨F0, H0, Fm, F, ρ, { P with nx := wSs G ss P }, rr, sm, hw, ⟨fun F' ρ' σ' H' r' s' h' => ⟨F0, H0, Fm, F', ρ', P, r', s', h', L⟩, L.bk, L.ct, L.rt⟩⟩
theorem ss_frz {i : Nat} {ss : Ss} {sts : List Stmt} (hr : PSs X sts (tSs (kxOf X) (wSs G ss))) : PSs X sts (tSs (kxOf X) (wSs G (.cons (.frz i) ss))) :=
  pss_w hr fun D σ H ⟨F0, H0, Fm, F, ρ, P, rr, sm, hw, L⟩ => by
    have hw : (match gt ρ i with | some (.fz _) => wSs G ss P ρ | some (.ow ds) => wSs G ss P (ρ.set i (some (.fz (.list ds)))) | some (.ow2 dss) => wSs G ss P (ρ.set i (some (.fz (.list (dss.map .list))))) | some (.od kvs) => wSs G ss P (ρ.set i (some (.fz (.dict kvs)))) | some (.odl kvs) => wSs G ss P (ρ.set i (some (.fz (.dict (kvs.map fun p => (p.1, .list p.2)))))) | none => wSs G ss P ρ : Prop) := hw
    obtain ⟨O, o⟩ := rr.own
    have q := o.rep i
    cases e : gt ρ i with
    | none => rw [e] at hw; exact ⟨F0, H0, Fm, F, ρ, P, rr, sm, hw, L⟩
    | some s =>
      rw [e] at hw q
      cases s with
      | fz d => exact ⟨F0, H0, Fm, F, ρ, P, rr, sm, hw, L⟩
      | ow ds =>
        obtain ⟨a, xs, e1, e2, e3, q⟩ := q
        obtain ⟨F', f, r'⟩ := rr.freeze (d := .list ds) o (gt_lt e) fun F' f he => ⟨_, e1, .lst (SqL.of (by rw [he a (by rw [e2]; simp)]; exact e3)) (da_m q f)⟩
        exact ⟨F0, H0, Fm, F', _, P, r', sm.trans f, hw, L⟩
      | ow2 dss =>
        obtain ⟨a, bs, e1, e2, e3, q⟩ := q
        obtain ⟨F', f, r'⟩ := rr.freeze (d := .list (dss.map .list)) o (gt_lt e) fun F' f he => ⟨_, e1, .lst (SqL.of (by rw [he a (by rw [e2]; simp)]; exact e3)) (own2_rp q f fun b hb => he b (by rw [e2]; exact List.mem_cons_of_mem _ hb))⟩
        exact ⟨F0, H0, Fm, F', _, P, r', sm.trans f, hw, L⟩
      | od kvs =>
        obtain ⟨a, es, e1, e2, e3, q⟩ := q
        obtain ⟨F', f, r'⟩ := rr.freeze (d := .dict kvs) o (gt_lt e) fun F' f he => ⟨_, e1, .dic (by rw [he a (by rw [e2]; simp)]; exact e3) (dd_m q f)⟩
        exact ⟨F0, H0, Fm, F', _, P, r', sm.trans f, hw, L⟩
      | odl kvs =>
        obtain ⟨a, bs, es, e1, e2, e3, q⟩ := q
        obtain ⟨F', f, r'⟩ := rr.freeze (d := .dict (kvs.map fun p => (p.1, .list p.2))) o (gt_lt e) fun F' f he => ⟨_, e1, .dic (by rw [he a (by rw [e2]; simp)]; exact e3) (ownd_rp q f fun b hb => he b (by rw [e2]; exact List.mem_cons_of_mem _ hb))⟩
        exact ⟨F0, H0, Fm, F', _, P, r', sm.trans f, hw, L⟩

/-! ### assignments -/
def notComp : Expr → Bool
  | .ListComp .. => false
  | .SetComp .. => false
  | .DictComp .. => false
  | _ => true
theorem nc_swap {pe : Expr} {tg : Option Expr} {l : Nat} {env : PySem.Env} (h : notComp pe = true) : swapsWith pe tg l env = pure false := by
  cases pe <;> first | rfl | exact absurd (show false = true from h) Bool.false_ne_true
theorem asg_pe {i : Nat} {x : Str} {py pos : Pos} {pe : Expr} {te : TE} (dx : DX X C G sc) (h1 : C.N[i]? = some x) (h2 : locB sc x = true) (hf : ∀ x, X.fn x = true) (hc : notComp pe = true) (h : PE X pe te) : PS X (.Assign [.Name x py] pe pos) (tAsg te (gName i)) :=
  ps_set (by rw [dx.N]; exact dx.nd) (by rw [dx.N]; exact h1) (dx.loc h2) h (nc_swap hc) (.inl (hf x))
def swB (sc : Scope) (x : Str) (py : Pos) (scope : Scope) (pos : Pos) : Bool :=
  decide (sc.names.lookup x = some .local) && (py.line == pos.line) && !(scope.names.any fun (n, k) => n == x && (k == .local || k == .cell))
theorem asg_lc {i : Nat} {x : Str} {py pos p : Pos} {own : List (Str × Nat)} {elt : E} {tg : Tg} {it : I} {cs : Eo} {pelt ptg pit : Expr} {pifs : List Expr} {scope : Scope} (dx : DX X C G sc) (hk : sc.kind = .function) (h1 : C.N[i]? = some x) (h2 : locB sc x = true) (hf : ∀ x, X.fn x = true)
    (l : LcIn X C G sc own elt tg it cs pelt ptg pit pifs scope) :
    PS X (.Assign [.Name x py] (.ListComp pelt [⟨ptg, pit, pifs, 0⟩] scope p) pos) (tAsg (tX (kxOf X) (rF (kxOf X)) (fun ρ Q => wLc G own elt tg it cs ρ fun ds => Q (.list ds))) (gName i)) := by
  have hk' : X.env.scope.kind = .function := by rw [dx.sc]; exact hk
  cases e : swB sc x py scope p with
  | true =>
    unfold swB at e
    simp only [Bool.and_eq_true, decide_eq_true_eq, Bool.not_eq_true'] at e
    obtain ⟨⟨e1, e2⟩, e3⟩ := e
    have hl : X.env.scope.names.lookup x = some .local := by rw [dx.sc]; exact e1
    exact ps_w (ps_setLc dx.calm (by rw [dx.N]; exact dx.nd) (by rw [dx.N]; exact h1) hl (sw_true hk' hl e2 e3) l.it l.ok l.tg l.cs l.elt (plain_fold l.pl)) fun D σ H h => lc_rd l.hs h
  | false =>
    refine ps_set (by rw [dx.N]; exact dx.nd) (by rw [dx.N]; exact h1) (dx.loc h2) (l.pe dx) ?_ (.inl (hf x))
    unfold swapsWith
    dsimp only
    have hb : X.env.blockKind = .function := by unfold Env.blockKind; rw [hk']; rfl
    rw [hb]
    refine congrArg (pure : Bool → Sem Bool) ?_
    have hkk : (X.env.kindOf x == some NameKind.local) = decide (sc.names.lookup x = some .local) := by
      show (X.env.scope.names.lookup x == some NameKind.local) = _
      rw [dx.sc]
      cases h : decide (sc.names.lookup x = some .local) with
      | true => rw [of_decide_eq_true h]; rfl
      | false =>
        have h' := of_decide_eq_false h
        cases h2 : (sc.names.lookup x == some NameKind.local) with
        | false => rfl
        | true =>
          exfalso; apply h'
          cases h3 : sc.names.lookup x with
          | none => rw [h3] at h2; cases h2
          | some k => rw [h3] at h2; cases k <;> first | rfl | cases h2
    rw [hkk]
    unfold swB at e
    exact e
theorem asg_lc2 {i : Nat} {x : Str} {py pos p : Pos} {own : List (Str × Nat)} {elt : E} {tg : Tg} {it : I} {cs : Eo} {vs1 : List Nat} {tg1 : Tg} {it1 : I} {cs1 : Eo} {pelt ptg pit : Expr} {pifs : List Expr} {ptg1 pit1 : Expr} {pifs1 : List Expr} {scope : Scope} (dx : DX X C G sc) (hk : sc.kind = .function) (h1 : C.N[i]? = some x) (h2 : locB sc x = true) (hf : ∀ x, X.fn x = true)
    (l : LcIn2 X C G sc own elt tg it cs vs1 tg1 it1 cs1 pelt ptg pit pifs ptg1 pit1 pifs1 scope) :
    PS X (.Assign [.Name x py] (.ListComp pelt [⟨ptg, pit, pifs, 0⟩, ⟨ptg1, pit1, pifs1, 0⟩] scope p) pos) (tAsg (tX (kxOf X) (rF (kxOf X)) (fun ρ Q => wLc2 G own elt tg it cs vs1 tg1 it1 cs1 ρ fun ds => Q (.list ds))) (gName i)) := by
  have hk' : X.env.scope.kind = .function := by rw [dx.sc]; exact hk
  cases e : swB sc x py scope p with
  | true =>
    unfold swB at e
    simp only [Bool.and_eq_true, decide_eq_true_eq, Bool.not_eq_true'] at e
    obtain ⟨⟨e1, e2⟩, e3⟩ := e
    have hl : X.env.scope.names.lookup x = some .local := by rw [dx.sc]; exact e1
    exact ps_w (ps_setLc2 dx.calm (by rw [dx.N]; exact dx.nd) (by rw [dx.N]; exact h1) hl (sw_true hk' hl e2 e3) l.a.it l.a.ok l.hv l.a.tg l.a.cs l.it1 l.tg1 l.cs1 l.a.elt (plain_fold l.a.pl) (fun env => plain_fold l.pl1)) fun D σ H h => lc2_rd l.a.hs l.hs1 h
  | false =>
    refine ps_set (by rw [dx.N]; exact dx.nd) (by rw [dx.N]; exact h1) (dx.loc h2) (l.pe dx) ?_ (.inl (hf x))
    unfold swapsWith
    dsimp only
    have hb : X.env.blockKind = .function := by unfold Env.blockKind; rw [hk']; rfl
    rw [hb]
    refine congrArg (pure : Bool → Sem Bool) ?_
    have hkk : (X.env.kindOf x == some NameKind.local) = decide (sc.names.lookup x = some .local) := by
      show (X.env.scope.names.lookup x == some NameKind.local) = _
      rw [dx.sc]
      cases h : decide (sc.names.lookup x = some .local) with
      | true => rw [of_decide_eq_true h]; rfl
      | false =>
        have h' := of_decide_eq_false h
        cases h2 : (sc.names.lookup x == some NameKind.local) with
        | false => rfl
        | true =>
          exfalso; apply h'
          cases h3 : sc.names.lookup x with
          | none => rw [h3] at h2; cases h2
          | some k => rw [h3] at h2; cases k <;> first | rfl | cases h2
    rw [hkk]
    unfold swB at e
    exact e
theorem asg_dc {i : Nat} {x : Str} {py pos p : Pos} {own : List (Str × Nat)} {ke ve : E} {tg : Tg} {it : I} {cs : Eo} {pk pv ptg pit : Expr} {pifs : List Expr} {scope : Scope} (dx : DX X C G sc) (hk : sc.kind = .function) (h1 : C.N[i]? = some x) (h2 : locB sc x = true) (hf : ∀ x, X.fn x = true)
    (l : DcIn X C G sc own ke ve tg it cs pk pv ptg pit pifs scope) :
    PS X (.Assign [.Name x py] (.DictComp pk pv [⟨ptg, pit, pifs, 0⟩] scope p) pos) (tAsg (tX (kxOf X) (rF (kxOf X)) (fun ρ Q => wDc G own ke ve tg it cs ρ fun ds => Q (.dict ds))) (gName i)) := by
  have hk' : X.env.scope.kind = .function := by rw [dx.sc]; exact hk
  cases e : swB sc x py scope p with
  | true =>
    unfold swB at e
    simp only [Bool.and_eq_true, decide_eq_true_eq, Bool.not_eq_true'] at e
    obtain ⟨⟨e1, e2⟩, e3⟩ := e
    have hl : X.env.scope.names.lookup x = some .local := by rw [dx.sc]; exact e1
    exact ps_w (ps_setDcO (by have := dx.room.un; omega) dx.calm (by rw [dx.N]; exact dx.nd) (by rw [dx.N]; exact h1) hl (sw_trueD hk' hl e2 e3) l.it l.ok l.tg l.cs l.ke l.ve (plain_fold l.pl)) fun D σ H h => dc_rd l.hs h
  | false =>
    refine ps_set (by rw [dx.N]; exact dx.nd) (by rw [dx.N]; exact h1) (dx.loc h2) (l.pe dx) ?_ (.inl (hf x))
    unfold swapsWith
    dsimp only
    have hb : X.env.blockKind = .function := by unfold Env.blockKind; rw [hk']; rfl
    rw [hb]
    refine congrArg (pure : Bool → Sem Bool) ?_
    have hkk : (X.env.kindOf x == some NameKind.local) = decide (sc.names.lookup x = some .local) := by
      show (X.env.scope.names.lookup x == some NameKind.local) = _
      rw [dx.sc]
      cases h : decide (sc.names.lookup x = some .local) with
      | true => rw [of_decide_eq_true h]; rfl
      | false =>
        have h' := of_decide_eq_false h
        cases h2 : (sc.names.lookup x == some NameKind.local) with
        | false => rfl
        | true =>
          exfalso; apply h'
          cases h3 : sc.names.lookup x with
          | none => rw [h3] at h2; cases h2
          | some k => rw [h3] at h2; cases k <;> first | rfl | cases h2
    rw [hkk]
    unfold swB at e
    exact e
end
end PD

set_option maxHeartbeats 2000000
/-! list.extend by any list or tuple; dicts of lists, written -/
namespace PD
open PySem PySem.Spec PyProof.Rows L2
section
open AutoSeq1
theorem extL (l : Addr) (items : Array Value) (n : Nat) (b : Addr) (items2 : Array Value) (n2 : Nat) (dd : Option Addr) (sl : Array (Option Value)) (hs0 : ¬(!items.isEmpty && Builtin.List.listTooLong (items.size + items2.size)) = true) (hs1 : items.size ≤ sizeLine) (hs2 : items.size + items2.size ≤ sizeLine + 1) :
    Meets (Builtin.«list.extend» ⟨[.ref l, .ref b], []⟩) (fun _ R s => s.heap.get? l = some { cls := .type "list", dict := none, data := .seq items n, slots := #[] } ∧ s.heap.get? b = some { cls := .type "list", dict := dd, data := .seq items2 n2, slots := sl } ∧ R (.ok (.ret Value.none)) { s with heap := s.heap.update l (Obj.mapSeq fun x => x ++ items2), toks := s.toks }) :=
  .of_wp fun prog w A R s h => by
    obtain ⟨hp, g, d, tk, os⟩ := s; obtain ⟨hl, hb, h⟩ := h; have f1 := AutoSeq1.idx_int; have f2 := AutoSeq1.sub_tuple_tuple; have f3 := AutoSeq1.sub_list_list; have f4 := AutoSeq1.sub_tuple_list; have f5 := AutoSeq1.sub_list_tuple;
    have hz' : (items ++ items2).size ≤ sizeLine + 1 := by rw [Array.size_append]; exact hs2
    wp_walk using (wpAny_updateSeq hl rfl (hz := hs1) (_hz' := hz')), wpAny_loadPart' hl, wpAny_loadPart' hb; exact ⟨_, rfl, h⟩
theorem extT (l : Addr) (items : Array Value) (n : Nat) (b : Addr) (items2 : Array Value) (n2 : Nat) (dd : Option Addr) (sl : Array (Option Value)) (hs0 : ¬(!items.isEmpty && Builtin.List.listTooLong (items.size + items2.size)) = true) (hs1 : items.size ≤ sizeLine) (hs2 : items.size + items2.size ≤ sizeLine + 1) :
    Meets (Builtin.«list.extend» ⟨[.ref l, .ref b], []⟩) (fun _ R s => s.heap.get? l = some { cls := .type "list", dict := none, data := .seq items n, slots := #[] } ∧ s.heap.get? b = some { cls := .type "tuple", dict := dd, data := .seq items2 n2, slots := sl } ∧ R (.ok (.ret Value.none)) { s with heap := s.heap.update l (Obj.mapSeq fun x => x ++ items2), toks := s.toks }) :=
  .of_wp fun prog w A R s h => by
    obtain ⟨hp, g, d, tk, os⟩ := s; obtain ⟨hl, hb, h⟩ := h; have f1 := AutoSeq1.idx_int; have f2 := AutoSeq1.sub_tuple_tuple; have f3 := AutoSeq1.sub_list_list; have f4 := AutoSeq1.sub_tuple_list; have f5 := AutoSeq1.sub_list_tuple;
    have hz' : (items ++ items2).size ≤ sizeLine + 1 := by rw [Array.size_append]; exact hs2
    wp_walk using (wpAny_updateSeq hl rfl (hz := hs1) (_hz' := hz')), wpAny_loadPart' hl, wpAny_loadPart' hb; exact ⟨_, rfl, h⟩
end
def rExt (K : PySem.W.Frag) : V → List V → Hp → VK → Prop := fun x vs H Q => ∃ l b xs zs, x = .ref l ∧ vs = [.ref b] ∧ H l = some (.lst xs) ∧ (SqL K H b zs ∨ SqT K H b zs) ∧ xs.length + zs.length ≤ sizeLine ∧ Q .non (upd H l (.lst (xs ++ zs)))
theorem mt_ext {X : Cx} : MtR X "list.extend" (rExt X.K) := by
  intro pins s σ H x vs v us Q I rx rv h
  obtain ⟨l, b, xs, zs, rfl, rfl, hH, hB, hz, q⟩ := h
  cases rx
  obtain ⟨u, rfl, ru⟩ := rv.one
  cases ru
  obtain ⟨z, its, n, r, hl, e⟩ := I.lstM hH
  have hlong : ∀ its2 : List Value, zs.length = its2.length → its.toArray.size + its2.toArray.size ≤ sizeLine ∧ ¬ (!its.toArray.isEmpty && Builtin.List.listTooLong (its.toArray.size + its2.toArray.size)) = true := by
    intro its2 h2
    have hsz : its.toArray.size + its2.toArray.size ≤ sizeLine := by rw [List.size_toArray, List.size_toArray]; omega
    refine ⟨hsz, ?_⟩
    rw [notLongL hsz, Bool.and_false]
    exact Bool.false_ne_true
  have fin : ∀ its2 : List Value, Vals zs its2 → EP X pins σ Q Value.none { s with heap := s.heap.update l (Obj.mapSeq fun x => x ++ its2.toArray), toks := s.toks } := by
    intro its2 r2
    refine ⟨.non, _, I.lset (its' := its ++ its2) (f := fun x => x ++ its2.toArray) hH e (by simp) (r.append r2) ?_, rfl, q⟩
    rw [List.length_append]
    exact hz
  rcases hB with hB | hB
  · obtain ⟨its2, r2, ⟨⟨c, dd, da, sl⟩, n2, ho, hc, hd, hdt⟩, hz2⟩ := I.list hB
    cases hc; cases hd; cases hdt
    obtain ⟨h1, h2⟩ := hlong its2 r2.length
    exact call_meets F.slot_list_extend ⟨_, e, rfl⟩ F.entry_list_extend (F.args_list_extend_2 _ _) (extL l its.toArray n b its2.toArray n2 none sl h2 (by rw [List.size_toArray]; omega) (by omega)) ⟨e, ho, fin its2 r2⟩
  · obtain ⟨its2, r2, ⟨⟨c, dd, da, sl⟩, ho, hc, n2, hdt⟩, hz2⟩ := I.tuple hB
    cases hc; cases hdt
    obtain ⟨h1, h2⟩ := hlong its2 r2.length
    exact call_meets F.slot_list_extend ⟨_, e, rfl⟩ F.entry_list_extend (F.args_list_extend_2 _ _) (extT l its.toArray n b its2.toArray n2 dd sl h2 (by rw [List.size_toArray]; omega) (by omega)) ⟨e, ho, fin its2 r2⟩
end PD

set_option maxHeartbeats 2000000
/-! dicts of a slot's own, written -/
namespace PD
open PySem PySem.Spec PyProof.Rows L2
section
variable {K : Kx} {F0 H0 F H F' H' : Hp} {ρ : Env} {σ : Sg} {O : Nat → List Addr}
theorem Owns.go (o : Owns K H0 F ρ σ H O) (e : Ext F H F' H') : Owns K H0 F' ρ σ H' O := ⟨o.nd, o.dj, fun i a ha => ⟨(e.new a ((o.rep i).there a ha)).trans (o.no i a ha).1, (o.no i a ha).2⟩, fun i => (o.rep i).mono e.f fun b _ x q => e.h b x q⟩
theorem Owns.fresh {b : Addr} (o : Owns K H0 F ρ σ H O) (h : H b = none) (j : Nat) : b ∉ O j := fun hb => (o.rep j).there b hb h
theorem od_at {i : Nat} {kvs : List (D × D)} (r : R K F0 H0 F ρ σ H) (h : gt ρ i = some (.od kvs)) : ∃ a es, σ[i]? = some (some (.ref a)) ∧ H a = some (DO K.P K.w a es) ∧ RpD K F es kvs ∧
    ∀ (es' : List Ent) (kvs' : List (D × D)), RpD K F es' kvs' → R K F0 H0 F (ρ.set i (some (.od kvs'))) σ (upd H a (DO K.P K.w a es')) := by
  obtain ⟨O, o⟩ := r.own
  have q := o.rep i
  rw [h] at q
  obtain ⟨a, es, e1, e2, e3, q⟩ := q
  refine ⟨a, es, gt_some e1, e3, q, fun es' kvs' q' => r.write o (gt_lt h) (os := [a]) (by simp) (fun b hb => ?_) (fun j hj b hb hb' => ?_) (fun b hb => upd_ne (by simpa using hb)) ⟨a, es', e1, rfl, upd_same, q'⟩⟩
  · exact o.no i b (by rw [e2]; exact hb)
  · exact hj (o.dj j i b hb' (by rw [e2]; exact hb))
theorem ownd_get {k : D} {n : NestedKey} (hn : nkD k = some n) : ∀ {es : List Ent} {bs : List Addr} {kvs : List (D × List D)} {ds : List D}, OwnD K F H es bs kvs → lget kvs k = some ds → ∃ b xs, b ∈ bs ∧ dAt es n = some (.ref b) ∧ H b = some (.lst xs) ∧ RpAll K F xs ds
  | [], [], [], _, _, e => by cases e
  | (m, y, v) :: es, b :: bs, (c, ws) :: kvs, ds, ⟨⟨_, h2, h3, xs, e1, r⟩, t⟩, e => by
    have h3 : v = .ref b := h3
    have he := nk_eq h2.1 hn
    unfold lget at e
    unfold dAt
    by_cases q : c = k
    · rw [List.find?_cons_of_pos (by simpa using q)] at e
      rw [List.find?_cons_of_pos (by simpa using (he ▸ q : m = n))]
      cases e
      exact ⟨b, xs, List.mem_cons_self, by rw [h3]; rfl, e1, r⟩
    · rw [List.find?_cons_of_neg (by simpa using q)] at e
      rw [List.find?_cons_of_neg (by simpa using (fun z : m = n => q (he ▸ z)))]
      obtain ⟨b', xs', g1, g2, g3, g4⟩ := ownd_get hn t e
      exact ⟨b', xs', List.mem_cons_of_mem _ g1, g2, g3, g4⟩
  | [], [], _ :: _, _, h, _ => h.elim
  | [], _ :: _, _, _, h, _ => by cases ‹List (D × List D)› <;> exact h.elim
  | _ :: _, [], _, _, h, _ => h.elim
  | _ :: _, _ :: _, [], _, h, _ => h.elim
theorem ownd_set {k : D} {n : NestedKey} {xs' : List V} {ds' : List D} (hn : nkD k = some n) (q : RpAll K F xs' ds') : ∀ {es : List Ent} {bs : List Addr} {kvs : List (D × List D)} {b : Addr}, bs.Nodup → OwnD K F H es bs kvs → dAt es n = some (.ref b) → OwnD K F (upd H b (.lst xs')) es bs (lput kvs k ds') ∧ b ∈ bs
  | [], [], [], _, _, _, e => by cases e
  | (m, y, v) :: es, c :: bs, (d, ws) :: kvs, b, nd, ⟨⟨h1, h2, h3, xs, e1, r⟩, t⟩, e => by
    have h3 : v = .ref c := h3
    have he := nk_eq h2.1 hn
    unfold dAt at e
    unfold lput
    by_cases z : d = k
    · rw [List.find?_cons_of_pos (by simpa using (he ▸ z : m = n)), h3] at e
      cases e
      rw [if_pos z]
      refine ⟨⟨⟨h1, h2, h3, xs', upd_same, q⟩, OwnD.mono (Same.refl F) (fun b' hb o h => ?_) t⟩, List.mem_cons_self⟩
      have : b' ≠ c := fun z => (List.nodup_cons.mp nd).1 (z ▸ hb)
      rw [upd_ne this]; exact h
    · rw [List.find?_cons_of_neg (by simpa using (fun w : m = n => z (he ▸ w)))] at e
      rw [if_neg z]
      obtain ⟨g1, g2⟩ := ownd_set hn q (List.nodup_cons.mp nd).2 t e
      have : c ≠ b := fun z => (List.nodup_cons.mp nd).1 (z ▸ g2)
      exact ⟨⟨⟨h1, h2, h3, xs, by rw [upd_ne this]; exact e1, r⟩, g1⟩, List.mem_cons_of_mem _ g2⟩
  | [], [], _ :: _, _, _, h, _ => h.elim
  | [], _ :: _, _, _, _, h, _ => by cases ‹List (D × List D)› <;> exact h.elim
  | _ :: _, [], _, _, _, h, _ => h.elim
  | _ :: _, _ :: _, [], _, _, h, _ => h.elim
theorem ownd_same {k : D} {n : NestedKey} {v : V} (hn : nkD k = some n) : ∀ {es : List Ent} {bs : List Addr} {kvs : List (D × List D)}, OwnD K F H es bs kvs → k ∉ kvs.map (·.1) → es.map (fun e => if e.1 = n then (e.1, e.2.1, v) else e) = es
  | [], [], [], _, _ => rfl
  | (m, y, u) :: es, c :: bs, (d, ws) :: kvs, ⟨⟨_, h2, _⟩, t⟩, e => by
    have he := nk_eq h2.1 hn
    rw [List.map_cons, List.mem_cons, not_or] at e
    rw [List.map_cons, if_neg (fun w : m = n => e.1 (he ▸ w : d = k).symm), ownd_same hn t e.2]
  | [], [], _ :: _, h, _ => h.elim
  | [], _ :: _, _, h, _ => by cases ‹List (D × List D)› <;> exact h.elim
  | _ :: _, [], _, h, _ => h.elim
  | _ :: _, _ :: _, [], h, _ => h.elim
theorem lput_new {k : D} {ds : List D} : ∀ {kvs : List (D × List D)}, k ∉ kvs.map (·.1) → lput kvs k ds = kvs ++ [(k, ds)]
  | [], _ => rfl
  | p :: r, h => by
    rw [List.map_cons, List.mem_cons, not_or] at h
    unfold lput
    rw [if_neg (fun z => h.1 z.symm), lput_new h.2]; rfl
theorem ownd_app {k : D} {n : NestedKey} {y : V} {b : Addr} {xs : List V} {ds : List D} (hn : nkD k = some n ∧ keyD k = true) (hy : Rp K F y k) (hb : H b = some (.lst xs)) (hr : RpAll K F xs ds) :
    ∀ {es : List Ent} {bs : List Addr} {kvs : List (D × List D)}, OwnD K F H es bs kvs → OwnD K F H (es ++ [(n, y, .ref b)]) (bs ++ [b]) (kvs ++ [(k, ds)])
  | [], [], [], _ => ⟨⟨hy, hn, rfl, xs, hb, hr⟩, True.intro⟩
  | e :: es, c :: bs, (d, ws) :: kvs, ⟨h, t⟩ => ⟨h, ownd_app hn hy hb hr t⟩
  | [], [], _ :: _, h => h.elim
  | [], _ :: _, _, h => by cases ‹List (D × List D)› <;> exact h.elim
  | _ :: _, [], _, h => h.elim
  | _ :: _, _ :: _, [], h => h.elim
theorem ownd_rep {k : D} {n : NestedKey} {b : Addr} {xs : List V} {ds : List D} (hn : nkD k = some n) (hb : H b = some (.lst xs)) (hr : RpAll K F xs ds) :
    ∀ {es : List Ent} {bs : List Addr} {kvs : List (D × List D)}, (kvs.map (·.1)).Nodup → bs.Nodup → b ∉ bs → OwnD K F H es bs kvs → k ∈ kvs.map (·.1) →
      ∃ bs', OwnD K F H (es.map (fun e => if e.1 = n then (e.1, e.2.1, V.ref b) else e)) bs' (lput kvs k ds) ∧ (∀ c ∈ bs', c = b ∨ c ∈ bs) ∧ bs'.Nodup
  | [], [], [], _, _, _, _, e => by cases e
  | (m, y, u) :: es, c :: bs, (d, ws) :: kvs, kd, nd, hnb, ⟨⟨h1, h2, h3, ys, e1, r⟩, t⟩, e => by
    have he := nk_eq h2.1 hn
    rw [List.map_cons, List.nodup_cons] at kd
    rw [List.nodup_cons] at nd
    rw [List.mem_cons, not_or] at hnb
    unfold lput
    by_cases z : d = k
    · rw [List.map_cons, if_pos (he ▸ z : m = n), if_pos z, ownd_same hn t (by rw [← z]; exact kd.1)]
      refine ⟨b :: bs, ⟨⟨h1, h2, rfl, xs, hb, hr⟩, t⟩, fun c' hc => ?_, List.nodup_cons.mpr ⟨hnb.2, nd.2⟩⟩
      rcases List.mem_cons.mp hc with hc | hc
      · exact .inl hc
      · exact .inr (List.mem_cons_of_mem _ hc)
    · rw [List.map_cons, List.mem_cons] at e
      rw [List.map_cons, if_neg (fun w : m = n => z (he ▸ w)), if_neg z]
      obtain ⟨bs', g1, g2, g3⟩ := ownd_rep hn hb hr kd.2 nd.2 hnb.2 t (e.resolve_left fun w => z w.symm)
      refine ⟨c :: bs', ⟨⟨h1, h2, h3, ys, e1, r⟩, g1⟩, fun c' hc => ?_, List.nodup_cons.mpr ⟨fun hc => ?_, g3⟩⟩
      · rcases List.mem_cons.mp hc with hc | hc
        · exact .inr (hc ▸ List.mem_cons_self)
        · exact (g2 c' hc).imp_right (List.mem_cons_of_mem _)
      · rcases g2 c hc with w | w
        · exact hnb.1 w.symm
        · exact nd.1 w
  | [], [], _ :: _, _, _, _, h, _ => h.elim
  | [], _ :: _, _, _, _, _, h, _ => by cases ‹List (D × List D)› <;> exact h.elim
  | _ :: _, [], _, _, _, _, h, _ => h.elim
  | _ :: _, _ :: _, [], _, _, _, h, _ => h.elim
theorem ownd_put {k : D} {n : NestedKey} {y : V} {b : Addr} {xs : List V} {ds : List D} (hn : nkD k = some n ∧ keyD k = true) (hy : Rp K F y k) (hb : H b = some (.lst xs)) (hr : RpAll K F xs ds)
    {es : List Ent} {bs : List Addr} {kvs : List (D × List D)} (kd : (kvs.map (·.1)).Nodup) (nd : bs.Nodup) (hnb : b ∉ bs) (h : OwnD K F H es bs kvs) :
      ∃ bs', OwnD K F H (dPut es n y (.ref b)) bs' (lput kvs k ds) ∧ (∀ c ∈ bs', c = b ∨ c ∈ bs) ∧ bs'.Nodup := by
  have e := rpk_get hn.1 h.keys
  unfold dPut
  by_cases z : k ∈ kvs.map (·.1)
  · rw [if_pos (by rw [e]; simpa using z)]
    exact ownd_rep hn.1 hb hr kd nd hnb h z
  · rw [if_neg (by rw [e]; simpa using z), lput_new z]
    refine ⟨_, ownd_app hn hy hb hr h, fun c hc => ?_, ?_⟩
    · rcases List.mem_append.mp hc with hc | hc
      · exact .inr hc
      · exact .inl (by simpa using hc)
    · rw [List.nodup_append]
      refine ⟨nd, by simp, fun c hc d hd w => ?_⟩
      have : d = b := by simpa using hd
      subst this
      subst w
      exact hnb hc
/-- what slot i's dict of lists is -/
structure OdlAt (K : Kx) (F H : Hp) (σ : Sg) (O : Nat → List Addr) (i : Nat) (kvs : List (D × List D)) (a : Addr) (bs : List Addr) (es : List Ent) : Prop where
  v : gt σ i = some (.ref a)
  o : O i = a :: bs
  h : H a = some (DO K.P K.w a es)
  q : OwnD K F H es bs kvs
theorem odl_at {i : Nat} {kvs : List (D × List D)} (o : Owns K H0 F ρ σ H O) (h : gt ρ i = some (.odl kvs)) : ∃ a bs es, OdlAt K F H σ O i kvs a bs es := by
  have q := o.rep i
  rw [h] at q
  obtain ⟨a, bs, es, e1, e2, e3, q⟩ := q
  exact ⟨a, bs, es, e1, e2, e3, q⟩
theorem OdlAt.go {i : Nat} {kvs : List (D × List D)} {a : Addr} {bs : List Addr} {es : List Ent} (t : OdlAt K F H σ O i kvs a bs es) (e : Ext F H F' H') : OdlAt K F' H' σ O i kvs a bs es :=
  ⟨t.v, t.o, e.h _ _ t.h, t.q.mono e.f fun b _ o h => e.h b o h⟩
theorem OdlAt.put {i : Nat} {kvs : List (D × List D)} {a : Addr} {bs : List Addr} {es : List Ent} (t : OdlAt K F H σ O i kvs a bs es) (r : R K F0 H0 F ρ σ H) (o : Owns K H0 F ρ σ H O) (g : gt ρ i = some (.odl kvs))
    {k : D} {n : NestedKey} {y : V} {b : Addr} {xs : List V} {ds : List D} (hn : nkD k = some n ∧ keyD k = true) (hy : Rp K F y k) (hb : H b = some (.lst xs)) (hr : RpAll K F xs ds) (kd : (kvs.map (·.1)).Nodup) (fb : ∀ j, b ∉ O j) (fF : F b = none) (fH : H0 b = none) :
    R K F0 H0 F (ρ.set i (some (.odl (lput kvs k ds)))) σ (upd H a (DO K.P K.w a (dPut es n y (.ref b)))) := by
  have nd := o.nd i
  rw [t.o, List.nodup_cons] at nd
  have nb : b ≠ a := fun z => fb i (by rw [t.o, z]; simp)
  obtain ⟨bs', g1, g2, g3⟩ := ownd_put (b := b) hn hy hb hr kd nd.2 (fun z => fb i (by rw [t.o]; exact List.mem_cons_of_mem _ z)) t.q
  have inO : ∀ c, c ∈ a :: bs' → c = b ∨ c ∈ O i := fun c hc => by
    rw [t.o]
    rcases List.mem_cons.mp hc with hc | hc
    · exact .inr (hc ▸ List.mem_cons_self)
    · exact (g2 c hc).imp_right (List.mem_cons_of_mem _)
  have na : a ∉ bs' := fun hc => by
    rcases g2 a hc with z | z
    · exact nb z.symm
    · exact nd.1 z
  refine r.write o (gt_lt g) (os := a :: bs') (List.nodup_cons.mpr ⟨na, g3⟩) (fun c hc => ?_) (fun j hj c hc hc' => ?_) (fun c hc => upd_ne (fun z => hc (by rw [z]; simp))) ⟨a, bs', _, t.v, rfl, upd_same, ?_⟩
  · rcases inO c hc with rfl | hc
    · exact ⟨fF, fH⟩
    · exact o.no i c hc
  · rcases inO c hc with rfl | hc
    · exact fb j hc'
    · exact hj (o.dj j i c hc' hc)
  · refine g1.mono (Same.refl F) fun c hc x hx => ?_
    have : c ≠ a := fun z => na (z ▸ hc)
    rw [upd_ne this]; exact hx
theorem OdlAt.set {i : Nat} {kvs : List (D × List D)} {a : Addr} {bs : List Addr} {es : List Ent} (t : OdlAt K F H σ O i kvs a bs es) (r : R K F0 H0 F ρ σ H) (o : Owns K H0 F ρ σ H O) (g : gt ρ i = some (.odl kvs))
    {k : D} {n : NestedKey} {b : Addr} {xs' : List V} {ds' : List D} (hn : nkD k = some n) (hb : dAt es n = some (.ref b)) (hr : RpAll K F xs' ds') :
    R K F0 H0 F (ρ.set i (some (.odl (lput kvs k ds')))) σ (upd H b (.lst xs')) := by
  have nd := o.nd i
  rw [t.o, List.nodup_cons] at nd
  obtain ⟨g1, hb'⟩ := ownd_set hn hr nd.2 t.q hb
  have nb : a ≠ b := fun z => nd.1 (z ▸ hb')
  exact r.write o (gt_lt g) (os := a :: bs) (by rw [List.nodup_cons]; exact nd) (fun c hc => o.no i c (by rw [t.o]; exact hc)) (fun j hj c hc hc' => hj (o.dj j i c hc' (by rw [t.o]; exact hc))) (fun c hc => upd_ne (fun z => hc (by rw [z]; exact List.mem_cons_of_mem _ hb')))
    ⟨a, bs, es, t.v, rfl, by rw [upd_ne nb]; exact t.h, g1⟩
end
end PD

set_option maxHeartbeats 2000000
namespace PD
open PySem PySem.Spec PyProof.Rows L2

/-! ### looking at statements -/
def notTup : Expr → Bool
  | .Tuple .. => false
  | _ => true
def asAsg : Stmt → Option (Expr × Expr)
  | .Assign [t] e _ => some (t, e)
  | _ => none
def asExpr : Stmt → Option Expr
  | .Expr e _ => some e
  | _ => none
def asIfS : Stmt → Option (Expr × List Stmt × List Stmt)
  | .If c a b _ => some (c, a, b)
  | _ => none
def asWhl : Stmt → Option (Expr × List Stmt)
  | .While c b [] _ => some (c, b)
  | _ => none
def asFor : Stmt → Option (Expr × Expr × List Stmt)
  | .For t i b [] _ => some (t, i, b)
  | _ => none
def asRet : Stmt → Option (Option Expr)
  | .Return e _ => some e
  | _ => none
theorem asAsg_s {st : Stmt} {t e} (h : asAsg st = some (t, e)) : ∃ p, st = .Assign [t] e p := by
  unfold asAsg at h; split at h <;> cases h; exact ⟨_, rfl⟩
theorem asExpr_s {st : Stmt} {e} (h : asExpr st = some e) : ∃ p, st = .Expr e p := by
  unfold asExpr at h; split at h <;> cases h; exact ⟨_, rfl⟩
theorem asIfS_s {st : Stmt} {c a b} (h : asIfS st = some (c, a, b)) : ∃ p, st = .If c a b p := by
  unfold asIfS at h; split at h <;> cases h; exact ⟨_, rfl⟩
theorem asWhl_s {st : Stmt} {c b} (h : asWhl st = some (c, b)) : ∃ p, st = .While c b [] p := by
  unfold asWhl at h; split at h <;> cases h; exact ⟨_, rfl⟩
theorem asFor_s {st : Stmt} {t i b} (h : asFor st = some (t, i, b)) : ∃ p, st = .For t i b [] p := by
  unfold asFor at h; split at h <;> cases h; exact ⟨_, rfl⟩
theorem asRet_s {st : Stmt} {e} (h : asRet st = some e) : ∃ p, st = .Return e p := by
  unfold asRet at h; split at h <;> cases h; exact ⟨_, rfl⟩
def asAug : Stmt → Option (Expr × Operator × Expr)
  | .AugAssign t op e _ => some (t, op, e)
  | _ => none
theorem asAug_s {st : Stmt} {t op e} (h : asAug st = some (t, op, e)) : ∃ p, st = .AugAssign t op e p := by
  unfold asAug at h; split at h <;> cases h; exact ⟨_, rfl⟩
def isLC : E → Bool
  | .lc .. => true
  | .dcm .. => true
  | .lc2 .. => true
  | _ => false
def nmB (C : Ck) (sc : Scope) (i : Nat) (pe : Expr) : Bool := match asName pe with | some x => decide (C.N[i]? = some x) && visB sc x | none => false
/-- not a comprehension, or one whose value goes to no name -/
def notCompD : Expr → Bool := notComp
def isFrz : S → Option Nat
  | .frz i => some i
  | _ => none
mutual
def okS (C : Ck) (sc : Scope) : S → Stmt → Bool
  | .asg tg e, st => match asAsg st with
    | some (pt, pe) => okTg C sc tg pt && okE C sc e pe && (match tg with | .nm _ => isLC e || notComp pe | .tp _ => notTup pe && notComp pe)
    | none => false
  | .own i e, st => match asAsg st with | some (pt, pe) => okTg C sc (.nm i) pt && okE C sc e pe && (isLC e || notComp pe) | none => false
  | .own2 i, st => match asAsg st with | some (pt, pe) => okTg C sc (.nm i) pt && (match asLst pe with | some [] => true | _ => false) | none => false
  | .frz _, _ => false
  | .app i e, st => match asExpr st with
    | some pe => (match asMeth pe with | some (po, m, [pa], b) => nmB C sc i po && decide (m = "append") && b && plainE pa && okE C sc e pa | _ => false)
    | none => false
  | .app2 i e, st => match asExpr st with
    | some pe => (match asMeth pe with | some (po, m, [pa], b) => nmB C sc i po && decide (m = "append") && b && plainE pa && okE C sc e pa | _ => false)
    | none => false
  | .appI i j e, st => match asExpr st with
    | some pe => (match asMeth pe with
      | some (po, m, [pa], b) => (match asSub po with | some (px, pj) => nmB C sc i px && plainE pj && okE C sc j pj && decide (m = "append") && b && plainE pa && okE C sc e pa | none => false)
      | _ => false)
    | none => false
  | .seti i j e, st => match asAsg st with
    | some (pt, pe) => (match asSub pt with | some (px, pj) => nmB C sc i px && plainE pj && okE C sc j pj && okE C sc e pe | none => false)
    | none => false
  | .set2 i j k e, st => match asAsg st with
    | some (pt, pe) => (match asSub pt with
      | some (px, pk) => (match asSub px with | some (py, pj) => nmB C sc i py && plainE pj && okE C sc j pj && plainE pk && okE C sc k pk && okE C sc e pe | none => false)
      | none => false)
    | none => false
  | .aug i op e, st => match asAug st with | some (pt, o, pe) => okTg C sc (.nm i) pt && decide (o = op) && decide (op = .Add) && okE C sc e pe | none => false
  | .ownd2 i, st => match asAsg st with | some (pt, pe) => okTg C sc (.nm i) pt && (match asDict pe with | some ([], []) => true | _ => false) | none => false
  | .dput i j e, st => match asAsg st with
    | some (pt, pe) => (match asSub pt with | some (px, pj) => nmB C sc i px && plainE pj && okE C sc j pj && okE C sc e pe | none => false)
    | none => false
  | .dputl i j e, st => match asAsg st with
    | some (pt, pe) => (match asSub pt with | some (px, pj) => nmB C sc i px && plainE pj && okE C sc j pj && okE C sc e pe | none => false)
    | none => false
  | .dappl i j e, st => match asExpr st with
    | some pe => (match asMeth pe with
      | some (po, m, [pa], b) => (match asSub po with | some (px, pj) => nmB C sc i px && plainE pj && okE C sc j pj && decide (m = "append") && b && plainE pa && okE C sc e pa | none => false)
      | _ => false)
    | none => false
  | .dsetap _ _ _, _ => false
  | .popA tg i .no, st => match asAsg st with
    | some (pt, pe) => (match asMeth pe with | some (po, m, [], b) => okTg C sc tg pt && nmB C sc i po && decide (m = "pop") && b | _ => false)
    | none => false
  | .popA _ _ (.yes _), _ => false
  | .ins i j e, st => match asExpr st with
    | some pe => (match asMeth pe with | some (po, m, [pj, pa], b) => nmB C sc i po && decide (m = "insert") && b && plainE pj && plainE pa && okE C sc j pj && okE C sc e pa | _ => false)
    | none => false
  | .ext i e, st => match asExpr st with
    | some pe => (match asMeth pe with | some (po, m, [pa], b) => nmB C sc i po && decide (m = "extend") && b && plainE pa && okE C sc e pa | _ => false)
    | none => false
  | .drop e, st => match asExpr st with | some pe => notComp pe && okE C sc e pe | none => false
  | .ifs c a b, st => match asIfS st with | some (pc, pa, pb) => okE C sc c pc && okSs C sc a pa && okSs C sc b pb | none => false
  | .whl c b, st => match asWhl st with | some (pc, pb) => okE C sc c pc && okSs C sc b pb | none => false
  | .fr tg it b, st => match asFor st with | some (pt, pi, pb) => okTg C sc tg pt && plainE pi && (okI C sc it pi && itOk it pt) && okSs C sc b pb | none => false
  | .ret e, st => match asRet st with | some (some pe) => okE C sc e pe | _ => false
  | .retN, st => match asRet st with | some none => true | _ => false
  | .pass, st => match st with | .Pass _ => true | _ => false
  | .brk, st => match st with | .Break _ => true | _ => false
  | .cont, st => match st with | .Continue _ => true | _ => false
  | .never, _ => true
def okSs (C : Ck) (sc : Scope) : Ss → List Stmt → Bool
  | .nil, sts => match sts with | [] => true | _ => false
  | .cons s ss, sts => match isFrz s with
    | some _ => okSs C sc ss sts
    | none => match sts with | st :: sr => okS C sc s st && okSs C sc ss sr | [] => false
end

/-- a def's body -/
structure DB (X : Cx) (C : Ck) (G : Gb) (sc : Scope) : Prop where
  dx : DX X C G sc
  kd : sc.kind = .function
  hf : ∀ x, X.fn x = true
  own : PassesOwn (model X.prog X.w) X.A X.env X.xe
section
variable {X : Cx} {C : Ck} {G : Gb} {sc : Scope}
theorem nm_s {i : Nat} {pe : Expr} (dx : DX X C G sc) (h : nmB C sc i pe = true) : PE X pe (tVar i) := by
  unfold nmB at h
  cases e : asName pe with
  | none => rw [e] at h; cases h
  | some x =>
    rw [e] at h
    obtain ⟨p, rfl⟩ := asName_s e
    simp only [Bool.and_eq_true, decide_eq_true_eq] at h
    obtain ⟨v1, v2, v3⟩ := dx.vis h.2
    exact pe_var (by rw [dx.N]; exact h.1) v1 v2 v3
theorem tg_s {i : Nat} {pe : Expr} (h : okTg C sc (.nm i) pe = true) : ∃ x p, pe = .Name x p ∧ C.N[i]? = some x ∧ locB sc x = true := by
  replace h : (match asName pe with | some x => decide (C.N[i]? = some x) && locB sc x | none => false) = true := h
  cases e : asName pe with
  | none => rw [e] at h; cases h
  | some x =>
    rw [e] at h
    obtain ⟨p, rfl⟩ := asName_s e
    simp only [Bool.and_eq_true, decide_eq_true_eq] at h
    exact ⟨x, p, rfl, h.1, h.2⟩
/-- a comprehension's parts, from the look -/
theorem lc_in {own : List (Str × Nat)} {elt : E} {tg : Tg} {it : I} {cs : Eo} {pe : Expr} (dx : DX X C G sc) (h : okE C sc (.lc own elt tg it cs) pe = true) :
    ∃ pelt ptg pit pifs scope p, pe = .ListComp pelt [⟨ptg, pit, pifs, 0⟩] scope p ∧ LcIn X C G sc own elt tg it cs pelt ptg pit pifs scope := by
  unfold okE at h
  split at h
  · rename_i pelt ptg pit pifs scope e
    obtain ⟨p, rfl⟩ := asLC_s e
    simp only [Bool.and_eq_true] at h
    obtain ⟨⟨⟨⟨⟨⟨⟨h1, h2⟩, h3⟩, h4⟩, h5⟩, h6⟩, h7⟩, h8⟩ := h
    exact ⟨pelt, ptg, pit, pifs, scope, p, rfl, ⟨by rw [dx.N, dx.sc]; exact blkOk_by h1, fun i hi => by simpa using List.all_eq_true.mp h6 i hi, h5, sI it X sc pit ptg 1 (by decide) dx h2.1 h2.2, tg_in (own := own) dx h3 (by rw [List.all_eq_true]; exact fun x hx => by simpa using List.all_eq_true.mp h4 x hx),
      fun s H Cc cl fp => sC cs (X.blk s H scope (compEnvC scope cl Cc X.env) fp) (relS scope sc) pifs dx.blk h8,
      fun s H Cc cl fp => (sE elt (X.blk s H scope (compEnvC scope cl Cc X.env) fp) (relS scope sc) pelt dx.blk h7).n 0⟩⟩
  · cases h
theorem dc_in {own : List (Str × Nat)} {ke ve : E} {tg : Tg} {it : I} {cs : Eo} {pe : Expr} (dx : DX X C G sc) (h : okE C sc (.dcm own ke ve tg it cs) pe = true) :
    ∃ pk pv ptg pit pifs scope p, pe = .DictComp pk pv [⟨ptg, pit, pifs, 0⟩] scope p ∧ DcIn X C G sc own ke ve tg it cs pk pv ptg pit pifs scope := by
  unfold okE at h
  split at h
  · rename_i pk pv ptg pit pifs scope e
    obtain ⟨p, rfl⟩ := asDC_s e
    simp only [Bool.and_eq_true] at h
    obtain ⟨⟨⟨⟨⟨⟨⟨h1, h2⟩, h3⟩, h4⟩, h5⟩, h6⟩, h7⟩, h8⟩ := h
    exact ⟨pk, pv, ptg, pit, pifs, scope, p, rfl, ⟨by rw [dx.N, dx.sc]; exact blkOk_by h1, fun i hi => by simpa using List.all_eq_true.mp h6 i hi, h5, sI it X sc pit ptg 1 (by decide) dx h2.1 h2.2, tg_in (own := own) dx h3 (by rw [List.all_eq_true]; exact fun x hx => by simpa using List.all_eq_true.mp h4 x hx),
      fun s H Cc cl fp => sC cs (X.blk s H scope (compEnvC scope cl Cc X.env) fp) (relS scope sc) pifs dx.blk h8,
      fun s H Cc cl fp => (sE ke (X.blk s H scope (compEnvC scope cl Cc X.env) fp) (relS scope sc) pk dx.blk h7.1).n 0,
      fun s H Cc cl fp => (sE ve (X.blk s H scope (compEnvC scope cl Cc X.env) fp) (relS scope sc) pv dx.blk h7.2).n 0⟩⟩
  · cases h
theorem lc_in2 {own : List (Str × Nat)} {elt : E} {tg : Tg} {it : I} {cs : Eo} {vs1 : List Nat} {tg1 : Tg} {it1 : I} {cs1 : Eo} {pe : Expr} (dx : DX X C G sc) (h : okE C sc (.lc2 own elt tg it cs vs1 tg1 it1 cs1) pe = true) :
    ∃ pelt ptg pit pifs ptg1 pit1 pifs1 scope p, pe = .ListComp pelt [⟨ptg, pit, pifs, 0⟩, ⟨ptg1, pit1, pifs1, 0⟩] scope p ∧ LcIn2 X C G sc own elt tg it cs vs1 tg1 it1 cs1 pelt ptg pit pifs ptg1 pit1 pifs1 scope := by
  unfold okE at h
  split at h
  · rename_i pelt ptg pit pifs ptg1 pit1 pifs1 scope e
    obtain ⟨p, rfl⟩ := asLC2_s e
    simp only [Bool.and_eq_true] at h
    obtain ⟨⟨⟨⟨⟨⟨⟨⟨h1, h2⟩, h3⟩, h4⟩, h5⟩, h6⟩, h7⟩, h8⟩, ⟨⟨⟨⟨⟨⟨k1, k2⟩, k3⟩, k4⟩, k5⟩, k6⟩, k7⟩⟩ := h
    exact ⟨pelt, ptg, pit, pifs, ptg1, pit1, pifs1, scope, p, rfl, ⟨⟨by rw [dx.N, dx.sc]; exact blkOk_by h1, fun i hi => by simpa using List.all_eq_true.mp h6 i hi, h5, sI it X sc pit ptg 1 (by decide) dx h2.1 h2.2, tg_in (own := own) dx h3 (by rw [List.all_eq_true]; exact fun x hx => by simpa using List.all_eq_true.mp h4 x hx),
        fun s H Cc cl fp => sC cs (X.blk s H scope (compEnvC scope cl Cc X.env) fp) (relS scope sc) pifs dx.blk h8,
        fun s H Cc cl fp => (sE elt (X.blk s H scope (compEnvC scope cl Cc X.env) fp) (relS scope sc) pelt dx.blk h7).n 0⟩,
        fun i hi => by simpa using List.all_eq_true.mp k4 i hi, fun i hi => by simpa using List.all_eq_true.mp k5 i hi, k3, fun s H Cc cl fp => sI it1 (X.blk s H scope (compEnvC scope cl Cc X.env) fp) (relS scope sc) pit1 ptg1 0 (by decide) dx.blk k6.1 k6.2,
        tg_in (own := own) dx k1 (by rw [List.all_eq_true]; exact fun x hx => by simpa using List.all_eq_true.mp k2 x hx),
        fun s H Cc cl fp => sC cs1 (X.blk s H scope (compEnvC scope cl Cc X.env) fp) (relS scope sc) pifs1 dx.blk k7⟩⟩
  · cases h
/-- name = e -/
theorem st_nm {i : Nat} {e : E} {pt pe : Expr} {p : Pos} (ds : DB X C G sc) (ht : okTg C sc (.nm i) pt = true) (he : okE C sc e pe = true) (hc : (isLC e || notComp pe) = true) : PS X (.Assign [pt] pe p) (tSs (kxOf X) (wS G (.asg (.nm i) e))) := by
  have dx := ds.dx
  obtain ⟨x, py, rfl, h1, h2⟩ := tg_s ht
  by_cases hn : notComp pe = true
  · refine ps_w (asg_pe dx h1 h2 ds.hf hn ((sE e X sc pe dx he).n 0)) fun D σ H ⟨F0, H0, Fm, F, ρ, P, rr, sm, hw, L⟩ => ?_
    have hw : wE G (.t 0) e ρ fun d => i < ρ.length ∧ P.nx (ρ.set i (some (.fz d))) := hw
    exact ⟨F0, H0, F, ρ, _, rr, hw, fun v F' H' d e s q ⟨hi, hq⟩ => L.nx F' _ _ H' ((rr.go e s).setF hi q) (sm.trans e.f) hq⟩
  · have hl : isLC e = true := by
      cases h3 : isLC e with
      | true => rfl
      | false => rw [h3] at hc; exact absurd hc hn
    have fin : ∀ {F0 H0 Fm F : Hp} {ρ : Env} {P : DP} {σ : Sg} {H : Hp} {Dn : Ends}, R (kxOf X) F0 H0 F ρ σ H → Same Fm F → Lift (kxOf X) F0 H0 Fm P Dn → ∀ v F' H' d, Ext F H F' H' → Same F' H' → FreC (kxOf X) H F' H' v d → i < ρ.length ∧ P.nx (ρ.set i (some (.fz d))) → Dn.nx (σ.set i (some v)) H' := by
      intro F0 H0 Fm F ρ P σ H Dn rr sm L v F' H' d e s f hq
      obtain ⟨F'', e2, s2, q2⟩ := f.freeze s e
      exact L.nx F'' _ _ H' ((rr.go e2 s2).setF hq.1 q2) (sm.trans e2.f) hq.2
    cases e with
    | lc own elt tg it cs =>
      obtain ⟨pelt, ptg, pit, pifs, scope, q, rfl, l⟩ := lc_in dx he
      refine ps_w (asg_lc (py := py) (pos := p) (p := q) dx ds.kd h1 h2 ds.hf l) fun D σ H ⟨F0, H0, Fm, F, ρ, P, rr, sm, hw, L⟩ => ?_
      exact ⟨F0, H0, F, ρ, fun d => i < ρ.length ∧ P.nx (ρ.set i (some (.fz d))), rr, hw, fun v F' H' d e s f hq => fin rr sm L v F' H' d e s f hq⟩
    | lc2 own elt tg it cs vs1 tg1 it1 cs1 =>
      obtain ⟨pelt, ptg, pit, pifs, ptg1, pit1, pifs1, scope, q, rfl, l⟩ := lc_in2 dx he
      refine ps_w (asg_lc2 (py := py) (pos := p) (p := q) dx ds.kd h1 h2 ds.hf l) fun D σ H ⟨F0, H0, Fm, F, ρ, P, rr, sm, hw, L⟩ => ?_
      exact ⟨F0, H0, F, ρ, fun d => i < ρ.length ∧ P.nx (ρ.set i (some (.fz d))), rr, hw, fun v F' H' d e s f hq => fin rr sm L v F' H' d e s f hq⟩
    | dcm own ke ve tg it cs =>
      obtain ⟨pk, pv, ptg, pit, pifs, scope, q, rfl, l⟩ := dc_in dx he
      refine ps_w (asg_dc (py := py) (pos := p) (p := q) dx ds.kd h1 h2 ds.hf l) fun D σ H ⟨F0, H0, Fm, F, ρ, P, rr, sm, hw, L⟩ => ?_
      exact ⟨F0, H0, F, ρ, fun d => i < ρ.length ∧ P.nx (ρ.set i (some (.fz d))), rr, hw, fun v F' H' d e s f hq => fin rr sm L v F' H' d e s f hq⟩
    | _ => cases hl
/-- what a new list's or dict's name wants -/
abbrev WQ (i : Nat) (ρ : Env) (P : Env → Prop) : D → Prop := fun d => i < ρ.length ∧ (match d with
    | .list ds => P (ρ.set i (some (.ow ds)))
    | .dict kvs => P (ρ.set i (some (.od kvs)))
    | _ => False)
/-- name = e, a new list or dict of its own -/
theorem st_own {i : Nat} {e : E} {pt pe : Expr} {p : Pos} (ds : DB X C G sc) (ht : okTg C sc (.nm i) pt = true) (he : okE C sc e pe = true) (hc : (isLC e || notComp pe) = true) : PS X (.Assign [pt] pe p) (tSs (kxOf X) (wS G (.own i e))) := by
  have dx := ds.dx
  obtain ⟨x, py, rfl, h1, h2⟩ := tg_s ht
  have fin : ∀ {F0 H0 Fm F : Hp} {ρ : Env} {P : DP} {σ : Sg} {H : Hp} {Dn : Ends}, R (kxOf X) F0 H0 F ρ σ H → Same Fm F → Lift (kxOf X) F0 H0 Fm P Dn → ∀ v F' H' d, Ext F H F' H' → Same F' H' → FreC (kxOf X) H F' H' v d → (i < ρ.length ∧ (match d with
    | .list ds => P.nx (ρ.set i (some (.ow ds)))
    | .dict kvs => P.nx (ρ.set i (some (.od kvs)))
    | _ => False)) → Dn.nx (σ.set i (some v)) H' := by
    intro F0 H0 Fm F ρ P σ H Dn rr sm L v F' H' d e s f hq
    rcases f with ⟨ds, rfl, f⟩ | ⟨kvs, rfl, f⟩
    · exact L.nx F' _ _ H' (rr.new hq.1 e s f) (sm.trans e.f) hq.2
    · exact L.nx F' _ _ H' (rr.newD hq.1 e s f) (sm.trans e.f) hq.2
  by_cases hn : notComp pe = true
  · refine ps_w (asg_pe dx h1 h2 ds.hf hn (sE e X sc pe dx he).f) fun D σ H ⟨F0, H0, Fm, F, ρ, P, rr, sm, hw, L⟩ => ?_
    exact ⟨F0, H0, F, ρ, _, rr, hw, fun v F' H' d e s f hq => fin rr sm L v F' H' d e s f hq⟩
  · have hl : isLC e = true := by
      cases h3 : isLC e with
      | true => rfl
      | false => rw [h3] at hc; exact absurd hc hn
    cases e with
    | lc own elt tg it cs =>
      obtain ⟨pelt, ptg, pit, pifs, scope, q, rfl, l⟩ := lc_in dx he
      refine ps_w (asg_lc (py := py) (pos := p) (p := q) dx ds.kd h1 h2 ds.hf l) fun D σ H ⟨F0, H0, Fm, F, ρ, P, rr, sm, hw, L⟩ => ?_
      exact ⟨F0, H0, F, ρ, WQ i ρ P.nx, rr, hw, fun v F' H' d e s f hq => fin rr sm L v F' H' d e s f hq⟩
    | lc2 own elt tg it cs vs1 tg1 it1 cs1 =>
      obtain ⟨pelt, ptg, pit, pifs, ptg1, pit1, pifs1, scope, q, rfl, l⟩ := lc_in2 dx he
      refine ps_w (asg_lc2 (py := py) (pos := p) (p := q) dx ds.kd h1 h2 ds.hf l) fun D σ H ⟨F0, H0, Fm, F, ρ, P, rr, sm, hw, L⟩ => ?_
      exact ⟨F0, H0, F, ρ, WQ i ρ P.nx, rr, hw, fun v F' H' d e s f hq => fin rr sm L v F' H' d e s f hq⟩
    | dcm own ke ve tg it cs =>
      obtain ⟨pk, pv, ptg, pit, pifs, scope, q, rfl, l⟩ := dc_in dx he
      refine ps_w (asg_dc (py := py) (pos := p) (p := q) dx ds.kd h1 h2 ds.hf l) fun D σ H ⟨F0, H0, Fm, F, ρ, P, rr, sm, hw, L⟩ => ?_
      exact ⟨F0, H0, F, ρ, WQ i ρ P.nx, rr, hw, fun v F' H' d e s f hq => fin rr sm L v F' H' d e s f hq⟩
    | _ => cases hl
theorem st_own2 {i : Nat} {pt : Expr} {p q : Pos} (ds : DB X C G sc) (ht : okTg C sc (.nm i) pt = true) : PS X (.Assign [pt] (.List [] q) p) (tSs (kxOf X) (wS G (.own2 i))) := by
  obtain ⟨x, py, rfl, h1, h2⟩ := tg_s ht
  refine ps_w (asg_pe ds.dx h1 h2 ds.hf rfl (pe_lst pa_nil)) fun D σ H ⟨F0, H0, Fm, F, ρ, P, rr, sm, hw, L⟩ => ?_
  obtain ⟨hi, hw⟩ : i < ρ.length ∧ P.nx (ρ.set i (some (.ow2 []))) := hw
  exact ⟨Nat.zero_le _, fun o ho => L.nx F _ _ _ (rr.new2 hi ho) sm hw⟩
theorem st_ownd2 {i : Nat} {pt : Expr} {p q : Pos} (ds : DB X C G sc) (ht : okTg C sc (.nm i) pt = true) : PS X (.Assign [pt] (.Dict [] [] q) p) (tSs (kxOf X) (wS G (.ownd2 i))) := by
  obtain ⟨x, py, rfl, h1, h2⟩ := tg_s ht
  refine ps_w (asg_pe ds.dx h1 h2 ds.hf rfl pe_dnewO) fun D σ H ⟨F0, H0, Fm, F, ρ, P, rr, sm, hw, L⟩ => ?_
  obtain ⟨hi, hw⟩ : i < ρ.length ∧ P.nx (ρ.set i (some (.odl []))) := hw
  exact fun o ho => L.nx F _ _ _ (rr.newDl hi ho) sm hw
theorem st_aug {i : Nat} {e : E} {pt pe : Expr} {p : Pos} (ds : DB X C G sc) (ht : okTg C sc (.nm i) pt = true) (he : okE C sc e pe = true) : PS X (.AugAssign pt .Add pe p) (tSs (kxOf X) (wS G (.aug i .Add e))) := by
  have dx := ds.dx
  obtain ⟨x, py, rfl, h1, h2⟩ := tg_s ht
  refine ps_w (ps_aug (by rw [dx.N]; exact dx.nd) (by rw [dx.N]; exact h1) (dx.loc h2) ((sE e X sc pe dx he).n 0) ip_add (.inl (ds.hf x))) fun D σ H ⟨F0, H0, Fm, F, ρ, P, rr, sm, hw, L⟩ => ?_
  obtain ⟨x, hi, ha, hw⟩ : ∃ x, gt ρ i = some (.fz x) ∧ augOk .Add x = true ∧ wE G (.t 0) e ρ fun y => wBin .Add x y fun z => isCon z = false ∧ P.nx (ρ.set i (some (.fz z))) := hw
  obtain ⟨O, o⟩ := rr.own
  have q := o.rep i
  rw [hi] at q
  obtain ⟨_, v, ev, q⟩ := q
  cases x with
  | int k =>
    cases q
    refine ⟨_, gt_some ev, F0, H0, F, ρ, _, rr, hw, fun v F' H' d e s q2 hq => ?_⟩
    cases d with
    | int k2 =>
      obtain rfl := sc_int q2
      exact ⟨k, k2, rfl, rfl, L.nx F' _ _ H' ((rr.go e s).setF (gt_lt hi) (.int _)) (sm.trans e.f) hq.2⟩
    | _ => exact (show False from hq).elim
  | _ => cases ha
theorem pure_none {t e : Expr} {env : PySem.Env} (h : notTup e = true) : swappedStores [t] e env = pure none := by
  cases t <;> cases e <;> first | rfl | exact absurd (show false = true from h) Bool.false_ne_true
theorem st_tp {is : List Nat} {e : E} {pt pe : Expr} {p : Pos} (ds : DB X C G sc) (ht : okTg C sc (.tp is) pt = true) (he : okE C sc e pe = true) (h1 : notTup pe = true) (h2 : notComp pe = true) : PS X (.Assign [pt] pe p) (tSs (kxOf X) (wS G (.asg (.tp is) e))) := by
  have dx := ds.dx
  have hg := snd_tg X dx.calm dx.N dx.nd dx.sc ht (fun x _ => .inl (ds.hf x))
  have hpt : ∃ es j q, pt = .Tuple es j q := by
    replace ht : (match asTup pt with | some es => okTgs C sc is es | none => false) = true := ht
    cases e : asTup pt with
    | none => rw [e] at ht; cases ht
    | some es => obtain ⟨j, q, rfl⟩ := asTup_s e; exact ⟨es, j, q, rfl⟩
  obtain ⟨es, j, q, rfl⟩ := hpt
  refine ps_w (ps_asg ((sE e X sc pe dx he).n 0) hg (by show swapsWith pe (some (.Tuple es j q)) p.line X.env = _; exact nc_swap h2) (pure_none h1) rfl) fun D σ H ⟨F0, H0, Fm, F, ρ, P, rr, sm, hw, L⟩ => ?_
  have hw : wE G (.t 0) e ρ fun d => wG (.tp is) d ρ P.nx := hw
  exact ⟨F0, H0, F, ρ, _, rr, hw, fun v F' H' d e s q hq => ⟨F0, H0, F', ρ, d, _, rr.go e s, q, hq, fun ρ' σ' r' _ _ hn => L.nx F' ρ' σ' H' r' (sm.trans e.f) hn⟩⟩

/-! ### lists are written -/
theorem own_at {K : Kx} {F0 H0 F H : Hp} {ρ : Env} {σ : Sg} {i : Nat} {ds : List D} (r : R K F0 H0 F ρ σ H) (h : gt ρ i = some (.ow ds)) : ∃ a xs, σ[i]? = some (some (.ref a)) ∧ H a = some (.lst xs) ∧ RpAll K F xs ds ∧
    ∀ (xs' : List V) (ds' : List D), RpAll K F xs' ds' → R K F0 H0 F (ρ.set i (some (.ow ds'))) σ (upd H a (.lst xs')) := by
  obtain ⟨O, o⟩ := r.own
  have q := o.rep i
  rw [h] at q
  obtain ⟨a, xs, e1, e2, e3, q⟩ := q
  refine ⟨a, xs, gt_some e1, e3, q, fun xs' ds' q' => r.write o (gt_lt h) (os := [a]) (by simp) (fun b hb => ?_) (fun j hj b hb hb' => ?_) (fun b hb => upd_ne (by simpa using hb)) ⟨a, xs', e1, rfl, upd_same, q'⟩⟩
  · exact o.no i b (by rw [e2]; exact hb)
  · exact hj (o.dj j i b hb' (by rw [e2]; exact hb))
theorem own2_at {K : Kx} {F0 H0 F H : Hp} {ρ : Env} {σ : Sg} {O : Nat → List Addr} {i : Nat} {dss : List (List D)} (r : R K F0 H0 F ρ σ H) (o : Owns K H0 F ρ σ H O) (h : gt ρ i = some (.ow2 dss)) : ∃ a bs, σ[i]? = some (some (.ref a)) ∧ H a = some (.lst (bs.map V.ref)) ∧ Own2 K F H bs dss ∧
    (∀ (b : Addr) (xs : List V) (ds : List D), (∀ j, b ∉ O j) → F b = none → H0 b = none → H b = some (.lst xs) → RpAll K F xs ds → R K F0 H0 F (ρ.set i (some (.ow2 (dss ++ [ds])))) σ (upd H a (.lst ((bs ++ [b]).map V.ref)))) ∧
    (∀ (n : Nat) (b : Addr) (xs' : List V) (ds' : List D), bs[n]? = some b → RpAll K F xs' ds' → R K F0 H0 F (ρ.set i (some (.ow2 (dss.set n ds')))) σ (upd H b (.lst xs'))) := by
  have q := o.rep i
  rw [h] at q
  obtain ⟨a, bs, e1, e2, e3, q⟩ := q
  have nd := o.nd i
  rw [e2, List.nodup_cons] at nd
  refine ⟨a, bs, gt_some e1, e3, q, fun b xs ds hb hF hH hb2 hr => ?_, fun n b xs' ds' hn hr => ?_⟩
  · have nb : b ≠ a := fun z => hb i (by rw [e2, z]; simp)
    have nbs : b ∉ bs := fun z => hb i (by rw [e2]; exact List.mem_cons_of_mem _ z)
    have inO : ∀ c, c ∈ a :: (bs ++ [b]) → c = b ∨ c ∈ O i := fun c hc => by
      rw [e2]
      simp only [List.mem_cons, List.mem_append, List.mem_singleton] at hc ⊢
      rcases hc with hc | hc | hc | hc
      · exact .inr (.inl hc)
      · exact .inr (.inr hc)
      · exact .inl hc
      · cases hc
    refine r.write o (gt_lt h) (os := a :: (bs ++ [b])) ?_ (fun c hc => ?_) (fun j hj c hc hc' => ?_) (fun c hc => upd_ne (fun z => hc (by rw [z]; simp))) ⟨a, bs ++ [b], e1, rfl, upd_same, ?_⟩
    · rw [List.nodup_cons, List.nodup_append]
      refine ⟨by simp only [List.mem_append, List.mem_singleton, not_or]; exact ⟨nd.1, fun z => nb z.symm⟩, nd.2, by simp, fun c hc d hd z => ?_⟩
      have : d = b := by simpa using hd
      subst this
      subst z
      exact nbs hc
    · rcases inO c hc with rfl | hc
      · exact ⟨hF, hH⟩
      · exact o.no i c hc
    · rcases inO c hc with rfl | hc
      · exact hb j hc'
      · exact hj (o.dj j i c hc' hc)
    · refine own2_snoc (xs := xs) (by rw [upd_ne nb]; exact hb2) hr (q.mono (Same.refl F) fun c hc x hx => ?_)
      have : c ≠ a := fun z => nd.1 (z ▸ hc)
      rw [upd_ne this]; exact hx
  · have hb : b ∈ bs := List.mem_of_getElem? hn
    have nb : a ≠ b := fun z => nd.1 (z ▸ hb)
    refine r.write o (gt_lt h) (os := a :: bs) (by rw [List.nodup_cons]; exact nd) (fun c hc => o.no i c (by rw [e2]; exact hc)) (fun j hj c hc hc' => hj (o.dj j i c hc' (by rw [e2]; exact hc))) (fun c hc => upd_ne (fun z => hc (by rw [z]; exact List.mem_cons_of_mem _ hb)))
      ⟨a, bs, e1, rfl, by rw [upd_ne nb]; exact e3, own2_set hr nd.2 q hn⟩
theorem few1 {pa : Expr} {cp : Pos} (h : plainE pa = true) : ((backTo cp (starEach [pa] X.env)).all (fun x => !x.1) && (backToKw cp (keywordEach [] X.env)).all (fun x => x.1.isSome)
      && decide ([pa].length + ([] : List Keyword).length + (if ([] : List Keyword).isEmpty then 0 else 1) < 30)) = true := by
  rw [star_few (by rw [List.all_cons, h]; rfl), Bool.true_and]; rfl
/-- o.append(e), by the readings of o and e -/
theorem pe_app {po pa : Expr} {ap cp : Pos} {to te : TE} (hp : plainE pa = true) (hs : noSup po = true) (hl : (ap.endLine == cp.line) = true) (ho : PE X po to) (he : PE X pa te) :
    PE X (.Call (.Attribute po "append" ap) [pa] [] cp) (tBM (kxOf X) "list" rAppend to (tCons te tNil)) :=
  pe_bm F.plainAttrs_list F.slot_list_append F.type_list_append mt_append ho (pa_cons he pa_nil (star_cons hp)) (base_id hs) (few1 hp) hl (star_cons hp) rfl
theorem nm_sup {i : Nat} {pe : Expr} (h : nmB C sc i pe = true) : noSup pe = true := by
  unfold nmB at h
  cases e : asName pe with
  | none => rw [e] at h; cases h
  | some x => obtain ⟨p, rfl⟩ := asName_s e; rfl
theorem st_app {i : Nat} {e : E} {po pa : Expr} {ap cp p : Pos} (ds : DB X C G sc) (h1 : nmB C sc i po = true) (hl : (ap.endLine == cp.line) = true) (hp : plainE pa = true) (he : okE C sc e pa = true) :
    PS X (.Expr (.Call (.Attribute po "append" ap) [pa] [] cp) p) (tSs (kxOf X) (wS G (.app i e))) := by
  refine ps_w (ps_expr (pe_app hp (nm_sup h1) hl (nm_s ds.dx h1) ((sE e X sc pa ds.dx he).n 0)) rfl) fun D σ H ⟨F0, H0, Fm, F, ρ, P, rr, sm, hw, L⟩ => ?_
  obtain ⟨xs, hi, hw⟩ : ∃ xs, gt ρ i = some (.ow xs) ∧ wE G (.t 0) e ρ fun d => xs.length < sizeLine ∧ P.nx (ρ.set i (some (.ow (xs ++ [d])))) := hw
  obtain ⟨a, vs, g1, g2, g3, _⟩ := own_at rr hi
  refine ⟨_, g1, .inl ⟨rfl, vs, SqL.of g2⟩, F0, H0, F, ρ, _, rr, hw, fun v F' H' d e s q ⟨hz, hq⟩ => ?_⟩
  obtain ⟨a', vs', k1, k2, k3, k4⟩ := own_at (rr.go e s) hi
  have ea : a = a' := by
    have z := g1.symm.trans k1
    cases z; rfl
  subst ea
  exact ⟨a, vs', v, rfl, rfl, k2, by rw [da_len k3]; exact hz, L.nx F' _ _ _ (k4 _ _ (da_snoc k3 q)) (sm.trans e.f) hq⟩
theorem refs_inj {xs ys : List Addr} (h : some (HO.lst (xs.map V.ref)) = some (HO.lst (ys.map V.ref))) : xs = ys := by
  have z := Option.some.inj h
  injection z with z
  exact (List.map_inj_right (fun x y h => by cases h; rfl)).mp z
theorem st_app2 {i : Nat} {e : E} {po pa : Expr} {ap cp p : Pos} (ds : DB X C G sc) (h1 : nmB C sc i po = true) (hl : (ap.endLine == cp.line) = true) (hp : plainE pa = true) (he : okE C sc e pa = true) :
    PS X (.Expr (.Call (.Attribute po "append" ap) [pa] [] cp) p) (tSs (kxOf X) (wS G (.app2 i e))) := by
  refine ps_w (ps_expr (pe_app hp (nm_sup h1) hl (nm_s ds.dx h1) (sE e X sc pa ds.dx he).f) rfl) fun D σ H ⟨F0, H0, Fm, F, ρ, P, rr, sm, hw, L⟩ => ?_
  obtain ⟨dss, hi, hw⟩ : ∃ dss, gt ρ i = some (.ow2 dss) ∧ wE G .fr e ρ fun d => ∃ ds, d = .list ds ∧ dss.length < sizeLine ∧ P.nx (ρ.set i (some (.ow2 (dss ++ [ds])))) := hw
  obtain ⟨O, o⟩ := rr.own
  obtain ⟨a, bs, g1, g2, g3, _, _⟩ := own2_at rr o hi
  refine ⟨_, g1, .inl ⟨rfl, _, SqL.of g2⟩, F0, H0, F, ρ, _, rr, hw, fun v F' H' d e s f ⟨ds', hd', hz, hq⟩ => ?_⟩
  subst hd'
  rcases f with ⟨ds, hd, f⟩ | ⟨kvs, hd, f⟩
  · cases hd
    obtain ⟨a', bs', k1, k2, k3, k4, _⟩ := own2_at (rr.go e s) (o.go e) hi
    have ea : a = a' := by
      have z := g1.symm.trans k1
      cases z; rfl
    subst ea
    obtain ⟨b, xs, rfl, f1, f2, f3, f4⟩ := f
    refine ⟨a, _, .ref b, rfl, rfl, k2, by rw [List.length_map, own2_len k3]; exact hz, ?_⟩
    rw [show bs'.map V.ref ++ [V.ref b] = (bs' ++ [b]).map V.ref by simp]
    exact L.nx F' _ _ _ (k4 b xs ds' (o.fresh f1) f2 (Same.free rr.ext.h f1) f3 f4) (sm.trans e.f) hq
  · cases hd
theorem atI_of_ix {α : Type} {xs : List α} {k : Int} {n : Nat} {x : α} (h : ixN xs.length k = some n) (h2 : xs[n]? = some x) : atI xs k = some x := by
  unfold atI
  rw [h]; exact h2
/-- x[j], a list of a slot's own -/
theorem pe_in {i : Nat} {j : E} {px pj : Expr} {q : Pos} (ds : DB X C G sc) (h1 : nmB C sc i px = true) (hpj : plainE pj = true) (hj : okE C sc j pj = true) : PE X (.Subscript px pj q) (tOp (rIx (kxOf X)) (tVar i) (tN (kxOf X) 0 (wE G (.t 0) j))) :=
  pe_ix ix_seq (nm_s ds.dx h1) ((sE j X sc pj ds.dx hj).n 0) (plain_sub hpj)
theorem st_appI {i : Nat} {j e : E} {px pj pa : Expr} {q ap cp p : Pos} (ds : DB X C G sc) (h1 : nmB C sc i px = true) (hpj : plainE pj = true) (hj : okE C sc j pj = true) (hl : (ap.endLine == cp.line) = true) (hp : plainE pa = true) (he : okE C sc e pa = true) :
    PS X (.Expr (.Call (.Attribute (.Subscript px pj q) "append" ap) [pa] [] cp) p) (tSs (kxOf X) (wS G (.appI i j e))) := by
  refine ps_w (ps_expr (pe_app hp rfl hl (pe_in ds h1 hpj hj) ((sE e X sc pa ds.dx he).n 0)) rfl) fun D σ H ⟨F0, H0, Fm, F, ρ, P, rr, sm, hw, L⟩ => ?_
  obtain ⟨dss, hi, hw⟩ : ∃ dss, gt ρ i = some (.ow2 dss) ∧ wE G (.t 0) j ρ fun y => ∃ k n ds, y = .int k ∧ ixN dss.length k = some n ∧ dss[n]? = some ds ∧ wE G (.t 0) e ρ fun d => ds.length < sizeLine ∧ P.nx (ρ.set i (some (.ow2 (dss.set n (ds ++ [d]))))) := hw
  obtain ⟨a, bs, g1, g2, g3, _, _⟩ := own2_at rr (rr.own.choose_spec) hi
  refine ⟨_, g1, F0, H0, F, ρ, _, rr, hw, fun y F1 H1 d1 e1 s1 q1 ⟨k, n, ds1, hy, hk, hn, hw1⟩ => ?_⟩
  subst hy
  obtain rfl := sc_int q1
  obtain ⟨a1, bs1, k1, k2, k3, _, _⟩ := own2_at (rr.go e1 s1) ((rr.go e1 s1).own.choose_spec) hi
  have ea : a = a1 := by
    have z := g1.symm.trans k1
    cases z; rfl
  subst ea
  obtain ⟨b, xs, b1, b2, b3⟩ := own2_get k3 hn
  refine .inl ⟨a, _, k, .ref b, rfl, rfl, SqL.of k2, atI_of_ix (n := n) (by rw [List.length_map, own2_len k3]; exact hk) (by rw [List.getElem?_map, b1]; rfl), ?_⟩
  refine ⟨.inl ⟨rfl, xs, SqL.of b2⟩, F0, H0, F1, ρ, _, rr.go e1 s1, hw1, fun v F2 H2 d e2 s2 q2 ⟨hz, hq⟩ => ?_⟩
  obtain ⟨a2, bs2, m1, m2, m3, _, m5⟩ := own2_at ((rr.go e1 s1).go e2 s2) (((rr.go e1 s1).go e2 s2).own.choose_spec) hi
  have ea : a = a2 := by
    have z := g1.symm.trans m1
    cases z; rfl
  subst ea
  obtain rfl := refs_inj (m2.symm.trans (e2.h _ _ k2))
  exact ⟨b, xs, v, rfl, rfl, e2.h _ _ b2, by rw [da_len b3]; exact hz, L.nx F2 _ _ _ (m5 n b _ _ b1 (da_snoc (da_m b3 e2.f) q2)) (sm.trans (e1.trans e2).f) hq⟩
theorem plain_asg {o i : Expr} {pos : Pos} {env : PySem.Env} (h : plainE i = true) : ∀ v, assign (.Subscript o i pos) env v = (do
      let ov ← holding [v] (eval o env)
      let iv ← holding [v, ov] (eval i env)
      standAt pos
      holding [v, ov, iv] (setItem ov iv v)
      release [v, ov, iv] []) := by
  intro v
  cases i <;> first | rfl | exact absurd (show false = true from h) Bool.false_ne_true
theorem sub_swap {pe o i : Expr} {q : Pos} {l : Nat} {env : PySem.Env} : swapsWith pe (some (.Subscript o i q)) l env = pure false := by
  cases pe <;> rfl
theorem st_seti {i : Nat} {j e : E} {px pj pe : Expr} {q p : Pos} (ds : DB X C G sc) (h1 : nmB C sc i px = true) (hpj : plainE pj = true) (hj : okE C sc j pj = true) (he : okE C sc e pe = true) :
    PS X (.Assign [.Subscript px pj q] pe p) (tSs (kxOf X) (wS G (.seti i j e))) := by
  refine ps_w (ps_asg ((sE e X sc pe ds.dx he).n 0) (pg_sub (nm_s ds.dx h1) ((sE j X sc pj ds.dx hj).n 0) set_list (plain_asg hpj)) (by show swapsWith pe (some (.Subscript px pj q)) p.line X.env = _; exact sub_swap) (by cases pe <;> rfl) rfl)
    fun Dn σ H ⟨F0, H0, Fm, F, ρ, P, rr, sm, hw, L⟩ => ?_
  obtain ⟨xs, hi, hw⟩ : ∃ xs, gt ρ i = some (.ow xs) ∧ wE G (.t 0) e ρ fun d => wE G (.t 0) j ρ fun y => ∃ k n, y = .int k ∧ ixN xs.length k = some n ∧ P.nx (ρ.set i (some (.ow (xs.set n d)))) := hw
  obtain ⟨a, vs, g1, g2, g3, _⟩ := own_at rr hi
  refine ⟨F0, H0, F, ρ, _, rr, hw, fun v F1 H1 d e1 s1 q1 hw1 => ⟨_, g1, F0, H0, F1, ρ, _, rr.go e1 s1, hw1, fun y F2 H2 d2 e2 s2 q2 ⟨k, n, hy, hk, hq⟩ => ?_⟩⟩
  subst hy
  obtain rfl := sc_int q2
  obtain ⟨a', vs', k1, k2, k3, k4⟩ := own_at ((rr.go e1 s1).go e2 s2) hi
  have ea : a = a' := by
    have z := g1.symm.trans k1
    cases z; rfl
  subst ea
  exact ⟨a, vs', k, n, rfl, rfl, k2, by rw [da_len k3]; exact hk, L.nx F2 _ _ _ (k4 _ _ (da_set (dp_m q1 e2.f) n k3)) (sm.trans (e1.trans e2).f) hq⟩
theorem st_set2 {i : Nat} {j k e : E} {px pj pk pe : Expr} {q q2 p : Pos} (ds : DB X C G sc) (h1 : nmB C sc i px = true) (hpj : plainE pj = true) (hj : okE C sc j pj = true) (hpk : plainE pk = true) (hk : okE C sc k pk = true) (he : okE C sc e pe = true) :
    PS X (.Assign [.Subscript (.Subscript px pj q) pk q2] pe p) (tSs (kxOf X) (wS G (.set2 i j k e))) := by
  refine ps_w (ps_asg ((sE e X sc pe ds.dx he).n 0) (pg_sub (pe_in ds h1 hpj hj) ((sE k X sc pk ds.dx hk).n 0) set_list (plain_asg hpk)) (by show swapsWith pe (some (.Subscript (.Subscript px pj q) pk q2)) p.line X.env = _; exact sub_swap) (by cases pe <;> rfl) rfl)
    fun Dn σ H ⟨F0, H0, Fm, F, ρ, P, rr, sm, hw, L⟩ => ?_
  obtain ⟨dss, hi, hw⟩ : ∃ dss, gt ρ i = some (.ow2 dss) ∧ wE G (.t 0) e ρ fun d => wE G (.t 0) j ρ fun y => ∃ k1 n1 ds, y = .int k1 ∧ ixN dss.length k1 = some n1 ∧ dss[n1]? = some ds ∧
      wE G (.t 0) k ρ fun z => ∃ k2 n2, z = .int k2 ∧ ixN ds.length k2 = some n2 ∧ P.nx (ρ.set i (some (.ow2 (dss.set n1 (ds.set n2 d))))) := hw
  obtain ⟨a, bs, g1, g2, g3, _, _⟩ := own2_at rr (rr.own.choose_spec) hi
  refine ⟨F0, H0, F, ρ, _, rr, hw, fun v F1 H1 d e1 s1 q1 hw1 => ⟨_, g1, F0, H0, F1, ρ, _, rr.go e1 s1, hw1, fun y F2 H2 d2 e2 s2 qy ⟨k1, n1, ds1, hy, hk1, hn1, hw2⟩ => ?_⟩⟩
  subst hy
  obtain rfl := sc_int qy
  obtain ⟨a1, bs1, m1, m2, m3, _, _⟩ := own2_at ((rr.go e1 s1).go e2 s2) (((rr.go e1 s1).go e2 s2).own.choose_spec) hi
  have ea : a = a1 := by
    have z := g1.symm.trans m1
    cases z; rfl
  subst ea
  obtain ⟨b, xs, b1, b2, b3⟩ := own2_get m3 hn1
  refine .inl ⟨a, _, k1, .ref b, rfl, rfl, SqL.of m2, atI_of_ix (n := n1) (by rw [List.length_map, own2_len m3]; exact hk1) (by rw [List.getElem?_map, b1]; rfl), ?_⟩
  refine ⟨F0, H0, F2, ρ, _, (rr.go e1 s1).go e2 s2, hw2, fun z F3 H3 d3 e3 s3 qz ⟨k2, n2, hz, hk2, hq⟩ => ?_⟩
  subst hz
  obtain rfl := sc_int qz
  obtain ⟨a2, bs2, l1, l2, l3, _, l5⟩ := own2_at (((rr.go e1 s1).go e2 s2).go e3 s3) ((((rr.go e1 s1).go e2 s2).go e3 s3).own.choose_spec) hi
  have ea : a = a2 := by
    have z := g1.symm.trans l1
    cases z; rfl
  subst ea
  obtain rfl := refs_inj (l2.symm.trans (e3.h _ _ m2))
  have e23 := e2.trans e3
  exact ⟨b, xs, k2, n2, rfl, rfl, e3.h _ _ b2, by rw [da_len b3]; exact hk2, L.nx F3 _ _ _ (l5 n1 b _ _ b1 (da_set (dp_m q1 e23.f) n2 (da_m b3 e3.f))) (sm.trans (e1.trans e23).f) hq⟩
theorem st_dput {i : Nat} {j e : E} {px pj pe : Expr} {q p : Pos} (ds : DB X C G sc) (h1 : nmB C sc i px = true) (hpj : plainE pj = true) (hj : okE C sc j pj = true) (he : okE C sc e pe = true) :
    PS X (.Assign [.Subscript px pj q] pe p) (tSs (kxOf X) (wS G (.dput i j e))) := by
  refine ps_w (ps_asg ((sE e X sc pe ds.dx he).n 0) (pg_sub (nm_s ds.dx h1) ((sE j X sc pj ds.dx hj).n 0) (set_do (by have := ds.dx.room.un; omega)) (plain_asg hpj)) (by show swapsWith pe (some (.Subscript px pj q)) p.line X.env = _; exact sub_swap) (by cases pe <;> rfl) rfl)
    fun Dn σ H ⟨F0, H0, Fm, F, ρ, P, rr, sm, hw, L⟩ => ?_
  obtain ⟨kvs, hi, hw⟩ : ∃ kvs, gt ρ i = some (.od kvs) ∧ wE G (.t 0) e ρ fun v => wE G (.t 0) j ρ fun x => (keyD x = true ∧ uniD (kvs.map (·.1)) x = true ∧ kvs.length < sizeLine) ∧ P.nx (ρ.set i (some (.od (dput kvs x v)))) := hw
  obtain ⟨a, es, g1, g2, g3, _⟩ := od_at rr hi
  refine ⟨F0, H0, F, ρ, _, rr, hw, fun v F1 H1 d e1 s1 q1 hw1 => ⟨_, g1, F0, H0, F1, ρ, _, rr.go e1 s1, hw1, fun y F2 H2 d2 e2 s2 q2 ⟨⟨hk, hu, hz⟩, hq⟩ => ?_⟩⟩
  obtain ⟨a', es', k1, k2, k3, k4⟩ := od_at ((rr.go e1 s1).go e2 s2) hi
  have ea : a = a' := by
    have z := g1.symm.trans k1
    cases z; rfl
  subst ea
  obtain ⟨n, hn⟩ := keyD_nk hk
  exact ⟨a, es', n, rfl, ⟨F2, _, d2, s2, k2, k3.keys, q2, ⟨hn, hk⟩, hu⟩, by rw [rpd_len k3]; exact hz, L.nx F2 _ _ _ (k4 _ _ (rpd_put ⟨hn, hk⟩ q2 (dp_m q1 e2.f) k3)) (sm.trans (e1.trans e2).f) hq⟩
theorem st_dputl {i : Nat} {j e : E} {px pj pe : Expr} {q p : Pos} (ds : DB X C G sc) (h1 : nmB C sc i px = true) (hpj : plainE pj = true) (hj : okE C sc j pj = true) (he : okE C sc e pe = true) :
    PS X (.Assign [.Subscript px pj q] pe p) (tSs (kxOf X) (wS G (.dputl i j e))) := by
  refine ps_w (ps_asg (sE e X sc pe ds.dx he).f (pg_sub (nm_s ds.dx h1) ((sE j X sc pj ds.dx hj).n 0) (set_do (by have := ds.dx.room.un; omega)) (plain_asg hpj)) (by show swapsWith pe (some (.Subscript px pj q)) p.line X.env = _; exact sub_swap) (by cases pe <;> rfl) rfl)
    fun Dn σ H ⟨F0, H0, Fm, F, ρ, P, rr, sm, hw, L⟩ => ?_
  obtain ⟨kvs, hi, hw⟩ : ∃ kvs, gt ρ i = some (.odl kvs) ∧ wE G .fr e ρ fun d => ∃ ds, d = .list ds ∧ wE G (.t 0) j ρ fun x => (keyD x = true ∧ uniD (kvs.map (fun p => p.1)) x = true ∧ kvs.length < sizeLine ∧ (kvs.map (fun (p : D × List D) => p.1)).Nodup) ∧ P.nx (ρ.set i (some (.odl (lput kvs x ds)))) := hw
  obtain ⟨O, o⟩ := rr.own
  obtain ⟨a, bs, es, t⟩ := odl_at o hi
  refine ⟨F0, H0, F, ρ, _, rr, hw, fun v F1 H1 d e1 s1 f ⟨ds', hd', hw1⟩ => ⟨_, gt_some t.v, F0, H0, F1, ρ, _, rr.go e1 s1, hw1, fun y F2 H2 d2 e2 s2 q2 ⟨⟨hk, hu, hz, nd⟩, hq⟩ => ?_⟩⟩
  subst hd'
  rcases f with ⟨ds1, hd, b, xs, rfl, f1, f2, f3, f4⟩ | ⟨kvs1, hd, f⟩
  · cases hd
    have t2 := (t.go e1).go e2
    obtain ⟨n, hn⟩ := keyD_nk hk
    have nb : ∀ j, b ∉ O j := o.fresh f1
    refine ⟨a, es, n, rfl, ⟨F2, _, d2, s2, t2.h, t2.q.keys, q2, ⟨hn, hk⟩, hu⟩, by rw [rpk_len t2.q.keys, List.length_map]; exact hz, ?_⟩
    exact L.nx F2 _ _ _ (t2.put ((rr.go e1 s1).go e2 s2) ((o.go e1).go e2) hi ⟨hn, hk⟩ q2 (e2.h _ _ f3) (da_m f4 e2.f) nd nb ((e2.new b (some_ne f3)).trans f2) (Same.free rr.ext.h f1)) (sm.trans (e1.trans e2).f) hq
  · cases hd
theorem st_dappl {i : Nat} {j e : E} {px pj pa : Expr} {q ap cp p : Pos} (ds : DB X C G sc) (h1 : nmB C sc i px = true) (hpj : plainE pj = true) (hj : okE C sc j pj = true) (hl : (ap.endLine == cp.line) = true) (hp : plainE pa = true) (he : okE C sc e pa = true) :
    PS X (.Expr (.Call (.Attribute (.Subscript px pj q) "append" ap) [pa] [] cp) p) (tSs (kxOf X) (wS G (.dappl i j e))) := by
  refine ps_w (ps_expr (pe_app hp rfl hl (pe_ix (ix_do (by have := ds.dx.room.un; omega)) (nm_s ds.dx h1) ((sE j X sc pj ds.dx hj).n 0) (plain_sub hpj)) ((sE e X sc pa ds.dx he).n 0)) rfl) fun D σ H ⟨F0, H0, Fm, F, ρ, P, rr, sm, hw, L⟩ => ?_
  obtain ⟨kvs, hi, hw⟩ : ∃ kvs, gt ρ i = some (.odl kvs) ∧ wE G (.t 0) j ρ fun x => ∃ ds, (keyD x = true ∧ uniD (kvs.map (·.1)) x = true ∧ lget kvs x = some ds) ∧ wE G (.t 0) e ρ fun d => ds.length < sizeLine ∧ P.nx (ρ.set i (some (.odl (lput kvs x (ds ++ [d]))))) := hw
  obtain ⟨O, o⟩ := rr.own
  obtain ⟨a, bs, es, t⟩ := odl_at o hi
  refine ⟨_, gt_some t.v, F0, H0, F, ρ, _, rr, hw, fun y F1 H1 d1 e1 s1 q1 ⟨ds1, ⟨hk, hu, hg⟩, hw1⟩ => ?_⟩
  have t1 := t.go e1
  obtain ⟨n, hn⟩ := keyD_nk hk
  obtain ⟨b, xs, _, b1, b2, b3⟩ := ownd_get hn t1.q hg
  refine ⟨a, es, n, .ref b, rfl, ⟨F1, _, d1, s1, t1.h, t1.q.keys, q1, ⟨hn, hk⟩, hu⟩, b1, ?_⟩
  refine ⟨.inl ⟨rfl, xs, SqL.of b2⟩, F0, H0, F1, ρ, _, rr.go e1 s1, hw1, fun v F2 H2 d e2 s2 q2 ⟨hz, hq⟩ => ?_⟩
  have t2 := t1.go e2
  exact ⟨b, xs, v, rfl, rfl, e2.h _ _ b2, by rw [da_len b3]; exact hz, L.nx F2 _ _ _ (t2.set ((rr.go e1 s1).go e2 s2) ((o.go e1).go e2) hi hn b1 (da_snoc (da_m b3 e2.f) q2)) (sm.trans (e1.trans e2).f) hq⟩
theorem pe_pop {po : Expr} {ap cp : Pos} {to : TE} (hs : noSup po = true) (hl : (ap.endLine == cp.line) = true) (ho : PE X po to) : PE X (.Call (.Attribute po "pop" ap) [] [] cp) (tBM0 (kxOf X) "list" rPop to) :=
  pe_bm0 F.plainAttrs_list F.slot_list_pop F.type_list_pop mt_pop ho (base_id hs) hl
theorem da_init {K : Kx} {H : Hp} : ∀ {vs : List V} {ds : List D}, RpAll K H vs ds → RpAll K H vs.dropLast ds.dropLast
  | _, _, .nil => .nil
  | _, _, .cons h .nil => .nil
  | _, _, .cons h (.cons h2 t) => .cons h (da_init (.cons h2 t))
theorem st_pop {tg : Tg} {i : Nat} {pt po : Expr} {ap cp p : Pos} (ds : DB X C G sc) (ht : okTg C sc tg pt = true) (h1 : nmB C sc i po = true) (hl : (ap.endLine == cp.line) = true) :
    PS X (.Assign [pt] (.Call (.Attribute po "pop" ap) [] [] cp) p) (tSs (kxOf X) (wS G (.popA tg i .no))) := by
  have dx := ds.dx
  have hg := snd_tg X dx.calm dx.N dx.nd dx.sc ht (fun x _ => .inl (ds.hf x))
  have hpt : (∃ x q, pt = .Name x q) ∨ ∃ es j q, pt = .Tuple es j q := by
    cases tg with
    | nm i => obtain ⟨x, q, rfl, _⟩ := tg_s ht; exact .inl ⟨x, q, rfl⟩
    | tp is =>
      replace ht : (match asTup pt with | some es => okTgs C sc is es | none => false) = true := ht
      cases e : asTup pt with
      | none => rw [e] at ht; cases ht
      | some es => obtain ⟨j, q, rfl⟩ := asTup_s e; exact .inr ⟨es, j, q, rfl⟩
  refine ps_w (ps_asg (pe_pop (nm_sup h1) hl (nm_s dx h1)) hg (by cases pt <;> rfl) (by cases pt <;> rfl) (by rcases hpt with ⟨x, q, rfl⟩ | ⟨es, j, q, rfl⟩ <;> rfl)) fun D σ H ⟨F0, H0, Fm, F, ρ, P, rr, sm, hw, L⟩ => ?_
  obtain ⟨xs, hi, d, hd, hw⟩ : ∃ ds, gt ρ i = some (.ow ds) ∧ ∃ d, ds.getLast? = some d ∧ wG tg d (ρ.set i (some (.ow ds.dropLast))) P.nx := hw
  obtain ⟨a, vs, g1, g2, g3, g4⟩ := own_at rr hi
  have hd' : xs[xs.length - 1]? = some d := by rw [← hd, List.getLast?_eq_getElem?]
  obtain ⟨v, hv, rv⟩ := da_get g3 hd'
  refine ⟨_, g1, .inl ⟨rfl, vs, SqL.of g2⟩, a, vs, v, rfl, rfl, g2, by rw [da_len g3]; exact hv, ?_⟩
  exact ⟨F0, H0, F, _, d, _, g4 _ _ (da_init g3), rv, hw, fun ρ' σ' r' _ _ hn => L.nx F ρ' σ' _ r' sm hn⟩
theorem st_ins {i : Nat} {j e : E} {po pj pa : Expr} {ap cp p : Pos} (ds : DB X C G sc) (h1 : nmB C sc i po = true) (hl : (ap.endLine == cp.line) = true) (hpj : plainE pj = true) (hp : plainE pa = true) (hj : okE C sc j pj = true) (he : okE C sc e pa = true) :
    PS X (.Expr (.Call (.Attribute po "insert" ap) [pj, pa] [] cp) p) (tSs (kxOf X) (wS G (.ins i j e))) := by
  have hpp : [pj, pa].all plainE = true := by simp [hpj, hp]
  refine ps_w (ps_expr (pe_bm F.plainAttrs_list F.slot_list_insert F.type_list_insert mt_insert (nm_s ds.dx h1) (pa_cons ((sE j X sc pj ds.dx hj).n 0) (pa_cons ((sE e X sc pa ds.dx he).n 0) pa_nil (star_cons hp)) (star_cons hpj)) (base_id (nm_sup h1)) (few_of hpp (show 2 < 20 by decide)) hl (star_cons hpj) (star_any (by simp [hp]))) rfl)
    fun D σ H ⟨F0, H0, Fm, F, ρ, P, rr, sm, hw, L⟩ => ?_
  obtain ⟨xs, hi, hw⟩ : ∃ ds, gt ρ i = some (.ow ds) ∧ wE G (.t 0) j ρ fun y => wE G (.t 0) e ρ fun d => ∃ k, y = .int k ∧ (0 ≤ k ∧ k < 2 ^ 63 ∧ ds.length < sizeLine) ∧ P.nx (ρ.set i (some (.ow (ds.take k.toNat ++ [d] ++ ds.drop k.toNat)))) := hw
  obtain ⟨a, vs, g1, g2, g3, _⟩ := own_at rr hi
  refine ⟨_, g1, .inl ⟨rfl, vs, SqL.of g2⟩, F0, H0, F, ρ, _, rr, hw, fun y F1 H1 d1 e1 s1 q1 hw1 => ⟨F0, H0, F1, ρ, _, rr.go e1 s1, hw1, fun v F2 H2 d2 e2 s2 q2 ⟨k, hk, ⟨b1, b2, b3⟩, hq⟩ => ?_⟩⟩
  subst hk
  obtain rfl := sc_int q1
  obtain ⟨a', vs', k1, k2, k3, k4⟩ := own_at ((rr.go e1 s1).go e2 s2) hi
  have ea : a = a' := by
    have z := g1.symm.trans k1
    cases z; rfl
  subst ea
  exact ⟨a, vs', k, v, rfl, rfl, k2, by rw [da_len k3]; exact b3, b1, b2, L.nx F2 _ _ _ (k4 _ _ (da_app (da_app (da_take _ k3) (.cons q2 .nil)) (da_drop _ k3))) (sm.trans (e1.trans e2).f) hq⟩
theorem st_ext {i : Nat} {e : E} {po pa : Expr} {ap cp p : Pos} (ds : DB X C G sc) (h1 : nmB C sc i po = true) (hl : (ap.endLine == cp.line) = true) (hp : plainE pa = true) (he : okE C sc e pa = true) :
    PS X (.Expr (.Call (.Attribute po "extend" ap) [pa] [] cp) p) (tSs (kxOf X) (wS G (.ext i e))) := by
  refine ps_w (ps_expr (pe_bm F.plainAttrs_list F.slot_list_extend F.type_list_extend mt_ext (nm_s ds.dx h1) (pa_cons ((sE e X sc pa ds.dx he).n 1) pa_nil (star_cons hp)) (base_id (nm_sup h1)) (few1 hp) hl (star_cons hp) rfl) rfl)
    fun D σ H ⟨F0, H0, Fm, F, ρ, P, rr, sm, hw, L⟩ => ?_
  obtain ⟨xs, hi, hw⟩ : ∃ ds, gt ρ i = some (.ow ds) ∧ wE G (.t 1) e ρ fun d => ∃ es, lsOf d = some es ∧ ds.length + es.length ≤ sizeLine ∧ P.nx (ρ.set i (some (.ow (ds ++ es)))) := hw
  obtain ⟨a, vs, g1, g2, g3, _⟩ := own_at rr hi
  refine ⟨_, g1, .inl ⟨rfl, vs, SqL.of g2⟩, F0, H0, F, ρ, _, rr, hw, fun v F' H' d e s q ⟨es, hd, hz, hq⟩ => ?_⟩
  obtain ⟨a', vs', k1, k2, k3, k4⟩ := own_at (rr.go e s) hi
  have ea : a = a' := by
    have z := g1.symm.trans k1
    cases z; rfl
  subst ea
  cases d with
  | list ys =>
    cases hd
    obtain ⟨b, ws, rfl, h1, p⟩ := q.list s
    have p := ra_of p
    exact ⟨a, b, vs', ws, rfl, rfl, k2, .inl h1, by rw [da_len k3, da_len p]; exact hz, L.nx F' _ _ _ (k4 _ _ (da_app k3 p)) (sm.trans e.f) hq⟩
  | tuple ys =>
    cases hd
    obtain ⟨b, ws, rfl, h1, p⟩ := sc_tup q
    exact ⟨a, b, vs', ws, rfl, rfl, k2, .inr (sqT_mono s h1), by rw [da_len k3, da_len p]; exact hz, L.nx F' _ _ _ (k4 _ _ (da_app k3 p)) (sm.trans e.f) hq⟩
  | _ => cases hd
theorem st_drop {e : E} {pe : Expr} {p : Pos} (ds : DB X C G sc) (hc : notComp pe = true) (he : okE C sc e pe = true) : PS X (.Expr pe p) (tSs (kxOf X) (wS G (.drop e))) :=
  ps_w (ps_expr ((sE e X sc pe ds.dx he).n 0) (nc_swap hc)) fun Dn σ H ⟨F0, H0, Fm, F, ρ, P, rr, sm, hw, L⟩ =>
    ⟨F0, H0, F, ρ, _, rr, hw, fun v F' H' d e s q hq => L.nx F' ρ σ H' (rr.go e s) (sm.trans e.f) hq⟩
theorem st_ret {e : E} {pe : Expr} {p : Pos} (ds : DB X C G sc) (he : okE C sc e pe = true) : PS X (.Return (some pe) p) (tSs (kxOf X) (wS G (.ret e))) :=
  ps_w (ps_ret ((sE e X sc pe ds.dx he).n 0)) fun Dn σ H ⟨F0, H0, Fm, F, ρ, P, rr, sm, hw, L⟩ =>
    ⟨F0, H0, F, ρ, _, rr, hw, fun v F' H' d e s q hq => L.rt v F' H' d (rr.ext.trans e) s q hq⟩
theorem st_retN {p : Pos} : PS X (.Return none p) (tSs (kxOf X) (wS G .retN)) :=
  ps_w ps_retN fun Dn σ H ⟨F0, H0, Fm, F, ρ, P, rr, sm, hw, L⟩ => L.rt .non F H .none rr.ext rr.sub .non hw
theorem st_if {c : E} {a b : Ss} {pc : Expr} {pa pb : List Stmt} {p : Pos} (ds : DB X C G sc) (hc : okE C sc c pc = true) (ha : PSs X pa (tSs (kxOf X) (wSs G a))) (hb : PSs X pb (tSs (kxOf X) (wSs G b))) : PS X (.If pc pa pb p) (tSs (kxOf X) (wS G (.ifs c a b))) := by
  refine ps_w (ps_if (sE c X sc pc ds.dx hc).t ha hb) fun Dn σ H ⟨F0, H0, Fm, F, ρ, P, rr, sm, hw, L⟩ => ?_
  have hw : wE G .tst c ρ fun x => ∃ k, x = .bool k ∧ (if k = true then wSs G a P ρ else wSs G b P ρ) := hw
  refine ⟨F0, H0, F, ρ, _, rr, hw, fun k F' H' e s ⟨k', hk, hq⟩ => ?_⟩
  cases hk
  cases k with
  | true => exact ⟨F0, H0, Fm, F', ρ, P, rr.go e s, sm.trans e.f, hq, L⟩
  | false => exact ⟨F0, H0, Fm, F', ρ, P, rr.go e s, sm.trans e.f, hq, L⟩
theorem st_whl {c : E} {b : Ss} {pc : Expr} {pb : List Stmt} {p : Pos} (ds : DB X C G sc) (hc : okE C sc c pc = true) (hb : PSs X pb (tSs (kxOf X) (wSs G b))) : PS X (.While pc pb [] p) (tSs (kxOf X) (wS G (.whl c b))) := by
  refine ps_w (ps_while ds.own (sE c X sc pc ds.dx hc).t hb) fun Dn σ H ⟨F0, H0, Fm, F, ρ, P, rr, sm, hw, L⟩ => ?_
  obtain ⟨W, ⟨m0, w0⟩, step⟩ : wWhl (fun ρ Q => wE G .tst c ρ fun x => ∃ k, x = .bool k ∧ Q k) (wSs G b) P ρ := hw
  refine ⟨fun m σ H => ∃ F' ρ', R (kxOf X) F0 H0 F' ρ' σ H ∧ Same Fm F' ∧ W m ρ', ⟨m0, F, ρ, rr, sm, w0⟩, ?_⟩
  rintro m σ1 H1 ⟨F1, ρ1, r1, sm1, w1⟩
  have st := step m ρ1 w1
  refine ⟨F0, H0, F1, ρ1, _, r1, st, fun k F2 H2 e s ⟨k', hk, hq⟩ => ?_⟩
  cases hk
  cases k with
  | true =>
    refine ⟨fun σ' H' => ∃ m', m' < m ∧ ∃ F' ρ', R (kxOf X) F0 H0 F' ρ' σ' H' ∧ Same Fm F' ∧ W m' ρ', fun σ' H' h => h, F0, H0, Fm, F2, ρ1, _, r1.go e s, sm1.trans e.f, hq, ?_⟩
    exact ⟨fun F' ρ' σ' H' r' s' ⟨m', hm, hw'⟩ => ⟨m', hm, F', ρ', r', s', hw'⟩, fun F' ρ' σ' H' r' s' h => L.nx F' ρ' σ' H' r' s' h, fun F' ρ' σ' H' r' s' ⟨m', hm, hw'⟩ => ⟨m', hm, F', ρ', r', s', hw'⟩, L.rt⟩
  | false => exact L.nx F2 ρ1 σ1 H2 (r1.go e s) (sm1.trans e.f) hq
theorem st_for {tg : Tg} {it : I} {b : Ss} {pt pi : Expr} {pb : List Stmt} {p : Pos} (ds : DB X C G sc) (ht : okTg C sc tg pt = true) (hp : plainE pi = true) (hi : okI C sc it pi = true) (hto : itOk it pt = true) (hb : PSs X pb (tSs (kxOf X) (wSs G b))) : PS X (.For pt pi pb [] p) (tSs (kxOf X) (wS G (.fr tg it b))) := by
  have dx := ds.dx
  refine ps_w (ps_for ds.own dx.calm (sI it X sc pi pt 0 (by decide) dx hi hto) (snd_tg X dx.calm dx.N dx.nd dx.sc ht (fun x _ => .inl (ds.hf x))) hb (plain_fold hp)) fun Dn σ H ⟨F0, H0, Fm, F, ρ, P, rr, sm, hw, L⟩ => ?_
  have hw : wI G 0 it ρ fun xs => wFor (wG tg) (wSs G b) P xs ρ := hw
  refine ⟨F0, H0, F, ρ, _, rr, hw, fun J F1 H1 xs e1 s1 srv hq => ?_⟩
  refine ⟨fun i m σ H => m = xs.length - i ∧ i ≤ xs.length ∧ ∃ F' ρ', R (kxOf X) F0 H0 F' ρ' σ H ∧ Same Fm F' ∧ Same F1 F' ∧ wFor (wG tg) (wSs G b) P (xs.drop i) ρ', ⟨xs.length, by simp, Nat.zero_le _, F1, ρ, rr.go e1 s1, sm.trans e1.f, Same.refl F1, hq⟩, ?_⟩
  rintro i m σ2 H2 ⟨rfl, hle, F2, ρ2, r2, sm2, f2, hq2⟩
  by_cases hlt : i < xs.length
  · obtain ⟨go, yl⟩ := srv.turn i F2 H2 f2 (fun z => by cases z) r2.sub _ (List.getElem?_eq_getElem hlt)
    refine .inr ⟨go, fun σ' H' => ∃ F' ρ', R (kxOf X) F0 H0 F' ρ' σ' H' ∧ Same Fm F' ∧ Same F1 F' ∧ wFor (wG tg) (wSs G b) P (xs.drop (i + 1)) ρ', fun σ' H' h => ⟨xs.length - (i + 1), by omega, rfl, hlt, h⟩, fun x H3 hy => ?_⟩
    obtain ⟨F3, e3, s3, rx⟩ := yl x H3 hy
    rw [List.drop_eq_getElem_cons hlt] at hq2
    refine ⟨F0, H0, F3, ρ2, xs[i], _, r2.go e3 s3, rx, hq2, fun ρ4 σ4 r4 _ _ hq4 => ?_⟩
    refine ⟨F0, H0, F3, F3, ρ4, _, r4, Same.refl F3, hq4, ?_⟩
    have b3 : Same Fm F3 := sm2.trans e3.f
    have c3 : Same F1 F3 := f2.trans e3.f
    exact ⟨fun F' ρ' σ' H' r' s' h => ⟨F', ρ', r', b3.trans s', c3.trans s', h⟩, fun F' ρ' σ' H' r' s' h => L.nx F' ρ' σ' H' r' (b3.trans s') h, fun F' ρ' σ' H' r' s' h => ⟨F', ρ', r', b3.trans s', c3.trans s', h⟩, L.rt⟩
  · have : i = xs.length := by omega
    subst this
    rw [List.drop_length] at hq2
    exact .inl ⟨srv.stop _ F2 H2 f2 (fun z => by cases z) r2.sub rfl, L.nx F2 ρ2 σ2 H2 r2 sm2 hq2⟩
end

/-! ### all statements -/
mutual
theorem sS {X : Cx} {C : Ck} {G : Gb} {sc : Scope} (db : DB X C G sc) : ∀ (s : S) (st : Stmt), okS C sc s st = true → PS X st (tSs (kxOf X) (wS G s))
  | .asg (.nm i) e, st, h => by
    unfold okS at h
    split at h
    · rename_i pt pe e1
      obtain ⟨p, rfl⟩ := asAsg_s e1
      simp only [Bool.and_eq_true] at h
      exact st_nm db h.1.1 h.1.2 h.2
    · cases h
  | .asg (.tp is) e, st, h => by
    unfold okS at h
    split at h
    · rename_i pt pe e1
      obtain ⟨p, rfl⟩ := asAsg_s e1
      simp only [Bool.and_eq_true] at h
      exact st_tp db h.1.1 h.1.2 h.2.1 h.2.2
    · cases h
  | .own i e, st, h => by
    unfold okS at h
    split at h
    · rename_i pt pe e1
      obtain ⟨p, rfl⟩ := asAsg_s e1
      simp only [Bool.and_eq_true] at h
      exact st_own db h.1.1 h.1.2 h.2
    · cases h
  | .own2 i, st, h => by
    unfold okS at h
    split at h
    · rename_i pt pe e1
      obtain ⟨p, rfl⟩ := asAsg_s e1
      simp only [Bool.and_eq_true] at h
      obtain ⟨h1, h2⟩ := h
      split at h2
      · rename_i e2
        obtain ⟨q, rfl⟩ := asLst_s e2
        exact st_own2 db h1
      · cases h2
    · cases h
  | .frz i, st, h => by simp [okS] at h
  | .app i e, st, h => by
    unfold okS at h
    split at h
    · rename_i pe e1
      obtain ⟨p, rfl⟩ := asExpr_s e1
      split at h
      · rename_i po m pa b e2
        obtain ⟨ap, cp, rfl, hb⟩ := asMeth_s e2
        simp only [Bool.and_eq_true, decide_eq_true_eq] at h
        obtain ⟨⟨⟨⟨h1, rfl⟩, h3⟩, h4⟩, h5⟩ := h
        exact st_app db h1 (hb.trans h3) h4 h5
      · cases h
    · cases h
  | .app2 i e, st, h => by
    unfold okS at h
    split at h
    · rename_i pe e1
      obtain ⟨p, rfl⟩ := asExpr_s e1
      split at h
      · rename_i po m pa b e2
        obtain ⟨ap, cp, rfl, hb⟩ := asMeth_s e2
        simp only [Bool.and_eq_true, decide_eq_true_eq] at h
        obtain ⟨⟨⟨⟨h1, rfl⟩, h3⟩, h4⟩, h5⟩ := h
        exact st_app2 db h1 (hb.trans h3) h4 h5
      · cases h
    · cases h
  | .appI i j e, st, h => by
    unfold okS at h
    split at h
    · rename_i pe e1
      obtain ⟨p, rfl⟩ := asExpr_s e1
      split at h
      · rename_i po m pa b e2
        obtain ⟨ap, cp, rfl, hb⟩ := asMeth_s e2
        split at h
        · rename_i px pj e3
          obtain ⟨q, rfl⟩ := asSub_s e3
          simp only [Bool.and_eq_true, decide_eq_true_eq] at h
          obtain ⟨⟨⟨⟨⟨⟨h1, h2⟩, h3⟩, rfl⟩, h5⟩, h6⟩, h7⟩ := h
          exact st_appI db h1 h2 h3 (hb.trans h5) h6 h7
        · cases h
      · cases h
    · cases h
  | .seti i j e, st, h => by
    unfold okS at h
    split at h
    · rename_i pt pe e1
      obtain ⟨p, rfl⟩ := asAsg_s e1
      split at h
      · rename_i px pj e2
        obtain ⟨q, rfl⟩ := asSub_s e2
        simp only [Bool.and_eq_true] at h
        obtain ⟨⟨⟨h1, h2⟩, h3⟩, h5⟩ := h
        exact st_seti db h1 h2 h3 h5
      · cases h
    · cases h
  | .set2 i j k e, st, h => by
    unfold okS at h
    split at h
    · rename_i pt pe e1
      obtain ⟨p, rfl⟩ := asAsg_s e1
      split at h
      · rename_i px pk e2
        obtain ⟨q2, rfl⟩ := asSub_s e2
        split at h
        · rename_i py pj e3
          obtain ⟨q, rfl⟩ := asSub_s e3
          simp only [Bool.and_eq_true] at h
          obtain ⟨⟨⟨⟨⟨h1, h2⟩, h3⟩, h4⟩, h5⟩, h7⟩ := h
          exact st_set2 db h1 h2 h3 h4 h5 h7
        · cases h
      · cases h
    · cases h
  | .drop e, st, h => by
    unfold okS at h
    split at h
    · rename_i pe e1
      obtain ⟨p, rfl⟩ := asExpr_s e1
      simp only [Bool.and_eq_true] at h
      exact st_drop db h.1 h.2
    · cases h
  | .aug i op e, st, h => by
    unfold okS at h
    split at h
    · rename_i pt o pe e1
      obtain ⟨p, rfl⟩ := asAug_s e1
      simp only [Bool.and_eq_true, decide_eq_true_eq] at h
      obtain ⟨⟨⟨h1, rfl⟩, rfl⟩, h4⟩ := h
      exact st_aug db h1 h4
    · cases h
  | .ownd2 i, st, h => by
    unfold okS at h
    split at h
    · rename_i pt pe e1
      obtain ⟨p, rfl⟩ := asAsg_s e1
      simp only [Bool.and_eq_true] at h
      obtain ⟨h1, h2⟩ := h
      split at h2
      · rename_i e2
        obtain ⟨q, rfl⟩ := asDict_s e2
        exact st_ownd2 db h1
      · cases h2
    · cases h
  | .dput i j e, st, h => by
    unfold okS at h
    split at h
    · rename_i pt pe e1
      obtain ⟨p, rfl⟩ := asAsg_s e1
      split at h
      · rename_i px pj e2
        obtain ⟨q, rfl⟩ := asSub_s e2
        simp only [Bool.and_eq_true] at h
        obtain ⟨⟨⟨h1, h2⟩, h3⟩, h5⟩ := h
        exact st_dput db h1 h2 h3 h5
      · cases h
    · cases h
  | .dputl i j e, st, h => by
    unfold okS at h
    split at h
    · rename_i pt pe e1
      obtain ⟨p, rfl⟩ := asAsg_s e1
      split at h
      · rename_i px pj e2
        obtain ⟨q, rfl⟩ := asSub_s e2
        simp only [Bool.and_eq_true] at h
        obtain ⟨⟨⟨h1, h2⟩, h3⟩, h5⟩ := h
        exact st_dputl db h1 h2 h3 h5
      · cases h
    · cases h
  | .dappl i j e, st, h => by
    unfold okS at h
    split at h
    · rename_i pe e1
      obtain ⟨p, rfl⟩ := asExpr_s e1
      split at h
      · rename_i po m pa b e2
        obtain ⟨ap, cp, rfl, hb⟩ := asMeth_s e2
        split at h
        · rename_i px pj e3
          obtain ⟨q, rfl⟩ := asSub_s e3
          simp only [Bool.and_eq_true, decide_eq_true_eq] at h
          obtain ⟨⟨⟨⟨⟨⟨h1, h2⟩, h3⟩, rfl⟩, h5⟩, h6⟩, h7⟩ := h
          exact st_dappl db h1 h2 h3 (hb.trans h5) h6 h7
        · cases h
      · cases h
    · cases h
  | .dsetap i j e, st, h => by simp [okS] at h
  | .popA tg i .no, st, h => by
    unfold okS at h
    split at h
    · rename_i pt pe e1
      obtain ⟨p, rfl⟩ := asAsg_s e1
      split at h
      · rename_i po m b e2
        obtain ⟨ap, cp, rfl, hb⟩ := asMeth_s e2
        simp only [Bool.and_eq_true, decide_eq_true_eq] at h
        obtain ⟨⟨⟨h1, h2⟩, rfl⟩, h4⟩ := h
        exact st_pop db h1 h2 (hb.trans h4)
      · cases h
    · cases h
  | .popA tg i (.yes j), st, h => by simp [okS] at h
  | .ins i j e, st, h => by
    unfold okS at h
    split at h
    · rename_i pe e1
      obtain ⟨p, rfl⟩ := asExpr_s e1
      split at h
      · rename_i po m pj pa b e2
        obtain ⟨ap, cp, rfl, hb⟩ := asMeth_s e2
        simp only [Bool.and_eq_true, decide_eq_true_eq] at h
        obtain ⟨⟨⟨⟨⟨⟨h1, rfl⟩, h3⟩, h4⟩, h5⟩, h6⟩, h7⟩ := h
        exact st_ins db h1 (hb.trans h3) h4 h5 h6 h7
      · cases h
    · cases h
  | .ext i e, st, h => by
    unfold okS at h
    split at h
    · rename_i pe e1
      obtain ⟨p, rfl⟩ := asExpr_s e1
      split at h
      · rename_i po m pa b e2
        obtain ⟨ap, cp, rfl, hb⟩ := asMeth_s e2
        simp only [Bool.and_eq_true, decide_eq_true_eq] at h
        obtain ⟨⟨⟨⟨h1, rfl⟩, h3⟩, h4⟩, h5⟩ := h
        exact st_ext db h1 (hb.trans h3) h4 h5
      · cases h
    · cases h
  | .ifs c a b, st, h => by
    unfold okS at h
    split at h
    · rename_i pc pa pb e1
      obtain ⟨p, rfl⟩ := asIfS_s e1
      simp only [Bool.and_eq_true] at h
      exact st_if db h.1.1 (sSs db a pa h.1.2) (sSs db b pb h.2)
    · cases h
  | .whl c b, st, h => by
    unfold okS at h
    split at h
    · rename_i pc pb e1
      obtain ⟨p, rfl⟩ := asWhl_s e1
      simp only [Bool.and_eq_true] at h
      exact st_whl db h.1 (sSs db b pb h.2)
    · cases h
  | .fr tg it b, st, h => by
    unfold okS at h
    split at h
    · rename_i pt pi pb e1
      obtain ⟨p, rfl⟩ := asFor_s e1
      simp only [Bool.and_eq_true] at h
      exact st_for db h.1.1.1 h.1.1.2 h.1.2.1 h.1.2.2 (sSs db b pb h.2)
    · cases h
  | .ret e, st, h => by
    unfold okS at h
    split at h
    · rename_i pe e1
      obtain ⟨p, rfl⟩ := asRet_s e1
      exact st_ret db h
    · cases h
  | .retN, st, h => by
    unfold okS at h
    split at h
    · rename_i e1
      obtain ⟨p, rfl⟩ := asRet_s e1
      exact st_retN
    · cases h
  | .pass, st, h => by
    unfold okS at h
    split at h
    · exact ps_w ps_pass fun Dn σ H ⟨F0, H0, Fm, F, ρ, P, rr, sm, hw, L⟩ => L.nx F ρ σ H rr sm hw
    · cases h
  | .brk, st, h => by
    unfold okS at h
    split at h
    · exact ps_w ps_break fun Dn σ H ⟨F0, H0, Fm, F, ρ, P, rr, sm, hw, L⟩ => L.bk F ρ σ H rr sm hw
    · cases h
  | .cont, st, h => by
    unfold okS at h
    split at h
    · exact ps_w ps_continue fun Dn σ H ⟨F0, H0, Fm, F, ρ, P, rr, sm, hw, L⟩ => L.ct F ρ σ H rr sm hw
    · cases h
  | .never, st, h => ps_w ps_never fun Dn σ H ⟨F0, H0, Fm, F, ρ, P, rr, sm, hw, L⟩ => hw.elim
theorem sSs {X : Cx} {C : Ck} {G : Gb} {sc : Scope} (db : DB X C G sc) : ∀ (ss : Ss) (sts : List Stmt), okSs C sc ss sts = true → PSs X sts (tSs (kxOf X) (wSs G ss))
  | .nil, [], h => ss_nil
  | .nil, _ :: _, h => by simp [okSs] at h
  | .cons s ss, sts, h => by
    unfold okSs at h
    split at h
    · rename_i i e
      have : s = .frz i := by
        unfold isFrz at e; split at e <;> cases e; rfl
      subst this
      exact ss_frz (sSs db ss sts h)
    · split at h
      · rename_i st sr
        simp only [Bool.and_eq_true] at h
        exact ss_cons (sS db s st h.1) (sSs db ss sr h.2)
      · cases h
end
end PD

set_option maxHeartbeats 2000000
namespace PD
open PySem PySem.Spec PyProof.Rows L2

/-! ### defs -/
def env0 (n : Nat) (ds : List D) : Env := ds.map (fun d => some (Sl.fz d)) ++ List.replicate (n - ds.length) none
/-- a def of the module, called by its name, means f -/
structure FnB (P : Program) (w : World) (K : PySem.W.Frag) (mg : Str → Option Value) (base : Heap) (k : Nat) (y : Str) (f : FnS) : Prop where
  ex : ∃ (a : Addr) (fd : FuncData) (ps : List Str) (ds : List Value) (dvs : List V) (dd : List D) (f0 : FnS), mg y = some (.ref a) ∧ PySem.W.keepIn K (.ref a) = true ∧ Binds K fd ps ds ∧ Vals dvs ds ∧ (∀ P w F, RpAll ⟨K, P, w⟩ F dvs dd) ∧
    FnOk P w K mg base CX0 k a fd ps (spD ⟨K, P, w⟩ f0) ∧ Sh f f0 dd
/-- .. with keywords -/
structure FnBK (P : Program) (w : World) (K : PySem.W.Frag) (mg : Str → Option Value) (base : Heap) (k : Nat) (y : Str) (n : Nat) (ks : List Str) (f : FnS) : Prop where
  ex : ∃ (a : Addr) (fd : FuncData) (ps : List Str), mg y = some (.ref a) ∧ PySem.W.keepIn K (.ref a) = true ∧ KBn K fd ps n ks (fun us ws => us ++ ws) (fun vs zs => vs ++ zs) ∧ FnOk P w K mg base CX0 k a fd ps (spD ⟨K, P, w⟩ f)
def endOf (p : D → Prop) : DP := { nx := fun _ => p .none, rt := p, bk := fun _ => False, ct := fun _ => False }
/-- what is known where a def's body begins -/
structure Known (P : Program) (w : World) (K : PySem.W.Frag) (mg : Str → Option Value) (base : Heap) (C : Ck) (G : Gb) (k : Nat) : Prop where
  bl : ∀ x, C.bl.contains x = true → mg x = none
  fn : ∀ j y, C.fnN j = some y → FnB P w K mg base k y (G.fn j)
  fk : ∀ j y n ks, C.fnK j = some (y, n, ks) → FnBK P w K mg base k y n ks (G.fn j)
  ct : ∀ j y, C.ctN j = some y → ∃ u v, mg y = some u ∧ RelV v u ∧ ∀ P w F, Rp ⟨K, P, w⟩ F v (G.ct j)
theorem gt_app {α : Type} {l r : List (Option α)} {i : Nat} (h : i < l.length) : gt (l ++ r) i = gt l i := by
  unfold gt
  rw [List.getD_eq_getElem?_getD, List.getD_eq_getElem?_getD, List.getElem?_append_left h]
theorem gt_none {α : Type} {l : List (Option α)} {n i : Nat} (h : l.length ≤ i) : gt (l ++ List.replicate n none) i = none := by
  unfold gt
  rw [List.getD_eq_getElem?_getD, List.getElem?_append_right h, List.getElem?_replicate]
  split <;> rfl
theorem start_R {K : Kx} {F H : Hp} {N : List Str} {vs : List V} {ds : List D} (s : Same F H) (q : RpAll K F vs ds) : R K F H F (env0 N.length ds) (L2.start N vs) H := by
  have hl := da_len q
  refine ⟨Ext.refl F H, s, by simp [L2.start, env0, hl], fun _ => [], fun _ => List.nodup_nil, fun i j a h => by simp at h, fun i a h => by simp at h, fun i => ?_⟩
  unfold env0 L2.start
  by_cases hi : i < ds.length
  · rw [gt_app (by rw [List.length_map]; exact hi), gt_app (by rw [List.length_map, hl]; exact hi)]
    obtain ⟨v, hv, rv⟩ := da_get q (List.getElem?_eq_getElem hi)
    have e1 : gt (ds.map fun d => some (Sl.fz d)) i = some (.fz ds[i]) := by
      unfold gt
      rw [List.getD_eq_getElem?_getD, List.getElem?_map, List.getElem?_eq_getElem hi]; rfl
    have e2 : gt (vs.map some) i = some v := by
      unfold gt
      rw [List.getD_eq_getElem?_getD, List.getElem?_map, hv]; rfl
    rw [e1, e2]
    exact ⟨rfl, v, rfl, rv⟩
  · rw [gt_none (by rw [List.length_map]; omega), gt_none (by rw [List.length_map, hl]; omega)]
    exact rfl
theorem fn_ok {P : Program} {w : World} {K : PySem.W.Frag} {mg : Str → Option Value} {base : Heap} {x : Str} {st : Stmt} {f : Addr} {fd : FuncData} {ps : List Str} {C : Ck} {G : Gb} {ss : Ss} {fs : FnS} {k : Nat}
    (kn : Known P w K mg base C G k) (F : Fun K x x st f fd) (S : FnScope C.N ps (defScope st)) (hok : okSs C (defScope st) ss (defBody st) = true) (hk : 1 ≤ k) (har : ∀ ds, fs.pre ds → ds.length = ps.length)
    (hw : ∀ ds, fs.pre ds → wSs G ss (endOf (fs.post ds)) (env0 C.N.length ds)) : FnOk P w K mg base CX0 (k + 1) f fd ps (spD ⟨K, P, w⟩ fs) := by
  refine F.ok S (fun vs H Q E ⟨F0, ds, s, q, h, _⟩ => by rw [da_len q]; exact har ds h) (fun cdv A outer s H vs Q E hr ⟨F0, ds, sm, q, h, kq⟩ => ?_)
  have db : DB (cxOf CX0 P w K mg base C.N x (defScope st) f cdv A outer s H E).nox C G (defScope st) :=
    ⟨⟨rfl, S.nd, rfl, rfl, hr.mono hk, kn.bl, fun j y hy => ⟨let ⟨a, fd, ps, ds, dvs, dd, f0, h1, h2, h3, h4, h5, h6, h7⟩ := (kn.fn j y hy).ex; ⟨a, fd, ps, k, ds, dvs, dd, f0, h1, h2, h3, h4, h5 P w, h6, hr, h7⟩⟩,
      fun j y n ks hy => ⟨let ⟨a, fd, ps, h1, h2, h3, h4⟩ := (kn.fk j y n ks hy).ex; ⟨a, fd, ps, k, h1, h2, h3, h4, hr⟩⟩, fun j y hy => let ⟨u, v, e1, e2, e3⟩ := kn.ct j y hy; ⟨u, v, e1, e2, e3 P w⟩⟩, S.kind, fun _ => rfl, PassesOwn.never⟩
  refine ⟨_, sSs db ss (defBody st) hok, ?_⟩
  exact ⟨F0, H, F0, F0, _, endOf (fs.post ds), start_R sm q, Same.refl F0, hw ds h, ⟨fun F' ρ σ H' r _ hd => kq .none .non F' H' hd r.ext r.sub .non, fun _ _ _ _ _ _ hb => hb.elim, fun _ _ _ _ _ _ hb => hb.elim, fun v F' H' d' e s' rv hd => kq d' v F' H' hd e s' rv⟩⟩
theorem fnB_of {P : Program} {w : World} {K : PySem.W.Frag} {mg : Str → Option Value} {base : Heap} {x : Str} {st : Stmt} {f : Addr} {fd : FuncData} {ps : List Str} {C : Ck} {G : Gb} {ss : Ss} {fs : FnS} {k : Nat}
    (kn : Known P w K mg base C G k) (F : Fun K x x st f fd) (S : FnScope C.N ps (defScope st)) (hok : okSs C (defScope st) ss (defBody st) = true) (hk : 1 ≤ k) (har : ∀ ds, fs.pre ds → ds.length = ps.length)
    (hw : ∀ ds, fs.pre ds → wSs G ss (endOf (fs.post ds)) (env0 C.N.length ds)) (hm : mg x = some (.ref f)) (hb : Binds K fd ps []) : FnB P w K mg base (k + 1) x fs :=
  ⟨f, fd, ps, [], [], [], fs, hm, F.kp, hb, .nil, fun _ _ _ => .nil, fn_ok kn F S hok hk har hw, Sh.self fs⟩
theorem FnB.mono {P : Program} {w : World} {K : PySem.W.Frag} {mg : Str → Option Value} {base : Heap} {j k : Nat} {y : Str} {f : FnS} (b : FnB P w K mg base j y f) (h : j ≤ k) : FnB P w K mg base k y f :=
  let ⟨a, fd, ps, ds, dvs, dd, f0, h1, h2, h3, h4, h5, h6, h7⟩ := b.ex
  ⟨a, fd, ps, ds, dvs, dd, f0, h1, h2, h3, h4, h5, h6.mono h, h7⟩
theorem FnBK.mono {P : Program} {w : World} {K : PySem.W.Frag} {mg : Str → Option Value} {base : Heap} {j k n : Nat} {ks : List Str} {y : Str} {f : FnS} (b : FnBK P w K mg base j y n ks f) (h : j ≤ k) : FnBK P w K mg base k y n ks f :=
  let ⟨a, fd, ps, h1, h2, h3, h4⟩ := b.ex
  ⟨a, fd, ps, h1, h2, h3, h4.mono h⟩
/-- a def under its name, as the head leaves it -/
structure Dn (K : PySem.W.Frag) (mg : Str → Option Value) (x : Str) (st : Stmt) (ps : List Str) : Prop where
  ex : ∃ (f : Addr) (fd : FuncData), Fun K x x st f fd ∧ mg x = some (.ref f) ∧ ∀ us : List Value, us.length = ps.length → bindArgs fd ⟨us, []⟩ = pure (ps.zip us)
theorem Dn.fnB {P : Program} {w : World} {K : PySem.W.Frag} {mg : Str → Option Value} {base : Heap} {x : Str} {st : Stmt} {ps : List Str} (d : Dn K mg x st ps) {C : Ck} {G : Gb} {ss : Ss} {fs : FnS} {k : Nat}
    (kn : Known P w K mg base C G k) (S : FnScope C.N ps (defScope st)) (hok : okSs C (defScope st) ss (defBody st) = true) (hk : 1 ≤ k) (har : ∀ ds, fs.pre ds → ds.length = ps.length)
    (hw : ∀ ds, fs.pre ds → wSs G ss (endOf (fs.post ds)) (env0 C.N.length ds)) : FnB P w K mg base (k + 1) x fs :=
  let ⟨_, _, F, hm, hb⟩ := d.ex
  fnB_of kn F S hok hk har hw hm (Binds.all hb)
/-- the law's promise -/
def scriptOf (ns : List Int) : List D := [.list (ns.map .int)]
def lawS (ok : List Int → Prop) : FnS := ⟨fun ds => ∃ ns, ok ns ∧ ds = scriptOf ns, fun _ d => d = .bool true⟩
theorem ra_ints {K : Kx} {H : Hp} : ∀ ns : List Int, RpAll K H (ns.map V.int) (ns.map PyData.int)
  | [] => .nil
  | n :: ns => .cons (.int n) (ra_ints ns)
theorem law_sp {K : Kx} {ok : List Int → Prop} {H : Hp} {a : Addr} {ns : List Int} (h : ok ns) (hS : SqL K H a (ns.map V.int)) : spD K (lawS ok) [.ref a] H (fun v _ => v = .bl true) fun _ _ _ => False :=
  ⟨H, scriptOf ns, Same.refl H, .cons (.lst hS (ra_ints ns)) .nil, ⟨ns, h, rfl⟩, fun d v F' H' hd _ _ r => by
    have hd : d = .bool true := hd
    subst hd
    cases r; rfl⟩
end PD
namespace PD
open PySem PySem.Spec PyProof.Rows L2
/-! ### lists of what is known -/
abbrev mkCk (N : List Str) (fns cts : List (Nat × Str)) (fks : List (Nat × (Str × Nat × List Str))) (bl : List Str) : Ck := ⟨N, fun k => fns.lookup k, fun k => cts.lookup k, fun k => fks.lookup k, bl⟩
section
variable {P : Program} {w : World} {K : PySem.W.Frag} {mg : Str → Option Value} {base : Heap} {G : Gb} {k : Nat}
inductive AllF (P : Program) (w : World) (K : PySem.W.Frag) (mg : Str → Option Value) (base : Heap) (G : Gb) (k : Nat) : List (Nat × Str) → Prop
  | nil : AllF P w K mg base G k []
  | cons {j : Nat} {y : Str} {l : List (Nat × Str)} : FnB P w K mg base k y (G.fn j) → AllF P w K mg base G k l → AllF P w K mg base G k ((j, y) :: l)
inductive AllK (P : Program) (w : World) (K : PySem.W.Frag) (mg : Str → Option Value) (base : Heap) (G : Gb) (k : Nat) : List (Nat × (Str × Nat × List Str)) → Prop
  | nil : AllK P w K mg base G k []
  | cons {j : Nat} {y : Str} {n : Nat} {ks : List Str} {l : List (Nat × (Str × Nat × List Str))} : FnBK P w K mg base k y n ks (G.fn j) → AllK P w K mg base G k l → AllK P w K mg base G k ((j, y, n, ks) :: l)
inductive AllN (mg : Str → Option Value) : List Str → Prop
  | nil : AllN mg []
  | cons {y : Str} {l : List Str} : mg y = none → AllN mg l → AllN mg (y :: l)
def CtB (K : PySem.W.Frag) (mg : Str → Option Value) (y : Str) (d : D) : Prop := ∃ u v, mg y = some u ∧ RelV v u ∧ ∀ P w F, Rp ⟨K, P, w⟩ F v d
inductive AllC (K : PySem.W.Frag) (mg : Str → Option Value) (G : Gb) : List (Nat × Str) → Prop
  | nil : AllC K mg G []
  | cons {j : Nat} {y : Str} {l : List (Nat × Str)} : CtB K mg y (G.ct j) → AllC K mg G l → AllC K mg G ((j, y) :: l)
theorem AllF.at {l : List (Nat × Str)} (h : AllF P w K mg base G k l) : ∀ j y, l.lookup j = some y → FnB P w K mg base k y (G.fn j) := by
  induction h with
  | nil => intro j y e; cases e
  | @cons i x l b t ih =>
    intro j y e
    rw [List.lookup_cons] at e
    split at e
    · rename_i c
      cases e
      rw [beq_iff_eq.mp c]; exact b
    · exact ih j y e
theorem AllK.at {l : List (Nat × (Str × Nat × List Str))} (h : AllK P w K mg base G k l) : ∀ j y n ks, l.lookup j = some (y, n, ks) → FnBK P w K mg base k y n ks (G.fn j) := by
  induction h with
  | nil => intro j y n ks e; cases e
  | @cons i x m zs l b t ih =>
    intro j y n ks e
    rw [List.lookup_cons] at e
    split at e
    · rename_i c
      cases e
      rw [beq_iff_eq.mp c]; exact b
    · exact ih j y n ks e
theorem AllC.at {l : List (Nat × Str)} (h : AllC K mg G l) : ∀ j y, l.lookup j = some y → CtB K mg y (G.ct j) := by
  induction h with
  | nil => intro j y e; cases e
  | @cons i x l b t ih =>
    intro j y e
    rw [List.lookup_cons] at e
    split at e
    · rename_i c
      cases e
      rw [beq_iff_eq.mp c]; exact b
    · exact ih j y e
theorem AllN.at {l : List Str} (h : AllN mg l) : ∀ x, l.contains x = true → mg x = none := by
  induction h with
  | nil => intro x e; cases e
  | @cons y l b t ih =>
    intro x e
    rw [List.contains_cons, Bool.or_eq_true, beq_iff_eq] at e
    rcases e with rfl | e
    · exact b
    · exact ih x e
theorem known {N : List Str} {fns cts : List (Nat × Str)} {fks : List (Nat × (Str × Nat × List Str))} {bl : List Str} (h1 : AllN mg bl) (h2 : AllF P w K mg base G k fns) (h3 : AllC K mg G cts) (h4 : AllK P w K mg base G k fks := by exact .nil) : Known P w K mg base (mkCk N fns cts fks bl) G k :=
  ⟨h1.at, h2.at, h4.at, h3.at⟩
theorem ct_int {y : Str} {i : Int} {t : Tok} (h : mg y = some (.int i t)) : CtB K mg y (.int i) := ⟨_, .int i, h, ⟨t, rfl⟩, fun _ _ _ => .int i⟩
theorem ct_str {y : Str} {s : Str} {t : Tok} (h : mg y = some (.str s t)) : CtB K mg y (.str s) := ⟨_, .str s, h, ⟨t, rfl⟩, fun _ _ _ => .str s⟩
theorem ra_strs {K : Kx} {F : Hp} : ∀ ss : List Str, RpAll K F (ss.map V.str) (ss.map PyData.str)
  | [] => .nil
  | s :: ss => .cons (.str s) (ra_strs ss)
theorem ct_tupS {y : Str} {ss : List Str} {a : Addr} {o : Obj} {its : Array Value} {n : Nat} (h : mg y = some (.ref a)) (h1 : K.lookup a = some o) (h2 : o.cls = .type "tuple") (h3 : o.data = .seq its n) (h4 : its.size ≤ sizeLine) (h5 : Vals (ss.map V.str) its.toList) : CtB K mg y (.tuple (ss.map .str)) :=
  ⟨_, .ref a, h, rfl, fun P w F => Rp.tup (K := ⟨K, P, w⟩) (.inr ⟨o, its, n, h1, h2, h3, h4, h5⟩) (ra_strs ss)⟩
/-- a def, from the head's facts -/
theorem dn_of {h : Heap} {x : Str} {st : Stmt} {ps : List Str} {f : Addr} {od an : Option Addr} {sl : Array (Option Value)} {oc kV dc pm cd ct : Value} (X : K.In h) (G : h.Ns mainGlobals mg)
    (a : PySem.W.nsIn K mainGlobals x = some (some (.ref f))) (l : K.lookup f = some ⟨oc, od, .func (PySem.W.fnOf x x (defArgs st) (defBody st) (defScope st) .none kV dc pm an cd ct), sl⟩) (c : PySem.W.codeIn K cd x = true) (k : PySem.W.keepIn K (.ref f) = true)
    (hb : ∀ (kV doc pm : Value) (an : Option Addr) (cdv ct : Value) (us : List Value), us.length = ps.length → bindArgs (PySem.W.fnOf x x (defArgs st) (defBody st) (defScope st) .none kV doc pm an cdv ct) ⟨us, []⟩ = pure (ps.zip us)) : Dn K mg x st ps :=
  have F := fun_mk (st := st) l c k
  ⟨f, _, F, PySem.W.mg_of X G a, fun us hl => hb kV dc pm an cd ct us hl⟩
/-- keyword-only parameters' values, as the head leaves them -/
inductive KwF (K : PySem.W.Frag) (A : Addr) : List (Str × V) → Prop
  | nil : KwF K A []
  | cons {x : Str} {v : V} {u : Value} {l : List (Str × V)} : PySem.W.nsIn K A x = some (some u) → RelV v u → KwF K A l → KwF K A ((x, v) :: l)
theorem KwF.at {A : Addr} {l : List (Str × V)} (h : KwF K A l) : ∀ q ∈ l, ∃ u, PySem.W.nsIn K A q.1 = some (some u) ∧ RelV q.2 u := by
  induction h with
  | nil => intro q hq; cases hq
  | cons a b t ih =>
    intro q hq
    rcases List.mem_cons.mp hq with rfl | hq
    · exact ⟨_, a, b⟩
    · exact ih q hq
/-- a def with keyword-only parameters (names ks, values dd where they lack) behind n others -/
structure DnK (K : PySem.W.Frag) (mg : Str → Option Value) (x : Str) (st : Stmt) (ps : List Str) (n : Nat) (ks : List Str) (dd : List D) : Prop where
  ex : ∃ (f : Addr) (fd : FuncData) (ds : List Value) (dvs : List V), Fun K x x st f fd ∧ mg x = some (.ref f) ∧ Binds K fd ps ds ∧ Vals dvs ds ∧ (∀ P w F, RpAll ⟨K, P, w⟩ F dvs dd) ∧ KBn K fd ps n ks (fun us ws => us ++ ws) (fun vs zs => vs ++ zs)
theorem dnk_of {h : Heap} {x : Str} {st : Stmt} {ps : List Str} {f A : Addr} {od an : Option Addr} {sl : Array (Option Value)} {oc dc pm cd ct : Value} {n : Nat} {kws : List (Str × V)} {dd : List D} (X : K.In h) (G : h.Ns mainGlobals mg)
    (a : PySem.W.nsIn K mainGlobals x = some (some (.ref f))) (l : K.lookup f = some ⟨oc, od, .func (PySem.W.fnOf x x (defArgs st) (defBody st) (defScope st) .none (.ref A) dc pm an cd ct), sl⟩) (c : PySem.W.codeIn K cd x = true) (k : PySem.W.keepIn K (.ref f) = true)
    (q : KwF K A kws) (hd : ∀ P w F, RpAll ⟨K, P, w⟩ F (kws.map (·.2)) dd) (hn : n + kws.length = ps.length)
    (hb : ∀ (doc pm : Value) (an : Option Addr) (cdv ct : Value) (us ks : List Value), us.length = n → ks.length = kws.length → KwChain A ((kws.map (·.1)).zip ks) (bindArgs (PySem.W.fnOf x x (defArgs st) (defBody st) (defScope st) .none (.ref A) doc pm an cdv ct) ⟨us, []⟩) (ps.zip (us ++ ks)))
    (hk : ∀ (doc pm : Value) (an : Option Addr) (cdv ct : Value) (us ws : List Value), us.length = n → ws.length = kws.length → bindArgs (PySem.W.fnOf x x (defArgs st) (defBody st) (defScope st) .none (.ref A) doc pm an cdv ct) ⟨us, (kws.map (·.1)).zip ws⟩ = pure (ps.zip (us ++ ws))) :
    DnK K mg x st ps n (kws.map (·.1)) dd := by
  obtain ⟨ks, hl, rk, hks⟩ := kwd_vals q.at
  refine ⟨f, _, ks, _, fun_mk (st := st) l c k, PySem.W.mg_of X G a, fun s us XI hlen => ?_, rk, hd, ⟨fun s us ws XI l1 l2 => .of_eq (hk dc pm an cd ct us ws l1 (by rw [l2, List.length_map])), fun r1 r2 => r1.append r2⟩⟩
  have l2 : us.length = n := by
    rw [List.length_append, hl] at hlen
    omega
  exact BindsTo.of_looks fun M => KwChain.looks XI hks (hb dc pm an cd ct us ks l2 hl)
theorem DnK.fnB {x : Str} {st : Stmt} {ps : List Str} {n : Nat} {ks : List Str} {dd : List D} (d : DnK K mg x st ps n ks dd) {C : Ck} {ss : Ss} {fs f : FnS}
    (kn : Known P w K mg base C G k) (S : FnScope C.N ps (defScope st)) (hok : okSs C (defScope st) ss (defBody st) = true) (hk : 1 ≤ k) (har : ∀ ds, fs.pre ds → ds.length = ps.length)
    (hw : ∀ ds, fs.pre ds → wSs G ss (endOf (fs.post ds)) (env0 C.N.length ds)) (sh : Sh f fs dd) : FnB P w K mg base (k + 1) x f ∧ FnBK P w K mg base (k + 1) x n ks fs :=
  let ⟨a, fd, ds, dvs, F, hm, hb, hv, hd, hkb⟩ := d.ex
  ⟨⟨a, fd, ps, ds, dvs, dd, fs, hm, F.kp, hb, hv, hd, fn_ok kn F S hok hk har hw, sh⟩, ⟨a, fd, ps, hm, F.kp, hkb, fn_ok kn F S hok hk har hw⟩⟩
/-- a promise of nothing -/
theorem fnok_bot {a : Addr} {fd : FuncData} {ps : List Str} {f : FnS} (hf : ∀ ds, ¬ f.pre ds) : FnOk P w K mg base CX0 k a fd ps (spD ⟨K, P, w⟩ f) :=
  ⟨fun _ _ _ _ ⟨_, ds, _, _, h, _⟩ => (hf ds h).elim, fun _ _ _ _ _ _ _ _ _ _ _ _ _ ⟨_, ds, _, _, h, _⟩ => (hf ds h).elim⟩
theorem Dn.bot {x : Str} {st : Stmt} {ps : List Str} (d : Dn K mg x st ps) {f : FnS} (hf : ∀ ds, ¬ f.pre ds) : FnB P w K mg base k x f :=
  let ⟨a, fd, F, hm, hb⟩ := d.ex
  ⟨a, fd, ps, [], [], [], f, hm, F.kp, Binds.all hb, .nil, fun _ _ _ => .nil, fnok_bot hf, Sh.self f⟩
theorem DnK.bot {x : Str} {st : Stmt} {ps : List Str} {n : Nat} {ks : List Str} {dd : List D} (d : DnK K mg x st ps n ks dd) {f : FnS} (hf : ∀ ds, ¬ f.pre ds) : FnBK P w K mg base k x n ks f :=
  let ⟨a, fd, ds, dvs, F, hm, hb, hv, hd, hkb⟩ := d.ex
  ⟨a, fd, ps, hm, F.kp, hkb, fnok_bot hf⟩
/-- the law, for the end -/
theorem law_fin {x p : Str} {st : Stmt} {fa : Addr} (d : Dn K mg x st [p]) (hm : mg x = some (.ref fa)) {C : Ck} {ss : Ss} {fs : FnS} {Q : Heap → Prop}
    (kn : ∀ base, Q base → Known P w K mg base C G k) (S : FnScope C.N [p] (defScope st)) (hok : okSs C (defScope st) ss (defBody st) = true) (hk : 1 ≤ k) (har : ∀ ds, fs.pre ds → ds.length = [p].length)
    (hw : ∀ ds, fs.pre ds → wSs G ss (endOf (fs.post ds)) (env0 C.N.length ds)) :
    ∃ fd : FuncData, (∀ (s : Shared) (u : Value), BindsTo s fd ⟨[u], []⟩ [(p, u)]) ∧ ∀ base : Heap, Q base → FnOk P w K mg base CX0 (k + 1) fa fd [p] (spD ⟨K, P, w⟩ fs) := by
  obtain ⟨f, fd, F, h1, hb⟩ := d.ex
  cases hm.symm.trans h1
  exact ⟨fd, fun s u => .of_eq (hb [u] rfl), fun base hq => fn_ok (kn base hq) F S hok hk har hw⟩
end
end PD

namespace PD
open PySem PySem.Spec PyProof.Rows L2

/-! ### the meanings, step by step: loops and comprehensions stay folded -/
def wWhlE (G : Gb) (c : E) (b : Ss) (P : DP) (ρ : Env) : Prop := wWhl (fun ρ Q => wE G .tst c ρ fun x => ∃ k, x = .bool k ∧ Q k) (wSs G b) P ρ
def wForE (G : Gb) (tg : Tg) (b : Ss) (P : DP) (ds : List D) (ρ : Env) : Prop := wFor (wG tg) (wSs G b) P ds ρ
def wMapE (G : Gb) (own : List (Str × Nat)) (elt : E) (tg : Tg) (cs : Eo) (ρ : Env) (ds acc : List D) (Q : List D → Prop) : Prop :=
  wMap (fun d K => wG tg d (wipeE ρ (own.map (·.2))) fun ρ' => wC G cs ρ' fun k => if k = true then wE G (.t 0) elt ρ' fun y => K (some y) else K none) ds acc Q
def wMapN (G : Gb) (vs : List Nat) (elt : E) (tg : Tg) (cs : Eo) (ρ : Env) (ds acc : List D) (Q : List D → Prop) : Prop :=
  wMap (fun d K => wG tg d (wipeE ρ vs) fun ρ' => wC G cs ρ' fun k => if k = true then wE G (.t 0) elt ρ' fun y => K (some y) else K none) ds acc Q
def wMap2E (G : Gb) (own : List (Str × Nat)) (elt : E) (tg : Tg) (cs : Eo) (vs1 : List Nat) (tg1 : Tg) (it1 : I) (cs1 : Eo) (M : Nat) (ρ : Env) (ds acc : List D) (Q : List D → Prop) : Prop :=
  wMapL (fun d K => wG tg d (dropOw (wipeE ρ (own.map (·.2)))) fun ρ2 => wC G cs ρ2 fun k => if k = true then wI G 0 it1 ρ2 fun ds1 => ds1.length ≤ M ∧ wMapN G vs1 elt tg1 cs1 ρ2 ds1 [] K else K []) ds acc Q
def wVar (md : Md) (s : Option Sl) (Q : D → Prop) : Prop := match s with
    | some (.fz d) => fin md Q d
    | some (.ow ds) => (match md with
      | .t (_ + 1) => Q (.list ds)
      | .tst => Q (.bool (!ds.isEmpty))
      | _ => False)
    | some (.ow2 dss) => (match md with
      | .t (_ + 2) => Q (.list (dss.map .list))
      | .tst => Q (.bool (!dss.isEmpty))
      | _ => False)
    | some (.od kvs) => (match md with
      | .t (_ + 1) => Q (.dict kvs)
      | .tst => Q (.bool (!kvs.isEmpty))
      | _ => False)
    | some (.odl kvs) => (match md with
      | .t (_ + 2) => Q (.dict (kvs.map fun p => (p.1, .list p.2)))
      | .tst => Q (.bool (!kvs.isEmpty))
      | _ => False)
    | none => False
/-- a new list or dict under a name -/
def wNew (i : Nat) (ρ : Env) (P : Env → Prop) (d : D) : Prop := i < ρ.length ∧ (match d with
    | .list ds => P (ρ.set i (some (.ow ds)))
    | .dict kvs => P (ρ.set i (some (.od kvs)))
    | _ => False)
def wMapDE (G : Gb) (own : List (Str × Nat)) (ke ve : E) (tg : Tg) (cs : Eo) (ρ : Env) (ds : List D) (acc : List (D × D)) (Q : List (D × D) → Prop) : Prop :=
  wMapD (fun d K => wG tg d (wipeE ρ (own.map (·.2))) fun ρ' => wC G cs ρ' fun k => if k = true then wE G (.t 0) ke ρ' fun x => wE G (.t 0) ve ρ' fun y => K (some (x, y)) else K none) ds acc Q
def wFrz (ss : Env → Prop) (i : Nat) (ρ : Env) (s : Option Sl) : Prop := match s with
    | some (.fz _) => ss ρ
    | some (.ow ds) => ss (ρ.set i (some (.fz (.list ds))))
    | some (.ow2 dss) => ss (ρ.set i (some (.fz (.list (dss.map .list)))))
    | some (.od kvs) => ss (ρ.set i (some (.fz (.dict kvs))))
    | some (.odl kvs) => ss (ρ.set i (some (.fz (.dict (kvs.map fun p => (p.1, .list p.2))))))
    | none => ss ρ
section
variable {G : Gb} {md : Md} {ρ : Env} {Q : D → Prop} {P : DP} {n : Nat} {i : Nat} {a b c e j k : E} {es : Es} {ss t u : Ss} {s : S} {d : D} {x : Option Sl} {l : Env}
theorem x_var : wE G md (.var i) ρ Q = wVar md (gt ρ i) Q := rfl
theorem x_v0 {ds : List D} : wVar md (some (.fz d)) Q = fin md Q d := rfl
theorem x_v1 {ds : List D} : wVar (.t (n + 1)) (some (.ow ds)) Q = Q (.list ds) := rfl
theorem x_v11 {ds : List D} : wVar (.t 1) (some (.ow ds)) Q = Q (.list ds) := rfl
theorem x_v12 {ds : List D} : wVar (.t 2) (some (.ow ds)) Q = Q (.list ds) := rfl
theorem x_v13 {ds : List D} : wVar (.t 3) (some (.ow ds)) Q = Q (.list ds) := rfl
theorem x_v23 {dss : List (List D)} : wVar (.t 3) (some (.ow2 dss)) Q = Q (.list (dss.map .list)) := rfl
theorem x_v2t {dss : List (List D)} : wVar .tst (some (.ow2 dss)) Q = Q (.bool (!dss.isEmpty)) := rfl
theorem x_v1t {ds : List D} : wVar .tst (some (.ow ds)) Q = Q (.bool (!ds.isEmpty)) := rfl
theorem x_v22 {dss : List (List D)} : wVar (.t 2) (some (.ow2 dss)) Q = Q (.list (dss.map .list)) := rfl
theorem x_w11 {ds : List (D × D)} : wVar (.t 1) (some (.od ds)) Q = Q (.dict ds) := rfl
theorem x_w12 {ds : List (D × D)} : wVar (.t 2) (some (.od ds)) Q = Q (.dict ds) := rfl
theorem x_w13 {ds : List (D × D)} : wVar (.t 3) (some (.od ds)) Q = Q (.dict ds) := rfl
theorem x_w1t {ds : List (D × D)} : wVar .tst (some (.od ds)) Q = Q (.bool (!ds.isEmpty)) := rfl
theorem x_w22 {ds : List (D × List D)} : wVar (.t 2) (some (.odl ds)) Q = Q (.dict (ds.map fun p => (p.1, .list p.2))) := rfl
theorem x_w23 {ds : List (D × List D)} : wVar (.t 3) (some (.odl ds)) Q = Q (.dict (ds.map fun p => (p.1, .list p.2))) := rfl
theorem x_dnew : wE G md .dnew ρ Q = finD md Q [] := rfl
theorem x_dget {o : E} : wE G md (.dget o k e) ρ Q = wE G (.t 1) o ρ fun d => ∃ kvs, d = .dict kvs ∧ wE G (.t 0) k ρ fun y => wE G (.t 0) e ρ fun z => keyD y = true ∧ uniD (kvs.map (·.1)) y = true ∧ fin md Q ((dget kvs y).getD z) := rfl
theorem x_dcm {own : List (Str × Nat)} {tg : Tg} {it : I} {cs : Eo} : wE G md (.dcm own k e tg it cs) ρ Q = wI G 1 it ρ fun ds => ds.length ≤ sizeLine ∧ wMapDE G own k e tg cs ρ ds [] (finD md Q) := rfl
theorem x_chn {op op' : CmpOp} : wE G md (.chn op op' a b c) ρ Q = wE G (.t 2) a ρ fun x => wE G (.t 2) b ρ fun y => wCmp op x y fun k => if k = true then wE G (.t 2) c ρ fun z => wCmp op' y z fun k' => fin md Q (.bool k') else fin md Q (.bool false) := rfl
theorem x_lrg : wE G md (.lrg a) ρ Q = wE G (.t 0) a ρ fun d => ∃ j, d = .int j ∧ (-(2 ^ 62) ≤ j ∧ j ≤ 16777216) ∧ finL md Q ((List.range j.toNat).map fun (k : Nat) => .int k) := rfl
theorem x_en {q : List D → Prop} : wI G n (.en e) ρ q = wE G (.t n) e ρ fun d => ∃ ds, seqOf d = some ds ∧ q (enD 0 ds) := rfl
theorem x_zp {q : List D → Prop} : wI G n (.zp a b) ρ q = wE G (.t n) a ρ fun d => wE G (.t n) b ρ fun e => ∃ ds es, seqOf d = some ds ∧ seqOf e = some es ∧ q (zpD ds es) := rfl
theorem x_zp3 {q : List D → Prop} : wI G n (.zp3 a b c) ρ q = wE G (.t n) a ρ fun d => wE G (.t n) b ρ fun e => wE G (.t n) c ρ fun f => ∃ ds es fs, seqOf d = some ds ∧ seqOf e = some es ∧ seqOf f = some fs ∧ q (zp3D ds es fs) := rfl
theorem x_fDt {ds : List (D × D)} : finD (.t n) Q ds = Q (.dict ds) := rfl
theorem x_fDf {ds : List (D × D)} : finD .fr Q ds = Q (.dict ds) := rfl
theorem x_fBd {ds : List (D × D)} : finB md Q (.dict ds) = finD md Q ds := rfl
theorem x_d5 {ds : List (D × D)} : dropOw (some (.od ds) :: l) = none :: dropOw l := rfl
theorem x_d6 {ds : List (D × List D)} : dropOw (some (.odl ds) :: l) = none :: dropOw l := rfl
theorem x_trl {ds : List D} {q : Bool → Prop} : wTr (.list ds) q = q (!ds.isEmpty) := rfl
theorem x_trt {ds : List D} {q : Bool → Prop} : wTr (.tuple ds) q = q (!ds.isEmpty) := rfl
theorem x_trn {q : Bool → Prop} : wTr .none q = q false := rfl
theorem x_trs {z : Str} {q : Bool → Prop} : wTr (.str z) q = (z.length ≤ sizeLine ∧ q ((z.length : Int) != 0)) := rfl
theorem x_aug {op : Operator} : wS G (.aug i op e) P ρ = ∃ x, gt ρ i = some (.fz x) ∧ augOk op x = true ∧ wE G (.t 0) e ρ fun y => wBin op x y fun z => isCon z = false ∧ P.nx (ρ.set i (some (.fz z))) := rfl
theorem x_ownd2 : wS G (.ownd2 i) P ρ = (i < ρ.length ∧ P.nx (ρ.set i (some (.odl [])))) := rfl
theorem x_dput : wS G (.dput i k e) P ρ = ∃ kvs, gt ρ i = some (.od kvs) ∧ wE G (.t 0) e ρ fun v => wE G (.t 0) k ρ fun x => (keyD x = true ∧ uniD (kvs.map (·.1)) x = true ∧ kvs.length < sizeLine) ∧ P.nx (ρ.set i (some (.od (dput kvs x v)))) := rfl
theorem x_dputl : wS G (.dputl i k e) P ρ = ∃ kvs, gt ρ i = some (.odl kvs) ∧ wE G .fr e ρ fun d => ∃ ds, d = .list ds ∧ wE G (.t 0) k ρ fun x => (keyD x = true ∧ uniD (kvs.map (fun p => p.1)) x = true ∧ kvs.length < sizeLine ∧ (kvs.map (fun (p : D × List D) => p.1)).Nodup) ∧ P.nx (ρ.set i (some (.odl (lput kvs x ds)))) := rfl
theorem x_dappl : wS G (.dappl i k e) P ρ = ∃ kvs, gt ρ i = some (.odl kvs) ∧ wE G (.t 0) k ρ fun x => ∃ ds, (keyD x = true ∧ uniD (kvs.map (·.1)) x = true ∧ lget kvs x = some ds) ∧ wE G (.t 0) e ρ fun d => ds.length < sizeLine ∧ P.nx (ρ.set i (some (.odl (lput kvs x (ds ++ [d]))))) := rfl
theorem x_pop {tg : Tg} : wS G (.popA tg i .no) P ρ = ∃ ds, gt ρ i = some (.ow ds) ∧ ∃ d, ds.getLast? = some d ∧ wG tg d (ρ.set i (some (.ow ds.dropLast))) P.nx := rfl
theorem x_ins : wS G (.ins i j e) P ρ = ∃ ds, gt ρ i = some (.ow ds) ∧ wE G (.t 0) j ρ fun y => wE G (.t 0) e ρ fun d => ∃ k, y = .int k ∧ (0 ≤ k ∧ k < 2 ^ 63 ∧ ds.length < sizeLine) ∧ P.nx (ρ.set i (some (.ow (ds.take k.toNat ++ [d] ++ ds.drop k.toNat)))) := rfl
theorem x_ext : wS G (.ext i e) P ρ = ∃ ds, gt ρ i = some (.ow ds) ∧ wE G (.t 1) e ρ fun d => ∃ es, lsOf d = some es ∧ ds.length + es.length ≤ sizeLine ∧ P.nx (ρ.set i (some (.ow (ds ++ es)))) := rfl
theorem x_nwL {q : Env → Prop} {ds : List D} : wNew i ρ q (.list ds) = (i < ρ.length ∧ q (ρ.set i (some (.ow ds)))) := rfl
theorem x_nwD {q : Env → Prop} {ds : List (D × D)} : wNew i ρ q (.dict ds) = (i < ρ.length ∧ q (ρ.set i (some (.od ds)))) := rfl
theorem n_int {i : Int} : noDc (.int i) = true := rfl
theorem n_bl {i : Bool} : noDc (.bool i) = true := rfl
theorem n_str {i : Str} : noDc (.str i) = true := rfl
theorem n_lst {i : List D} : noDc (.list i) = true := rfl
theorem n_tup {i : List D} : noDc (.tuple i) = true := rfl
theorem n_non : noDc .none = true := rfl
theorem g_int {i : Int} {op : Operator} : augOk op (.int i) = true := by cases op <;> rfl
theorem k_int {i : Int} : isCon (.int i) = false := rfl
theorem x_ct {k : Nat} : wE G md (.ct k) ρ Q = fin md Q (G.ct k) := rfl
theorem x_non : wE G md .non ρ Q = fin md Q .none := rfl
theorem x_bl {b : Bool} : wE G md (.bl b) ρ Q = fin md Q (.bool b) := rfl
theorem x_int {i : Int} : wE G md (.int i) ρ Q = fin md Q (.int i) := rfl
theorem x_str {x : List Nat} : wE G md (.str x) ρ Q = fin md Q (.str ⟨x.toArray⟩) := rfl
theorem x_bin {op : Operator} : wE G md (.bin op a b) ρ Q = wE G (.t 1) a ρ fun x => wE G (.t 1) b ρ fun y => wBin op x y (finB md Q) := rfl
theorem x_neg : wE G md (.neg a) ρ Q = wE G (.t 0) a ρ fun x => ∃ i, x = .int i ∧ fin md Q (.int (-i)) := rfl
theorem x_cmp {op : CmpOp} : wE G md (.cmp op a b) ρ Q = wE G (.t 2) a ρ fun x => wE G (.t 2) b ρ fun y => wCmp op x y fun c => fin md Q (.bool c) := rfl
theorem x_bopt {cj : Bool} : wE G .tst (.bop cj es) ρ Q = wTs G cj es ρ Q := rfl
theorem x_bopv {cj : Bool} : wE G (.t n) (.bop cj es) ρ Q = wBs G cj es ρ Q := rfl
theorem x_nt : wE G .tst (.nt a) ρ Q = wE G .tst a ρ fun x => ∃ c, x = .bool c ∧ Q (.bool (!c)) := rfl
theorem x_ntv : wE G (.t n) (.nt a) ρ Q = wE G (.t 0) a ρ fun x => ∃ c, x = .bool c ∧ Q (.bool (!c)) := rfl
theorem x_ifx : wE G md (.ifx c a b) ρ Q = wE G .tst c ρ fun x => ∃ k, x = .bool k ∧ (if k = true then wE G md a ρ Q else wE G md b ρ Q) := rfl
theorem x_ix {i : E} : wE G (.t n) (.ix a i) ρ Q = wE G (.t (n + 1)) a ρ fun x => wE G (.t 0) i ρ fun y => wIx x y Q := rfl
theorem x_ixt {i : E} : wE G .tst (.ix a i) ρ Q = wE G (.t 1) a ρ fun x => wE G (.t 0) i ρ fun y => wIx x y fun z => wTr z fun b => Q (.bool b) := rfl
theorem x_sl {lo hi : Eo} : wE G md (.sl a lo hi) ρ Q = wE G (.t 1) a ρ fun x => wEo G lo ρ fun l => wEo G hi ρ fun h => wSl x l h (finB md Q) := rfl
theorem x_call {k : Nat} : wE G md (.call k es) ρ Q = wEs G 0 es ρ fun ds => (G.fn k).pre ds ∧ ∀ d, (G.fn k).post ds d → fin md Q d := rfl
theorem x_callk {k n : Nat} {ks : List Str} {kes : Es} : wE G md (.callk k n es ks kes) ρ Q = wEs G 0 es ρ fun ds => wEs G 0 kes ρ fun zs => (ds.length = n ∧ zs.length = ks.length) ∧ (G.fn k).pre (ds ++ zs) ∧ ∀ d, (G.fn k).post (ds ++ zs) d → fin md Q d := rfl
theorem x_blt {b : Bl} : wE G md (.blt b es) ρ Q = wEs G (bLv b + 1) es ρ fun ds => wBl b ds (finB md Q) := rfl
theorem x_isi {ts : List String} : wE G md (.isi a ts) ρ Q = wE G (.t 2) a ρ fun x => noDc x = true ∧ fin md Q (.bool (ts.any (isOne x))) := rfl
theorem x_mth {m : Mt} : wE G md (.mth m a es) ρ Q = wE G (.t 1) a ρ fun x => tyN x = mtTy m ∧ wEs G 1 es ρ fun ds => wMt m x ds (finB md Q) := rfl
theorem x_tup : wE G md (.tup es) ρ Q = wEs G 0 es ρ fun ds => ds.length ≤ sizeLine ∧ fin md Q (.tuple ds) := rfl
theorem x_lst : wE G md (.lst es) ρ Q = wEs G 0 es ρ fun ds => ds.length ≤ sizeLine ∧ finL md Q ds := rfl
theorem x_lc {own : List (Str × Nat)} {tg : Tg} {it : I} {cs : Eo} : wE G md (.lc own e tg it cs) ρ Q = wI G 1 it ρ fun ds => ds.length ≤ sizeLine ∧ wMapE G own e tg cs ρ ds [] (finL md Q) := rfl
theorem x_lc2 {own : List (Str × Nat)} {tg : Tg} {it : I} {cs : Eo} {vs1 : List Nat} {tg1 : Tg} {it1 : I} {cs1 : Eo} : wE G md (.lc2 own e tg it cs vs1 tg1 it1 cs1) ρ Q = wI G 1 it ρ fun ds => ∃ M, ds.length * M ≤ sizeLine ∧ wMap2E G own e tg cs vs1 tg1 it1 cs1 M ρ ds [] (finL md Q) := rfl
theorem x_d0 : dropOw [] = [] := rfl
theorem x_d1 : dropOw (some (.fz d) :: l) = some (.fz d) :: dropOw l := rfl
theorem x_d2 {ds : List D} : dropOw (some (.ow ds) :: l) = none :: dropOw l := rfl
theorem x_d3 {ds : List (List D)} : dropOw (some (.ow2 ds) :: l) = none :: dropOw l := rfl
theorem x_d4 : dropOw (none :: l) = none :: dropOw l := rfl
theorem x_ts0 {cj : Bool} : wTs G cj (.cons e .nil) ρ Q = wE G .tst e ρ Q := rfl
theorem x_ts1 {cj : Bool} {e2 : E} {es2 : Es} : wTs G cj (.cons e (.cons e2 es2)) ρ Q = wE G .tst e ρ fun x => ∃ c, x = .bool c ∧ (if c = cj then wTs G cj (.cons e2 es2) ρ Q else Q (.bool (!cj))) := rfl
theorem x_bs0 {cj : Bool} : wBs G cj (.cons e .nil) ρ Q = wE G (.t 0) e ρ Q := rfl
theorem x_bs1 {cj : Bool} {e2 : E} {es2 : Es} : wBs G cj (.cons e (.cons e2 es2)) ρ Q = wE G (.t 0) e ρ fun x => ∃ c, x = .bool c ∧ (if c = cj then wBs G cj (.cons e2 es2) ρ Q else Q (.bool (!cj))) := rfl
theorem x_c0 {q : Bool → Prop} : wC G .no ρ q = q true := rfl
theorem x_c1 {q : Bool → Prop} : wC G (.yes e) ρ q = wE G .tst e ρ fun x => ∃ b, x = .bool b ∧ q b := rfl
theorem x_eo0 {q : Option Int → Prop} : wEo G .no ρ q = q none := rfl
theorem x_eo1 {q : Option Int → Prop} : wEo G (.yes e) ρ q = wE G (.t 0) e ρ fun d => ∃ i, d = .int i ∧ q (some i) := rfl
theorem x_es0 {q : List D → Prop} : wEs G n .nil ρ q = q [] := rfl
theorem x_es1 {q : List D → Prop} : wEs G n (.cons e es) ρ q = wE G (.t n) e ρ fun d => wEs G n es ρ fun ds => q (d :: ds) := rfl
theorem x_ls {q : List D → Prop} : wI G n (.ls e) ρ q = wE G (.t n) e ρ fun d => ∃ ds, seqOf d = some ds ∧ q ds := rfl
theorem x_r1 {q : List D → Prop} : wI G n (.r1 a) ρ q = wE G (.t 0) a ρ fun d => ∃ j, d = .int j ∧ (-(2 ^ 62) ≤ j ∧ j < 2 ^ 62) ∧ q ((List.range j.toNat).map fun (k : Nat) => .int k) := rfl
theorem x_r2 {q : List D → Prop} : wI G n (.r2 a b) ρ q = wE G (.t 0) a ρ fun d => wE G (.t 0) b ρ fun e => ∃ i j, d = .int i ∧ e = .int j ∧ (-(2 ^ 62) ≤ i ∧ i < 2 ^ 62 ∧ -(2 ^ 62) ≤ j ∧ j < 2 ^ 62) ∧ q ((List.range (j - i).toNat).map fun (k : Nat) => .int (i + k)) := rfl
theorem x_ft : fin (.t n) Q d = Q d := rfl
theorem x_ftst : fin .tst Q d = wTr d fun b => Q (.bool b) := rfl
theorem x_fLt {ds : List D} : finL (.t n) Q ds = Q (.list ds) := rfl
theorem x_fLf {ds : List D} : finL .fr Q ds = Q (.list ds) := rfl
theorem x_fBl {ds : List D} : finB md Q (.list ds) = finL md Q ds := rfl
theorem x_fBi {i : Int} : finB md Q (.int i) = fin md Q (.int i) := rfl
theorem x_fBs {i : Str} : finB md Q (.str i) = fin md Q (.str i) := rfl
theorem x_fBb {i : Bool} : finB md Q (.bool i) = fin md Q (.bool i) := rfl
theorem x_fBt {i : List D} : finB md Q (.tuple i) = fin md Q (.tuple i) := rfl
theorem x_trb {b : Bool} {q : Bool → Prop} : wTr (.bool b) q = q b := rfl
theorem x_tri {b : Int} {q : Bool → Prop} : wTr (.int b) q = q (b != 0) := rfl
theorem x_rv {q : List D → Prop} : wI G n (.rv e) ρ q = wE G (.t n) e ρ fun d => ∃ ds, lsOf d = some ds ∧ q ds.reverse := rfl
theorem x_rr1 {q : List D → Prop} : wI G n (.rr1 a) ρ q = wE G (.t 0) a ρ fun d => ∃ j, d = .int j ∧ (-(2 ^ 62) ≤ j ∧ j < 2 ^ 62) ∧ q ((List.range j.toNat).map fun (k : Nat) => .int k).reverse := rfl
theorem x_rr2 {q : List D → Prop} : wI G n (.rr2 a b) ρ q = wE G (.t 0) a ρ fun d => wE G (.t 0) b ρ fun e => ∃ i j, d = .int i ∧ e = .int j ∧ (-(2 ^ 62) ≤ i ∧ i < 2 ^ 62 ∧ -(2 ^ 62) ≤ j ∧ j < 2 ^ 62) ∧ q ((List.range (j - i).toNat).map fun (k : Nat) => .int (i + k)).reverse := rfl
theorem o_ls {s : List D} : lsOf (.list s) = some s := rfl
theorem o_tp {s : List D} : lsOf (.tuple s) = some s := rfl
-- statements
theorem x_nil : wSs G .nil P ρ = P.nx ρ := rfl
theorem x_cons : wSs G (.cons s ss) P ρ = wS G s { P with nx := wSs G ss P } ρ := rfl
theorem x_asg {tg : Tg} : wS G (.asg tg e) P ρ = wE G (.t 0) e ρ fun d => wG tg d ρ P.nx := rfl
theorem x_own : wS G (.own i e) P ρ = wE G .fr e ρ (wNew i ρ P.nx) := rfl
theorem x_own2 : wS G (.own2 i) P ρ = (i < ρ.length ∧ P.nx (ρ.set i (some (.ow2 [])))) := rfl
theorem x_frz : wS G (.frz i) P ρ = wFrz P.nx i ρ (gt ρ i) := rfl
theorem x_app : wS G (.app i e) P ρ = ∃ ds, gt ρ i = some (.ow ds) ∧ wE G (.t 0) e ρ fun d => ds.length < sizeLine ∧ P.nx (ρ.set i (some (.ow (ds ++ [d])))) := rfl
theorem x_app2 : wS G (.app2 i e) P ρ = ∃ dss, gt ρ i = some (.ow2 dss) ∧ wE G .fr e ρ fun d => ∃ ds, d = .list ds ∧ dss.length < sizeLine ∧ P.nx (ρ.set i (some (.ow2 (dss ++ [ds])))) := rfl
theorem x_appI : wS G (.appI i j e) P ρ = ∃ dss, gt ρ i = some (.ow2 dss) ∧ wE G (.t 0) j ρ fun y => ∃ k n ds, y = .int k ∧ ixN dss.length k = some n ∧ dss[n]? = some ds ∧ wE G (.t 0) e ρ fun d => ds.length < sizeLine ∧ P.nx (ρ.set i (some (.ow2 (dss.set n (ds ++ [d]))))) := rfl
theorem x_seti : wS G (.seti i j e) P ρ = ∃ ds, gt ρ i = some (.ow ds) ∧ wE G (.t 0) e ρ fun d => wE G (.t 0) j ρ fun y => ∃ k n, y = .int k ∧ ixN ds.length k = some n ∧ P.nx (ρ.set i (some (.ow (ds.set n d)))) := rfl
theorem x_set2 : wS G (.set2 i j k e) P ρ = ∃ dss, gt ρ i = some (.ow2 dss) ∧ wE G (.t 0) e ρ fun d => wE G (.t 0) j ρ fun y => ∃ k1 n1 ds, y = .int k1 ∧ ixN dss.length k1 = some n1 ∧ dss[n1]? = some ds ∧
      wE G (.t 0) k ρ fun z => ∃ k2 n2, z = .int k2 ∧ ixN ds.length k2 = some n2 ∧ P.nx (ρ.set i (some (.ow2 (dss.set n1 (ds.set n2 d))))) := rfl
theorem x_drop : wS G (.drop e) P ρ = wE G (.t 0) e ρ fun _ => P.nx ρ := rfl
theorem x_ifs : wS G (.ifs c t u) P ρ = wE G .tst c ρ fun x => ∃ k, x = .bool k ∧ (if k = true then wSs G t P ρ else wSs G u P ρ) := rfl
theorem x_whl : wS G (.whl c t) P ρ = wWhlE G c t P ρ := rfl
theorem x_fr {tg : Tg} {it : I} : wS G (.fr tg it t) P ρ = wI G 0 it ρ fun ds => wForE G tg t P ds ρ := rfl
theorem x_ret : wS G (.ret e) P ρ = wE G (.t 0) e ρ P.rt := rfl
theorem x_retN : wS G .retN P ρ = P.rt .none := rfl
theorem x_pass : wS G .pass P ρ = P.nx ρ := rfl
theorem x_brk : wS G .brk P ρ = P.bk ρ := rfl
theorem x_cont : wS G .cont P ρ = P.ct ρ := rfl
theorem x_gnm {q : Env → Prop} : wG (.nm i) d ρ q = (i < ρ.length ∧ q (ρ.set i (some (.fz d)))) := rfl
theorem x_gtp {is : List Nat} {ds : List D} {q : Env → Prop} : wG (.tp is) (.tuple ds) ρ q = ∃ ρ', setAll is ds ρ = some ρ' ∧ q ρ' := rfl
theorem x_g0 : gt (x :: l) 0 = x := rfl
theorem x_gs : gt (x :: l) (i + 1) = gt l i := rfl
theorem x_rt {p : D → Prop} : (endOf p).rt = p := rfl
theorem x_nx {p : D → Prop} : (endOf p).nx = fun _ => p .none := rfl
theorem o_int {i : Int} {t : String} : isOne (.int i) t = isT "int" t := rfl
theorem o_bl {i : Bool} {t : String} : isOne (.bool i) t = isT "bool" t := rfl
theorem o_str {i : Str} {t : String} : isOne (.str i) t = isT "str" t := rfl
theorem o_lst {i : List D} {t : String} : isOne (.list i) t = isT "list" t := rfl
theorem o_tup {i : List D} {t : String} : isOne (.tuple i) t = isT "tuple" t := rfl
theorem o_non {t : String} : isOne .none t = isT "NoneType" t := rfl
theorem t_str {s : Str} : tyN (.str s) = "str" := rfl
theorem t_lst {s : List D} : tyN (.list s) = "list" := rfl
theorem s_lst {s : List D} : seqOf (.list s) = some s := rfl
theorem s_tup {s : List D} : seqOf (.tuple s) = some s := rfl

/-! operations at the shapes that come up -/
section
variable {i j : Int} {a b : Str} {x y : List D} {p q : Bool} {Q : D → Prop} {N : Bool → Prop}
theorem b_addI : wBin .Add (.int i) (.int j) Q = Q (.int (i + j)) := rfl
theorem b_addS : wBin .Add (.str a) (.str b) Q = (a.length + b.length ≤ sizeLine ∧ Q (.str (a ++ b))) := rfl
theorem b_addL : wBin .Add (.list x) (.list y) Q = (x.length + y.length ≤ sizeLine ∧ Q (.list (x ++ y))) := rfl
theorem b_addT : wBin .Add (.tuple x) (.tuple y) Q = (x.length + y.length ≤ sizeLine ∧ Q (.tuple (x ++ y))) := rfl
theorem b_sub : wBin .Sub (.int i) (.int j) Q = Q (.int (i - j)) := rfl
theorem b_mul : wBin .Mult (.int i) (.int j) Q = (IntMulOk i j ∧ Q (.int (i * j))) := rfl
theorem b_mulL : wBin .Mult (.list x) (.int j) Q = ((-(2 ^ 63) ≤ j ∧ j < 2 ^ 63 ∧ x.length * j.toNat ≤ sizeLine) ∧ Q (.list (List.replicate j.toNat x).flatten)) := rfl
theorem b_mulT : wBin .Mult (.tuple x) (.int j) Q = ((-(2 ^ 63) ≤ j ∧ j ≤ 1000 ∧ x.length ≤ 1000) ∧ Q (.tuple (List.replicate j.toNat x).flatten)) := rfl
theorem b_and : wBin .BitAnd (.int i) (.int j) Q = Q (.int (Builtin.bitAnd i j)) := rfl
theorem b_or : wBin .BitOr (.int i) (.int j) Q = Q (.int (Builtin.bitOr i j)) := rfl
theorem b_xor : wBin .BitXor (.int i) (.int j) Q = Q (.int (Builtin.bitXor i j)) := rfl
theorem b_div : wBin .FloorDiv (.int i) (.int j) Q = (CDivW i j ∧ Q (.int (i / j))) := rfl
theorem b_mod : wBin .Mod (.int i) (.int j) Q = (0 < j ∧ Q (.int (i % j))) := rfl
theorem b_pow : wBin .Pow (.int i) (.int j) Q = (CPow i j ∧ Q (.int (i ^ j.toNat))) := rfl
theorem b_shl : wBin .LShift (.int i) (.int j) Q = (CShl i j ∧ Q (.int (i * 2 ^ j.toNat))) := rfl
theorem b_shr : wBin .RShift (.int i) (.int j) Q = (0 ≤ j ∧ Q (.int (i / 2 ^ j.toNat))) := rfl
theorem e_ii : wEq (.int i) (.int j) N = N (decide (i = j)) := rfl
theorem e_ss : wEq (.str a) (.str b) N = N (decide (a = b)) := rfl
theorem e_bb : wEq (.bool p) (.bool q) N = N (decide (p = q)) := rfl
theorem e_nn : wEq .none .none N = N true := rfl
theorem e_ni : wEq .none (.int j) N = N false := rfl
theorem e_in : wEq (.int j) .none N = N false := rfl
theorem e_ns : wEq .none (.str a) N = N false := rfl
theorem e_sn : wEq (.str a) .none N = N false := rfl
theorem e_is : wEq (.int j) (.str a) N = N false := rfl
theorem e_si : wEq (.str a) (.int j) N = N false := rfl
theorem e_nb : wEq .none (.bool p) N = N false := rfl
theorem e_bn : wEq (.bool p) .none N = N false := rfl
theorem c_eq {x y : D} : wCmp .Eq x y N = wEq x y N := rfl
theorem c_ne {x y : D} : wCmp .NotEq x y N = wEq x y fun b => N (!b) := rfl
theorem c_lt : wCmp .Lt (.int i) (.int j) N = N (decide (i < j)) := rfl
theorem c_le : wCmp .LtE (.int i) (.int j) N = N (decide (i ≤ j)) := rfl
theorem c_gt : wCmp .Gt (.int i) (.int j) N = N (decide (j < i)) := rfl
theorem c_ge : wCmp .GtE (.int i) (.int j) N = N (decide (j ≤ i)) := rfl
theorem c_in {x y : D} : wCmp .In x y N = wIn x y N := rfl
theorem c_ni {x y : D} : wCmp .NotIn x y N = wIn x y fun b => N (!b) := rfl
theorem c_is {x : D} : wCmp .Is x .none N = N (match x with | .none => true | _ => false) := rfl
theorem c_isn {x : D} : wCmp .IsNot x .none N = N (match x with | .none => false | _ => true) := rfl
theorem i_l : wIx (.list x) (.int i) Q = ∃ d, atI x i = some d ∧ Q d := rfl
theorem i_t : wIx (.tuple x) (.int i) Q = ∃ d, atI x i = some d ∧ Q d := rfl
theorem i_s : wIx (.str a) (.int i) Q = (a.length ≤ sizeLine ∧ ∃ c, atI a.cps.toList i = some c ∧ Q (.str ⟨#[c]⟩)) := rfl
theorem i_d {x : List (D × D)} {k : D} : wIx (.dict x) k Q = (keyD k = true ∧ uniD (x.map (·.1)) k = true ∧ ∃ v, dget x k = some v ∧ Q v) := rfl
theorem in_l {z : D} : wIn z (.list x) N = (shp z = true ∧ PyData.plainAll x = true ∧ N (x.any fun y => PyData.eqv y z)) := rfl
theorem in_t {z : D} : wIn z (.tuple x) N = (shp z = true ∧ PyData.plainAll x = true ∧ N (x.any fun y => PyData.eqv y z)) := rfl
theorem in_d {z : D} {x : List (D × D)} : wIn z (.dict x) N = (keyD z = true ∧ uniD (x.map (·.1)) z = true ∧ N (decide (z ∈ x.map (·.1)))) := rfl
theorem e_tt : wEq (.tuple x) (.tuple y) N = (shp (.tuple x) = true ∧ shp (.tuple y) = true ∧ N (PyData.eqv (.tuple x) (.tuple y))) := rfl
theorem e_ll : wEq (.list x) (.list y) N = (shp (.list x) = true ∧ shp (.list y) = true ∧ N (PyData.eqv (.list x) (.list y))) := rfl
theorem l_l {l h : Option Int} : wSl (.list x) l h Q = Q (.list (cutD x l h)) := rfl
theorem l_t {l h : Option Int} : wSl (.tuple x) l h Q = Q (.tuple (cutD x l h)) := rfl
theorem l_s {l h : Option Int} : wSl (.str a) l h Q = (a.length ≤ sizeLine ∧ Q (.str (cutS a l h))) := rfl
theorem f_lenL : wBl .len [.list x] Q = Q (.int x.length) := rfl
theorem f_lenT : wBl .len [.tuple x] Q = Q (.int x.length) := rfl
theorem f_lenS : wBl .len [.str a] Q = (a.length ≤ sizeLine ∧ Q (.int a.length)) := rfl
theorem f_intI : wBl .int [.int i] Q = Q (.int i) := rfl
theorem f_intB : wBl .int [.bool p] Q = Q (.int (if p then 1 else 0)) := rfl
theorem f_str : wBl .str [.int i] Q = (i.natAbs.log2 < 1920 ∧ Q (.str (toString i))) := rfl
theorem f_tupL : wBl .tuple [.list x] Q = Q (.tuple x) := rfl
theorem f_tupT : wBl .tuple [.tuple x] Q = Q (.tuple x) := rfl
theorem f_lstL : wBl .list [.list x] Q = Q (.list x) := rfl
theorem f_lstT : wBl .list [.tuple x] Q = Q (.list x) := rfl
theorem f_abs : wBl .abs [.int i] Q = Q (.int (if i < 0 then -i else i)) := rfl
theorem f_max : wBl .max [.int i, .int j] Q = Q (.int (if j > i then j else i)) := rfl
theorem f_min : wBl .min [.int i, .int j] Q = Q (.int (if j < i then j else i)) := rfl
theorem f_sum : wBl .sum [.list x] Q = ∃ ns : List Int, x = ns.map .int ∧ Q (.int ns.sum) := rfl
theorem f_lenD {x : List (D × D)} : wBl .len [.dict x] Q = Q (.int x.length) := rfl
theorem f_lstD {x : List (D × D)} : wBl .list [.dict x] Q = Q (.list (x.map (·.1))) := rfl
theorem f_lstS : wBl .list [.str a] Q = (a.cps.size ≤ sizeLine ∧ Q (.list (a.cps.toList.map fun c => .str ⟨#[c]⟩))) := rfl
theorem f_srtL : wBl .sorted [.list x] Q = (srtOk x ∧ Q (.list (srtD x))) := rfl
theorem f_srtD {x : List (D × D)} : wBl .sorted [.dict x] Q = (srtOk (x.map (·.1)) ∧ Q (.list (srtD (x.map (·.1))))) := rfl
theorem f_maxL : wBl .max [.list x] Q = ∃ ns : List Int, x = ns.map .int ∧ ns ≠ [] ∧ ∀ m, m ∈ ns → (∀ j ∈ ns, j ≤ m) → Q (.int m) := rfl
theorem f_minL : wBl .min [.list x] Q = ∃ ns : List Int, x = ns.map .int ∧ ns ≠ [] ∧ ∀ m, m ∈ ns → (∀ j ∈ ns, m ≤ j) → Q (.int m) := rfl
theorem f_all : wBl .all [.list x] Q = ∃ bs : List Bool, x = bs.map .bool ∧ Q (.bool (bs.all id)) := rfl
theorem f_any : wBl .any [.list x] Q = ∃ bs : List Bool, x = bs.map .bool ∧ Q (.bool (bs.any id)) := rfl
theorem m_count : wMt .count (.str a) [.str b] Q = Q (.int (Txt.count a b)) := rfl
theorem m_rfind : wMt .rfind (.str a) [.str b] Q = Q (.int (Txt.rfind a b)) := rfl
theorem m_lix {z : D} : wMt .lindex (.list x) [z] Q = ((shp z = true ∧ PyData.plainAll x = true) ∧ ∃ j, PySem.SeqAt.dataPlace x z = some j ∧ Q (.int (j : Nat))) := rfl
theorem m_join : wMt .join (.str a) [.list x] Q = ∃ ys : List Str, x = ys.map .str ∧ (ys.map (·.length)).sum + ys.length * a.length ≤ 16777216 ∧ Q (.str (Txt.join a ys)) := rfl
theorem m_find3 : wMt .find3 (.str a) [.str b, .int i] Q = Q (.int (Txt.find3 a b i)) := rfl
theorem m_sindex : wMt .sindex (.str a) [.str b] Q = ∃ i rest, Builtin.Str.occurrences a b 0 a.length 1 = i :: rest ∧ Q (.int (i : Nat)) := rfl
theorem m_rfind4 : wMt .rfind4 (.str a) [.str b, .int i, .int j] Q = Q (.int (Txt.rfindIn a b i j)) := rfl
end
/-! ### loops -/
theorem for_of {tg : Tg} {ds : List D} (I : Nat → Env → Prop) (h0 : I 0 ρ)
    (hs : ∀ (i : Nat) (d : D) (ρ' : Env) (N : Env → Prop), ds[i]? = some d → I i ρ' → (∀ ρ'', I (i + 1) ρ'' → N ρ'') → wG tg d ρ' fun ρ'' => wSs G t { P with nx := N, ct := N, bk := P.nx } ρ'')
    (hd : ∀ ρ', I ds.length ρ' → P.nx ρ') : wForE G tg t P ds ρ := by
  unfold wForE
  have go : ∀ (k : Nat) (ρ' : Env), k ≤ ds.length → I (ds.length - k) ρ' → wFor (wG tg) (wSs G t) P (ds.drop (ds.length - k)) ρ' := by
    intro k
    induction k with
    | zero =>
      intro ρ' _ hI
      rw [Nat.sub_zero, List.drop_length]
      exact hd ρ' hI
    | succ k ih =>
      intro ρ' hk hI
      have hl : ds.length - (k + 1) < ds.length := by omega
      rw [List.drop_eq_getElem_cons hl]
      show wG tg ds[ds.length - (k + 1)] ρ' fun ρ'' => _
      refine hs _ _ ρ' _ (List.getElem?_eq_getElem hl) hI fun ρ'' h => ?_
      have e : ds.length - (k + 1) + 1 = ds.length - k := by omega
      rw [e] at h ⊢
      exact ih ρ'' (by omega) h
  have := go ds.length ρ (Nat.le_refl _)
  rw [Nat.sub_self] at this
  exact this h0
/-- a while by an invariant and a number that falls -/
theorem whl_of (I : Nat → Env → Prop) (m : Nat) (h0 : I m ρ)
    (hs : ∀ (m : Nat) (ρ' : Env), I m ρ' → wE G .tst c ρ' fun x => ∃ k, x = .bool k ∧ (if k = true then wSs G t { P with nx := fun ρ'' => ∃ m', m' < m ∧ I m' ρ'', ct := fun ρ'' => ∃ m', m' < m ∧ I m' ρ'', bk := P.nx } ρ' else P.nx ρ')) : wWhlE G c t P ρ :=
  ⟨I, ⟨m, h0⟩, hs⟩
theorem map_of {own : List (Str × Nat)} {tg : Tg} {cs : Eo} {ds acc : List D} {q : List D → Prop} (g : D → D)
    (h : ∀ d ∈ ds, ∀ K : Option D → Prop, K (some (g d)) → wG tg d (wipeE ρ (own.map (·.2))) fun ρ' => wC G cs ρ' fun k => if k = true then wE G (.t 0) e ρ' fun y => K (some y) else K none)
    (hq : q (acc ++ ds.map g)) : wMapE G own e tg cs ρ ds acc q := by
  unfold wMapE
  revert acc
  induction ds with
  | nil =>
    intro acc hq
    rw [List.map_nil, List.append_nil] at hq
    exact hq
  | cons d ds ih =>
    intro acc hq
    generalize hf : (fun (d : D) (K : Option PyData → Prop) => wG tg d (wipeE ρ (own.map (·.2))) fun ρ' => wC G cs ρ' fun k => if k = true then wE G (.t 0) e ρ' fun y => K (some y) else K none) = f at ih ⊢
    have hh : ∀ K : Option D → Prop, K (some (g d)) → f d K := by
      rw [← hf]; exact h d List.mem_cons_self
    show f d _
    refine hh _ ?_
    refine ih (fun d' hd => h d' (List.mem_cons_of_mem _ hd)) ?_
    rw [List.append_assoc]
    exact hq
/-- a comprehension whose rows are only known to be of a kind -/
theorem map_any {own : List (Str × Nat)} {tg : Tg} {cs : Eo} {ds acc : List D} {q : List D → Prop} (p : D → Prop)
    (h : ∀ d ∈ ds, ∀ K : Option D → Prop, (∀ y, p y → K (some y)) → wG tg d (wipeE ρ (own.map (·.2))) fun ρ' => wC G cs ρ' fun k => if k = true then wE G (.t 0) e ρ' fun y => K (some y) else K none)
    (hq : ∀ ys, (∀ y ∈ ys, p y) → ys.length = ds.length → q (acc ++ ys)) : wMapE G own e tg cs ρ ds acc q := by
  unfold wMapE
  revert acc
  induction ds with
  | nil =>
    intro acc hq
    have := hq [] (fun _ h => by cases h) rfl
    rw [List.append_nil] at this
    exact this
  | cons d ds ih =>
    intro acc hq
    generalize hf : (fun (d : D) (K : Option PyData → Prop) => wG tg d (wipeE ρ (own.map (·.2))) fun ρ' => wC G cs ρ' fun k => if k = true then wE G (.t 0) e ρ' fun y => K (some y) else K none) = f at ih ⊢
    have hh : ∀ K : Option D → Prop, (∀ y, p y → K (some y)) → f d K := by
      rw [← hf]; exact h d List.mem_cons_self
    show f d _
    refine hh _ fun y hy => ?_
    refine ih (fun d' hd => h d' (List.mem_cons_of_mem _ hd)) fun ys h1 h2 => ?_
    rw [List.append_assoc]
    refine hq (y :: ys) (fun z hz => ?_) (by rw [List.length_cons, List.length_cons, h2])
    rcases List.mem_cons.mp hz with rfl | hz
    · exact hy
    · exact h1 z hz
/-- a comprehension that may leave out -/
theorem mapN_of {vs : List Nat} {tg : Tg} {cs : Eo} {ds acc : List D} {q : List D → Prop} (g : D → Option D)
    (h : ∀ d ∈ ds, ∀ K : Option D → Prop, K (g d) → wG tg d (wipeE ρ vs) fun ρ' => wC G cs ρ' fun k => if k = true then wE G (.t 0) e ρ' fun y => K (some y) else K none)
    (hq : q (acc ++ ds.filterMap g)) : wMapN G vs e tg cs ρ ds acc q := by
  unfold wMapN
  revert acc
  induction ds with
  | nil =>
    intro acc hq
    rw [List.filterMap_nil, List.append_nil] at hq
    exact hq
  | cons d ds ih =>
    intro acc hq
    generalize hf : (fun (d : D) (K : Option PyData → Prop) => wG tg d (wipeE ρ vs) fun ρ' => wC G cs ρ' fun k => if k = true then wE G (.t 0) e ρ' fun y => K (some y) else K none) = f at ih ⊢
    have hh : ∀ K : Option D → Prop, K (g d) → f d K := by
      rw [← hf]; exact h d List.mem_cons_self
    show f d _
    refine hh _ ?_
    cases eg : g d with
    | none =>
      rw [List.filterMap_cons_none eg] at hq
      exact ih (fun d' hd => h d' (List.mem_cons_of_mem _ hd)) hq
    | some y =>
      rw [List.filterMap_cons_some eg] at hq
      refine ih (fun d' hd => h d' (List.mem_cons_of_mem _ hd)) ?_
      rw [List.append_assoc]
      exact hq
/-- .. in an expression -/
theorem mapF_of {own : List (Str × Nat)} {tg : Tg} {cs : Eo} {ds acc : List D} {q : List D → Prop} (g : D → Option D)
    (h : ∀ d ∈ ds, ∀ K : Option D → Prop, K (g d) → wG tg d (wipeE ρ (own.map (·.2))) fun ρ' => wC G cs ρ' fun k => if k = true then wE G (.t 0) e ρ' fun y => K (some y) else K none)
    (hq : q (acc ++ ds.filterMap g)) : wMapE G own e tg cs ρ ds acc q := mapN_of g h hq
/-- two clauses: the rows for each of the first clause's -/
theorem map2_of {own : List (Str × Nat)} {tg : Tg} {cs : Eo} {vs1 : List Nat} {tg1 : Tg} {it1 : I} {cs1 : Eo} {M : Nat} {ds acc : List D} {q : List D → Prop} (g : D → List D)
    (h : ∀ d ∈ ds, ∀ K : List D → Prop, K (g d) → wG tg d (dropOw (wipeE ρ (own.map (·.2)))) fun ρ2 => wC G cs ρ2 fun k => if k = true then wI G 0 it1 ρ2 fun ds1 => ds1.length ≤ M ∧ wMapN G vs1 e tg1 cs1 ρ2 ds1 [] K else K [])
    (hq : q (acc ++ ds.flatMap g)) : wMap2E G own e tg cs vs1 tg1 it1 cs1 M ρ ds acc q := by
  unfold wMap2E
  revert acc
  induction ds with
  | nil =>
    intro acc hq
    rw [List.flatMap_nil, List.append_nil] at hq
    exact hq
  | cons d ds ih =>
    intro acc hq
    generalize hf : (fun (d : D) (K : List PyData → Prop) => wG tg d (dropOw (wipeE ρ (own.map (·.2)))) fun ρ2 => wC G cs ρ2 fun k => if k = true then wI G 0 it1 ρ2 fun ds1 => ds1.length ≤ M ∧ wMapN G vs1 e tg1 cs1 ρ2 ds1 [] K else K []) = f at ih ⊢
    have hh : ∀ K : List D → Prop, K (g d) → f d K := by
      rw [← hf]; exact h d List.mem_cons_self
    show f d _
    refine hh _ ?_
    refine ih (fun d' hd => h d' (List.mem_cons_of_mem _ hd)) ?_
    rw [List.flatMap_cons, ← List.append_assoc] at hq
    exact hq
/-- keys of one sort -/
theorem uniD_of {acc : List (D × D)} {k : D} {t : Bool} (h : ∀ p ∈ acc, isTupD p.1 = t) (hk : isTupD k = t) : uniD (acc.map (·.1)) k = true := by
  unfold uniD
  rw [List.all_eq_true]
  intro x hx
  obtain ⟨p, hp, rfl⟩ := List.mem_map.mp hx
  rw [h p hp, hk]
  exact beq_self_eq_true _
theorem dput_mem {acc : List (D × D)} {k v : D} {p : D × D} (h : p ∈ dput acc k v) : p = (k, v) ∨ (∃ q ∈ acc, q.1 = p.1) := by
  unfold dput at h
  split at h
  · obtain ⟨q, hq, e⟩ := List.mem_map.mp h
    refine .inr ⟨q, hq, ?_⟩
    split at e
    · rw [← e]
    · rw [e]
  · rcases List.mem_append.mp h with h | h
    · exact .inr ⟨p, h, rfl⟩
    · exact .inl (by simpa using h)
def dOf (ps : List (D × D)) (acc : List (D × D)) : List (D × D) := ps.foldl (fun a p => dput a p.1 p.2) acc
/-- a dict comprehension -/
theorem mapD_of {own : List (Str × Nat)} {ke ve : E} {tg : Tg} {cs : Eo} {ds : List D} {acc : List (D × D)} {q : List (D × D) → Prop} (g : D → Option (D × D)) (t : Bool) (ha : ∀ p ∈ acc, isTupD p.1 = t)
    (hk : ∀ d ∈ ds, ∀ p, g d = some p → keyD p.1 = true ∧ isTupD p.1 = t)
    (h : ∀ d ∈ ds, ∀ K : Option (D × D) → Prop, K (g d) → wG tg d (wipeE ρ (own.map (·.2))) fun ρ' => wC G cs ρ' fun k => if k = true then wE G (.t 0) ke ρ' fun x => wE G (.t 0) ve ρ' fun y => K (some (x, y)) else K none)
    (hq : q (dOf (ds.filterMap g) acc)) : wMapDE G own ke ve tg cs ρ ds acc q := by
  unfold wMapDE
  revert acc
  induction ds with
  | nil => intro acc _ hq; exact hq
  | cons d ds ih =>
    intro acc ha hq
    generalize hf : (fun (d : D) (K : Option (D × D) → Prop) => wG tg d (wipeE ρ (own.map (·.2))) fun ρ' => wC G cs ρ' fun k => if k = true then wE G (.t 0) ke ρ' fun x => wE G (.t 0) ve ρ' fun y => K (some (x, y)) else K none) = f at ih ⊢
    have hh : ∀ K : Option (D × D) → Prop, K (g d) → f d K := by
      rw [← hf]; exact h d List.mem_cons_self
    show f d _
    refine hh _ ?_
    have ih := fun acc ha hq => ih (fun d' hd => hk d' (List.mem_cons_of_mem _ hd)) (fun d' hd => h d' (List.mem_cons_of_mem _ hd)) (acc := acc) ha hq
    cases eg : g d with
    | none =>
      rw [List.filterMap_cons_none eg] at hq
      exact ih acc ha hq
    | some p =>
      rw [List.filterMap_cons_some eg] at hq
      obtain ⟨k1, k2⟩ := hk d List.mem_cons_self p eg
      refine ⟨k1, uniD_of ha k2, ih _ (fun r hr => ?_) hq⟩
      rcases dput_mem hr with e | ⟨r', h1, h2⟩
      · rw [e]; exact k2
      · rw [← h2]; exact ha r' h1
end
end PD

namespace PL
open PySem PySem.Spec PyProof.Rows L2 PD
local macro_rules | `(tactic| walk_at "x") => `(tactic| simp (config := { decide := false }) only [x_var, x_v0, x_v1, x_v11, x_v12, x_v13, x_v1t, x_v22, x_v23, x_v2t, x_w11, x_w12, x_w13, x_w1t, x_w22, x_w23, x_dnew, x_dget, x_dcm, x_chn, x_lrg, x_en, x_zp, x_zp3, x_fDt, x_fDf, x_fBd, x_d5, x_d6, x_trl, x_trt, x_trn, x_aug, x_ownd2, x_dput, x_dputl, x_dappl, x_pop, x_ins, x_ext, x_nwL, x_nwD, n_int, n_bl, n_str, n_lst, n_tup, n_non, g_int, k_int, bLv, x_ct, x_non, x_bl, x_int, x_str, x_bin, x_neg, x_cmp, x_bopt, x_bopv, x_nt, x_ntv, x_ifx, x_ix, x_ixt, x_sl, x_call, x_callk, x_blt, x_isi, x_mth, x_tup, x_lst, x_lc, x_lc2, x_d0, x_d1, x_d2, x_d3, x_d4, x_ts0, x_ts1, x_bs0, x_bs1, x_c0, x_c1,
    x_eo0, x_eo1, x_es0, x_es1, x_ls, x_r1, x_r2, x_rv, x_rr1, x_rr2, o_ls, o_tp, x_ft, x_ftst, x_fLt, x_fLf, x_fBl, x_fBi, x_fBs, x_fBb, x_fBt, x_trb, x_tri, x_nil, x_cons, x_asg, x_own, x_own2, x_frz, x_app, x_app2, x_appI, x_seti, x_set2, x_drop, x_ifs, x_whl, x_fr, x_ret, x_retN, x_pass, x_brk, x_cont, x_gnm, x_gtp, x_g0, x_gs, x_rt, x_nx,
    b_addI, b_addS, b_addL, b_addT, b_sub, b_mul, b_mulL, b_mulT, b_and, b_or, b_xor, b_div, b_mod, b_pow, b_shl, b_shr, e_ii, e_ss, e_bb, e_nn, e_ni, e_in, e_ns, e_sn, e_is, e_si, e_nb, e_bn, c_eq, c_ne, c_lt, c_le, c_gt, c_ge, c_in, c_ni, c_is, c_isn, i_l, i_t, i_s, i_d, in_l, in_t, in_d, e_tt, e_ll, f_lenD, f_lstD, f_lstS, f_srtL, f_srtD, f_maxL, f_minL, f_all, f_any, m_count, m_rfind, m_lix, l_l, l_t, l_s,
    f_lenL, f_lenT, f_lenS, f_intI, f_intB, f_str, f_tupL, f_tupT, f_lstL, f_lstT, f_abs, f_max, f_min, f_sum, m_join, m_find3, m_rfind4, m_sindex, s_lst, s_tup, wFrz, setAll, wipeE, t_str, t_lst, mtTy, o_int, o_bl, o_str, o_lst, o_tup, o_non, isT, String.reduceBEq, String.reduceEq, beq_self_eq_true, Nat.reduceAdd, Nat.reduceLT, Nat.reduceSub,
    List.map_cons, List.map_nil, List.length_cons, List.length_nil, List.set_cons_zero, List.set_cons_succ, List.any_cons, List.any_nil,
    PyData.bool.injEq, PyData.int.injEq, PyData.str.injEq, PyData.list.injEq, PyData.tuple.injEq, Option.some.injEq, Sl.fz.injEq, Sl.ow.injEq, Sl.ow2.injEq, Sl.od.injEq, Sl.odl.injEq, PyData.dict.injEq,
    exists_eq_left, exists_eq_left', exists_and_left, exists_and_right, and_assoc, true_and, and_true, if_true, if_false, ite_true, ite_false, decide_eq_true_eq, Bool.true_eq_false, Bool.false_eq_true, Bool.not_true, Bool.not_false, Bool.or_true, Bool.true_or, Bool.or_false, Bool.false_or, Bool.and_true, Bool.true_and, Bool.and_false, Bool.false_and, Nat.zero_lt_succ, reduceCtorEq])
/-! ### helpers that many laws have -/
def B_whole : Ss := (.cons (.ret (.bop true (.cons (.isi (.var 0) ["int"]) (.cons (.nt (.isi (.var 0) ["bool"])) .nil))))
  .nil)

def B_cell : Ss := (.cons (.ifs (.cmp .Lt (.var 1) (.blt .len (.cons (.var 0) .nil))) (.cons (.ret (.ix (.var 0) (.var 1)))
  .nil) .nil)
  (.cons (.asg (.nm 2) (.int 17))
  (.cons (.fr (.nm 3) (.ls (.var 0)) (.cons (.asg (.nm 2) (.bin .Mod (.blt .int (.cons (.bin .Add (.bin .Mult (.var 2) (.int 31)) (.bin .Mod (.blt .int (.cons (.var 3) .nil)) (.int 1000003))) .nil)) (.int 1000003)))
  .nil))
  (.cons (.ret (.bin .Mod (.blt .int (.cons (.bin .Mult (.bin .Mult (.bin .Add (.var 2) (.int 7)) (.bin .Add (.var 1) (.int 3))) (.int 69621)) .nil)) (.int 2147483647)))
  .nil))))

def B_digits : Ss := (.cons (.own 2 (.lst .nil))
  (.cons (.asg (.nm 3) (.blt .int (.cons (.var 0) .nil)))
  (.cons (.ifs (.cmp .GtE (.var 3) (.bin .Pow (.int 10) (.int 18))) (.cons (.asg (.nm 3) (.bin .Sub (.var 3) (.bin .Pow (.int 10) (.int 18))))
  (.cons (.fr (.nm 6) (.ls (.var 1)) (.cons (.app 2 (.bin .Mod (.blt .int (.cons (.var 3) .nil)) (.var 6)))
  (.cons (.asg (.nm 3) (.bin .FloorDiv (.blt .int (.cons (.var 3) .nil)) (.var 6)))
  .nil)))
  (.cons (.frz 2)
  (.cons (.ret (.var 2))
  .nil)))) .nil)
  (.cons (.asg (.nm 4) (.bin .Mod (.blt .int (.cons (.var 3) .nil)) (.int 2147483629)))
  (.cons (.fr (.nm 5) (.r1 (.blt .len (.cons (.var 1) .nil))) (.cons (.asg (.nm 4) (.bin .Mod (.blt .int (.cons (.bin .Add (.bin .Add (.bin .Mult (.var 4) (.int 48271)) (.bin .Mult (.int 974711) (.var 5))) (.int 12345)) .nil)) (.int 2147483647)))
  (.cons (.asg (.nm 7) (.bin .Mod (.blt .int (.cons (.bin .Mult (.var 4) (.bin .Add (.bin .FloorDiv (.var 4) (.int 65537)) (.int 3))) .nil)) (.int 2147483629)))
  (.cons (.app 2 (.bin .Mod (.bin .FloorDiv (.var 7) (.int 19)) (.ix (.var 1) (.var 5))))
  .nil))))
  (.cons (.frz 2)
  (.cons (.ret (.var 2))
  .nil)))))))

def eqF (p : List D → Prop) (f : List D → D) : FnS := ⟨p, fun ds d => d = f ds⟩
theorem x_in1 {c : Nat} {z : Str} {Q : Bool → Prop} : wIn (.str ⟨#[c]⟩) (.str z) Q = Q (decide (c ∈ z.cps.toList)) := rfl
theorem x_in2 {c : Nat} {l : List Nat} {Q : Bool → Prop} : wIn (.str ⟨#[c]⟩) (.str ⟨l.toArray⟩) Q = Q (decide (c ∈ l)) := rfl
theorem atN {α : Type} {xs : List α} {k : Nat} (h : k < xs.length) : atI xs (k : Int) = some xs[k] := atI_nat (List.getElem?_eq_getElem h)
theorem mulR {a b : Int} (h1 : -(2 ^ 64) < b) (h2 : b < 2 ^ 64) : IntMulOk a b := .of_right (intBits_le_64 h1 h2)
theorem mulL {a b : Int} (h1 : -(2 ^ 64) < a) (h2 : a < 2 ^ 64) : IntMulOk a b := .of_left (intBits_le_64 h1 h2)
theorem ixN_at {n j : Nat} (hj : j < n) : ixN n (j : Int) = some j := by
  unfold ixN
  rw [if_pos (by omega), if_pos (by omega), Int.toNat_natCast]
/-- the rows of a range -/
theorem rng_at {lo : Int} {n i : Nat} {d : D} (h : ((List.range n).map fun (k : Nat) => PyData.int (lo + k))[i]? = some d) : i < n ∧ d = .int (lo + (i : Int)) := by
  have hi := (List.getElem?_eq_some_iff.mp h).1
  rw [List.length_map, List.length_range] at hi
  rw [List.getElem?_map, List.getElem?_range hi] at h
  exact ⟨hi, (Option.some.inj h).symm⟩
theorem rng0_at {n i : Nat} {d : D} (h : ((List.range n).map fun (k : Nat) => PyData.int k)[i]? = some d) : i < n ∧ d = .int (i : Int) := by
  have hi := (List.getElem?_eq_some_iff.mp h).1
  rw [List.length_map, List.length_range] at hi
  rw [List.getElem?_map, List.getElem?_range hi] at h
  exact ⟨hi, (Option.some.inj h).symm⟩
def sp_whole : FnS := eqF (fun ds => ∃ i, ds = [.int i]) fun _ => .bool true
def sp_cell : FnS := ⟨fun ds => ∃ (ns : List Int) (k : Nat), k ≤ 1000 ∧ ds = [.list (ns.map .int), .int k], fun _ d => ∃ z, d = .int z⟩
theorem atI_int {α : Type} {xs : List α} {i : Int} (d : α) (h1 : 0 ≤ i) (h2 : i < xs.length) : atI xs i = some (xs.getD i.toNat d) := by
  obtain ⟨n, rfl⟩ := Int.eq_ofNat_of_zero_le h1
  rw [Int.toNat_natCast, List.getD_eq_getElem?_getD]
  have hn : n < xs.length := by omega
  rw [List.getElem?_eq_getElem hn]
  exact atI_nat (List.getElem?_eq_getElem hn)
theorem atI_ints {ns : List Int} {i : Int} (h1 : 0 ≤ i) (h2 : i < ns.length) : atI (ns.map PyData.int) i = some (.int (ns.getD i.toNat 0)) := by
  obtain ⟨n, rfl⟩ := Int.eq_ofNat_of_zero_le h1
  rw [Int.toNat_natCast, List.getD_eq_getElem?_getD]
  have hn : n < ns.length := by omega
  rw [List.getElem?_eq_getElem hn]
  exact atI_nat (by rw [List.getElem?_map, List.getElem?_eq_getElem hn]; rfl)
theorem getD_mem {ns : List Int} {n : Nat} (h : n < ns.length) : ns.getD n 0 ∈ ns := by
  rw [List.getD_eq_getElem?_getD, List.getElem?_eq_getElem h]
  exact List.getElem_mem h
def digs : List Int → List Int → Prop
  | [], [] => True
  | r :: rs, s :: ss => (0 ≤ r ∧ r < s) ∧ digs rs ss
  | _, _ => False
def sp_digits : FnS := ⟨fun ds => ∃ (z : Int) (ss : List Int), ds = [.int z, .list (ss.map .int)] ∧ (∀ s ∈ ss, 0 < s ∧ s < 2 ^ 1000) ∧ ss.length ≤ 1000,
  fun ds d => ∀ (z : Int) (ss : List Int), ds = [.int z, .list (ss.map .int)] → ∃ rs, d = .list (rs.map .int) ∧ digs rs ss⟩
theorem digs_all {b : Int} : ∀ {rs : List Int} {k : Nat}, digs rs (List.replicate k b) → (∀ q ∈ rs, 0 ≤ q ∧ q < b) ∧ rs.length = k
  | [], 0, _ => ⟨by simp, rfl⟩
  | r :: rs, k + 1, h => by
    have ih := digs_all (rs := rs) (k := k) h.2
    refine ⟨fun q hq => ?_, by rw [List.length_cons, ih.2]⟩
    rcases List.mem_cons.mp hq with rfl | hq
    · exact h.1
    · exact ih.1 q hq
  | [], k + 1, h => h.elim
  | _ :: _, 0, h => h.elim
section
variable {G : Gb}
theorem w_whole (ds : List D) (h : sp_whole.pre ds) : wSs G B_whole (endOf (sp_whole.post ds)) (env0 1 ds) := by
  obtain ⟨i, rfl⟩ := h
  show wSs G B_whole _ [some (.fz (.int i))]
  unfold B_whole
  walk_at "x"
  rfl
def I_cell (ns : List Int) (k : Nat) (_ : Nat) (ρ : PD.Env) : Prop := ∃ (s : Int) (s1 : Option Sl), ρ = [some (.fz (.list (ns.map .int))), some (.fz (.int k)), some (.fz (.int s)), s1]
theorem w_cell (ds : List D) (h : sp_cell.pre ds) : wSs G B_cell (endOf (sp_cell.post ds)) (env0 4 ds) := by
  obtain ⟨ns, k, hk, rfl⟩ := h
  show wSs G B_cell _ [some (.fz (.list (ns.map .int))), some (.fz (.int k)), none, none]
  unfold B_cell
  walk_at "x"
  rw [List.length_map]
  by_cases h : k < ns.length
  · rw [if_pos (by omega)]
    refine ⟨.int ns[k], atI_nat (by rw [List.getElem?_map, List.getElem?_eq_getElem h]; rfl), ?_⟩
    exact ⟨_, rfl⟩
  · rw [if_neg (by omega)]
    refine for_of (I_cell ns k) ⟨_, _, rfl⟩ ?_ ?_
    · rintro i d ρ' N hd ⟨s, s1, rfl⟩ hN
      obtain ⟨z, hz, rfl⟩ := List.mem_map.mp (List.mem_of_getElem? hd)
      walk_at "x"
      exact ⟨mulR (by decide) (by decide), by decide, by decide, hN _ ⟨_, _, rfl⟩⟩
    · rintro ρ' ⟨s, s1, rfl⟩
      walk_at "x"
      exact ⟨mulR (by omega) (by omega), mulR (by decide) (by decide), by decide, _, rfl⟩
theorem digs_len : ∀ {rs ss : List Int}, digs rs ss → rs.length = ss.length
  | [], [], _ => rfl
  | _ :: _, _ :: _, h => by rw [List.length_cons, List.length_cons, digs_len h.2]
theorem digs_snoc : ∀ {rs ss : List Int} {r s : Int}, digs rs ss → 0 ≤ r → r < s → digs (rs ++ [r]) (ss ++ [s])
  | [], [], _, _, _, h1, h2 => ⟨⟨h1, h2⟩, trivial⟩
  | _ :: _, _ :: _, _, _, h, h1, h2 => ⟨h.1, digs_snoc h.2 h1 h2⟩
def I_d1 (z : Int) (ss : List Int) (i : Nat) (ρ : PD.Env) : Prop := ∃ (rs : List Int) (w : Int) (s1 s2 s3 s4 : Option Sl), digs rs (ss.take i) ∧ ρ = [some (.fz (.int z)), some (.fz (.list (ss.map .int))), some (.ow (rs.map .int)), some (.fz (.int w)), s1, s2, s3, s4]
def I_d2 (z : Int) (ss : List Int) (i : Nat) (ρ : PD.Env) : Prop := ∃ (rs : List Int) (w s : Int) (s2 s3 s4 : Option Sl), digs rs (ss.take i) ∧ 0 ≤ s ∧ s < 2147483647 ∧ ρ = [some (.fz (.int z)), some (.fz (.list (ss.map .int))), some (.ow (rs.map .int)), some (.fz (.int w)), some (.fz (.int s)), s2, s3, s4]
theorem w_digits (ds : List D) (h : sp_digits.pre ds) : wSs G B_digits (endOf (sp_digits.post ds)) (env0 8 ds) := by
  obtain ⟨z, ss, rfl, hs, hl⟩ := h
  have hp : ∀ rs : List Int, digs rs ss → sp_digits.post [.int z, .list (ss.map .int)] (.list (rs.map .int)) := by
    intro rs hr z' ss' e
    have e2 : ss = ss' := by
      have := (List.cons.inj (List.cons.inj e).2).1
      have := PyData.list.inj this
      exact (List.map_inj_right (fun a b h => PyData.int.inj h)).mp this
    subst e2
    exact ⟨rs, rfl, hr⟩
  show wSs G B_digits _ [some (.fz (.int z)), some (.fz (.list (ss.map .int))), none, none, none, none, none, none]
  unfold B_digits
  walk_at "x"
  have tk1 : ∀ i, i < ss.length → ∀ s, ss[i]? = some s → ss.take (i + 1) = ss.take i ++ [s] := by
    intro i hi s e
    rw [List.take_add_one, e]; rfl
  refine ⟨by decide, by unfold CPow; decide, ?_⟩
  by_cases hz : (10 : Int) ^ Int.toNat 18 ≤ z
  · rw [if_pos hz]
    refine ⟨by unfold CPow; decide, for_of (I_d1 z ss) ⟨[], _, _, _, _, _, trivial, rfl⟩ ?_ ?_⟩
    · rintro i d ρ' N hd ⟨rs, w, s1, s2, s3, s4, g1, rfl⟩ hN
      rw [List.getElem?_map] at hd
      cases e : ss[i]? with
      | none => rw [e] at hd; cases hd
      | some s =>
      rw [e] at hd
      have hd : d = .int s := (Option.some.inj hd).symm
      subst hd
      have hi : i < ss.length := (List.getElem?_eq_some_iff.mp e).1
      have hs1 := hs s (List.mem_of_getElem? e)
      have gl := digs_len g1
      rw [List.length_take] at gl
      have g2 := digs_snoc g1 (Int.emod_nonneg w (b := s) (by omega)) (Int.emod_lt_of_pos w hs1.1)
      rw [← tk1 i hi s e] at g2
      walk_at "x"
      refine ⟨hs1.1, by rw [List.length_map, sizeLine_eq]; omega, wide_div (b := 1000) hs1.1 (by omega) (by decide) (by decide), hN _ ⟨rs ++ [w % s], _, _, _, _, _, g2, by rw [List.map_append]; rfl⟩⟩
    · rintro ρ' ⟨rs, w, s1, s2, s3, s4, g1, rfl⟩
      rw [List.length_map, List.take_length] at g1
      walk_at "x"
      exact hp rs g1
  · rw [if_neg hz]
    refine ⟨by decide, by rw [List.length_map]; omega, by rw [List.length_map]; omega, for_of (I_d2 z ss) ⟨[], _, _, _, _, _, trivial, Int.emod_nonneg _ (by decide), Int.lt_trans (Int.emod_lt_of_pos _ (by decide)) (by decide), rfl⟩ ?_ ?_⟩
    · rintro i d ρ' N hd ⟨rs, w, s, s2, s3, s4, g1, g3, g4, rfl⟩ hN
      have hi : i < ss.length := by
        have := (List.getElem?_eq_some_iff.mp hd).1
        rw [List.length_map, List.length_range, List.length_map] at this
        omega
      have hd : d = .int (i : Int) := by
        rw [List.getElem?_map, List.getElem?_range (by rw [List.length_map]; omega)] at hd
        exact (Option.some.inj hd).symm
      subst hd
      have e := List.getElem?_eq_getElem hi
      have hs1 := hs _ (List.mem_of_getElem? e)
      have gl := digs_len g1
      rw [List.length_take] at gl
      walk_at "x"
      have h5 : ∀ v : Int, 0 ≤ v % 2147483647 ∧ v % 2147483647 < 2147483647 := fun v => ⟨Int.emod_nonneg _ (by decide), Int.emod_lt_of_pos _ (by decide)⟩
      have h6 := h5 (s * 48271 + 974711 * (i : Int) + 12345)
      revert h6
      generalize (s * 48271 + 974711 * (i : Int) + 12345) % 2147483647 = q
      intro h6
      refine ⟨mulR (by decide) (by decide), mulL (by decide) (by decide), by decide, ⟨by decide, by decide +kernel⟩, mulR (by omega) (by omega), by decide, ⟨by decide, by decide +kernel⟩, _, atI_nat (by rw [List.getElem?_map, e]; rfl), ?_⟩
      walk_at "x"
      refine ⟨hs1.1, by rw [List.length_map, sizeLine_eq]; omega, ?_⟩
      generalize q * (q / 65537 + 3) % 2147483629 / 19 = v
      have g2 := digs_snoc g1 (Int.emod_nonneg v (b := ss[i]) (by omega)) (Int.emod_lt_of_pos v hs1.1)
      rw [← tk1 i hi _ e] at g2
      exact hN _ ⟨rs ++ [v % ss[i]], _, _, _, _, _, g2, h6.1, h6.2, by rw [List.map_append]; rfl⟩
    · rintro ρ' ⟨rs, w, s, s2, s3, s4, g1, g3, g4, rfl⟩
      rw [List.length_map, List.length_range, List.length_map, Int.toNat_natCast, List.take_length] at g1
      walk_at "x"
      exact hp rs g1
end
end PL

/-! codes: plain theory: indexes, putting in, steps, two steps meet -/
namespace KC
open PySem PySem.Spec PyProof.Rows L2 PD
inductive Cd where
  | ix (n : Nat)
  | nm (s : Str)
  | fn (b : Cd)
  | ap (f a : Cd)
deriving DecidableEq
abbrev sTo : D := .str ⟨#[116, 111]⟩
abbrev sOf : D := .str ⟨#[111, 102]⟩
def cdD : Cd → D
  | .ix n => .int n
  | .nm s => .str s
  | .fn b => .tuple [sTo, cdD b]
  | .ap f a => .tuple [sOf, cdD f, cdD a]
theorem cdD_inj : ∀ (a b : Cd), cdD a = cdD b → a = b
  | .ix m, .ix n, h => by rw [Int.ofNat.inj (PyData.int.inj h)]
  | .nm s, .nm t, h => by rw [PyData.str.inj h]
  | .fn a, .fn b, h => by rw [cdD_inj a b (List.cons.inj (List.cons.inj (PyData.tuple.inj h)).2).1]
  | .ap f a, .ap g b, h => by
    have h := (List.cons.inj (PyData.tuple.inj h)).2
    rw [cdD_inj f g (List.cons.inj h).1, cdD_inj a b (List.cons.inj (List.cons.inj h).2).1]
  | .ix _, .nm _, h => by cases h
  | .ix _, .fn _, h => by cases h
  | .ix _, .ap _ _, h => by cases h
  | .nm _, .ix _, h => by cases h
  | .nm _, .fn _, h => by cases h
  | .nm _, .ap _ _, h => by cases h
  | .fn _, .ix _, h => by cases h
  | .fn _, .nm _, h => by cases h
  | .fn _, .ap _ _, h => by
    have := (PyData.tuple.inj h)
    simp at this
  | .ap _ _, .ix _, h => by cases h
  | .ap _ _, .nm _, h => by cases h
  | .ap _ _, .fn _, h => by
    have := (PyData.tuple.inj h)
    simp at this
theorem ap2 {f f' a a' : Cd} (h : f = f') (g : a = a') : Cd.ap f a = Cd.ap f' a' := by rw [h, g]
def dp : Cd → Nat
  | .ix _ => 0
  | .nm _ => 0
  | .fn b => dp b + 1
  | .ap f a => max (dp f) (dp a) + 1
def sz : Cd → Nat
  | .ix _ => 1
  | .nm _ => 1
  | .fn b => sz b + 1
  | .ap f a => sz f + sz a + 1
def clo : Nat → Cd → Prop
  | n, .ix i => i < n
  | _, .nm _ => True
  | n, .fn b => clo (n + 1) b
  | n, .ap f a => clo n f ∧ clo n a
/-- the free names -/
def nms : Cd → List Str
  | .ix _ => []
  | .nm s => [s]
  | .fn b => nms b
  | .ap f a => nms f ++ nms a
theorem dp_sz (c : Cd) : dp c < sz c := by
  induction c with
  | ix _ => exact Nat.one_pos
  | nm _ => exact Nat.one_pos
  | fn b ih => exact Nat.succ_lt_succ ih
  | ap f a h1 h2 => show max (dp f) (dp a) + 1 < sz f + sz a + 1; omega
theorem sz_pos (c : Cd) : 0 < sz c := Nat.lt_of_le_of_lt (Nat.zero_le _) (dp_sz c)
def sh (d : Nat) : Nat → Cd → Cd
  | c, .ix n => if c ≤ n then .ix (n + d) else .ix n
  | _, .nm s => .nm s
  | c, .fn b => .fn (sh d (c + 1) b)
  | c, .ap f a => .ap (sh d c f) (sh d c a)
def sub (e : Cd) : Nat → Cd → Cd
  | d, .ix n => if n < d then .ix n else if n = d then sh d 0 e else .ix (n - 1)
  | _, .nm s => .nm s
  | d, .fn b => .fn (sub e (d + 1) b)
  | d, .ap f a => .ap (sub e d f) (sub e d a)
theorem sh_ix {d c n : Nat} : sh d c (.ix n) = if c ≤ n then .ix (n + d) else .ix n := rfl
theorem sub_ix {e : Cd} {d n : Nat} : sub e d (.ix n) = if n < d then .ix n else if n = d then sh d 0 e else .ix (n - 1) := rfl
theorem C1 (k d c : Nat) (e : Cd) : ∀ j, sh k (c + d + j) (sh d j e) = sh d j (sh k (c + j) e) := by
  induction e with
  | ix n =>
    intro j
    by_cases h : j ≤ n
    · rw [sh_ix (d := d), if_pos h, sh_ix]
      by_cases g : c + j ≤ n
      · rw [if_pos (by omega), sh_ix (c := c + j), if_pos g, sh_ix, if_pos (by omega)]
        congr 1; omega
      · rw [if_neg (by omega), sh_ix (c := c + j), if_neg g, sh_ix, if_pos h]
    · rw [sh_ix (d := d), if_neg h, sh_ix, if_neg (by omega), sh_ix (c := c + j), if_neg (by omega), sh_ix, if_neg h]
  | nm s => intro j; rfl
  | fn b ih => intro j; exact congrArg Cd.fn (ih (j + 1))
  | ap f a h1 h2 => intro j; exact ap2 (h1 j) (h2 j)
theorem C4 (j m : Nat) {i : Nat} (hi : i ≤ m) (a : Cd) : ∀ t, sh j (i + t) (sh m t a) = sh (m + j) t a := by
  induction a with
  | ix n =>
    intro t
    by_cases h : t ≤ n
    · rw [sh_ix (d := m), if_pos h, sh_ix, if_pos (by omega), sh_ix, if_pos h]
      congr 1; omega
    · rw [sh_ix (d := m), if_neg h, sh_ix, if_neg (by omega), sh_ix, if_neg h]
  | nm s => intro j; rfl
  | fn b ih => intro t; exact congrArg Cd.fn (ih (t + 1))
  | ap f a h1 h2 => intro t; exact ap2 (h1 t) (h2 t)
theorem C3 (x : Cd) (d j : Nat) (a : Cd) : ∀ i, sub x (j + i) (sh (d + j + 1) i a) = sh (d + j) i a := by
  induction a with
  | ix n =>
    intro i
    by_cases h : i ≤ n
    · rw [sh_ix, if_pos h, sub_ix, if_neg (by omega), if_neg (by omega), sh_ix, if_pos h]
      congr 1
    · rw [sh_ix, if_neg h, sub_ix, if_pos (by omega), sh_ix, if_neg h]
  | nm s => intro j; rfl
  | fn b ih => intro i; exact congrArg Cd.fn (ih (i + 1))
  | ap f a h1 h2 => intro t; exact ap2 (h1 t) (h2 t)
theorem C2 (a : Cd) (d j : Nat) (e : Cd) : ∀ i, sub a (d + j + i) (sh j i e) = sh j i (sub a (d + i) e) := by
  induction e with
  | ix n =>
    intro i
    by_cases h : i ≤ n
    · rw [sh_ix, if_pos h, sub_ix, sub_ix]
      by_cases g : n < d + i
      · rw [if_pos (by omega), if_pos g, sh_ix, if_pos h]
      · by_cases g2 : n = d + i
        · rw [if_neg (by omega), if_pos (by omega), if_neg g, if_pos g2]
          have := C4 j (d + i) (i := i) (by omega) a 0
          rw [Nat.add_zero] at this
          rw [this]
          congr 1; omega
        · rw [if_neg (by omega), if_neg (by omega), if_neg g, if_neg g2, sh_ix, if_pos (by omega)]
          congr 1; omega
    · rw [sh_ix, if_neg h, sub_ix, if_pos (by omega), sub_ix, if_pos (by omega), sh_ix, if_neg h]
  | nm s => intro j; rfl
  | fn b ih => intro i; exact congrArg Cd.fn (ih (i + 1))
  | ap f a h1 h2 => intro t; exact ap2 (h1 t) (h2 t)
theorem S1 (k c : Nat) (e b : Cd) : ∀ d, sh k (c + d) (sub e d b) = sub (sh k c e) d (sh k (c + d + 1) b) := by
  induction b with
  | ix n =>
    intro d
    rw [sub_ix]
    by_cases h : n < d
    · rw [if_pos h, sh_ix, if_neg (by omega), sh_ix, if_neg (by omega), sub_ix, if_pos h]
    · rw [if_neg h]
      by_cases g : n = d
      · rw [if_pos g, sh_ix, if_neg (by omega), sub_ix, if_neg h, if_pos g]
        have := C1 k d c e 0
        rw [Nat.add_zero, Nat.add_zero] at this
        exact this
      · rw [if_neg g, sh_ix]
        by_cases q : c + d + 1 ≤ n
        · rw [if_pos (by omega), sh_ix, if_pos q, sub_ix, if_neg (by omega), if_neg (by omega)]
          congr 1; omega
        · rw [if_neg (by omega), sh_ix, if_neg q, sub_ix, if_neg h, if_neg g]
  | nm s => intro j; rfl
  | fn b ih => intro d; exact congrArg Cd.fn (ih (d + 1))
  | ap f a h1 h2 => intro d; exact ap2 (h1 d) (h2 d)
theorem S2 (a e : Cd) (d : Nat) (b : Cd) : ∀ j, sub a (d + j) (sub e j b) = sub (sub a d e) j (sub a (d + j + 1) b) := by
  induction b with
  | ix n =>
    intro j
    rw [sub_ix]
    by_cases h : n < j
    · rw [if_pos h, sub_ix, if_pos (by omega), sub_ix, if_pos (by omega), sub_ix, if_pos h]
    · rw [if_neg h]
      by_cases g : n = j
      · rw [if_pos g, sub_ix (d := d + j + 1), if_pos (by omega), sub_ix, if_neg h, if_pos g]
        have := C2 a d j e 0
        rw [Nat.add_zero, Nat.add_zero] at this
        exact this
      · rw [if_neg g, sub_ix, sub_ix (d := d + j + 1)]
        by_cases q : n < d + j + 1
        · rw [if_pos (by omega), if_pos q, sub_ix, if_neg h, if_neg g]
        · by_cases q2 : n = d + j + 1
          · rw [if_neg (by omega), if_pos (by omega), if_neg q, if_pos q2]
            have := C3 (sub a d e) d j a 0
            rw [Nat.add_zero] at this
            exact this.symm
          · rw [if_neg (by omega), if_neg (by omega), if_neg q, if_neg q2, sub_ix, if_neg (by omega), if_neg (by omega)]
  | nm s => intro j; rfl
  | fn b ih => intro j; exact congrArg Cd.fn (ih (j + 1))
  | ap f a h1 h2 => intro j; exact ap2 (h1 j) (h2 j)
/-! ### steps -/
abbrev Pa := List Bool
inductive St : Pa → Cd → Cd → Prop
  | here (b a : Cd) : St [] (.ap (.fn b) a) (sub a 0 b)
  | fn {p : Pa} {b b' : Cd} : St p b b' → St (false :: p) (.fn b) (.fn b')
  | apl {p : Pa} {f f' a : Cd} : St p f f' → St (false :: p) (.ap f a) (.ap f' a)
  | apr {p : Pa} {f a a' : Cd} : St p a a' → St (true :: p) (.ap f a) (.ap f a')
theorem St.det {p : Pa} {c x y : Cd} (h : St p c x) (g : St p c y) : x = y := by
  induction h generalizing y with
  | here b a => cases g; rfl
  | fn _ ih => cases g with | fn g => rw [ih g]
  | apl _ ih => cases g with | apl g => rw [ih g]
  | apr _ ih => cases g with | apr g => rw [ih g]
theorem sub_St {p : Pa} {b b' : Cd} (h : St p b b') (e : Cd) : ∀ d, St p (sub e d b) (sub e d b') := by
  induction h with
  | here b a =>
    intro d
    have := S2 e a d b 0
    rw [Nat.add_zero] at this
    rw [this]
    exact .here _ _
  | fn _ ih => intro d; exact .fn (ih (d + 1))
  | apl _ ih => intro d; exact .apl (ih d)
  | apr _ ih => intro d; exact .apr (ih d)
theorem sh_St {p : Pa} {b b' : Cd} (h : St p b b') (k : Nat) : ∀ c, St p (sh k c b) (sh k c b') := by
  induction h with
  | here b a =>
    intro c
    have := S1 k c a b 0
    rw [Nat.add_zero] at this
    rw [this]
    exact .here _ _
  | fn _ ih => intro d; exact .fn (ih (d + 1))
  | apl _ ih => intro d; exact .apl (ih d)
  | apr _ ih => intro d; exact .apr (ih d)
theorem sh_dp (k : Nat) (b : Cd) : ∀ c, dp (sh k c b) = dp b := by
  induction b with
  | ix n => intro c; rw [sh_ix]; split <;> rfl
  | nm s => intro c; rfl
  | fn b ih => intro c; exact congrArg (· + 1) (ih (c + 1))
  | ap f a h1 h2 => intro c; show max _ _ + 1 = max _ _ + 1; rw [h1, h2]
theorem sh_sz (k : Nat) (b : Cd) : ∀ c, sz (sh k c b) = sz b := by
  induction b with
  | ix n => intro c; rw [sh_ix]; split <;> rfl
  | nm s => intro c; rfl
  | fn b ih => intro c; exact congrArg (· + 1) (ih (c + 1))
  | ap f a h1 h2 => intro c; show _ + _ + 1 = _ + _ + 1; rw [h1, h2]
theorem sub_dp (e b : Cd) : ∀ d, dp (sub e d b) ≤ dp b + dp e := by
  induction b with
  | ix n =>
    intro d; rw [sub_ix]
    split
    · exact Nat.zero_le _
    · split
      · rw [sh_dp]; exact Nat.le_add_left _ _
      · exact Nat.zero_le _
  | nm s => intro d; exact Nat.zero_le _
  | fn b ih => intro d; have := ih (d + 1); show dp _ + 1 ≤ dp b + 1 + dp e; omega
  | ap f a h1 h2 => intro d; have := h1 d; have := h2 d; show max (dp _) (dp _) + 1 ≤ max (dp f) (dp a) + 1 + dp e; omega
theorem sub_sz (e b : Cd) : ∀ d, sz (sub e d b) ≤ sz b * sz e := by
  have p := sz_pos e
  induction b with
  | ix n =>
    intro d; rw [sub_ix]
    show _ ≤ 1 * sz e
    rw [Nat.one_mul]
    split
    · exact p
    · split
      · rw [sh_sz]; exact Nat.le_refl _
      · exact p
  | nm s => intro d; show 1 ≤ 1 * sz e; rw [Nat.one_mul]; exact p
  | fn b ih => intro d; have := ih (d + 1); show sz _ + 1 ≤ (sz b + 1) * sz e; rw [Nat.add_mul]; omega
  | ap f a h1 h2 => intro d; have := h1 d; have := h2 d; show sz _ + sz _ + 1 ≤ (sz f + sz a + 1) * sz e; rw [Nat.add_mul, Nat.add_mul]; omega
theorem St.dp {p : Pa} {c c' : Cd} (h : St p c c') : KC.dp c' < sz c := by
  induction h with
  | here b a =>
    have h1 := sub_dp a b 0
    have h2 := dp_sz a
    have h3 := dp_sz b
    show _ < sz b + 1 + sz a + 1
    omega
  | fn _ ih => exact Nat.succ_lt_succ ih
  | @apl p f f' a _ ih => have h2 := dp_sz a; show max (KC.dp _) (KC.dp _) + 1 < sz _ + sz _ + 1; omega
  | @apr p f a a' _ ih => have h2 := dp_sz f; show max (KC.dp _) (KC.dp _) + 1 < sz _ + sz _ + 1; omega
theorem St.sz {p : Pa} {c c' : Cd} (h : St p c c') : KC.sz c' ≤ KC.sz c * KC.sz c := by
  induction h with
  | here b a =>
    have h1 := sub_sz a b 0
    refine Nat.le_trans h1 ?_
    exact Nat.mul_le_mul (show _ ≤ KC.sz b + 1 + KC.sz a + 1 by omega) (show _ ≤ KC.sz b + 1 + KC.sz a + 1 by omega)
  | @fn p b b' _ ih => show KC.sz b' + 1 ≤ (KC.sz b + 1) * (KC.sz b + 1); rw [Nat.add_mul, Nat.mul_add]; omega
  | @apl p f f' a _ ih =>
    show KC.sz f' + KC.sz a + 1 ≤ (KC.sz f + KC.sz a + 1) * (KC.sz f + KC.sz a + 1)
    have := sz_pos f
    have e : (KC.sz f + KC.sz a + 1) * (KC.sz f + KC.sz a + 1) = KC.sz f * KC.sz f + KC.sz f * (KC.sz a + 1) + (KC.sz a + 1) * (KC.sz f + KC.sz a + 1) := by rw [Nat.add_assoc, Nat.add_mul, Nat.mul_add, Nat.mul_add]
    have h2 : KC.sz a + 1 ≤ (KC.sz a + 1) * (KC.sz f + KC.sz a + 1) := Nat.le_mul_of_pos_right _ (by omega)
    omega
  | @apr p f a a' _ ih =>
    show KC.sz f + KC.sz a' + 1 ≤ (KC.sz f + KC.sz a + 1) * (KC.sz f + KC.sz a + 1)
    have e : (KC.sz f + KC.sz a + 1) * (KC.sz f + KC.sz a + 1) = KC.sz a * KC.sz a + KC.sz a * (KC.sz f + 1) + (KC.sz f + 1) * (KC.sz f + KC.sz a + 1) := by
      rw [show KC.sz f + KC.sz a + 1 = KC.sz a + (KC.sz f + 1) by omega, Nat.add_mul, Nat.mul_add]
    have h2 : KC.sz f + 1 ≤ (KC.sz f + 1) * (KC.sz f + KC.sz a + 1) := Nat.le_mul_of_pos_right _ (by omega)
    omega
theorem sh_clo (k : Nat) (b : Cd) : ∀ c n, clo n b → clo (n + k) (sh k c b) := by
  induction b with
  | ix i =>
    intro c n h
    have h : i < n := h
    rw [sh_ix]; split
    · show i + k < n + k; omega
    · show i < n + k; omega
  | nm s => intro c n h; exact True.intro
  | fn b ih => intro c n h; have := ih (c + 1) (n + 1) h; show clo (n + k + 1) _; rw [show n + k + 1 = n + 1 + k by omega]; exact this
  | ap f a h1 h2 => intro c n h; exact ⟨h1 c n h.1, h2 c n h.2⟩
theorem sub_clo (e b : Cd) (n : Nat) (he : clo n e) : ∀ d, clo (n + d + 1) b → clo (n + d) (sub e d b) := by
  induction b with
  | ix i =>
    intro d h
    have h : i < n + d + 1 := h
    rw [sub_ix]; split
    · show i < n + d; omega
    · split
      · exact sh_clo d e 0 n he
      · show i - 1 < n + d; omega
  | nm s => intro c h; exact True.intro
  | fn b ih => intro d h; exact ih (d + 1) h
  | ap f a h1 h2 => intro d h; exact ⟨h1 d h.1, h2 d h.2⟩
theorem St.clo {p : Pa} {c c' : Cd} (h : St p c c') : ∀ {n}, KC.clo n c → KC.clo n c' := by
  induction h with
  | here b a => intro n h; exact sub_clo a b n h.2 0 h.1
  | fn _ ih => intro n h; exact ih (n := n + 1) h
  | apl _ ih => intro n h; exact ⟨ih h.1, h.2⟩
  | apr _ ih => intro n h; exact ⟨h.1, ih h.2⟩
theorem sh_nms (k : Nat) (b : Cd) : ∀ c, nms (sh k c b) = nms b := by
  induction b with
  | ix n => intro c; rw [sh_ix]; split <;> rfl
  | nm s => intro c; rfl
  | fn b ih => intro c; exact ih (c + 1)
  | ap f a h1 h2 => intro c; show nms _ ++ nms _ = nms _ ++ nms _; rw [h1, h2]
theorem sub_nms {s : Str} (e b : Cd) : ∀ d, s ∈ nms (sub e d b) → s ∈ nms b ∨ s ∈ nms e := by
  induction b with
  | ix n =>
    intro d; rw [sub_ix]
    split
    · intro h; cases h
    · split
      · rw [sh_nms]; exact .inr
      · intro h; cases h
  | nm s => intro d h; exact .inl h
  | fn b ih => intro d h; exact ih (d + 1) h
  | ap f a h1 h2 =>
    intro d h
    rcases List.mem_append.mp h with h | h
    · exact (h1 d h).imp (fun q => List.mem_append_left _ q) id
    · exact (h2 d h).imp (fun q => List.mem_append_right _ q) id
theorem St.nms {s : Str} {p : Pa} {c c' : Cd} (h : St p c c') (hs : s ∈ KC.nms c') : s ∈ KC.nms c := by
  induction h with
  | here b a =>
    rcases sub_nms a b 0 hs with h | h
    · exact List.mem_append_left _ h
    · exact List.mem_append_right _ h
  | fn _ ih => exact ih hs
  | apl _ ih =>
    rcases List.mem_append.mp hs with h | h
    · exact List.mem_append_left _ (ih h)
    · exact List.mem_append_right _ h
  | apr _ ih =>
    rcases List.mem_append.mp hs with h | h
    · exact List.mem_append_left _ h
    · exact List.mem_append_right _ (ih h)
/-! ### runs -/
inductive Rn (P : Cd → Prop) : List Pa → Cd → Cd → Prop
  | nil {c : Cd} : P c → Rn P [] c c
  | cons {p : Pa} {L : List Pa} {c c' z : Cd} : P c → St p c c' → Rn P L c' z → Rn P (p :: L) c z
theorem Rn.app {P : Cd → Prop} {L M : List Pa} {c z w : Cd} (h : Rn P L c z) (g : Rn P M z w) : Rn P (L ++ M) c w := by
  induction h with
  | nil _ => exact g
  | cons a b _ ih => exact .cons a b (ih g)
theorem Rn.map {P P' : Cd → Prop} {g : Pa → Pa} {F : Cd → Cd} (hP : ∀ x, P x → P' (F x)) (hS : ∀ p x y, St p x y → St (g p) (F x) (F y)) {L : List Pa} {c z : Cd} (h : Rn P L c z) : Rn P' (L.map g) (F c) (F z) := by
  induction h with
  | nil a => exact .nil (hP _ a)
  | cons a b _ ih => exact .cons (hP _ a) (hS _ _ _ b) ih
theorem Rn.det {P : Cd → Prop} {L : List Pa} {c x y : Cd} (h : Rn P L c x) (g : Rn P L c y) : x = y := by
  induction h with
  | nil _ => cases g; rfl
  | cons a b _ ih => cases g with | cons a' b' g => rw [b.det b'] at ih; exact ih g
theorem Rn.imp {P P' : Cd → Prop} (hP : ∀ x, P x → P' x) {L : List Pa} {c z : Cd} (h : Rn P L c z) : Rn P' L c z := by
  have := h.map (g := id) (F := id) hP fun _ _ _ x => x
  rwa [List.map_id] at this
def uses : Nat → Cd → List Pa
  | d, .ix n => if n = d then [[]] else []
  | _, .nm _ => []
  | d, .fn b => (uses (d + 1) b).map (false :: ·)
  | d, .ap f a => (uses d f).map (false :: ·) ++ (uses d a).map (true :: ·)
theorem Rn.uses {r : Pa} {a a' : Cd} (h : St r a a') {m s : Nat} (m1 : KC.dp a ≤ m) (m2 : KC.dp a' ≤ m) (s1 : KC.sz a ≤ s) (s2 : KC.sz a' ≤ s) (b : Cd) :
    ∀ d, Rn (fun x => KC.dp x ≤ KC.dp b + m ∧ KC.sz x ≤ KC.sz b * s) ((uses d b).map (· ++ r)) (sub a d b) (sub a' d b) := by
  have sp : 0 < s := Nat.lt_of_lt_of_le (sz_pos a) s1
  have B : ∀ (b : Cd) (d : Nat) (e : Cd), KC.dp e ≤ m → KC.sz e ≤ s → KC.dp (sub e d b) ≤ KC.dp b + m ∧ KC.sz (sub e d b) ≤ KC.sz b * s := fun b d e h1 h2 =>
    ⟨Nat.le_trans (sub_dp e b d) (Nat.add_le_add_left h1 _), Nat.le_trans (sub_sz e b d) (Nat.mul_le_mul_left _ h2)⟩
  induction b with
  | ix n =>
    intro d
    show Rn _ ((if n = d then [[]] else []).map _) _ _
    by_cases e : n = d
    · rw [if_pos e]
      have q : ∀ e' : Cd, sub e' d (.ix n) = sh d 0 e' := fun e' => by rw [sub_ix, if_neg (by omega), if_pos e]
      refine .cons (B _ _ _ m1 s1) (c' := sub a' d (.ix n)) ?_ (.nil (B _ _ _ m2 s2))
      rw [q, q]
      exact sh_St h d 0
    · rw [if_neg e]
      have q : sub a' d (.ix n) = sub a d (.ix n) := by
        rw [sub_ix, sub_ix, if_neg e, if_neg e]
      rw [q]
      exact .nil (B _ _ _ m1 s1)
  | nm s' => intro d; exact .nil (B _ _ _ m1 s1)
  | fn b ih =>
    intro d
    show Rn _ (((KC.uses (d + 1) b).map (false :: ·)).map (· ++ r)) _ _
    rw [List.map_map, show ((fun x => x ++ r) ∘ fun x => false :: x) = (fun x => false :: x) ∘ (fun x => x ++ r) from rfl, ← List.map_map]
    refine (ih (d + 1)).map (F := Cd.fn) (fun x hx => ⟨?_, ?_⟩) fun _ _ _ q => .fn q
    · have := hx.1; show KC.dp x + 1 ≤ KC.dp b + 1 + m; omega
    · have := hx.2; show KC.sz x + 1 ≤ (KC.sz b + 1) * s; rw [Nat.add_mul]; omega
  | ap f g h1 h2 =>
    intro d
    show Rn _ (((KC.uses d f).map (false :: ·) ++ (KC.uses d g).map (true :: ·)).map (· ++ r)) _ _
    rw [List.map_append, List.map_map, List.map_map, show ((fun x => x ++ r) ∘ fun x => false :: x) = (fun x => false :: x) ∘ (fun x => x ++ r) from rfl, show ((fun x => x ++ r) ∘ fun x => true :: x) = (fun x => true :: x) ∘ (fun x => x ++ r) from rfl, ← List.map_map, ← List.map_map]
    refine ((h1 d).map (F := fun x => .ap x (sub a d g)) (fun x hx => ⟨?_, ?_⟩) fun _ _ _ q => .apl q).app ((h2 d).map (F := fun x => .ap (sub a' d f) x) (fun x hx => ⟨?_, ?_⟩) fun _ _ _ q => .apr q)
    · have := hx.1; have := (B g d a m1 s1).1; show max (KC.dp x) (KC.dp _) + 1 ≤ max (KC.dp f) (KC.dp g) + 1 + m; omega
    · have := hx.2; have := (B g d a m1 s1).2; show KC.sz x + KC.sz _ + 1 ≤ (KC.sz f + KC.sz g + 1) * s; rw [Nat.add_mul, Nat.add_mul]; omega
    · have := hx.1; have := (B f d a' m2 s2).1; show max (KC.dp _) (KC.dp x) + 1 ≤ max (KC.dp f) (KC.dp g) + 1 + m; omega
    · have := hx.2; have := (B f d a' m2 s2).2; show KC.sz _ + KC.sz x + 1 ≤ (KC.sz f + KC.sz g + 1) * s; rw [Nat.add_mul, Nat.add_mul]; omega
end KC

/-! codes: two steps meet; redexes; places -/
namespace KC
open PySem PySem.Spec PyProof.Rows L2 PD
def left : Cd → Pa → Pa → List Pa
  | .fn b, false :: p, false :: q => (left b p q).map (false :: ·)
  | .ap f _, false :: p, false :: q => (left f p q).map (false :: ·)
  | .ap _ a, true :: p, true :: q => (left a p q).map (true :: ·)
  | .ap (.fn _) _, [], false :: false :: r => [r]
  | .ap (.fn b) _, [], true :: r => (uses 0 b).map (· ++ r)
  | _, _, q => [q]
def cube (n : Nat) : Nat := n * n * n
theorem cube_of {x y z n : Nat} (hx : x ≤ n) (hy : y ≤ n) (hz : z ≤ n) : x * y * z ≤ cube n := Nat.mul_le_mul (Nat.mul_le_mul hx hy) hz
def PB (c : Cd) (x : Cd) : Prop := dp x < sz c ∧ sz x ≤ cube (sz c)
theorem cube1 {n : Nat} (h : 0 < n) : n ≤ cube n := by
  have : 1 * 1 * n ≤ cube n := cube_of h h (Nat.le_refl n)
  simpa using this
theorem cube2 {x y n : Nat} (h : 0 < n) (hx : x ≤ n) (hy : y ≤ n) : x * y ≤ cube n := by
  have : x * y * 1 ≤ cube n := cube_of hx hy h
  rwa [Nat.mul_one] at this
theorem sq_add (m n : Nat) : (m + n) * (m + n) = m * m + m * n + (n * m + n * n) := by rw [Nat.add_mul, Nat.mul_add, Nat.mul_add]
theorem PB.self (c : Cd) : PB c c := ⟨dp_sz c, cube1 (sz_pos c)⟩
theorem cube_add {m n k : Nat} (h : m + k ≤ n) (hn : 0 < m) : cube m + k ≤ cube n := by
  have h1 : cube (m + k) ≤ cube n := cube_of h h h
  have h2 : cube m + k ≤ cube (m + k) := by
    unfold cube
    have e : (m + k) * (m + k) * (m + k) = m * m * (m + k) + (m * k + k * (m + k)) * (m + k) := by rw [← Nat.add_mul]; congr 1; rw [Nat.add_mul, Nat.mul_add]; omega
    rw [e, Nat.mul_add]
    have h3 : k ≤ m * m * k := Nat.le_mul_of_pos_left _ (Nat.mul_pos hn hn)
    omega
  omega
theorem St.PB {p : Pa} {c c' : Cd} (h : St p c c') : KC.PB c c' := ⟨h.dp, Nat.le_trans h.sz (cube2 (sz_pos c) (Nat.le_refl _) (Nat.le_refl _))⟩
theorem PB.fn {b x : Cd} (h : PB b x) : PB (.fn b) (.fn x) := by
  refine ⟨Nat.succ_lt_succ h.1, ?_⟩
  have h2 := h.2
  have : cube (sz b) + 1 ≤ cube (sz b + 1) := cube_add (Nat.le_refl _) (sz_pos b)
  show sz x + 1 ≤ cube (sz b + 1)
  omega
theorem PB.apl {f x : Cd} (a : Cd) (h : PB f x) : PB (.ap f a) (.ap x a) := by
  obtain ⟨h1, h2⟩ := h
  have h3 := dp_sz a
  have : cube (sz f) + (sz a + 1) ≤ cube (sz f + sz a + 1) := cube_add (by omega) (sz_pos f)
  refine ⟨?_, ?_⟩
  · show max (dp x) (dp a) + 1 < sz f + sz a + 1; omega
  · show sz x + sz a + 1 ≤ cube (sz f + sz a + 1); omega
theorem PB.apr {a x : Cd} (f : Cd) (h : PB a x) : PB (.ap f a) (.ap f x) := by
  obtain ⟨h1, h2⟩ := h
  have h3 := dp_sz f
  have : cube (sz a) + (sz f + 1) ≤ cube (sz f + sz a + 1) := cube_add (by omega) (sz_pos a)
  refine ⟨?_, ?_⟩
  · show max (dp f) (dp x) + 1 < sz f + sz a + 1; omega
  · show sz f + sz x + 1 ≤ cube (sz f + sz a + 1); omega
theorem left_0 (c : Cd) (p : Pa) : left c p [] = [[]] := by
  cases c with
  | ap f a => cases p with
    | nil => cases f <;> rfl
    | cons b p => cases b <;> cases f <;> rfl
  | fn b => cases p with
    | nil => rfl
    | cons x p => cases x <;> rfl
  | ix n => rfl
  | nm s => rfl
theorem meet0 {q : Pa} {b a y : Cd} (hq : St q (.ap (.fn b) a) y) (ne : [] ≠ q) : ∃ z, Rn (PB (.ap (.fn b) a)) ([] :: left (.ap (.fn b) a) [] q) (.ap (.fn b) a) z ∧ Rn (PB (.ap (.fn b) a)) (q :: left (.ap (.fn b) a) q []) (.ap (.fn b) a) z := by
  have h2 := dp_sz a
  have h3 := dp_sz b
  have p1 := sz_pos a
  have p2 := sz_pos b
  have hc : sz (.ap (.fn b) a) = sz b + 1 + sz a + 1 := rfl
  have s0 := St.here b a
  rw [left_0]
  cases hq with
  | here => exact absurd rfl ne
  | @apl q f f' _ hq =>
    cases hq with
    | @fn r _ b' hr =>
      have d1 := hr.dp
      have d2 := hr.sz
      refine ⟨sub a 0 b', .cons (PB.self _) s0 (.cons s0.PB (sub_St hr a 0) (.nil ⟨?_, ?_⟩)), .cons (PB.self _) (.apl (.fn hr)) (.cons (St.PB (.apl (.fn hr))) (.here b' a) (.nil ⟨?_, ?_⟩))⟩
      · have := sub_dp a b' 0; omega
      · exact Nat.le_trans (sub_sz a b' 0) (Nat.le_trans (Nat.mul_le_mul_right _ d2) (cube_of (by omega) (by omega) (by omega)))
      · have := sub_dp a b' 0; omega
      · exact Nat.le_trans (sub_sz a b' 0) (Nat.le_trans (Nat.mul_le_mul_right _ d2) (cube_of (by omega) (by omega) (by omega)))
  | @apr r f _ a' hr =>
    have d1 := hr.dp
    have d2 := hr.sz
    have sq : sz a ≤ sz a * sz a := Nat.le_mul_of_pos_left _ p1
    have hu := Rn.uses hr (m := sz a - 1) (s := sz a * sz a) (by omega) (by omega) sq d2 b 0
    have hu2 : Rn (PB (.ap (.fn b) a)) _ _ _ := hu.imp fun x hx => ⟨by have := hx.1; omega, by
      refine Nat.le_trans hx.2 ?_
      rw [← Nat.mul_assoc]
      exact cube_of (by omega) (by omega) (by omega)⟩
    refine ⟨sub a' 0 b, .cons (PB.self _) s0 hu2, .cons (PB.self _) (.apr hr) (.cons (St.PB (.apr hr)) (.here b a') (.nil ⟨?_, ?_⟩))⟩
    · have := sub_dp a' b 0; omega
    · refine Nat.le_trans (sub_sz a' b 0) (Nat.le_trans (Nat.mul_le_mul_left _ d2) ?_)
      rw [← Nat.mul_assoc]
      exact cube_of (by omega) (by omega) (by omega)
theorem meet {p q : Pa} {c x y : Cd} (hp : St p c x) (hq : St q c y) (ne : p ≠ q) : ∃ z, Rn (PB c) (p :: left c p q) c z ∧ Rn (PB c) (q :: left c q p) c z := by
  induction hp generalizing q y with
  | here b a => exact meet0 hq ne
  | @fn p b b' hp ih =>
    cases hq with
    | @fn q _ b2 hq =>
      obtain ⟨z, h1, h2⟩ := ih hq fun e => ne (by rw [e])
      exact ⟨.fn z, h1.map (fun _ h => h.fn) fun _ _ _ h => .fn h, h2.map (fun _ h => h.fn) fun _ _ _ h => .fn h⟩
  | @apl p f f' a hp ih =>
    cases hq with
    | here b =>
      obtain ⟨z, h1, h2⟩ := meet0 (.apl hp) (by simp)
      exact ⟨z, h2, h1⟩
    | @apl q _ f2 _ hq =>
      obtain ⟨z, h1, h2⟩ := ih hq fun e => ne (by rw [e])
      exact ⟨.ap z a, h1.map (F := fun x => .ap x a) (fun _ h => h.apl a) fun _ _ _ h => .apl h, h2.map (F := fun x => .ap x a) (fun _ h => h.apl a) fun _ _ _ h => .apl h⟩
    | @apr q _ _ a' hq =>
      have e1 : left (.ap f a) (false :: p) (true :: q) = [true :: q] := by cases f <;> rfl
      have e2 : left (.ap f a) (true :: q) (false :: p) = [false :: p] := by cases f <;> rfl
      rw [e1, e2]
      have f1 := (St.PB hp)
      have g1 := (St.PB hq)
      have pz : PB (.ap f a) (.ap f' a') := by
        have d1 := hp.dp
        have d2 := hq.dp
        have d3 := hp.sz
        have d4 := hq.sz
        refine ⟨?_, ?_⟩
        · show max (dp f') (dp a') + 1 < sz f + sz a + 1; omega
        · show sz f' + sz a' + 1 ≤ cube (sz f + sz a + 1)
          have : (sz f + sz a + 1) * (sz f + sz a + 1) ≤ cube (sz f + sz a + 1) := cube2 (by omega) (Nat.le_refl _) (Nat.le_refl _)
          have e : (sz f + sz a + 1) * (sz f + sz a + 1) = sz f * sz f + sz f * (sz a + 1) + ((sz a + 1) * sz f + (sz a + 1) * (sz a + 1)) := by rw [Nat.add_assoc]; exact sq_add _ _
          have e2 : (sz a + 1) * (sz a + 1) = sz a * sz a + sz a + (sz a + 1) := by rw [Nat.add_mul, Nat.mul_add]; omega
          omega
      exact ⟨.ap f' a', .cons (PB.self _) (.apl hp) (.cons (St.PB (.apl hp)) (.apr hq) (.nil pz)), .cons (PB.self _) (.apr hq) (.cons (St.PB (.apr hq)) (.apl hp) (.nil pz))⟩
  | @apr p f a a' hp ih =>
    cases hq with
    | here b =>
      obtain ⟨z, h1, h2⟩ := meet0 (.apr hp) (by simp)
      exact ⟨z, h2, h1⟩
    | @apl q _ f' _ hq =>
      have e1 : left (.ap f a) (false :: q) (true :: p) = [true :: p] := by cases f <;> rfl
      have e2 : left (.ap f a) (true :: p) (false :: q) = [false :: q] := by cases f <;> rfl
      rw [e1, e2]
      have pz : PB (.ap f a) (.ap f' a') := by
        have d1 := hq.dp
        have d2 := hp.dp
        have d3 := hq.sz
        have d4 := hp.sz
        refine ⟨?_, ?_⟩
        · show max (dp f') (dp a') + 1 < sz f + sz a + 1; omega
        · show sz f' + sz a' + 1 ≤ cube (sz f + sz a + 1)
          have : (sz f + sz a + 1) * (sz f + sz a + 1) ≤ cube (sz f + sz a + 1) := cube2 (by omega) (Nat.le_refl _) (Nat.le_refl _)
          have e : (sz f + sz a + 1) * (sz f + sz a + 1) = sz f * sz f + sz f * (sz a + 1) + ((sz a + 1) * sz f + (sz a + 1) * (sz a + 1)) := by rw [Nat.add_assoc]; exact sq_add _ _
          have e2 : (sz a + 1) * (sz a + 1) = sz a * sz a + sz a + (sz a + 1) := by rw [Nat.add_mul, Nat.mul_add]; omega
          omega
      exact ⟨.ap f' a', .cons (PB.self _) (.apr hp) (.cons (St.PB (.apr hp)) (.apl hq) (.nil pz)), .cons (PB.self _) (.apl hq) (.cons (St.PB (.apl hq)) (.apr hp) (.nil pz))⟩
    | @apr q _ _ a2 hq =>
      obtain ⟨z, h1, h2⟩ := ih hq fun e => ne (by rw [e])
      exact ⟨.ap f z, h1.map (F := fun x => .ap f x) (fun _ h => h.apr f) fun _ _ _ h => .apr h, h2.map (F := fun x => .ap f x) (fun _ h => h.apr f) fun _ _ _ h => .apr h⟩
/-! ### redexes -/
def isRx : Cd → Bool
  | .ap (.fn _) _ => true
  | _ => false
def rdx : Cd → List Pa
  | .ix _ => []
  | .nm _ => []
  | .fn b => (rdx b).map (false :: ·)
  | .ap f a => (if isRx (.ap f a) = true then [[]] else []) ++ ((rdx f).map (false :: ·) ++ (rdx a).map (true :: ·))
theorem mem_rdx {p : Pa} {c : Cd} : p ∈ rdx c ↔ ∃ c', St p c c' := by
  constructor
  · induction c generalizing p with
    | ix n => intro h; cases h
    | nm s => intro h; cases h
    | fn b ih =>
      intro h
      obtain ⟨q, hq, rfl⟩ := List.mem_map.mp h
      obtain ⟨x, hx⟩ := ih hq
      exact ⟨_, .fn hx⟩
    | ap f a h1 h2 =>
      intro h
      rcases List.mem_append.mp h with h | h
      · split at h
        · rename_i g
          rw [List.mem_singleton.mp h]
          cases f with
          | fn b => exact ⟨_, .here b a⟩
          | ix n => cases g
          | nm s => cases g
          | ap x y => cases g
        · cases h
      · rcases List.mem_append.mp h with h | h
        · obtain ⟨q, hq, rfl⟩ := List.mem_map.mp h
          obtain ⟨x, hx⟩ := h1 hq
          exact ⟨_, .apl hx⟩
        · obtain ⟨q, hq, rfl⟩ := List.mem_map.mp h
          obtain ⟨x, hx⟩ := h2 hq
          exact ⟨_, .apr hx⟩
  · rintro ⟨c', h⟩
    induction h with
    | here b a => exact List.mem_append_left _ (by simp [isRx])
    | fn _ ih => exact List.mem_map.mpr ⟨_, ih, rfl⟩
    | apl _ ih => exact List.mem_append_right _ (List.mem_append_left _ (List.mem_map.mpr ⟨_, ih, rfl⟩))
    | apr _ ih => exact List.mem_append_right _ (List.mem_append_right _ (List.mem_map.mpr ⟨_, ih, rfl⟩))
def all : Cd → List (Pa × Cd)
  | .ix n => [([], .ix n)]
  | .nm s => [([], .nm s)]
  | .fn b => ([], .fn b) :: (all b).map fun x => (false :: x.1, x.2)
  | .ap f a => ([], .ap f a) :: ((all f).map (fun x => (false :: x.1, x.2)) ++ (all a).map fun x => (true :: x.1, x.2))
theorem rdx_all (c : Cd) : rdx c = ((all c).filter fun x => isRx x.2).map (·.1) := by
  induction c with
  | ix n => rfl
  | nm s => rfl
  | fn b ih =>
    unfold all rdx
    rw [List.filter_cons, if_neg (by simp [isRx]), ih, List.filter_map, List.map_map, List.map_map]; rfl
  | ap f a h1 h2 =>
    unfold all rdx
    rw [List.filter_cons, h1, h2, List.filter_append, List.filter_map, List.filter_map]
    split
    · rename_i g
      rw [List.map_cons, List.map_append, List.map_map, List.map_map, List.map_map, List.map_map]; rfl
    · rename_i g
      rw [List.map_append, List.map_map, List.map_map, List.map_map, List.map_map]; rfl
theorem all_len (c : Cd) : (all c).length = sz c := by
  induction c with
  | ix n => rfl
  | nm s => rfl
  | fn b ih => unfold all sz; rw [List.length_cons, List.length_map, ih]
  | ap f a h1 h2 => unfold all sz; rw [List.length_cons, List.length_append, List.length_map, List.length_map, h1, h2]
/-! ### places -/
def part : Cd → Pa → Option Cd
  | c, [] => some c
  | .fn b, false :: p => part b p
  | .ap f _, false :: p => part f p
  | .ap _ a, true :: p => part a p
  | _, _ :: _ => none
def repl : Cd → Pa → Cd → Cd
  | _, [], x => x
  | .fn b, _ :: p, x => .fn (repl b p x)
  | .ap f a, false :: p, x => .ap (repl f p x) a
  | .ap f a, true :: p, x => .ap f (repl a p x)
  | c, _ :: _, _ => c
theorem St.at {p : Pa} {c c' : Cd} (h : St p c c') : ∃ b a, part c p = some (.ap (.fn b) a) ∧ c' = repl c p (sub a 0 b) := by
  induction h with
  | here b a => exact ⟨b, a, rfl, rfl⟩
  | fn _ ih => obtain ⟨b, a, h1, h2⟩ := ih; exact ⟨b, a, h1, by rw [h2]; rfl⟩
  | apl _ ih => obtain ⟨b, a, h1, h2⟩ := ih; exact ⟨b, a, h1, by rw [h2]; rfl⟩
  | apr _ ih => obtain ⟨b, a, h1, h2⟩ := ih; exact ⟨b, a, h1, by rw [h2]; rfl⟩
/-- the parts along a path -/
def alongs : Cd → Pa → List Cd
  | c, [] => [c]
  | .fn b, false :: p => .fn b :: alongs b p
  | .ap f a, false :: p => .ap f a :: alongs f p
  | .ap f a, true :: p => .ap f a :: alongs a p
  | c, _ :: _ => [c]
/-- the residuals, as the law tells them -/
def bodyAt (c : Cd) (p : Pa) : Cd := match part c p with
  | some (.ap (.fn b) _) => b
  | _ => c
def leftL (c : Cd) (p q : Pa) : List Pa :=
  if q.take p.length ≠ p then [q] else match q.drop p.length with
    | false :: r => [p ++ r.drop 1]
    | true :: r => (uses 0 (bodyAt c p)).map fun u => p ++ u ++ r
    | [] => [q]
theorem leftL_cons {c c1 : Cd} {x : Bool} (p q : Pa) (h : part c (x :: p) = part c1 p) : (∃ b a, part c1 p = some (.ap (.fn b) a)) → leftL c (x :: p) (x :: q) = (leftL c1 p q).map (x :: ·) := by
  rintro ⟨b, a, hp⟩
  have hb : bodyAt c (x :: p) = bodyAt c1 p := by unfold bodyAt; rw [h, hp]
  unfold leftL
  rw [List.length_cons, List.take_succ_cons, List.drop_succ_cons, hb]
  by_cases e : q.take p.length = p
  · rw [if_neg (by rw [e]; simp), if_neg (by simp [e])]
    cases q.drop p.length with
    | nil => rfl
    | cons y r =>
      cases y with
      | false => rfl
      | true => simp only [List.map_map]; rfl
  · rw [if_pos (fun q => e (List.cons.inj q).2), if_pos e]; rfl
theorem left_L {p q : Pa} {c x y : Cd} (hp : St p c x) (hq : St q c y) (ne : p ≠ q) : left c p q = leftL c p q := by
  induction hp generalizing q y with
  | here b a =>
    cases hq with
    | here => exact absurd rfl ne
    | @apl q f f' _ hq => cases hq with | @fn r _ b' hr => simp [leftL, left]
    | @apr r f _ a' hr => simp [leftL, left, bodyAt, part]
  | @fn p b b' hp ih =>
    cases hq with
    | @fn q _ b2 hq =>
      obtain ⟨b1, a1, h1, _⟩ := hp.at
      rw [leftL_cons (c1 := b) p q rfl ⟨_, _, h1⟩, ← ih hq fun e => ne (by rw [e])]; rfl
  | @apl p f f' a hp ih =>
    obtain ⟨b1, a1, h1, _⟩ := hp.at
    cases hq with
    | here b => rw [left_0]; simp [leftL]
    | @apl q _ f2 _ hq => rw [leftL_cons (c1 := f) p q rfl ⟨_, _, h1⟩, ← ih hq fun e => ne (by rw [e])]; cases f <;> rfl
    | @apr q _ _ a' hq =>
      have e1 : left (.ap f a) (false :: p) (true :: q) = [true :: q] := by cases f <;> rfl
      rw [e1]; simp [leftL]
  | @apr p f a a' hp ih =>
    obtain ⟨b1, a1, h1, _⟩ := hp.at
    cases hq with
    | here b => rw [left_0]; simp [leftL]
    | @apl q _ f' _ hq =>
      have e2 : left (.ap f a) (true :: p) (false :: q) = [false :: q] := by cases f <;> rfl
      rw [e2]; simp [leftL]
    | @apr q _ _ a2 hq => rw [leftL_cons (c1 := a) p q rfl ⟨_, _, h1⟩, ← ih hq fun e => ne (by rw [e])]; cases f <;> rfl
end KC

/-! codes: programs whose functions bind names -/
namespace KC
open PySem PySem.Spec PyProof.Rows L2 PD
inductive Pg where
  | nm (s : Str)
  | fn (x : Str) (b : Pg)
  | ap (f a : Pg)
deriving DecidableEq
def pgD : Pg → D
  | .nm s => .str s
  | .fn x b => .tuple [sTo, .str x, pgD b]
  | .ap f a => .tuple [sOf, pgD f, pgD a]
def gdp : Pg → Nat
  | .nm _ => 0
  | .fn _ b => gdp b + 1
  | .ap f a => max (gdp f) (gdp a) + 1
abbrev z0 : Str := ⟨#[48]⟩
abbrev z1 : Str := ⟨#[49]⟩
abbrev z2 : Str := ⟨#[50]⟩
/-- es: the names of the functions around, the innermost first -/
def named : List Str → Str → Cd → Pg
  | es, _, .ix i => .nm (es.getD i ⟨#[]⟩)
  | _, _, .nm s => .nm s
  | es, m, .fn b => .fn (m ++ z0) (named ((m ++ z0) :: es) (m ++ z0) b)
  | es, m, .ap f a => .ap (named es (m ++ z1) f) (named es (m ++ z2) a)
def replaced (x : Str) (A : Pg) : Pg → Pg
  | .nm s => if s = x then A else .nm s
  | .fn y b => .fn y (replaced x A b)
  | .ap f a => .ap (replaced x A f) (replaced x A a)
def ixf (s : Str) : List Str → Nat
  | [] => 0
  | x :: l => if x = s then 0 else ixf s l + 1
def code : List Str → Pg → Cd
  | es, .nm s => if s ∈ es then .ix (ixf s es) else .nm s
  | es, .fn x b => .fn (code (x :: es) b)
  | es, .ap f a => .ap (code es f) (code es a)
def sl (s : Str) : Nat := s.cps.size
def isB (s : Str) : Prop := s.cps[0]? = some 66
theorem sl_app (a b : Str) : sl (a ++ b) = sl a + sl b := Array.size_append
theorem isB_app {a : Str} (b : Str) (h : isB a) : isB (a ++ b) := by
  have e : (a ++ b).cps = a.cps ++ b.cps := rfl
  unfold isB at *
  rw [e, Array.getElem?_append_left ((Array.getElem?_eq_some_iff.mp h).1)]
  exact h
/-- the names around are told apart from all that come -/
structure Nok (es : List Str) (m : Str) : Prop where
  nd : es.Nodup
  mb : isB m
  eb : ∀ e ∈ es, isB e ∧ sl e ≤ sl m
theorem Nok.not (h : Nok es m) : m ++ z0 ∉ es := fun hm => by
  have := (h.eb _ hm).2
  rw [sl_app] at this
  have e : sl z0 = 1 := rfl
  omega
theorem Nok.fn {es : List Str} {m : Str} (h : Nok es m) : Nok ((m ++ z0) :: es) (m ++ z0) := by
  refine ⟨List.nodup_cons.mpr ⟨h.not, h.nd⟩, isB_app _ h.mb, fun e he => ?_⟩
  rcases List.mem_cons.mp he with rfl | he
  · exact ⟨isB_app _ h.mb, Nat.le_refl _⟩
  · have := h.eb e he
    rw [sl_app]
    exact ⟨this.1, by omega⟩
theorem Nok.to {es : List Str} {m : Str} (h : Nok es m) (z : Str) : Nok es (m ++ z) :=
  ⟨h.nd, isB_app _ h.mb, fun e he => ⟨(h.eb e he).1, by rw [sl_app]; have := (h.eb e he).2; omega⟩⟩
def Nn (c : Cd) : Prop := ∀ s ∈ nms c, ¬ isB s
theorem ixf_at : ∀ {es : List Str}, es.Nodup → ∀ {i : Nat} (h : i < es.length), ixf es[i] es = i
  | x :: l, _, 0, _ => if_pos rfl
  | x :: l, nd, i + 1, h => by
    have hi : i < l.length := Nat.lt_of_succ_lt_succ h
    have ne : x ≠ l[i] := fun q => (List.nodup_cons.mp nd).1 (by rw [q]; exact List.getElem_mem hi)
    show (if x = l[i] then 0 else ixf l[i] l + 1) = i + 1
    rw [if_neg ne, ixf_at (List.nodup_cons.mp nd).2 hi]
theorem idx_at {es : List Str} (nd : es.Nodup) {i : Nat} (h : i < es.length) : ixf (es.getD i ⟨#[]⟩) es = i := by
  rw [List.getD_eq_getElem?_getD, List.getElem?_eq_getElem h]
  exact ixf_at nd h
theorem idx_left {r : List Str} {s : Str} : ∀ {l : List Str}, s ∈ l → ixf s (l ++ r) = ixf s l
  | x :: l, h => by
    show (if x = s then 0 else ixf s (l ++ r) + 1) = if x = s then 0 else ixf s l + 1
    by_cases e : x = s
    · rw [if_pos e, if_pos e]
    · rw [if_neg e, if_neg e, idx_left ((List.mem_cons.mp h).resolve_left (Ne.symm e))]
theorem getD_in {es : List Str} {i : Nat} (h : i < es.length) : es.getD i ⟨#[]⟩ ∈ es := by
  rw [List.getD_eq_getElem?_getD, List.getElem?_eq_getElem h]
  exact List.getElem_mem h
theorem code_named {c : Cd} : ∀ {es : List Str} {m : Str}, Nok es m → clo es.length c → Nn c → code es (named es m c) = c := by
  induction c with
  | ix i =>
    intro es m h hc _
    have hc : i < es.length := hc
    show (if _ ∈ es then Cd.ix (ixf _ es) else _) = _
    rw [if_pos (getD_in hc), idx_at h.nd hc]
  | nm s =>
    intro es m h _ hn
    exact if_neg fun q => hn s (List.mem_singleton_self _) (h.eb s q).1
  | fn b ih => intro es m h hc hn; exact congrArg Cd.fn (ih h.fn hc hn)
  | ap f a h1 h2 => intro es m h hc hn; exact ap2 (h1 (h.to _) hc.1 fun s hs => hn s (List.mem_append_left _ hs)) (h2 (h.to _) hc.2 fun s hs => hn s (List.mem_append_right _ hs))
theorem idx_right {r : List Str} {s : Str} : ∀ {l : List Str}, s ∉ l → ixf s (l ++ r) = l.length + ixf s r
  | [], _ => by rw [List.nil_append, List.length_nil, Nat.zero_add]
  | x :: l, h => by
    show (if x = s then 0 else ixf s (l ++ r) + 1) = _
    rw [if_neg fun e => h (by rw [e]; exact List.mem_cons_self), idx_right fun q => h (List.mem_cons_of_mem _ q), List.length_cons]
    omega
theorem weak {es ds : List Str} (hd : ∀ e ∈ es, e ∉ ds) (db : ∀ e ∈ ds, isB e) {c : Cd} : ∀ {bs : List Str} {m : Str}, Nok (bs ++ es) m → clo (bs.length + es.length) c → Nn c → code (bs ++ (ds ++ es)) (named (bs ++ es) m c) = sh ds.length bs.length c := by
  induction c with
  | ix i =>
    intro bs m h hc _
    have hc : i < bs.length + es.length := hc
    obtain ⟨nb, ne, nd⟩ := List.nodup_append.mp h.nd
    rw [sh_ix]
    show (if _ ∈ _ then Cd.ix (ixf _ _) else _) = _
    by_cases hi : i < bs.length
    · have e : (bs ++ es).getD i ⟨#[]⟩ = bs.getD i ⟨#[]⟩ := by rw [List.getD_eq_getElem?_getD, List.getD_eq_getElem?_getD, List.getElem?_append_left hi]
      rw [e, if_pos (List.mem_append_left _ (getD_in hi)), if_neg (by omega), idx_left (getD_in hi), idx_at nb hi]
    · have e : (bs ++ es).getD i ⟨#[]⟩ = es.getD (i - bs.length) ⟨#[]⟩ := by rw [List.getD_eq_getElem?_getD, List.getD_eq_getElem?_getD, List.getElem?_append_right (by omega)]
      have he := getD_in (es := es) (i := i - bs.length) (by omega)
      rw [e, if_pos (List.mem_append_right _ (List.mem_append_right _ he)), if_pos (by omega), idx_right (fun q => nd _ q _ he rfl), idx_right (hd _ he), idx_at ne (by omega)]
      congr 1; omega
  | nm s =>
    intro bs m h _ hn
    refine if_neg fun q => hn s (List.mem_singleton_self _) ?_
    rcases List.mem_append.mp q with q | q
    · exact (h.eb s (List.mem_append_left _ q)).1
    · rcases List.mem_append.mp q with q | q
      · exact db s q
      · exact (h.eb s (List.mem_append_right _ q)).1
  | fn b ih =>
    intro bs m h hc hn
    have := ih (bs := (m ++ z0) :: bs) h.fn (by rw [List.length_cons]; have hc : clo (bs.length + es.length + 1) b := hc; rw [show bs.length + 1 + es.length = bs.length + es.length + 1 by omega]; exact hc) hn
    exact congrArg Cd.fn this
  | ap f a h1 h2 => intro bs m h hc hn; exact ap2 (h1 (h.to _) hc.1 fun s hs => hn s (List.mem_append_left _ hs)) (h2 (h.to _) hc.2 fun s hs => hn s (List.mem_append_right _ hs))
theorem code_repl {es : List Str} {x : Str} {a : Cd} {m2 : Str} (xb : isB x) (ha : Nok es m2) (ca : clo es.length a) (na : Nn a) {c : Cd} :
    ∀ {ds : List Str} {m : Str}, Nok (ds ++ x :: es) m → clo (ds.length + 1 + es.length) c → Nn c → code (ds ++ es) (replaced x (named es m2 a) (named (ds ++ x :: es) m c)) = sub a ds.length c := by
  induction c with
  | ix i =>
    intro ds m h hc _
    have hc : i < ds.length + 1 + es.length := hc
    obtain ⟨nd1, nd2, nd3⟩ := List.nodup_append.mp h.nd
    obtain ⟨nx, ne⟩ := List.nodup_cons.mp nd2
    have xd : x ∉ ds := fun q => nd3 x q x List.mem_cons_self rfl
    rw [sub_ix]
    show code _ (if (ds ++ x :: es).getD i ⟨#[]⟩ = x then _ else _) = _
    by_cases hi : i < ds.length
    · have e : (ds ++ x :: es).getD i ⟨#[]⟩ = ds.getD i ⟨#[]⟩ := by rw [List.getD_eq_getElem?_getD, List.getD_eq_getElem?_getD, List.getElem?_append_left hi]
      have hm := getD_in hi
      rw [e, if_neg (fun q => xd (by rw [← q]; exact hm)), if_pos hi]
      show (if _ ∈ _ then Cd.ix (ixf _ _) else _) = _
      rw [if_pos (List.mem_append_left _ hm), idx_left hm, idx_at nd1 hi]
    · rw [if_neg hi]
      by_cases hj : i = ds.length
      · have e : (ds ++ x :: es).getD i ⟨#[]⟩ = x := by rw [List.getD_eq_getElem?_getD, List.getElem?_append_right (by omega), hj, Nat.sub_self]; rfl
        rw [e, if_pos rfl, if_pos hj]
        exact weak (bs := []) (fun e he q => nd3 e q e (List.mem_cons_of_mem _ he) rfl) (fun e he => (h.eb e (List.mem_append_left _ he)).1) ha (by rw [List.length_nil, Nat.zero_add]; exact ca) na
      · have e : (ds ++ x :: es).getD i ⟨#[]⟩ = es.getD (i - ds.length - 1) ⟨#[]⟩ := by
          rw [List.getD_eq_getElem?_getD, List.getD_eq_getElem?_getD, List.getElem?_append_right (by omega), show i - ds.length = (i - ds.length - 1) + 1 by omega, List.getElem?_cons_succ]
          rfl
        have he := getD_in (es := es) (i := i - ds.length - 1) (by omega)
        rw [e, if_neg (fun q => nx (by rw [← q]; exact he)), if_neg hj]
        show (if _ ∈ _ then Cd.ix (ixf _ _) else _) = _
        rw [if_pos (List.mem_append_right _ he), idx_right (fun q => nd3 _ q _ (List.mem_cons_of_mem _ he) rfl), idx_at ne (by omega)]
        congr 1; omega
  | nm s =>
    intro ds m h _ hn
    have ns := hn s (List.mem_singleton_self _)
    show code _ (if s = x then _ else _) = _
    rw [if_neg (fun q => ns (by rw [q]; exact xb))]
    refine if_neg fun q => ns ?_
    rcases List.mem_append.mp q with q | q
    · exact (h.eb s (List.mem_append_left _ q)).1
    · exact (h.eb s (List.mem_append_right _ (List.mem_cons_of_mem _ q))).1
  | fn b ih =>
    intro ds m h hc hn
    have := ih (ds := (m ++ z0) :: ds) h.fn (by rw [List.length_cons]; have hc : clo (ds.length + 1 + es.length + 1) b := hc; rw [show ds.length + 1 + 1 + es.length = ds.length + 1 + es.length + 1 by omega]; exact hc) hn
    exact congrArg Cd.fn this
  | ap f a h1 h2 => intro ds m h hc hn; exact ap2 (h1 (h.to _) hc.1 fun s hs => hn s (List.mem_append_left _ hs)) (h2 (h.to _) hc.2 fun s hs => hn s (List.mem_append_right _ hs))
def stepN : Pa → Pg → Pg
  | [], .ap (.fn x b) a => replaced x a b
  | false :: p, .fn x b => .fn x (stepN p b)
  | false :: p, .ap f a => .ap (stepN p f) a
  | true :: p, .ap f a => .ap f (stepN p a)
  | _, g => g
theorem stepN_code {p : Pa} {c c' : Cd} (h : St p c c') : ∀ {es : List Str} {m : Str}, Nok es m → clo es.length c → Nn c → code es (stepN p (named es m c)) = c' := by
  induction h with
  | here b a =>
    intro es m h hc hn
    exact code_repl (ds := []) (m2 := m ++ z2) (isB_app _ (h.to z1).mb) (h.to _) hc.2 (fun s hs => hn s (List.mem_append_right _ hs)) (h.to z1).fn (by have hc : clo (es.length + 1) b := hc.1; rw [List.length_nil, Nat.zero_add, Nat.add_comm]; exact hc) fun s hs => hn s (List.mem_append_left _ hs)
  | fn _ ih => intro es m h hc hn; exact congrArg Cd.fn (ih h.fn hc hn)
  | apl _ ih => intro es m h hc hn; exact ap2 (ih (h.to _) hc.1 fun s hs => hn s (List.mem_append_left _ hs)) (code_named (h.to _) hc.2 fun s hs => hn s (List.mem_append_right _ hs))
  | apr _ ih => intro es m h hc hn; exact ap2 (code_named (h.to _) hc.1 fun s hs => hn s (List.mem_append_left _ hs)) (ih (h.to _) hc.2 fun s hs => hn s (List.mem_append_right _ hs))
theorem named_gdp (c : Cd) : ∀ es m, gdp (named es m c) = dp c := by
  induction c with
  | ix n => intro _ _; rfl
  | nm s => intro _ _; rfl
  | fn b ih => intro es m; exact congrArg (· + 1) (ih _ _)
  | ap f a h1 h2 => intro es m; show max _ _ + 1 = max _ _ + 1; rw [h1, h2]
end KC

/-! specs by a letter: what is called with args a (P a) gives what res a says -/
namespace PD
open PySem PySem.Spec PyProof.Rows L2
def spF {α : Type} (P : α → Prop) (args : α → List D) (res : α → D → Prop) : FnS := ⟨fun ds => ∃ a, P a ∧ ds = args a, fun ds d => ∀ a, P a → ds = args a → res a d⟩
abbrev spE {α : Type} (P : α → Prop) (args : α → List D) (f : α → D) : FnS := spF P args fun a d => d = f a
section
variable {α : Type} {P : α → Prop} {args : α → List D} {res : α → D → Prop} {f : α → D} {G : Gb} {k n : Nat} {B : Ss}
theorem callF (h : G.fn k = spF P args res) (a : α) (hp : P a) {Q : D → Prop} (hQ : ∀ d, res a d → Q d) : (G.fn k).pre (args a) ∧ ∀ d, (G.fn k).post (args a) d → Q d := by
  rw [h]
  exact ⟨⟨a, hp, rfl⟩, fun d hd => hQ d (hd a hp rfl)⟩
theorem callE (h : G.fn k = spE P args f) (a : α) (hp : P a) {Q : D → Prop} (hQ : Q (f a)) : (G.fn k).pre (args a) ∧ ∀ d, (G.fn k).post (args a) d → Q d := callF h a hp fun d e => by rw [e]; exact hQ
theorem spF_w (inj : ∀ a b, P a → P b → args a = args b → a = b) (hw : ∀ a, P a → ∀ Q : DP, (∀ d, res a d → Q.rt d) → wSs G B Q (env0 n (args a))) (ds : List D) (h : (spF P args res).pre ds) : wSs G B (endOf ((spF P args res).post ds)) (env0 n ds) := by
  obtain ⟨a, hp, rfl⟩ := h
  exact hw a hp _ fun d hd b hb e => by rw [← inj a b hp hb e]; exact hd
theorem spF_w' (inj : ∀ a b, P a → P b → args a = args b → ∀ d, res a d → res b d) (hw : ∀ a, P a → ∀ Q : DP, (∀ d, res a d → Q.rt d) → wSs G B Q (env0 n (args a))) (ds : List D) (h : (spF P args res).pre ds) : wSs G B (endOf ((spF P args res).post ds)) (env0 n ds) := by
  obtain ⟨a, hp, rfl⟩ := h
  exact hw a hp _ fun d hd b hb e => inj a b hp hb e d hd
end
theorem atI_last {α : Type} {xs : List α} (f : α → PyData) {x : α} (h : xs.getLast? = some x) : L2.atI (xs.map f) (-1) = some (f x) := by
  have h2 : xs[xs.length - 1]? = some x := by rw [← List.getLast?_eq_getElem?]; exact h
  have h0 : 0 < xs.length := by
    have := (List.getElem?_eq_some_iff.mp h2).1
    omega
  refine atI_of_ix (n := xs.length - 1) ?_ (by rw [List.getElem?_map, h2]; rfl)
  rw [List.length_map]
  simp [ixN]
  omega
theorem atI_at {α : Type} {xs : List α} (f : α → PyData) {i : Nat} {x : α} (h : xs[i]? = some x) : L2.atI (xs.map f) (i : Int) = some (f x) := atI_nat (by rw [List.getElem?_map, h]; rfl)
theorem atI_atI {α : Type} {xs : List α} (f : α → PyData) {i : Int} {x : α} (h0 : 0 ≤ i) (h : xs[i.toNat]? = some x) : L2.atI (xs.map f) i = some (f x) := by
  have := atI_at f h
  rw [Int.toNat_of_nonneg h0] at this
  exact this
theorem rev_at {n i : Nat} {d : D} (h : ((List.range n).map fun (k : Nat) => PyData.int k).reverse[i]? = some d) : i < n ∧ d = .int ((n - 1 - i : Nat) : Int) := by
  have hi := (List.getElem?_eq_some_iff.mp h).1
  rw [List.length_reverse, List.length_map, List.length_range] at hi
  rw [List.getElem?_reverse (by rw [List.length_map, List.length_range]; exact hi), List.length_map, List.length_range, List.getElem?_map, List.getElem?_range (by omega)] at h
  exact ⟨hi, (Option.some.inj h).symm⟩
theorem map_at {α : Type} {f : α → D} {xs : List α} {i : Nat} {d : D} (h : (xs.map f)[i]? = some d) : ∃ x, xs[i]? = some x ∧ d = f x ∧ xs.take (i + 1) = xs.take i ++ [x] ∧ i < xs.length := by
  rw [List.getElem?_map] at h
  cases e : xs[i]? with
  | none => rw [e] at h; cases h
  | some x =>
    rw [e] at h
    refine ⟨x, rfl, (Option.some.inj h).symm, ?_, (List.getElem?_eq_some_iff.mp e).1⟩
    rw [List.take_add_one, e]; rfl
theorem q_at {xs : List D} {i : Int} {x : D} {R : D → Prop} (a : L2.atI xs i = some x) : (∃ d, L2.atI xs i = some d ∧ R d) = R x := propext ⟨fun ⟨d, e, h⟩ => by rw [a] at e; cases e; exact h, fun h => ⟨x, a, h⟩⟩
theorem q_at0 {x : D} {l : List D} {R : D → Prop} : (∃ d, L2.atI (x :: l) 0 = some d ∧ R d) = R x := q_at (atI_nat (j := 0) rfl)
theorem q_at1 {x y : D} {l : List D} {R : D → Prop} : (∃ d, L2.atI (x :: y :: l) 1 = some d ∧ R d) = R y := q_at (atI_nat (j := 1) rfl)
theorem q_at2 {x y z : D} {l : List D} {R : D → Prop} : (∃ d, L2.atI (x :: y :: z :: l) 2 = some d ∧ R d) = R z := q_at (atI_nat (j := 2) rfl)
theorem q_at3 {x y z w : D} {l : List D} {R : D → Prop} : (∃ d, L2.atI (x :: y :: z :: w :: l) 3 = some d ∧ R d) = R w := q_at (atI_nat (j := 3) rfl)
theorem q_last {x : D} {l : List D} {R : D → Prop} : (∃ d, (l ++ [x]).getLast? = some d ∧ R d) = R x := propext ⟨fun ⟨d, e, h⟩ => by rw [List.getLast?_concat] at e; cases e; exact h, fun h => ⟨x, List.getLast?_concat, h⟩⟩
theorem sl0 : (0 ≤ sizeLine) = True := eq_true (by decide)
theorem sl1 : (1 ≤ sizeLine) = True := eq_true (by decide)
theorem sl2 : (2 ≤ sizeLine) = True := eq_true (by decide)
theorem sl3 : (3 ≤ sizeLine) = True := eq_true (by decide)
theorem sl4 : (4 ≤ sizeLine) = True := eq_true (by decide)
theorem sl5 : (5 ≤ sizeLine) = True := eq_true (by decide)
theorem sl6 : (6 ≤ sizeLine) = True := eq_true (by decide)
theorem sl7 : (7 ≤ sizeLine) = True := eq_true (by decide)
theorem sl8 : (8 ≤ sizeLine) = True := eq_true (by decide)
theorem sl9 : (9 ≤ sizeLine) = True := eq_true (by decide)
theorem sl10 : (10 ≤ sizeLine) = True := eq_true (by decide)
theorem sl11 : (11 ≤ sizeLine) = True := eq_true (by decide)
theorem sl12 : (12 ≤ sizeLine) = True := eq_true (by decide)
theorem st_ot : ((⟨#[111, 102]⟩ : Str) = ⟨#[116, 111]⟩) = False := eq_false (by decide)
theorem st_to : ((⟨#[116, 111]⟩ : Str) = ⟨#[111, 102]⟩) = False := eq_false (by decide)
theorem nc0 : ((0 : Nat) : Int) = 0 := rfl
theorem nc1 : ((1 : Nat) : Int) = 1 := rfl
theorem nc2 : ((2 : Nat) : Int) = 2 := rfl
theorem nc3 : ((3 : Nat) : Int) = 3 := rfl
theorem nc4 : ((4 : Nat) : Int) = 4 := rfl
theorem nc5 : ((5 : Nat) : Int) = 5 := rfl
theorem nc6 : ((6 : Nat) : Int) = 6 := rfl
theorem nc7 : ((7 : Nat) : Int) = 7 := rfl
theorem nc8 : ((8 : Nat) : Int) = 8 := rfl
theorem nc9 : ((9 : Nat) : Int) = 9 := rfl
theorem nc10 : ((10 : Nat) : Int) = 10 := rfl
theorem nc11 : ((11 : Nat) : Int) = 11 := rfl
theorem nc12 : ((12 : Nat) : Int) = 12 := rfl
theorem itT {A B : Prop} {b : Bool} (e : b = true) (h : A) : if b = true then A else B := by rw [if_pos e]; exact h
theorem itF {A B : Prop} {b : Bool} (e : b = false) (h : B) : if b = true then A else B := by rw [if_neg (by rw [e]; decide)]; exact h
theorem atI_nat' {α : Type} {xs : List α} {i : Int} {x : α} (h0 : 0 ≤ i) (h : xs[i.toNat]? = some x) : L2.atI xs i = some x := by
  have := atI_nat h
  rw [Int.toNat_of_nonneg h0] at this
  exact this
theorem digs_at : ∀ {rs ss : List Int} {i : Nat}, PL.digs rs ss → i < rs.length → 0 ≤ rs.getD i 0 ∧ rs.getD i 0 < ss.getD i 0
  | r :: rs, s :: ss, 0, h, _ => h.1
  | r :: rs, s :: ss, i + 1, h, hi => digs_at (i := i) h.2 (by simpa using hi)
  | [], [], _, _, hi => by simp at hi
  | [], _ :: _, _, h, _ => h.elim
  | _ :: _, [], _, h, _ => h.elim
theorem wrow {rs ss : List Int} {r : Int} {Q : D → Prop} (hd : PL.digs rs ss) (h0 : 0 ≤ r) (h1 : r < rs.length) (hQ : ∀ c, 0 ≤ c → c < ss.getD r.toNat 0 → Q (.int c)) : wIx (.list (rs.map PyData.int)) (.int r) Q := by
  obtain ⟨a, b⟩ := digs_at hd (show r.toNat < rs.length by omega)
  exact ⟨_, PL.atI_ints h0 h1, hQ _ a b⟩
theorem map_getD {α : Type} (f : α → D) (d : α) {xs : List α} {i : Nat} (h : i < xs.length) : (xs.map f)[i]? = some (f (xs.getD i d)) := by
  rw [List.getElem?_map, List.getD_eq_getElem?_getD, List.getElem?_eq_getElem h]; rfl
theorem wpick {ns : List Int} {r : Int} (P : Int → Prop) {Q : D → Prop} (hP : ∀ x ∈ ns, P x) (h0 : 0 ≤ r) (h1 : r < ns.length) (hQ : ∀ c, P c → Q (.int c)) : wIx (.list (ns.map PyData.int)) (.int r) Q :=
  ⟨_, PL.atI_ints h0 h1, hQ _ (hP _ (PL.getD_mem (by omega)))⟩
theorem digs_nn {rs ss : List Int} (h : PL.digs rs ss) : ∀ z ∈ rs, 0 ≤ z := fun z hz => by
  obtain ⟨i, hi, rfl⟩ := List.mem_iff_getElem.mp hz
  have := (digs_at (i := i) h hi).1
  rw [List.getD_eq_getElem?_getD, List.getElem?_eq_getElem hi] at this
  exact this
theorem callD {G : Gb} {k : Nat} (h : G.fn k = PL.sp_digits) {z : Int} {ss : List Int} (hs : ∀ s ∈ ss, 0 < s ∧ s < 2 ^ 1000) (hl : ss.length ≤ 1000) {Q : D → Prop} (hQ : ∀ rs, PL.digs rs ss → Q (.list (rs.map .int))) : (G.fn k).pre [.int z, .list (ss.map .int)] ∧ ∀ d, (G.fn k).post [.int z, .list (ss.map .int)] d → Q d := by
  rw [h]
  refine ⟨⟨z, ss, rfl, hs, hl⟩, fun d hd => ?_⟩
  obtain ⟨rs, rfl, dg⟩ := hd z ss rfl
  exact hQ rs dg
theorem rep_one (n : Nat) (i : Int) : (List.replicate n [PyData.int i]).flatten = (List.replicate n i).map PyData.int := by
  induction n with
  | zero => rfl
  | succ n ih => rw [List.replicate_succ, List.replicate_succ, List.flatten_cons, ih]; rfl
theorem callD1 {G : Gb} {k : Nat} (h : G.fn k = PL.sp_digits) {z b : Int} {n : Nat} (hb : 0 < b ∧ b < 2 ^ 60) (hl : n ≤ 1000) {Q : D → Prop} (hQ : ∀ rs : List Int, rs.length = n → (∀ r ∈ rs, 0 ≤ r ∧ r < b) → Q (.list (rs.map .int))) : (G.fn k).pre [.int z, .list (List.replicate n [PyData.int b]).flatten] ∧ ∀ d, (G.fn k).post [.int z, .list (List.replicate n [PyData.int b]).flatten] d → Q d := by
  rw [rep_one]
  refine callD h (fun s hs => ?_) (by rw [List.length_replicate]; exact hl) fun rs dg => ?_
  · rw [List.eq_of_mem_replicate hs]
    have p : (2 : Int) ^ 60 < 2 ^ 1000 := by decide +kernel
    exact ⟨hb.1, by omega⟩
  · obtain ⟨h1, h2⟩ := PL.digs_all dg
    exact hQ rs h2 h1
theorem callC {G : Gb} {k : Nat} (h : G.fn k = PL.sp_cell) {ns : List Int} (i : Nat) (hi : i ≤ 1000) {Q : D → Prop} (hQ : ∀ z : Int, Q (.int z)) : (G.fn k).pre [.list (ns.map .int), .int i] ∧ ∀ d, (G.fn k).post [.list (ns.map .int), .int i] d → Q d := by
  rw [h]
  exact ⟨⟨ns, i, hi, rfl⟩, fun d ⟨z, e⟩ => by rw [e]; exact hQ z⟩
theorem cutD_from {α : Type} (f : α → D) (xs : List α) (k : Nat) : cutD (xs.map f) (some (k : Int)) none = (xs.drop k).map f := by
  unfold cutD
  rw [HT.sIx_none, HT.sIx_nat, List.length_map, ← List.map_drop, ← List.map_take]
  by_cases h : k ≤ xs.length
  · rw [Nat.min_eq_left h, List.take_of_length_le (by rw [List.length_drop]; omega)]
  · rw [Nat.min_eq_right (by omega), List.drop_length, List.drop_of_length_le (show xs.length ≤ k by omega)]; simp
theorem cutD_to {α : Type} (f : α → D) (xs : List α) (k : Nat) : cutD (xs.map f) none (some (k : Int)) = (xs.take k).map f := by
  unfold cutD
  rw [HT.sIx_none, HT.sIx_nat, List.length_map, List.drop_zero, Nat.sub_zero, ← List.map_take]
  by_cases h : k ≤ xs.length
  · rw [Nat.min_eq_left h]
  · rw [Nat.min_eq_right (by omega), List.take_length, List.take_of_length_le (show xs.length ≤ k by omega)]
section
variable {G : Gb} {ρ : Env} {P : DP} {tg : Tg} {t : Ss} {d : D} {ds : List D} {e : E}
theorem mapXof {α : Type} {own : List (Str × Nat)} {tg : Tg} {cs : Eo} {xs : List α} {acc : List D} {q : List D → Prop} (f : α → D) (g : α → Option D)
    (h : ∀ x ∈ xs, ∀ K : Option D → Prop, K (g x) → wG tg (f x) (wipeE ρ (own.map (·.2))) fun ρ' => wC G cs ρ' fun k => if k = true then wE G (.t 0) e ρ' fun y => K (some y) else K none)
    (hq : q (acc ++ xs.filterMap g)) : wMapE G own e tg cs ρ (xs.map f) acc q := by
  unfold wMapE
  revert acc
  induction xs with
  | nil =>
    intro acc hq
    rw [List.filterMap_nil, List.append_nil] at hq
    exact hq
  | cons d ds ih =>
    intro acc hq
    generalize hf : (fun (d : D) (K : Option PyData → Prop) => wG tg d (wipeE ρ (own.map (·.2))) fun ρ' => wC G cs ρ' fun k => if k = true then wE G (.t 0) e ρ' fun y => K (some y) else K none) = F at ih ⊢
    have hh : ∀ K : Option D → Prop, K (g d) → F (f d) K := by
      rw [← hf]; exact h d List.mem_cons_self
    show F (f d) _
    refine hh _ ?_
    cases eg : g d with
    | none =>
      rw [List.filterMap_cons_none eg] at hq
      exact ih (fun d' hd => h d' (List.mem_cons_of_mem _ hd)) hq
    | some y =>
      rw [List.filterMap_cons_some eg] at hq
      refine ih (fun d' hd => h d' (List.mem_cons_of_mem _ hd)) ?_
      rw [List.append_assoc]
      exact hq
theorem fmsome {α β : Type} (f : α → β) (xs : List α) : xs.filterMap (fun x => some (f x)) = xs.map f := by
  rw [← List.filterMap_eq_map]; rfl
theorem for_nil : wForE G tg t P [] ρ = P.nx ρ := rfl
theorem for_cons : wForE G tg t P (d :: ds) ρ = wG tg d ρ fun ρ' => wSs G t { P with nx := wForE G tg t P ds, ct := wForE G tg t P ds, bk := P.nx } ρ' := rfl
end
/-- what the test of an answer makes of it -/
theorem tr_b {b : Bool} {Q : Bool → Prop} (h : Q b) : wTr (.bool b) Q := h
theorem isn_b {b : Bool} {Q : Bool → Prop} (h : Q b) : ∃ c, PyData.bool b = .bool c ∧ Q c := ⟨b, rfl, h⟩
end PD

/-! codes: the program's functions walked -/
namespace KC
open PySem PySem.Spec PyProof.Rows L2 PD
local macro_rules | `(tactic| walk_at "x") => `(tactic| simp (config := { decide := false }) only [x_var, x_v0, x_v1, x_v11, x_v12, x_v13, x_v1t, x_v22, x_v23, x_v2t, x_w11, x_w12, x_w13, x_w1t, x_w22, x_w23, x_dnew, x_dget, x_dcm, x_chn, x_lrg, x_en, x_zp, x_zp3, x_fDt, x_fDf, x_fBd, x_d5, x_d6, x_trl, x_trt, x_trn, x_aug, x_ownd2, x_dput, x_dputl, x_dappl, x_pop, x_ins, x_ext, x_nwL, x_nwD, n_int, n_bl, n_str, n_lst, n_tup, n_non, g_int, k_int, bLv, x_ct, x_non, x_bl, x_int, x_str, x_bin, x_neg, x_cmp, x_bopt, x_bopv, x_nt, x_ntv, x_ifx, x_ix, x_ixt, x_sl, x_call, x_callk, x_blt, x_isi, x_mth, x_tup, x_lst, x_lc, x_lc2, x_d0, x_d1, x_d2, x_d3, x_d4, x_ts0, x_ts1, x_bs0, x_bs1, x_c0, x_c1,
    x_eo0, x_eo1, x_es0, x_es1, x_ls, x_r1, x_r2, x_rv, x_rr1, x_rr2, o_ls, o_tp, x_ft, x_ftst, x_fLt, x_fLf, x_fBl, x_fBi, x_fBs, x_fBb, x_fBt, x_trb, x_tri, x_nil, x_cons, x_asg, x_own, x_own2, x_frz, x_app, x_app2, x_appI, x_seti, x_set2, x_drop, x_ifs, x_whl, x_fr, x_ret, x_retN, x_pass, x_brk, x_cont, x_gnm, x_gtp, x_g0, x_gs, x_rt, x_nx,
    b_addI, b_addS, b_addL, b_addT, b_sub, b_mul, b_mulL, b_mulT, b_and, b_or, b_xor, b_div, b_mod, b_pow, b_shl, b_shr, e_ii, e_ss, e_bb, e_nn, e_ni, e_in, e_ns, e_sn, e_is, e_si, e_nb, e_bn, c_eq, c_ne, c_lt, c_le, c_gt, c_ge, c_in, c_ni, c_is, c_isn, i_l, i_t, i_s, i_d, in_l, in_t, in_d, e_tt, e_ll, f_lenD, f_lstD, f_lstS, f_srtL, f_srtD, f_maxL, f_minL, f_all, f_any, m_count, m_rfind, m_lix, l_l, l_t, l_s,
    f_lenL, f_lenT, f_lenS, f_intI, f_intB, f_str, f_tupL, f_tupT, f_lstL, f_lstT, f_abs, f_max, f_min, f_sum, m_join, m_find3, m_rfind4, m_sindex, s_lst, s_tup, wFrz, setAll, wipeE, t_str, t_lst, mtTy, o_int, o_bl, o_str, o_lst, o_tup, o_non, isT, String.reduceBEq, String.reduceEq, beq_self_eq_true, Nat.reduceAdd, Nat.reduceLT, Nat.reduceSub,
    List.map_cons, List.map_nil, List.length_cons, List.length_nil, List.set_cons_zero, List.set_cons_succ, List.any_cons, List.any_nil,
    PyData.bool.injEq, PyData.int.injEq, PyData.str.injEq, PyData.list.injEq, PyData.tuple.injEq, Option.some.injEq, Sl.fz.injEq, Sl.ow.injEq, Sl.ow2.injEq, Sl.od.injEq, Sl.odl.injEq, PyData.dict.injEq,
    exists_eq_left, exists_eq_left', exists_and_left, exists_and_right, and_assoc, true_and, and_true, if_true, if_false, ite_true, ite_false, decide_eq_true_eq, Bool.true_eq_false, Bool.false_eq_true, Bool.not_true, Bool.not_false, Bool.or_true, Bool.true_or, Bool.or_false, Bool.false_or, Bool.and_true, Bool.true_and, Bool.and_false, Bool.false_and, Nat.zero_lt_succ, reduceCtorEq])
open PL
/-- is_function : ["code"] -/
def B_is_function : Ss := (.cons (.ret (.bop true (.cons (.isi (.var 0) ["tuple"]) (.cons (.cmp .Eq (.ix (.var 0) (.int 0)) (.str [116, 111])) .nil))))
  .nil)
/-- is_call : ["code"] -/
def B_is_call : Ss := (.cons (.ret (.bop true (.cons (.isi (.var 0) ["tuple"]) (.cons (.cmp .Eq (.ix (.var 0) (.int 0)) (.str [111, 102])) .nil))))
  .nil)
/-- _parts_along : ["code", "path", "parts", "turn", "part"] -/
def B_parts_along (k_is_function : Nat) (k_is_call : Nat) : Ss := (.cons (.own 2 (.lst (.cons (.var 0) .nil)))
  (.cons (.fr (.nm 3) (.ls (.var 1)) (.cons (.asg (.nm 4) (.ix (.var 2) (.neg (.int 1))))
  (.cons (.ifs (.bop true (.cons (.call k_is_function (.cons (.var 4) .nil)) (.cons (.cmp .Eq (.var 3) (.int 0)) .nil))) (.cons (.app 2 (.ix (.var 4) (.int 1)))
  .nil) (.cons (.ifs (.bop true (.cons (.call k_is_call (.cons (.var 4) .nil)) (.cons (.cmp .In (.var 3) (.tup (.cons (.int 0) (.cons (.int 1) .nil)))) .nil))) (.cons (.app 2 (.ix (.var 4) (.bin .Add (.int 1) (.var 3))))
  .nil) (.cons .never
  .nil))
  .nil))
  .nil)))
  (.cons (.frz 2)
  (.cons (.ret (.var 2))
  .nil))))
/-- part_at : ["code", "path"] -/
def B_part_at (k_parts_along : Nat) : Ss := (.cons (.ret (.ix (.call k_parts_along (.cons (.var 0) (.cons (.var 1) .nil))) (.neg (.int 1))))
  .nil)
/-- with_part : ["code", "path", "part", "parts", "at", "above"] -/
def B_with_part (k_parts_along : Nat) (k_is_function : Nat) : Ss := (.cons (.asg (.nm 3) (.call k_parts_along (.cons (.var 0) (.cons (.var 1) .nil))))
  (.cons (.fr (.nm 4) (.rr1 (.blt .len (.cons (.var 1) .nil))) (.cons (.asg (.nm 5) (.ix (.var 3) (.var 4)))
  (.cons (.ifs (.call k_is_function (.cons (.var 5) .nil)) (.cons (.asg (.nm 2) (.tup (.cons (.str [116, 111]) (.cons (.var 2) .nil))))
  .nil) (.cons (.ifs (.cmp .Eq (.ix (.var 1) (.var 4)) (.int 0)) (.cons (.asg (.nm 2) (.tup (.cons (.str [111, 102]) (.cons (.var 2) (.cons (.ix (.var 5) (.int 2)) .nil)))))
  .nil) (.cons (.asg (.nm 2) (.tup (.cons (.str [111, 102]) (.cons (.ix (.var 5) (.int 1)) (.cons (.var 2) .nil)))))
  .nil))
  .nil))
  .nil)))
  (.cons (.ret (.var 2))
  .nil)))
/-- shifted : ["code", "by", "above"] -/
def B_shifted (k_is_function : Nat) (k_shifted : Nat) (k_is_call : Nat) : Ss := (.cons (.ifs (.isi (.var 0) ["str"]) (.cons (.ret (.var 0))
  .nil) .nil)
  (.cons (.ifs (.call k_is_function (.cons (.var 0) .nil)) (.cons (.ret (.tup (.cons (.str [116, 111]) (.cons (.call k_shifted (.cons (.ix (.var 0) (.int 1)) (.cons (.var 1) (.cons (.bin .Add (.var 2) (.int 1)) .nil)))) .nil))))
  .nil) .nil)
  (.cons (.ifs (.call k_is_call (.cons (.var 0) .nil)) (.cons (.ret (.tup (.cons (.str [111, 102]) (.cons (.call k_shifted (.cons (.ix (.var 0) (.int 1)) (.cons (.var 1) (.cons (.var 2) .nil)))) (.cons (.call k_shifted (.cons (.ix (.var 0) (.int 2)) (.cons (.var 1) (.cons (.var 2) .nil)))) .nil)))))
  .nil) .nil)
  (.cons (.ifs (.cmp .GtE (.var 0) (.var 2)) (.cons (.ret (.bin .Add (.var 0) (.var 1)))
  .nil) .nil)
  (.cons (.ret (.var 0))
  .nil)))))
/-- _put : ["code", "argument", "depth"] -/
def B_put0 (k_is_function : Nat) (k_put : Nat) (k_is_call : Nat) (k_shifted_2 : Nat) : Ss := (.cons (.ifs (.isi (.var 0) ["str"]) (.cons (.ret (.var 0))
  .nil) .nil)
  (.cons (.ifs (.call k_is_function (.cons (.var 0) .nil)) (.cons (.ret (.tup (.cons (.str [116, 111]) (.cons (.call k_put (.cons (.ix (.var 0) (.int 1)) (.cons (.var 1) (.cons (.bin .Add (.var 2) (.int 1)) .nil)))) .nil))))
  .nil) .nil)
  (.cons (.ifs (.call k_is_call (.cons (.var 0) .nil)) (.cons (.ret (.tup (.cons (.str [111, 102]) (.cons (.call k_put (.cons (.ix (.var 0) (.int 1)) (.cons (.var 1) (.cons (.var 2) .nil)))) (.cons (.call k_put (.cons (.ix (.var 0) (.int 2)) (.cons (.var 1) (.cons (.var 2) .nil)))) .nil)))))
  .nil) .nil)
  (.cons (.ifs (.cmp .Lt (.var 0) (.var 2)) (.cons (.ret (.var 0))
  .nil) .nil)
  (.cons (.ifs (.cmp .Eq (.var 0) (.var 2)) (.cons (.ret (.call k_shifted_2 (.cons (.var 1) (.cons (.var 2) .nil))))
  .nil) .nil)
  (.cons (.ret (.bin .Sub (.var 0) (.int 1)))
  .nil))))))
/-- put : ["body", "argument"] -/
def B_put (k_put : Nat) : Ss := (.cons (.ret (.call k_put (.cons (.var 0) (.cons (.var 1) (.cons (.int 0) .nil)))))
  .nil)
/-- _is_redex : ["code"] -/
def B_is_redex (k_is_call : Nat) (k_is_function : Nat) : Ss := (.cons (.ret (.bop true (.cons (.call k_is_call (.cons (.var 0) .nil)) (.cons (.call k_is_function (.cons (.ix (.var 0) (.int 1)) .nil)) .nil))))
  .nil)
/-- redexes : ["code", "found", "waiting", "path", "part"] -/
def B_redexes (k_is_redex : Nat) (k_is_function : Nat) (k_is_call : Nat) : Ss := (.cons (.own 1 (.lst .nil))
  (.cons (.own 2 (.lst (.cons (.tup (.cons (.tup .nil) (.cons (.var 0) .nil))) .nil)))
  (.cons (.whl (.var 2) (.cons (.popA (.tp [3, 4]) 2 .no)
  (.cons (.ifs (.call k_is_redex (.cons (.var 4) .nil)) (.cons (.app 1 (.var 3))
  .nil) .nil)
  (.cons (.ifs (.call k_is_function (.cons (.var 4) .nil)) (.cons (.app 2 (.tup (.cons (.bin .Add (.var 3) (.tup (.cons (.int 0) .nil))) (.cons (.ix (.var 4) (.int 1)) .nil))))
  .nil) (.cons (.ifs (.call k_is_call (.cons (.var 4) .nil)) (.cons (.app 2 (.tup (.cons (.bin .Add (.var 3) (.tup (.cons (.int 1) .nil))) (.cons (.ix (.var 4) (.int 2)) .nil))))
  (.cons (.app 2 (.tup (.cons (.bin .Add (.var 3) (.tup (.cons (.int 0) .nil))) (.cons (.ix (.var 4) (.int 1)) .nil))))
  .nil)) .nil)
  .nil))
  .nil))))
  (.cons (.ret (.blt .tuple (.cons (.var 1) .nil)))
  .nil))))
/-- step : ["code", "path", "part"] -/
def B_step (k_part_at : Nat) (k_is_redex : Nat) (k_with_part : Nat) (k_put : Nat) : Ss := (.cons (.asg (.nm 2) (.call k_part_at (.cons (.var 0) (.cons (.var 1) .nil))))
  (.cons (.ifs (.nt (.call k_is_redex (.cons (.var 2) .nil))) (.cons .never
  .nil) .nil)
  (.cons (.ret (.call k_with_part (.cons (.var 0) (.cons (.var 1) (.cons (.call k_put (.cons (.ix (.ix (.var 2) (.int 1)) (.int 1)) (.cons (.ix (.var 2) (.int 2)) .nil))) .nil)))))
  .nil)))

def isFn : Cd → Bool
  | .fn _ => true
  | _ => false
def isAp : Cd → Bool
  | .ap _ _ => true
  | _ => false
def bD (b : Bool) : D := .int (if b then 1 else 0)
def paD (p : Pa) : D := .tuple (p.map bD)
abbrev sp_isfn : FnS := spE (fun _ : Cd => True) (fun c => [cdD c]) fun c => .bool (isFn c)
abbrev sp_isap : FnS := spE (fun _ : Cd => True) (fun c => [cdD c]) fun c => .bool (isAp c)
abbrev sp_isrx : FnS := spE (fun _ : Cd => True) (fun c => [cdD c]) fun c => .bool (isRx c)
structure A3 where
  c : Cd
  i : Nat
  j : Nat
abbrev sp_shf (m : Nat) : FnS := spE (fun a : A3 => dp a.c < m) (fun a => [cdD a.c, .int a.i, .int a.j]) fun a => cdD (sh a.i a.j a.c)
abbrev sp_shf2 (m : Nat) : FnS := spE (fun a : Cd × Nat => dp a.1 < m) (fun a => [cdD a.1, .int a.2]) fun a => cdD (sh a.2 0 a.1)
theorem t_tt {N : Bool → Prop} : wEq sTo (.str ⟨#[116, 111]⟩) N = N true := congrArg N (by decide)
theorem t_oo {N : Bool → Prop} : wEq sOf (.str ⟨#[111, 102]⟩) N = N true := congrArg N (by decide)
theorem t_ot {N : Bool → Prop} : wEq sOf (.str ⟨#[116, 111]⟩) N = N false := congrArg N (by decide)
theorem t_to {N : Bool → Prop} : wEq sTo (.str ⟨#[111, 102]⟩) N = N false := congrArg N (by decide)
section
variable {G : Gb} {Q : DP}
theorem w_isfn (ds : List D) (h : sp_isfn.pre ds) : wSs G B_is_function (endOf (sp_isfn.post ds)) (env0 1 ds) := by
  refine spF_w (fun a b _ _ e => cdD_inj _ _ (List.cons.inj e).1) (fun c _ Q hQ => ?_) ds h
  have hQ := hQ _ rfl
  unfold B_is_function
  cases c with
  | ix n =>
    show wSs G _ Q [some (.fz (.int n))]
    walk_at "x"
    exact hQ
  | nm s =>
    show wSs G _ Q [some (.fz (.str s))]
    walk_at "x"
    exact hQ
  | fn b =>
    show wSs G _ Q [some (.fz (.tuple [sTo, cdD b]))]
    walk_at "x"
    exact ⟨_, rfl, by rw [t_tt]; exact hQ⟩
  | ap f a =>
    show wSs G _ Q [some (.fz (.tuple [sOf, cdD f, cdD a]))]
    walk_at "x"
    exact ⟨_, rfl, by rw [t_ot]; exact hQ⟩
theorem w_isap (ds : List D) (h : sp_isap.pre ds) : wSs G B_is_call (endOf (sp_isap.post ds)) (env0 1 ds) := by
  refine spF_w (fun a b _ _ e => cdD_inj _ _ (List.cons.inj e).1) (fun c _ Q hQ => ?_) ds h
  have hQ := hQ _ rfl
  unfold B_is_call
  cases c with
  | ix n =>
    show wSs G _ Q [some (.fz (.int n))]
    walk_at "x"
    exact hQ
  | nm s =>
    show wSs G _ Q [some (.fz (.str s))]
    walk_at "x"
    exact hQ
  | fn b =>
    show wSs G _ Q [some (.fz (.tuple [sTo, cdD b]))]
    walk_at "x"
    exact ⟨_, rfl, by rw [t_to]; exact hQ⟩
  | ap f a =>
    show wSs G _ Q [some (.fz (.tuple [sOf, cdD f, cdD a]))]
    walk_at "x"
    exact ⟨_, rfl, by rw [t_oo]; exact hQ⟩
theorem w_isrx {k0 k1 : Nat} (h0 : G.fn k0 = sp_isfn) (h1 : G.fn k1 = sp_isap) (ds : List D) (h : sp_isrx.pre ds) : wSs G (B_is_redex k1 k0) (endOf (sp_isrx.post ds)) (env0 1 ds) := by
  refine spF_w (fun a b _ _ e => cdD_inj _ _ (List.cons.inj e).1) (fun c _ Q hQ => ?_) ds h
  have hQ := hQ _ rfl
  show wSs G (B_is_redex k1 k0) Q [some (.fz (cdD c))]
  unfold B_is_redex
  walk_at "x"
  refine callE h1 c True.intro (isn_b ?_)
  cases c with
  | ix n => exact hQ
  | nm s => exact hQ
  | fn b => exact hQ
  | ap f a =>
    show if true = true then _ else _
    rw [if_pos rfl]
    refine ⟨cdD f, rfl, callE h0 f True.intro ?_⟩
    cases f <;> exact hQ
theorem w_shf {m k0 k1 k5 : Nat} (h0 : G.fn k0 = sp_isfn) (h1 : G.fn k1 = sp_isap) (h5 : G.fn k5 = sp_shf m) (ds : List D) (h : (sp_shf (m + 1)).pre ds) : wSs G (B_shifted k0 k5 k1) (endOf ((sp_shf (m + 1)).post ds)) (env0 3 ds) := by
  refine spF_w (fun a b _ _ e => ?_) (fun a ha Q hQ => ?_) ds h
  · obtain ⟨c, i, j⟩ := a
    obtain ⟨c', i', j'⟩ := b
    have e1 := cdD_inj _ _ (List.cons.inj e).1
    have e2 := Int.ofNat.inj (PyData.int.inj (List.cons.inj (List.cons.inj e).2).1)
    have e3 := Int.ofNat.inj (PyData.int.inj (List.cons.inj (List.cons.inj (List.cons.inj e).2).2).1)
    have e1 : c = c' := e1
    have e2 : i = i' := e2
    have e3 : j = j' := e3
    subst e1 e2 e3; rfl
  · obtain ⟨c, i, j⟩ := a
    have ha : dp c < m + 1 := ha
    have hQ : Q.rt (cdD (sh i j c)) := hQ _ rfl
    show wSs G (B_shifted k0 k5 k1) Q [some (.fz (cdD c)), some (.fz (.int i)), some (.fz (.int j))]
    unfold B_shifted
    cases c with
    | ix n =>
      show wSs G _ Q [some (.fz (.int n)), some (.fz (.int i)), some (.fz (.int j))]
      walk_at "x"
      refine callE h0 (.ix n) True.intro (tr_b (itF rfl ?_))
      refine callE h1 (.ix n) True.intro (tr_b (itF rfl ?_))
      rw [sh_ix] at hQ
      by_cases e : j ≤ n
      · rw [if_pos (by omega)]
        rw [if_pos e] at hQ
        exact hQ
      · rw [if_neg (by omega)]
        rw [if_neg e] at hQ
        exact hQ
    | nm s =>
      show wSs G _ Q [some (.fz (.str s)), some (.fz (.int i)), some (.fz (.int j))]
      walk_at "x"
      exact hQ
    | fn b =>
      have hb : dp b < m := Nat.lt_of_succ_lt_succ ha
      show wSs G _ Q [some (.fz (.tuple [sTo, cdD b])), some (.fz (.int i)), some (.fz (.int j))]
      walk_at "x"
      refine callE h0 (.fn b) True.intro (tr_b (itT rfl ?_))
      refine ⟨_, rfl, ?_⟩
      exact callE h5 ⟨b, i, j + 1⟩ hb ⟨by decide, hQ⟩
    | ap f a =>
      have hf : dp f < m := by have ha : max (dp f) (dp a) + 1 < m + 1 := ha; omega
      have hg : dp a < m := by have ha : max (dp f) (dp a) + 1 < m + 1 := ha; omega
      show wSs G _ Q [some (.fz (.tuple [sOf, cdD f, cdD a])), some (.fz (.int i)), some (.fz (.int j))]
      walk_at "x"
      refine callE h0 (.ap f a) True.intro (tr_b (itF rfl ?_))
      refine callE h1 (.ap f a) True.intro (tr_b (itT rfl ?_))
      refine ⟨_, rfl, callE h5 ⟨f, i, j⟩ hf ?_⟩
      refine ⟨_, rfl, callE h5 ⟨a, i, j⟩ hg ⟨by decide, hQ⟩⟩
structure A4 where
  c : Cd
  e : Cd
  j : Nat
abbrev sp_put0 (m n : Nat) : FnS := spE (fun a : A4 => dp a.c < m ∧ dp a.e < n) (fun a => [cdD a.c, cdD a.e, .int a.j]) fun a => cdD (sub a.e a.j a.c)
abbrev sp_put (m n : Nat) : FnS := spE (fun a : Cd × Cd => dp a.1 < m ∧ dp a.2 < n) (fun a => [cdD a.1, cdD a.2]) fun a => cdD (sub a.2 0 a.1)
theorem w_put0 {m n k0 k1 k6 k5 : Nat} (h0 : G.fn k0 = sp_isfn) (h1 : G.fn k1 = sp_isap) (h6 : G.fn k6 = sp_put0 m n) (h5 : G.fn k5 = sp_shf2 n) (ds : List D) (h : (sp_put0 (m + 1) n).pre ds) : wSs G (B_put0 k0 k6 k1 k5) (endOf ((sp_put0 (m + 1) n).post ds)) (env0 3 ds) := by
  refine spF_w (fun a b _ _ e => ?_) (fun a ha Q hQ => ?_) ds h
  · obtain ⟨c, i, j⟩ := a
    obtain ⟨c', i', j'⟩ := b
    have e1 : c = c' := cdD_inj _ _ (List.cons.inj e).1
    have e2 : i = i' := cdD_inj _ _ (List.cons.inj (List.cons.inj e).2).1
    have e3 : j = j' := Int.ofNat.inj (PyData.int.inj (List.cons.inj (List.cons.inj (List.cons.inj e).2).2).1)
    subst e1 e2 e3; rfl
  · obtain ⟨c, g, j⟩ := a
    obtain ⟨ha, hg⟩ := ha
    have ha : dp c < m + 1 := ha
    have hg : dp g < n := hg
    have hQ : Q.rt (cdD (sub g j c)) := hQ _ rfl
    show wSs G (B_put0 k0 k6 k1 k5) Q [some (.fz (cdD c)), some (.fz (cdD g)), some (.fz (.int j))]
    unfold B_put0
    cases c with
    | ix i =>
      show wSs G _ Q [some (.fz (.int i)), some (.fz (cdD g)), some (.fz (.int j))]
      walk_at "x"
      refine callE h0 (.ix i) True.intro (tr_b (itF rfl ?_))
      refine callE h1 (.ix i) True.intro (tr_b (itF rfl ?_))
      rw [sub_ix] at hQ
      by_cases e : i < j
      · rw [if_pos (by omega)]
        rw [if_pos e] at hQ
        exact hQ
      · rw [if_neg (by omega)]
        rw [if_neg e] at hQ
        by_cases e2 : i = j
        · rw [if_pos e2] at hQ
          rw [if_pos (by omega)]
          exact callE h5 (g, j) hg hQ
        · rw [if_neg e2] at hQ
          rw [if_neg (by omega)]
          have q : (i : Int) - 1 = ((i - 1 : Nat) : Int) := by omega
          rw [q]; exact hQ
    | nm s =>
      show wSs G _ Q [some (.fz (.str s)), some (.fz (cdD g)), some (.fz (.int j))]
      walk_at "x"
      exact hQ
    | fn b =>
      have hb : dp b < m := Nat.lt_of_succ_lt_succ ha
      show wSs G _ Q [some (.fz (.tuple [sTo, cdD b])), some (.fz (cdD g)), some (.fz (.int j))]
      walk_at "x"
      refine callE h0 (.fn b) True.intro (tr_b (itT rfl ?_))
      exact ⟨_, rfl, callE h6 ⟨b, g, j + 1⟩ ⟨hb, hg⟩ ⟨by decide, hQ⟩⟩
    | ap f a =>
      have hf : dp f < m := by have ha : max (dp f) (dp a) + 1 < m + 1 := ha; omega
      have hh : dp a < m := by have ha : max (dp f) (dp a) + 1 < m + 1 := ha; omega
      show wSs G _ Q [some (.fz (.tuple [sOf, cdD f, cdD a])), some (.fz (cdD g)), some (.fz (.int j))]
      walk_at "x"
      refine callE h0 (.ap f a) True.intro (tr_b (itF rfl ?_))
      refine callE h1 (.ap f a) True.intro (tr_b (itT rfl ?_))
      exact ⟨_, rfl, callE h6 ⟨f, g, j⟩ ⟨hf, hg⟩ ⟨_, rfl, callE h6 ⟨a, g, j⟩ ⟨hh, hg⟩ ⟨by decide, hQ⟩⟩⟩
theorem w_put {m n k6 : Nat} (h6 : G.fn k6 = sp_put0 m n) (ds : List D) (h : (sp_put m n).pre ds) : wSs G (B_put k6) (endOf ((sp_put m n).post ds)) (env0 2 ds) := by
  refine spF_w (fun a b _ _ e => ?_) (fun a ha Q hQ => ?_) ds h
  · obtain ⟨c, i⟩ := a
    obtain ⟨c', i'⟩ := b
    have e1 : c = c' := cdD_inj _ _ (List.cons.inj e).1
    have e2 : i = i' := cdD_inj _ _ (List.cons.inj (List.cons.inj e).2).1
    subst e1 e2; rfl
  · obtain ⟨c, g⟩ := a
    show wSs G (B_put k6) Q [some (.fz (cdD c)), some (.fz (cdD g))]
    unfold B_put
    walk_at "x"
    exact callE h6 ⟨c, g, 0⟩ ha (hQ _ rfl)
end
end KC

namespace KC
open PySem PySem.Spec PyProof.Rows L2 PD 
local macro_rules | `(tactic| walk_at "x") => `(tactic| simp (config := { decide := false }) only [x_var, x_v0, x_v1, x_v11, x_v12, x_v13, x_v1t, x_v22, x_v23, x_v2t, x_w11, x_w12, x_w13, x_w1t, x_w22, x_w23, x_dnew, x_dget, x_dcm, x_chn, x_lrg, x_en, x_zp, x_zp3, x_fDt, x_fDf, x_fBd, x_d5, x_d6, x_trl, x_trt, x_trn, x_aug, x_ownd2, x_dput, x_dputl, x_dappl, x_pop, x_ins, x_ext, x_nwL, x_nwD, n_int, n_bl, n_str, n_lst, n_tup, n_non, g_int, k_int, bLv, x_ct, x_non, x_bl, x_int, x_str, x_bin, x_neg, x_cmp, x_bopt, x_bopv, x_nt, x_ntv, x_ifx, x_ix, x_ixt, x_sl, x_call, x_callk, x_blt, x_isi, x_mth, x_tup, x_lst, x_lc, x_lc2, x_d0, x_d1, x_d2, x_d3, x_d4, x_ts0, x_ts1, x_bs0, x_bs1, x_c0, x_c1,
    x_eo0, x_eo1, x_es0, x_es1, x_ls, x_r1, x_r2, x_rv, x_rr1, x_rr2, o_ls, o_tp, x_ft, x_ftst, x_fLt, x_fLf, x_fBl, x_fBi, x_fBs, x_fBb, x_fBt, x_trb, x_tri, x_nil, x_cons, x_asg, x_own, x_own2, x_frz, x_app, x_app2, x_appI, x_seti, x_set2, x_drop, x_ifs, x_whl, x_fr, x_ret, x_retN, x_pass, x_brk, x_cont, x_gnm, x_gtp, x_g0, x_gs, x_rt, x_nx,
    b_addI, b_addS, b_addL, b_addT, b_sub, b_mul, b_mulL, b_mulT, b_and, b_or, b_xor, b_div, b_mod, b_pow, b_shl, b_shr, e_ii, e_ss, e_bb, e_nn, e_ni, e_in, e_ns, e_sn, e_is, e_si, e_nb, e_bn, c_eq, c_ne, c_lt, c_le, c_gt, c_ge, c_in, c_ni, c_is, c_isn, i_l, i_t, i_s, i_d, in_l, in_t, in_d, e_tt, e_ll, f_lenD, f_lstD, f_lstS, f_srtL, f_srtD, f_maxL, f_minL, f_all, f_any, m_count, m_rfind, m_lix, l_l, l_t, l_s,
    f_lenL, f_lenT, f_lenS, f_intI, f_intB, f_str, f_tupL, f_tupT, f_lstL, f_lstT, f_abs, f_max, f_min, f_sum, m_join, m_find3, m_rfind4, m_sindex, s_lst, s_tup, wFrz, setAll, wipeE, t_str, t_lst, mtTy, o_int, o_bl, o_str, o_lst, o_tup, o_non, isT, String.reduceBEq, String.reduceEq, beq_self_eq_true, Nat.reduceAdd, Nat.reduceLT, Nat.reduceSub,
    List.map_cons, List.map_nil, List.length_cons, List.length_nil, List.set_cons_zero, List.set_cons_succ, List.any_cons, List.any_nil,
    PyData.bool.injEq, PyData.int.injEq, PyData.str.injEq, PyData.list.injEq, PyData.tuple.injEq, Option.some.injEq, Sl.fz.injEq, Sl.ow.injEq, Sl.ow2.injEq, Sl.od.injEq, Sl.odl.injEq, PyData.dict.injEq,
    exists_eq_left, exists_eq_left', exists_and_left, exists_and_right, and_assoc, true_and, and_true, if_true, if_false, ite_true, ite_false, decide_eq_true_eq, Bool.true_eq_false, Bool.false_eq_true, Bool.not_true, Bool.not_false, Bool.or_true, Bool.true_or, Bool.or_false, Bool.false_or, Bool.and_true, Bool.true_and, Bool.and_false, Bool.false_and, Nat.zero_lt_succ, reduceCtorEq])
open PL
/-! ### parts along a path -/
theorem part_nil (c : Cd) : part c [] = some c := by cases c <;> rfl
theorem part_fn (d : Cd) (p : Pa) : part (.fn d) (false :: p) = part d p := rfl
theorem part_ft (d : Cd) (p : Pa) : part (.fn d) (true :: p) = none := rfl
theorem part_apl (f a : Cd) (p : Pa) : part (.ap f a) (false :: p) = part f p := rfl
theorem part_apr (f a : Cd) (p : Pa) : part (.ap f a) (true :: p) = part a p := rfl
theorem part_one {c x : Cd} {b : Bool} (h : part c [b] = some x) : (c = .fn x ∧ b = false) ∨ (∃ a, c = .ap x a ∧ b = false) ∨ ∃ f, c = .ap f x ∧ b = true := by
  cases c with
  | ix n => exact absurd h (by simp [part])
  | nm s => exact absurd h (by simp [part])
  | fn d => cases b with
    | false => rw [part_fn, part_nil] at h; cases h; exact .inl ⟨rfl, rfl⟩
    | true => rw [part_ft] at h; cases h
  | ap f a => cases b with
    | false => rw [part_apl, part_nil] at h; cases h; exact .inr (.inl ⟨a, rfl, rfl⟩)
    | true => rw [part_apr, part_nil] at h; cases h; exact .inr (.inr ⟨f, rfl, rfl⟩)
theorem part_cons {c x : Cd} {b : Bool} {p : Pa} (h : part c [b] = some x) : part c (b :: p) = part x p := by
  rcases part_one h with ⟨rfl, rfl⟩ | ⟨a, rfl, rfl⟩ | ⟨f, rfl, rfl⟩ <;> rfl
theorem part_uncons {c y : Cd} {b : Bool} {p : Pa} (h : part c (b :: p) = some y) : ∃ x, part c [b] = some x ∧ part x p = some y := by
  cases c with
  | ix n => exact absurd h (by simp [part])
  | nm s => exact absurd h (by simp [part])
  | fn d => cases b with
    | false => exact ⟨d, by rw [part_fn, part_nil], h⟩
    | true => rw [part_ft] at h; cases h
  | ap f a => cases b with
    | false => exact ⟨f, by rw [part_apl, part_nil], h⟩
    | true => exact ⟨a, by rw [part_apr, part_nil], h⟩
theorem part_app {q : Pa} : ∀ {p : Pa} {c x : Cd}, part c p = some x → part c (p ++ q) = part x q
  | [], c, x, h => by rw [part_nil] at h; cases h; rfl
  | b :: p, c, x, h => by
    obtain ⟨y, h1, h2⟩ := part_uncons h
    rw [List.cons_append, part_cons h1]
    exact part_app h2
theorem part_unapp {q : Pa} : ∀ {p : Pa} {c y : Cd}, part c (p ++ q) = some y → ∃ x, part c p = some x ∧ part x q = some y
  | [], c, y, h => ⟨c, part_nil c, h⟩
  | b :: p, c, y, h => by
    obtain ⟨x, h1, h2⟩ := part_uncons h
    obtain ⟨z, h3, h4⟩ := part_unapp (p := p) h2
    exact ⟨z, by rw [part_cons h1]; exact h3, h4⟩
theorem alongs_nil (c : Cd) : alongs c [] = [c] := by cases c <;> rfl
theorem alongs_cons {c x : Cd} {b : Bool} {p : Pa} (h : part c [b] = some x) : alongs c (b :: p) = c :: alongs x p := by
  rcases part_one h with ⟨rfl, rfl⟩ | ⟨a, rfl, rfl⟩ | ⟨f, rfl, rfl⟩ <;> rfl
theorem alongs_get : ∀ {p : Pa} {c x : Cd} {k : Nat}, part c p = some x → k ≤ p.length → (alongs c p)[k]? = part c (p.take k)
  | [], c, x, k, h, hk => by
    cases Nat.le_zero.mp hk
    rw [List.take_zero, alongs_nil, part_nil]; rfl
  | b :: p, c, x, k, h, hk => by
    obtain ⟨y, h1, h2⟩ := part_uncons h
    rw [alongs_cons h1]
    cases k with
    | zero => rw [List.take_zero, part_nil]; rfl
    | succ k =>
      rw [List.getElem?_cons_succ, List.take_succ_cons, part_cons h1]
      exact alongs_get h2 (Nat.le_of_succ_le_succ hk)
theorem alongs_len : ∀ {p : Pa} {c x : Cd}, part c p = some x → (alongs c p).length = p.length + 1
  | [], c, x, h => by rw [alongs_nil]; rfl
  | b :: p, c, x, h => by
    obtain ⟨y, h1, h2⟩ := part_uncons h
    rw [alongs_cons h1, List.length_cons, List.length_cons, alongs_len h2]
theorem alongs_last {p : Pa} {c x : Cd} (h : part c p = some x) : (alongs c p).getLast? = some x := by
  rw [List.getLast?_eq_getElem?, alongs_len h, Nat.add_sub_cancel, alongs_get h (Nat.le_refl _), List.take_length, h]
theorem alongs_snoc {b : Bool} : ∀ {p : Pa} {c x y : Cd}, part c p = some x → part x [b] = some y → alongs c (p ++ [b]) = alongs c p ++ [y]
  | [], c, x, y, h, g => by
    rw [part_nil] at h
    cases h
    rw [List.nil_append, alongs_cons g, alongs_nil, alongs_nil]; rfl
  | a :: p, c, x, y, h, g => by
    obtain ⟨z, h1, h2⟩ := part_uncons h
    rw [List.cons_append, alongs_cons h1, alongs_cons h1, alongs_snoc h2 g]; rfl
structure A2 where
  c : Cd
  p : Pa
theorem paD_inj : ∀ (p q : Pa), paD p = paD q → p = q := fun p q h => (List.map_inj_right (f := bD) fun a b e => by cases a <;> cases b <;> first | rfl | cases e).mp (PyData.tuple.inj h)
theorem a2_inj {c c' : Cd} {p p' : Pa} (e : [cdD c, paD p] = [cdD c', paD p']) : c = c' ∧ p = p' := ⟨cdD_inj _ _ (List.cons.inj e).1, paD_inj _ _ (List.cons.inj (List.cons.inj e).2).1⟩
def Pth (a : A2) : Prop := (∃ x, part a.c a.p = some x) ∧ a.p.length ≤ 1000000
abbrev sp_parts : FnS := spE Pth (fun a => [cdD a.c, paD a.p]) fun a => .list ((alongs a.c a.p).map cdD)
abbrev sp_partat : FnS := spF Pth (fun a => [cdD a.c, paD a.p]) fun a d => ∀ x, part a.c a.p = some x → d = cdD x
section
variable {G : Gb} {Q : DP}
def I_pa (c : Cd) (p : Pa) (i : Nat) (ρ : PD.Env) : Prop := ∃ s3 s4 : Option Sl, ρ = [some (.fz (cdD c)), some (.fz (paD p)), some (.ow ((alongs c (p.take i)).map cdD)), s3, s4]
theorem w_parts {k0 k1 : Nat} (h0 : G.fn k0 = sp_isfn) (h1 : G.fn k1 = sp_isap) (ds : List D) (h : sp_parts.pre ds) : wSs G (B_parts_along k0 k1) (endOf (sp_parts.post ds)) (env0 5 ds) := by
  refine spF_w (fun a b _ _ e => ?_) (fun a ha Q hQ => ?_) ds h
  · obtain ⟨c, p⟩ := a
    obtain ⟨c', p'⟩ := b
    obtain ⟨e1, e2⟩ := a2_inj e
    have e1 : c = c' := e1
    have e2 : p = p' := e2
    subst e1 e2; rfl
  · obtain ⟨c, p⟩ := a
    obtain ⟨⟨y, hy⟩, hl⟩ := ha
    have hy : part c p = some y := hy
    have hl : p.length ≤ 1000000 := hl
    have hQ : Q.rt (.list ((alongs c p).map cdD)) := hQ _ rfl
    show wSs G (B_parts_along k0 k1) Q [some (.fz (cdD c)), some (.fz (.tuple (p.map bD))), none, none, none]
    unfold B_parts_along
    walk_at "x"
    refine ⟨by decide, for_of (I_pa c p) ⟨_, _, by rw [List.take_zero]; cases c <;> rfl⟩ ?_ ?_⟩
    · rintro i d ρ' N hd ⟨s3, s4, rfl⟩ hN
      obtain ⟨b, hb, rfl, ht, hi⟩ := map_at hd
      have hsp : part c (p.take i ++ [b] ++ p.drop (i + 1)) = some y := by rw [← ht, List.take_append_drop]; exact hy
      obtain ⟨z, hz, _⟩ := part_unapp hsp
      obtain ⟨x, hx, hxz⟩ := part_unapp hz
      have al := alongs_len hx
      rw [List.length_take] at al
      have hN : N [some (.fz (cdD c)), some (.fz (paD p)), some (.ow ((alongs c (p.take i)).map cdD ++ [cdD z])), some (.fz (bD b)), some (.fz (cdD x))] := hN _ ⟨_, _, by rw [ht, alongs_snoc hx hxz, List.map_append]; rfl⟩
      walk_at "x"
      have sl : (List.map cdD (alongs c (List.take i p))).length < sizeLine := by rw [List.length_map, al, sizeLine_eq]; omega
      refine ⟨_, atI_last cdD (alongs_last hx), callE h0 x True.intro (tr_b ?_)⟩
      rcases part_one hxz with ⟨rfl, rfl⟩ | ⟨a, rfl, rfl⟩ | ⟨f, rfl, rfl⟩
      · exact itT rfl (itT (by decide) ⟨_, rfl, sl, hN⟩)
      · refine itF rfl (callE h1 (.ap z a) True.intro (tr_b (itT rfl ⟨by decide, by decide, by decide, ?_⟩)))
        exact itT (by decide) ⟨_, rfl, sl, hN⟩
      · refine itF rfl (callE h1 (.ap f z) True.intro (tr_b (itT rfl ⟨by decide, by decide, by decide, ?_⟩)))
        exact itT (by decide) ⟨_, rfl, sl, hN⟩
    · rintro ρ' ⟨s3, s4, rfl⟩
      rw [List.length_map, List.take_length]
      walk_at "x"
      exact hQ
end
end KC

namespace KC
open PySem PySem.Spec PyProof.Rows L2 PD 
local macro_rules | `(tactic| walk_at "x") => `(tactic| simp (config := { decide := false }) only [x_var, x_v0, x_v1, x_v11, x_v12, x_v13, x_v1t, x_v22, x_v23, x_v2t, x_w11, x_w12, x_w13, x_w1t, x_w22, x_w23, x_dnew, x_dget, x_dcm, x_chn, x_lrg, x_en, x_zp, x_zp3, x_fDt, x_fDf, x_fBd, x_d5, x_d6, x_trl, x_trt, x_trn, x_aug, x_ownd2, x_dput, x_dputl, x_dappl, x_pop, x_ins, x_ext, x_nwL, x_nwD, n_int, n_bl, n_str, n_lst, n_tup, n_non, g_int, k_int, bLv, x_ct, x_non, x_bl, x_int, x_str, x_bin, x_neg, x_cmp, x_bopt, x_bopv, x_nt, x_ntv, x_ifx, x_ix, x_ixt, x_sl, x_call, x_callk, x_blt, x_isi, x_mth, x_tup, x_lst, x_lc, x_lc2, x_d0, x_d1, x_d2, x_d3, x_d4, x_ts0, x_ts1, x_bs0, x_bs1, x_c0, x_c1,
    x_eo0, x_eo1, x_es0, x_es1, x_ls, x_r1, x_r2, x_rv, x_rr1, x_rr2, o_ls, o_tp, x_ft, x_ftst, x_fLt, x_fLf, x_fBl, x_fBi, x_fBs, x_fBb, x_fBt, x_trb, x_tri, x_nil, x_cons, x_asg, x_own, x_own2, x_frz, x_app, x_app2, x_appI, x_seti, x_set2, x_drop, x_ifs, x_whl, x_fr, x_ret, x_retN, x_pass, x_brk, x_cont, x_gnm, x_gtp, x_g0, x_gs, x_rt, x_nx,
    b_addI, b_addS, b_addL, b_addT, b_sub, b_mul, b_mulL, b_mulT, b_and, b_or, b_xor, b_div, b_mod, b_pow, b_shl, b_shr, e_ii, e_ss, e_bb, e_nn, e_ni, e_in, e_ns, e_sn, e_is, e_si, e_nb, e_bn, c_eq, c_ne, c_lt, c_le, c_gt, c_ge, c_in, c_ni, c_is, c_isn, i_l, i_t, i_s, i_d, in_l, in_t, in_d, e_tt, e_ll, f_lenD, f_lstD, f_lstS, f_srtL, f_srtD, f_maxL, f_minL, f_all, f_any, m_count, m_rfind, m_lix, l_l, l_t, l_s,
    f_lenL, f_lenT, f_lenS, f_intI, f_intB, f_str, f_tupL, f_tupT, f_lstL, f_lstT, f_abs, f_max, f_min, f_sum, m_join, m_find3, m_rfind4, m_sindex, s_lst, s_tup, wFrz, setAll, wipeE, t_str, t_lst, mtTy, o_int, o_bl, o_str, o_lst, o_tup, o_non, isT, String.reduceBEq, String.reduceEq, beq_self_eq_true, Nat.reduceAdd, Nat.reduceLT, Nat.reduceSub,
    List.map_cons, List.map_nil, List.length_cons, List.length_nil, List.set_cons_zero, List.set_cons_succ, List.any_cons, List.any_nil,
    PyData.bool.injEq, PyData.int.injEq, PyData.str.injEq, PyData.list.injEq, PyData.tuple.injEq, Option.some.injEq, Sl.fz.injEq, Sl.ow.injEq, Sl.ow2.injEq, Sl.od.injEq, Sl.odl.injEq, PyData.dict.injEq,
    exists_eq_left, exists_eq_left', exists_and_left, exists_and_right, and_assoc, true_and, and_true, if_true, if_false, ite_true, ite_false, decide_eq_true_eq, Bool.true_eq_false, Bool.false_eq_true, Bool.not_true, Bool.not_false, Bool.or_true, Bool.true_or, Bool.or_false, Bool.false_or, Bool.and_true, Bool.true_and, Bool.and_false, Bool.false_and, Nat.zero_lt_succ, reduceCtorEq])
open PL
/-! ### with another part; redexes; steps -/
theorem repl_nil (c x : Cd) : repl c [] x = x := by cases c <;> rfl
/-- the part at the k-th place of a path -/
def pk (c : Cd) (p : Pa) (k : Nat) : Cd := (part c (p.take k)).getD c
theorem pk_some {c y : Cd} {p : Pa} (h : part c p = some y) (k : Nat) : part c (p.take k) = some (pk c p k) := by
  have : part c (p.take k ++ p.drop k) = some y := by rw [List.take_append_drop]; exact h
  obtain ⟨x, hx, _⟩ := part_unapp this
  unfold pk
  rw [hx]; rfl
theorem pk_step {c y : Cd} {p : Pa} (h : part c p = some y) {k : Nat} {b : Bool} (hb : p[k]? = some b) : part (pk c p k) [b] = some (pk c p (k + 1)) := by
  have h1 := pk_some h k
  have h2 := pk_some h (k + 1)
  rw [List.take_add_one, hb] at h2
  rw [← part_app (q := [b]) h1]
  exact h2
structure A5 where
  c : Cd
  p : Pa
  x : Cd
abbrev sp_with : FnS := spE (fun a : A5 => Pth ⟨a.c, a.p⟩) (fun a => [cdD a.c, paD a.p, cdD a.x]) fun a => cdD (repl a.c a.p a.x)
abbrev sp_rdx : FnS := spE (fun c : Cd => sz c ≤ 4000000) (fun c => [cdD c]) fun c => .tuple ((rdx c).map paD)
/-- a step there leads on to c' -/
structure A6 where
  c : Cd
  p : Pa
  x : Cd
abbrev sp_step (m : Nat) : FnS := spE (fun a : A6 => St a.p a.c a.x ∧ a.p.length ≤ 1000000 ∧ dp a.c < m) (fun a => [cdD a.c, paD a.p]) fun a => cdD a.x
theorem dp_part : ∀ {p : Pa} {c x : Cd}, part c p = some x → dp x ≤ dp c
  | [], c, x, h => by rw [part_nil] at h; cases h; exact Nat.le_refl _
  | b :: p, c, x, h => by
    obtain ⟨y, h1, h2⟩ := part_uncons h
    have := dp_part h2
    rcases part_one h1 with ⟨rfl, _⟩ | ⟨a, rfl, _⟩ | ⟨f, rfl, _⟩
    · show _ ≤ dp y + 1; omega
    · show _ ≤ max (dp y) (dp a) + 1; omega
    · show _ ≤ max (dp f) (dp y) + 1; omega
theorem eq_bD {b : Bool} {N : Bool → Prop} : wEq (bD b) (.int 0) N = N (!b) := by cases b <;> rfl
section
variable {G : Gb} {Q : DP}
theorem w_partat {k2 : Nat} (h2 : G.fn k2 = sp_parts) (ds : List D) (h : sp_partat.pre ds) : wSs G (B_part_at k2) (endOf (sp_partat.post ds)) (env0 2 ds) := by
  refine spF_w (fun a b _ _ e => ?_) (fun a ha Q hQ => ?_) ds h
  · obtain ⟨c, p⟩ := a
    obtain ⟨c', p'⟩ := b
    obtain ⟨e1, e2⟩ := a2_inj e
    have e1 : c = c' := e1
    have e2 : p = p' := e2
    subst e1 e2; rfl
  · obtain ⟨c, p⟩ := a
    have ha' := ha
    obtain ⟨⟨y, hy⟩, hl⟩ := ha
    have hy : part c p = some y := hy
    show wSs G (B_part_at k2) Q [some (.fz (cdD c)), some (.fz (paD p))]
    unfold B_part_at
    walk_at "x"
    refine callE h2 ⟨c, p⟩ ha' ?_
    refine ⟨_, atI_last cdD (alongs_last hy), hQ _ fun x hx => ?_⟩
    have hx : part c p = some x := hx
    rw [hy] at hx
    cases hx; rfl
def I_wp (c : Cd) (p : Pa) (x : Cd) (i : Nat) (ρ : PD.Env) : Prop := ∃ s4 s5 : Option Sl, ρ = [some (.fz (cdD c)), some (.fz (paD p)), some (.fz (cdD (repl (pk c p (p.length - i)) (p.drop (p.length - i)) x))), some (.fz (.list ((alongs c p).map cdD))), s4, s5]
theorem w_with {k0 k2 : Nat} (h0 : G.fn k0 = sp_isfn) (h2 : G.fn k2 = sp_parts) (ds : List D) (h : sp_with.pre ds) : wSs G (B_with_part k2 k0) (endOf (sp_with.post ds)) (env0 6 ds) := by
  refine spF_w (fun a b _ _ e => ?_) (fun a ha Q hQ => ?_) ds h
  · obtain ⟨c, p, x⟩ := a
    obtain ⟨c', p', x'⟩ := b
    have e1 : c = c' := cdD_inj _ _ (List.cons.inj e).1
    have e2 : p = p' := paD_inj _ _ (List.cons.inj (List.cons.inj e).2).1
    have e3 : x = x' := cdD_inj _ _ (List.cons.inj (List.cons.inj (List.cons.inj e).2).2).1
    subst e1 e2 e3; rfl
  · obtain ⟨c, p, x⟩ := a
    have ha' := ha
    obtain ⟨⟨y, hy⟩, hl⟩ := ha
    have hy : part c p = some y := hy
    have hl : p.length ≤ 1000000 := hl
    have hQ : Q.rt (cdD (repl c p x)) := hQ _ rfl
    show wSs G (B_with_part k2 k0) Q [some (.fz (cdD c)), some (.fz (.tuple (p.map bD))), some (.fz (cdD x)), none, none, none]
    unfold B_with_part
    walk_at "x"
    refine callE h2 ⟨c, p⟩ ha' ?_
    rw [List.length_map]
    refine ⟨by omega, by omega, ?_⟩
    refine for_of (I_wp c p x) ⟨_, _, by rw [Nat.sub_zero, List.drop_length, repl_nil]; rfl⟩ ?_ ?_
    · rintro i d ρ' N hd ⟨s4, s5, rfl⟩ hN
      rw [Int.toNat_natCast] at hd
      obtain ⟨hi, rfl⟩ := rev_at hd
      have hk : p.length - 1 - i < p.length := by omega
      have e1 : p.length - i = p.length - 1 - i + 1 := by omega
      have e2 : p.length - (i + 1) = p.length - 1 - i := by omega
      obtain ⟨b, hb⟩ : ∃ b, p[p.length - 1 - i]? = some b := ⟨_, List.getElem?_eq_getElem hk⟩
      have hd2 : p.drop (p.length - 1 - i) = b :: p.drop (p.length - 1 - i + 1) := by
        rw [List.drop_eq_getElem_cons hk]
        rw [List.getElem?_eq_getElem hk] at hb
        cases hb; rfl
      have st := pk_step hy hb
      have ha2 : (alongs c p)[p.length - 1 - i]? = some (pk c p (p.length - 1 - i)) := by rw [alongs_get hy (by omega)]; exact pk_some hy _
      have fin : ∀ u : Cd, u = repl (pk c p (p.length - 1 - i)) (p.drop (p.length - 1 - i)) x → ∀ s4 s5 : Option Sl, N [some (.fz (cdD c)), some (.fz (paD p)), some (.fz (cdD u)), some (.fz (.list ((alongs c p).map cdD))), s4, s5] := fun u e s4 s5 => hN _ ⟨s4, s5, by rw [e2, ← e]⟩
      generalize hv : pk c p (p.length - 1 - i + 1) = v at st
      generalize hu : pk c p (p.length - 1 - i) = u at st ha2 fin
      rw [e1, hv]
      generalize hr : repl v (p.drop (p.length - 1 - i + 1)) x = r
      show wG (.nm 4) _ [some (.fz (cdD c)), some (.fz (.tuple (p.map bD))), some (.fz (cdD r)), some (.fz (.list ((alongs c p).map cdD))), s4, s5] _
      walk_at "x"
      refine ⟨_, atI_at cdD ha2, callE h0 u True.intro (tr_b ?_)⟩
      rcases part_one st with ⟨rfl, rfl⟩ | ⟨a, rfl, rfl⟩ | ⟨f, rfl, rfl⟩
      · refine itT rfl ⟨by decide, fin (.fn r) ?_ _ _⟩
        rw [hd2, ← hr]; rfl
      · refine itF rfl ⟨_, atI_at bD hb, ?_⟩
        rw [eq_bD]
        refine itT rfl ⟨_, rfl, by decide, fin (.ap r a) ?_ _ _⟩
        rw [hd2, ← hr]; rfl
      · refine itF rfl ⟨_, atI_at bD hb, ?_⟩
        rw [eq_bD]
        refine itF rfl ⟨_, rfl, by decide, fin (.ap f r) ?_ _ _⟩
        rw [hd2, ← hr]; rfl
    · rintro ρ' ⟨s4, s5, rfl⟩
      rw [List.length_reverse, List.length_map, List.length_range, Int.toNat_natCast, Nat.sub_self, List.drop_zero]
      walk_at "x"
      have e : pk c p 0 = c := by unfold pk; rw [List.take_zero, part_nil]; rfl
      rw [e]
      exact hQ
theorem w_step {k3 k4 k7 k8 m : Nat} (h3 : G.fn k3 = sp_partat) (h4 : G.fn k4 = sp_with) (h7 : G.fn k7 = sp_put m m) (h8 : G.fn k8 = sp_isrx) (ds : List D) (h : (sp_step m).pre ds) : wSs G (B_step k3 k8 k4 k7) (endOf ((sp_step m).post ds)) (env0 3 ds) := by
  refine spF_w' (fun a b ha hb e d hd => ?_) (fun a ha Q hQ => ?_) ds h
  · obtain ⟨c, p, x⟩ := a
    obtain ⟨c', p', x'⟩ := b
    obtain ⟨e1, e2⟩ := a2_inj e
    have e1 : c = c' := e1
    have e2 : p = p' := e2
    subst e1 e2
    have : x = x' := ha.1.det hb.1
    subst this
    exact hd
  · obtain ⟨c, p, x⟩ := a
    obtain ⟨hs, hl, hm⟩ := ha
    have hl : p.length ≤ 1000000 := hl
    have hm : dp c < m := hm
    obtain ⟨b, a, hp, hx⟩ := hs.at
    have hp : part c p = some (.ap (.fn b) a) := hp
    have hx : x = repl c p (sub a 0 b) := hx
    have hQ : Q.rt (cdD x) := hQ _ rfl
    have hd := dp_part hp
    have hd : max (dp b + 1) (dp a) + 1 ≤ dp c := hd
    show wSs G (B_step k3 k8 k4 k7) Q [some (.fz (cdD c)), some (.fz (paD p)), none]
    unfold B_step
    walk_at "x"
    refine callF h3 ⟨c, p⟩ ⟨⟨_, hp⟩, hl⟩ fun d hd => ?_
    rw [hd _ hp]
    refine callE h8 (.ap (.fn b) a) True.intro (tr_b ?_)
    show if (!true) = true then _ else _
    rw [if_neg (by decide)]
    refine ⟨_, rfl, _, rfl, _, rfl, callE h7 (b, a) ⟨by show dp b < m; omega, by show dp a < m; omega⟩ (callE h4 ⟨c, p, sub a 0 b⟩ ⟨⟨_, hp⟩, hl⟩ ?_)⟩
    rw [hx] at hQ
    exact hQ
end
/-! #### redexes -/
def szs (W : List (Pa × Cd)) : Nat := (W.map fun x => sz x.2).sum
theorem szs_snoc (W : List (Pa × Cd)) (x : Pa × Cd) : szs (W ++ [x]) = szs W + sz x.2 := by unfold szs; rw [List.map_append, List.sum_append]; simp
theorem szs_len (W : List (Pa × Cd)) : W.length ≤ szs W := by
  induction W with
  | nil => exact Nat.zero_le _
  | cons x W ih =>
    have := sz_pos x.2
    show W.length + 1 ≤ sz x.2 + szs W
    omega
/-- what is still to come out of what waits -/
def pend {α : Type} (g : Cd → List (Pa × α)) (W : List (Pa × Cd)) : List (Pa × α) := W.reverse.flatMap fun x => (g x.2).map fun y => (x.1 ++ y.1, y.2)
theorem pend_snoc {α : Type} (g : Cd → List (Pa × α)) (W : List (Pa × Cd)) (x : Pa × Cd) : pend g (W ++ [x]) = ((g x.2).map fun y => (x.1 ++ y.1, y.2)) ++ pend g W := by unfold pend; rw [List.reverse_append]; rfl
def rxs (c : Cd) : List (Pa × Unit) := (rdx c).map fun p => (p, ())
def wtD (x : Pa × Cd) : D := .tuple [paD x.1, cdD x.2]
structure Wt (c : Cd) (m : Nat) (n : Nat) (W : List (Pa × Cd)) : Prop where
  m : m = szs W
  sm : szs W + n ≤ sz c
  pl : ∀ x ∈ W, x.1.length + dp x.2 ≤ dp c
theorem Wt.len {c : Cd} {m n : Nat} {W : List (Pa × Cd)} (h : Wt c m n W) : W.length ≤ sz c := by
  have := szs_len W
  have := h.sm
  omega
theorem Wt.one (c : Cd) : Wt c (sz c) 0 [([], c)] := ⟨rfl, by show sz c + 0 + 0 ≤ sz c; omega, fun x hx => by rw [List.mem_singleton.mp hx]; show 0 + dp c ≤ dp c; omega⟩
theorem Wt.fn {c : Cd} {m n : Nat} {W : List (Pa × Cd)} {p : Pa} {b : Cd} (h : Wt c m n (W ++ [(p, .fn b)])) : Wt c (szs (W ++ [(p ++ [false], b)])) (n + 1) (W ++ [(p ++ [false], b)]) := by
  have h1 := h.sm
  have h2 := h.pl (p, .fn b) (by simp)
  rw [szs_snoc] at h1
  have h1 : szs W + (sz b + 1) + n ≤ sz c := h1
  have h2 : p.length + (dp b + 1) ≤ dp c := h2
  refine ⟨rfl, by rw [szs_snoc]; show szs W + sz b + (n + 1) ≤ _; omega, fun x hx => ?_⟩
  rcases List.mem_append.mp hx with e | e
  · exact h.pl x (List.mem_append_left _ e)
  · rw [List.mem_singleton.mp e]
    show (p ++ [false]).length + dp b ≤ _
    rw [List.length_append]; show p.length + 1 + dp b ≤ _; omega
theorem Wt.ap {c : Cd} {m n : Nat} {W : List (Pa × Cd)} {p : Pa} {f a : Cd} (h : Wt c m n (W ++ [(p, .ap f a)])) : Wt c (szs (W ++ [(p ++ [true], a)] ++ [(p ++ [false], f)])) (n + 1) (W ++ [(p ++ [true], a)] ++ [(p ++ [false], f)]) := by
  have h1 := h.sm
  have h2 := h.pl (p, .ap f a) (by simp)
  rw [szs_snoc] at h1
  have h1 : szs W + (sz f + sz a + 1) + n ≤ sz c := h1
  have h2 : p.length + (max (dp f) (dp a) + 1) ≤ dp c := h2
  refine ⟨rfl, by rw [szs_snoc, szs_snoc]; show szs W + sz a + sz f + (n + 1) ≤ _; omega, fun x hx => ?_⟩
  rcases List.mem_append.mp hx with e | e
  · rcases List.mem_append.mp e with e | e
    · exact h.pl x (List.mem_append_left _ e)
    · rw [List.mem_singleton.mp e]
      show (p ++ [true]).length + dp a ≤ _
      rw [List.length_append]; show p.length + 1 + dp a ≤ _; omega
  · rw [List.mem_singleton.mp e]
    show (p ++ [false]).length + dp f ≤ _
    rw [List.length_append]; show p.length + 1 + dp f ≤ _; omega
theorem Wt.leaf {c : Cd} {m n : Nat} {W : List (Pa × Cd)} {x : Pa × Cd} (h : Wt c m n (W ++ [x])) : Wt c (szs W) (n + 1) W := by
  have h1 := h.sm
  rw [szs_snoc] at h1
  have := sz_pos x.2
  exact ⟨rfl, by omega, fun y hy => h.pl y (List.mem_append_left _ hy)⟩
theorem Wt.less {c : Cd} {m n : Nat} {W : List (Pa × Cd)} (h : Wt c m n W) {k : Nat} (hk : k ≤ n) : Wt c m k W := ⟨h.m, by have := h.sm; omega, h.pl⟩
theorem Wt.pos {c : Cd} {m n : Nat} {W : List (Pa × Cd)} {x : Pa × Cd} (h : Wt c m n (W ++ [x])) : szs W + sz x.2 = m := by rw [h.m, szs_snoc]
section
variable {G : Gb} {Q : DP}
def I_rx (c : Cd) (m : Nat) (ρ : PD.Env) : Prop := ∃ (F : List Pa) (W : List (Pa × Cd)) (s3 s4 : Option Sl), (rxs c = F.map (fun p => (p, ())) ++ pend rxs W) ∧ Wt c m F.length W ∧ ρ = [some (.fz (cdD c)), some (.ow (F.map paD)), some (.ow (W.map wtD)), s3, s4]
theorem rxs_fn (b : Cd) : rxs (.fn b) = (rxs b).map fun y => (false :: y.1, y.2) := by unfold rxs; rw [show rdx (.fn b) = (rdx b).map (false :: ·) from rfl, List.map_map, List.map_map]; rfl
theorem rxs_ap (f a : Cd) : rxs (.ap f a) = (if isRx (.ap f a) = true then [([], ())] else []) ++ ((rxs f).map (fun y => (false :: y.1, y.2)) ++ (rxs a).map fun y => (true :: y.1, y.2)) := by
  unfold rxs
  rw [show rdx (.ap f a) = (if isRx (.ap f a) = true then [[]] else []) ++ ((rdx f).map (false :: ·) ++ (rdx a).map (true :: ·)) from rfl, List.map_append, List.map_append, List.map_map, List.map_map, List.map_map, List.map_map]
  split <;> rfl
theorem shift_pa {α : Type} (p : Pa) (b : Bool) (l : List (Pa × α)) : (l.map fun y => (b :: y.1, y.2)).map (fun y => (p ++ y.1, y.2)) = l.map fun y => (p ++ [b] ++ y.1, y.2) := by
  rw [List.map_map]
  refine List.map_congr_left fun y _ => ?_
  show (p ++ b :: y.1, y.2) = _
  rw [List.append_assoc]; rfl
def RX_T (k_is_function k_is_call : Nat) : Ss := (.cons (.ifs (.call k_is_function (.cons (.var 4) .nil)) (.cons (.app 2 (.tup (.cons (.bin .Add (.var 3) (.tup (.cons (.int 0) .nil))) (.cons (.ix (.var 4) (.int 1)) .nil))))
  .nil) (.cons (.ifs (.call k_is_call (.cons (.var 4) .nil)) (.cons (.app 2 (.tup (.cons (.bin .Add (.var 3) (.tup (.cons (.int 1) .nil))) (.cons (.ix (.var 4) (.int 2)) .nil))))
  (.cons (.app 2 (.tup (.cons (.bin .Add (.var 3) (.tup (.cons (.int 0) .nil))) (.cons (.ix (.var 4) (.int 1)) .nil))))
  .nil)) .nil)
  .nil))
  .nil)
def kids : Cd → List (Pa × Unit)
  | .fn b => (rxs b).map fun y => (false :: y.1, y.2)
  | .ap f a => (rxs f).map (fun y => (false :: y.1, y.2)) ++ (rxs a).map fun y => (true :: y.1, y.2)
  | _ => []
theorem rx_tail {k0 k1 : Nat} (h0 : G.fn k0 = sp_isfn) (h1 : G.fn k1 = sp_isap) {P : DP} {c d : Cd} {p : Pa} {m n : Nat} {F' : List Pa} {W : List (Pa × Cd)} (hz : sz c ≤ 4000000) (hW : Wt c m n (W ++ [(p, d)])) (hn : F'.length ≤ n + 1)
    (hF : rxs c = F'.map (fun p => (p, ())) ++ (((kids d).map fun y => (p ++ y.1, y.2)) ++ pend rxs W)) (hP : ∀ ρ, (∃ m', m' < m ∧ I_rx c m' ρ) → P.nx ρ) :
    wSs G (RX_T k0 k1) P [some (.fz (cdD c)), some (.ow (F'.map paD)), some (.ow (W.map wtD)), some (.fz (paD p)), some (.fz (cdD d))] := by
  have hdc := dp_sz c
  have hp := hW.pos
  have hpl : p.length + dp d ≤ dp c := hW.pl (p, d) (by simp)
  have hlen := hW.len
  rw [List.length_append] at hlen
  have hlen : W.length + 1 ≤ sz c := hlen
  show wSs G (RX_T k0 k1) P [some (.fz (cdD c)), some (.ow (F'.map paD)), some (.ow (W.map wtD)), some (.fz (.tuple (p.map bD))), some (.fz (cdD d))]
  unfold RX_T
  walk_at "x"
  have pl1 : (p.map bD).length + 1 ≤ sizeLine := by rw [List.length_map, sizeLine_eq]; omega
  have wl : (W.map wtD).length + 1 < sizeLine := by rw [List.length_map, sizeLine_eq]; omega
  have e0 : PyData.tuple (p.map bD ++ [PyData.int 0]) = paD (p ++ [false]) := by unfold paD; rw [List.map_append]; rfl
  have e1 : PyData.tuple (p.map bD ++ [PyData.int 1]) = paD (p ++ [true]) := by unfold paD; rw [List.map_append]; rfl
  rw [e0, e1]
  refine callE h0 d True.intro (tr_b ?_)
  cases d with
  | ix n =>
    refine itF rfl (callE h1 (.ix n) True.intro (tr_b (itF rfl (hP _ ⟨szs W, ?_, F', W, _, _, hF, hW.leaf.less hn, rfl⟩))))
    have hp : szs W + 1 = m := hp; omega
  | nm s =>
    refine itF rfl (callE h1 (.nm s) True.intro (tr_b (itF rfl (hP _ ⟨szs W, ?_, F', W, _, _, hF, hW.leaf.less hn, rfl⟩))))
    have hp : szs W + 1 = m := hp; omega
  | fn b =>
    refine itT rfl ⟨by decide, pl1, cdD b, rfl, by decide, by omega, hP _ ⟨szs (W ++ [(p ++ [false], b)]), ?_, F', W ++ [(p ++ [false], b)], some (.fz (paD p)), some (.fz (cdD (.fn b))), ?_, hW.fn.less hn, by rw [List.map_append]; rfl⟩⟩
    · rw [szs_snoc]; show szs W + sz b < m; have hp : szs W + (sz b + 1) = m := hp; omega
    · rw [pend_snoc, hF]
      show _ ++ (((rxs b).map fun y => (false :: y.1, y.2)).map _ ++ _) = _
      rw [shift_pa]
  | ap f a =>
    refine itF rfl (callE h1 (.ap f a) True.intro (tr_b (itT rfl ⟨by decide, pl1, cdD a, rfl, by decide, by omega, by decide, pl1, cdD f, rfl, by decide, ?_, hP _ ⟨szs (W ++ [(p ++ [true], a)] ++ [(p ++ [false], f)]), ?_, F', W ++ [(p ++ [true], a)] ++ [(p ++ [false], f)], some (.fz (paD p)), some (.fz (cdD (.ap f a))), ?_, hW.ap.less hn, by rw [List.map_append, List.map_append]; rfl⟩⟩)))
    · rw [List.length_append]; show _ + 1 < _; exact wl
    · rw [szs_snoc, szs_snoc]; show szs W + sz a + sz f < m; have hp : szs W + (sz f + sz a + 1) = m := hp; omega
    · rw [pend_snoc, pend_snoc, hF]
      show _ ++ (((rxs f).map (fun y => (false :: y.1, y.2)) ++ (rxs a).map fun y => (true :: y.1, y.2)).map _ ++ _) = _
      rw [List.map_append, shift_pa, shift_pa, List.append_assoc]
theorem rxs_kids (d : Cd) : rxs d = (if isRx d = true then [([], ())] else []) ++ kids d := by
  cases d with
  | ix n => rfl
  | nm s => rfl
  | fn b => rw [rxs_fn]; rfl
  | ap f a => rw [rxs_ap]; rfl
theorem w_rdx {k0 k1 k8 : Nat} (h0 : G.fn k0 = sp_isfn) (h1 : G.fn k1 = sp_isap) (h8 : G.fn k8 = sp_isrx) (ds : List D) (h : sp_rdx.pre ds) : wSs G (B_redexes k8 k0 k1) (endOf (sp_rdx.post ds)) (env0 5 ds) := by
  refine spF_w (fun a b _ _ e => cdD_inj _ _ (List.cons.inj e).1) (fun c hz Q hQ => ?_) ds h
  have hz : sz c ≤ 4000000 := hz
  have hQ : Q.rt (.tuple ((rdx c).map paD)) := hQ _ rfl
  have hdc := dp_sz c
  show wSs G (B_redexes k8 k0 k1) Q [some (.fz (cdD c)), none, none, none, none]
  unfold B_redexes
  walk_at "x"
  refine ⟨by decide, by decide, by decide, by decide, whl_of (I_rx c) (sz c) ⟨[], [([], c)], _, _, ?_, Wt.one c, rfl⟩ ?_⟩
  · rw [List.map_nil, List.nil_append]
    unfold pend
    rw [List.reverse_singleton, List.flatMap_cons, List.flatMap_nil, List.append_nil]
    exact (List.map_id' _).symm
  · rintro m ρ' ⟨F, W, s3, s4, hF, hW, rfl⟩
    rcases List.eq_nil_or_concat W with rfl | ⟨W', x, rfl⟩
    · walk_at "x"
      have e : F = rdx c := by
        have : rxs c = F.map fun p => (p, ()) := by rw [hF]; exact List.append_nil _
        unfold rxs at this
        exact ((List.map_inj_right fun a b h => (Prod.mk.inj h).1).mp this).symm
      rw [e]; exact hQ
    · obtain ⟨p, d⟩ := x
      rw [List.concat_eq_append] at *
      have hp := hW.pos
      have hpl : p.length + dp d ≤ dp c := hW.pl (p, d) (by simp)
      have hlen := hW.len
      rw [List.length_append] at hlen
      have hlen : W'.length + 1 ≤ sz c := hlen
      have hfl := hW.sm
      rw [pend_snoc] at hF
      rw [List.map_append]
      walk_at "x"
      rw [if_pos (by simp)]
      refine ⟨wtD (p, d), by simp, ?_⟩
      rw [List.dropLast_concat]
      show wG (.tp [3, 4]) (.tuple [paD p, cdD d]) _ (wSs G (.cons _ (RX_T k0 k1)) _)
      walk_at "x"
      refine callE h8 d True.intro (tr_b ?_)
      have fl : F.length < sizeLine := by rw [sizeLine_eq]; omega
      have hF : rxs c = F.map (fun p => (p, ())) ++ ((rxs d).map (fun y => (p ++ y.1, y.2)) ++ pend rxs W') := hF
      rw [rxs_kids d] at hF
      cases hr : isRx d with
      | true =>
        rw [if_pos hr] at hF
        rw [List.length_map]
        refine itT rfl ⟨fl, ?_⟩
        have e : F.map paD ++ [paD p] = (F ++ [p]).map paD := by rw [List.map_append]; rfl
        rw [e]
        refine rx_tail h0 h1 hz hW (by rw [List.length_append]; exact Nat.le_refl _) ?_ fun ρ h => h
        rw [hF, List.map_append, List.map_append, List.append_assoc, List.append_assoc]
        show _ ++ ((p ++ [], ()) :: _) = _
        rw [List.append_nil]; rfl
      | false =>
        rw [if_neg (by rw [hr]; decide), List.nil_append] at hF
        exact itF rfl (rx_tail h0 h1 hz hW (Nat.le_succ _) hF fun ρ h => h)
end
end KC

namespace KC
open PySem PySem.Spec PyProof.Rows L2 PD 
local macro_rules | `(tactic| walk_at "x") => `(tactic| simp (config := { decide := false }) only [Int.reduceLT, Int.reduceLE, sl0, sl1, sl2, sl3, sl4, sl5, sl6, sl7, sl8, sl9, sl10, sl11, sl12, q_last, List.dropLast_concat, q_at0, q_at1, q_at2, q_at3, decide_true, decide_false, x_var, x_v0, x_v1, x_v11, x_v12, x_v13, x_v1t, x_v22, x_v23, x_v2t, x_w11, x_w12, x_w13, x_w1t, x_w22, x_w23, x_dnew, x_dget, x_dcm, x_chn, x_lrg, x_en, x_zp, x_zp3, x_fDt, x_fDf, x_fBd, x_d5, x_d6, x_trl, x_trt, x_trn, x_aug, x_ownd2, x_dput, x_dputl, x_dappl, x_pop, x_ins, x_ext, x_nwL, x_nwD, n_int, n_bl, n_str, n_lst, n_tup, n_non, g_int, k_int, bLv, x_ct, x_non, x_bl, x_int, x_str, x_bin, x_neg, x_cmp, x_bopt, x_bopv, x_nt, x_ntv, x_ifx, x_ix, x_ixt, x_sl, x_call, x_callk, x_blt, x_isi, x_mth, x_tup, x_lst, x_lc, x_lc2, x_d0, x_d1, x_d2, x_d3, x_d4, x_ts0, x_ts1, x_bs0, x_bs1, x_c0, x_c1,
    x_eo0, x_eo1, x_es0, x_es1, x_ls, x_r1, x_r2, x_rv, x_rr1, x_rr2, o_ls, o_tp, x_ft, x_ftst, x_fLt, x_fLf, x_fBl, x_fBi, x_fBs, x_fBb, x_fBt, x_trb, x_tri, x_nil, x_cons, x_asg, x_own, x_own2, x_frz, x_app, x_app2, x_appI, x_seti, x_set2, x_drop, x_ifs, x_whl, x_fr, x_ret, x_retN, x_pass, x_brk, x_cont, x_gnm, x_gtp, x_g0, x_gs, x_rt, x_nx,
    b_addI, b_addS, b_addL, b_addT, b_sub, b_mul, b_mulL, b_mulT, b_and, b_or, b_xor, b_div, b_mod, b_pow, b_shl, b_shr, e_ii, e_ss, e_bb, e_nn, e_ni, e_in, e_ns, e_sn, e_is, e_si, e_nb, e_bn, c_eq, c_ne, c_lt, c_le, c_gt, c_ge, c_in, c_ni, c_is, c_isn, i_l, i_t, i_s, i_d, in_l, in_t, in_d, e_tt, e_ll, f_lenD, f_lstD, f_lstS, f_srtL, f_srtD, f_maxL, f_minL, f_all, f_any, m_count, m_rfind, m_lix, l_l, l_t, l_s,
    f_lenL, f_lenT, f_lenS, f_intI, f_intB, f_str, f_tupL, f_tupT, f_lstL, f_lstT, f_abs, f_max, f_min, f_sum, m_join, m_find3, m_rfind4, m_sindex, s_lst, s_tup, wFrz, setAll, wipeE, t_str, t_lst, mtTy, o_int, o_bl, o_str, o_lst, o_tup, o_non, isT, String.reduceBEq, String.reduceEq, beq_self_eq_true, Nat.reduceAdd, Nat.reduceLT, Nat.reduceSub,
    List.map_cons, List.map_nil, List.length_cons, List.length_nil, List.set_cons_zero, List.set_cons_succ, List.any_cons, List.any_nil,
    PyData.bool.injEq, PyData.int.injEq, PyData.str.injEq, PyData.list.injEq, PyData.tuple.injEq, Option.some.injEq, Sl.fz.injEq, Sl.ow.injEq, Sl.ow2.injEq, Sl.od.injEq, Sl.odl.injEq, PyData.dict.injEq,
    exists_eq_left, exists_eq_left', exists_and_left, exists_and_right, and_assoc, true_and, and_true, if_true, if_false, ite_true, ite_false, decide_eq_true_eq, Bool.true_eq_false, Bool.false_eq_true, Bool.not_true, Bool.not_false, Bool.or_true, Bool.true_or, Bool.or_false, Bool.false_or, Bool.and_true, Bool.true_and, Bool.and_false, Bool.false_and, Nat.zero_lt_succ, reduceCtorEq])
open PL
/-- _law_alike : ["told", "due", "waiting", "pair", "k"] -/
def B_law_alike : Ss := (.cons (.own 2 (.lst (.cons (.tup (.cons (.var 0) (.cons (.var 1) .nil))) .nil)))
  (.cons (.whl (.cmp .Gt (.blt .len (.cons (.var 2) .nil)) (.int 0)) (.cons (.popA (.nm 3) 2 .no)
  (.cons (.ifs (.isi (.ix (.var 3) (.int 1)) ["tuple"]) (.cons (.ifs (.bop false (.cons (.nt (.isi (.ix (.var 3) (.int 0)) ["tuple"])) (.cons (.cmp .NotEq (.blt .len (.cons (.ix (.var 3) (.int 0)) .nil)) (.blt .len (.cons (.ix (.var 3) (.int 1)) .nil))) .nil))) (.cons (.ret (.bl false))
  .nil) .nil)
  (.cons (.fr (.nm 4) (.r1 (.blt .len (.cons (.ix (.var 3) (.int 1)) .nil))) (.cons (.app 2 (.tup (.cons (.ix (.ix (.var 3) (.int 0)) (.var 4)) (.cons (.ix (.ix (.var 3) (.int 1)) (.var 4)) .nil))))
  .nil))
  .nil)) (.cons (.ifs (.isi (.ix (.var 3) (.int 1)) ["str"]) (.cons (.ifs (.bop false (.cons (.nt (.isi (.ix (.var 3) (.int 0)) ["str"])) (.cons (.cmp .NotEq (.ix (.var 3) (.int 0)) (.ix (.var 3) (.int 1))) .nil))) (.cons (.ret (.bl false))
  .nil) .nil)
  .nil) (.cons (.ifs (.bop false (.cons (.isi (.ix (.var 3) (.int 0)) ["bool"]) (.cons (.nt (.isi (.ix (.var 3) (.int 0)) ["int"])) (.cons (.cmp .NotEq (.ix (.var 3) (.int 0)) (.ix (.var 3) (.int 1))) .nil)))) (.cons (.ret (.bl false))
  .nil) .nil)
  .nil))
  .nil))
  .nil)))
  (.cons (.ret (.bl true))
  .nil)))
/-- _law_drawn : ["row", "at", "size", "around", "names", "base", "digit", "left", "argument"] -/
def B_law_drawn (k_law_drawn : Nat) : Ss := (.cons (.asg (.nm 6) (.blt .int (.cons (.ix (.var 0) (.var 1)) .nil)))
  (.cons (.ifs (.cmp .Eq (.var 2) (.int 1)) (.cons (.ifs (.bop true (.cons (.cmp .Gt (.var 5) (.int 0)) (.cons (.cmp .Eq (.bin .Mod (.var 6) (.int 5)) (.int 0)) .nil))) (.cons (.ret (.bin .Sub (.var 3) (.var 5)))
  .nil) .nil)
  (.cons (.ifs (.bop true (.cons (.cmp .Gt (.var 3) (.int 0)) (.cons (.bop false (.cons (.cmp .Eq (.blt .len (.cons (.var 4) .nil)) (.int 0)) (.cons (.cmp .Lt (.bin .Mod (.var 6) (.int 5)) (.int 4)) .nil))) .nil))) (.cons (.ret (.bin .Mod (.bin .FloorDiv (.var 6) (.int 5)) (.var 3)))
  .nil) .nil)
  (.cons (.ret (.ix (.var 4) (.bin .Mod (.bin .FloorDiv (.var 6) (.int 5)) (.blt .len (.cons (.var 4) .nil)))))
  .nil))) .nil)
  (.cons (.ifs (.bop false (.cons (.cmp .Eq (.var 2) (.int 2)) (.cons (.cmp .Eq (.bin .Mod (.var 6) (.int 4)) (.int 0)) .nil))) (.cons (.ret (.tup (.cons (.str [116, 111]) (.cons (.call k_law_drawn (.cons (.var 0) (.cons (.bin .Add (.var 1) (.int 1)) (.cons (.bin .Sub (.var 2) (.int 1)) (.cons (.bin .Add (.var 3) (.int 1)) (.cons (.var 4) (.cons (.var 5) .nil))))))) .nil))))
  .nil) .nil)
  (.cons (.asg (.nm 7) (.bin .Add (.int 1) (.bin .Mod (.bin .FloorDiv (.var 6) (.int 4)) (.bin .Sub (.var 2) (.int 2)))))
  (.cons (.asg (.nm 8) (.call k_law_drawn (.cons (.var 0) (.cons (.bin .Add (.bin .Add (.var 1) (.int 1)) (.var 7)) (.cons (.bin .Sub (.bin .Sub (.var 2) (.int 1)) (.var 7)) (.cons (.var 3) (.cons (.var 4) (.cons (.var 5) .nil))))))))
  (.cons (.ifs (.bop false (.cons (.cmp .Eq (.bin .Mod (.var 6) (.int 4)) (.int 1)) (.cons (.cmp .Eq (.var 7) (.int 1)) .nil))) (.cons (.ret (.tup (.cons (.str [111, 102]) (.cons (.call k_law_drawn (.cons (.var 0) (.cons (.bin .Add (.var 1) (.int 1)) (.cons (.var 7) (.cons (.var 3) (.cons (.var 4) (.cons (.var 5) .nil))))))) (.cons (.var 8) .nil)))))
  .nil) .nil)
  (.cons (.ret (.tup (.cons (.str [111, 102]) (.cons (.tup (.cons (.str [116, 111]) (.cons (.call k_law_drawn (.cons (.var 0) (.cons (.bin .Add (.var 1) (.int 2)) (.cons (.bin .Sub (.var 7) (.int 1)) (.cons (.bin .Add (.var 3) (.int 1)) (.cons (.var 4) (.cons (.bin .Add (.var 3) (.int 1)) .nil))))))) .nil))) (.cons (.var 8) .nil)))))
  .nil)))))))
/-- _law_named : ["code", "names", "mark"] -/
def B_law_named (k_law_named : Nat) : Ss := (.cons (.ifs (.isi (.var 0) ["str"]) (.cons (.ret (.var 0))
  .nil) .nil)
  (.cons (.ifs (.nt (.isi (.var 0) ["tuple"])) (.cons (.ret (.ix (.var 1) (.bin .Sub (.bin .Sub (.blt .len (.cons (.var 1) .nil)) (.int 1)) (.var 0))))
  .nil) .nil)
  (.cons (.ifs (.cmp .Eq (.ix (.var 0) (.int 0)) (.str [116, 111])) (.cons (.ret (.tup (.cons (.str [116, 111]) (.cons (.bin .Add (.var 2) (.str [48])) (.cons (.call k_law_named (.cons (.ix (.var 0) (.int 1)) (.cons (.bin .Add (.var 1) (.lst (.cons (.bin .Add (.var 2) (.str [48])) .nil))) (.cons (.bin .Add (.var 2) (.str [48])) .nil)))) .nil)))))
  .nil) .nil)
  (.cons (.ret (.tup (.cons (.str [111, 102]) (.cons (.call k_law_named (.cons (.ix (.var 0) (.int 1)) (.cons (.var 1) (.cons (.bin .Add (.var 2) (.str [49])) .nil)))) (.cons (.call k_law_named (.cons (.ix (.var 0) (.int 2)) (.cons (.var 1) (.cons (.bin .Add (.var 2) (.str [50])) .nil)))) .nil)))))
  .nil))))
/-- _law_replaced : ["program", "name", "part"] -/
def B_law_replaced (k_law_replaced : Nat) : Ss := (.cons (.ifs (.isi (.var 0) ["str"]) (.cons (.ret (.ifx (.cmp .Eq (.var 0) (.var 1)) (.var 2) (.var 0)))
  .nil) .nil)
  (.cons (.ifs (.cmp .Eq (.ix (.var 0) (.int 0)) (.str [116, 111])) (.cons (.ret (.tup (.cons (.str [116, 111]) (.cons (.ix (.var 0) (.int 1)) (.cons (.call k_law_replaced (.cons (.ix (.var 0) (.int 2)) (.cons (.var 1) (.cons (.var 2) .nil)))) .nil)))))
  .nil) .nil)
  (.cons (.ret (.tup (.cons (.str [111, 102]) (.cons (.call k_law_replaced (.cons (.ix (.var 0) (.int 1)) (.cons (.var 1) (.cons (.var 2) .nil)))) (.cons (.call k_law_replaced (.cons (.ix (.var 0) (.int 2)) (.cons (.var 1) (.cons (.var 2) .nil)))) .nil)))))
  .nil)))
/-- _law_code : ["program", "names", "k"] -/
def B_law_code (k_law_code : Nat) : Ss := (.cons (.ifs (.isi (.var 0) ["str"]) (.cons (.fr (.nm 2) (.r1 (.blt .len (.cons (.var 1) .nil))) (.cons (.ifs (.cmp .Eq (.ix (.var 1) (.bin .Sub (.bin .Sub (.blt .len (.cons (.var 1) .nil)) (.int 1)) (.var 2))) (.var 0)) (.cons (.ret (.var 2))
  .nil) .nil)
  .nil))
  (.cons (.ret (.var 0))
  .nil)) .nil)
  (.cons (.ifs (.cmp .Eq (.ix (.var 0) (.int 0)) (.str [116, 111])) (.cons (.ret (.tup (.cons (.str [116, 111]) (.cons (.call k_law_code (.cons (.ix (.var 0) (.int 2)) (.cons (.bin .Add (.var 1) (.lst (.cons (.ix (.var 0) (.int 1)) .nil))) .nil))) .nil))))
  .nil) .nil)
  (.cons (.ret (.tup (.cons (.str [111, 102]) (.cons (.call k_law_code (.cons (.ix (.var 0) (.int 1)) (.cons (.var 1) .nil))) (.cons (.call k_law_code (.cons (.ix (.var 0) (.int 2)) (.cons (.var 1) .nil))) .nil)))))
  .nil)))
/-- _law_leads : ["part", "turn"] -/
def B_law_leads : Ss := (.cons (.ifs (.nt (.isi (.var 0) ["tuple"])) (.cons (.ret (.bl false))
  .nil) .nil)
  (.cons (.ret (.bop false (.cons (.cmp .Eq (.ix (.var 0) (.int 0)) (.str [111, 102])) (.cons (.cmp .Eq (.var 1) (.int 0)) .nil))))
  .nil))
/-- _law_listed : ["code", "found", "waiting", "entry", "turn"] -/
def B_law_listed (k_law_leads : Nat) : Ss := (.cons (.own 1 (.lst .nil))
  (.cons (.own 2 (.lst (.cons (.lst (.cons (.tup .nil) (.cons (.var 0) .nil))) .nil)))
  (.cons (.whl (.cmp .Gt (.blt .len (.cons (.var 2) .nil)) (.int 0)) (.cons (.popA (.nm 3) 2 .no)
  (.cons (.app 1 (.var 3))
  (.cons (.fr (.nm 4) (.ls (.lst (.cons (.int 1) (.cons (.int 0) .nil)))) (.cons (.ifs (.call k_law_leads (.cons (.ix (.var 3) (.int 1)) (.cons (.var 4) .nil))) (.cons (.app 2 (.lst (.cons (.bin .Add (.ix (.var 3) (.int 0)) (.tup (.cons (.var 4) .nil))) (.cons (.ix (.ix (.var 3) (.int 1)) (.bin .Add (.int 1) (.var 4))) .nil))))
  .nil) .nil)
  .nil))
  .nil))))
  (.cons (.frz 1)
  (.cons (.ret (.var 1))
  .nil)))))
/-- _law_redex : ["part"] -/
def B_law_redex : Ss := (.cons (.ret (.bop true (.cons (.isi (.var 0) ["tuple"]) (.cons (.cmp .Eq (.ix (.var 0) (.int 0)) (.str [111, 102])) (.cons (.isi (.ix (.var 0) (.int 1)) ["tuple"]) (.cons (.cmp .Eq (.ix (.ix (.var 0) (.int 1)) (.int 0)) (.str [116, 111])) .nil))))))
  .nil)
/-- _law_stepped : ["program", "path", "ups", "part", "turn", "k", "up"] -/
def B_law_stepped (k_law_replaced : Nat) (k_law_code : Nat) : Ss := (.cons (.own 2 (.lst .nil))
  (.cons (.asg (.nm 3) (.var 0))
  (.cons (.fr (.nm 4) (.ls (.var 1)) (.cons (.app 2 (.var 3))
  (.cons (.asg (.nm 3) (.ifx (.cmp .Eq (.ix (.var 3) (.int 0)) (.str [116, 111])) (.ix (.var 3) (.int 2)) (.ix (.var 3) (.bin .Add (.int 1) (.var 4)))))
  .nil)))
  (.cons (.asg (.nm 3) (.call k_law_replaced (.cons (.ix (.ix (.var 3) (.int 1)) (.int 2)) (.cons (.ix (.ix (.var 3) (.int 1)) (.int 1)) (.cons (.ix (.var 3) (.int 2)) .nil)))))
  (.cons (.fr (.nm 5) (.r1 (.blt .len (.cons (.var 1) .nil))) (.cons (.asg (.nm 6) (.ix (.var 2) (.bin .Sub (.bin .Sub (.blt .len (.cons (.var 1) .nil)) (.int 1)) (.var 5))))
  (.cons (.ifs (.cmp .Eq (.ix (.var 6) (.int 0)) (.str [116, 111])) (.cons (.asg (.nm 3) (.tup (.cons (.str [116, 111]) (.cons (.ix (.var 6) (.int 1)) (.cons (.var 3) .nil)))))
  .nil) (.cons (.ifs (.cmp .Eq (.ix (.var 1) (.bin .Sub (.bin .Sub (.blt .len (.cons (.var 1) .nil)) (.int 1)) (.var 5))) (.int 0)) (.cons (.asg (.nm 3) (.tup (.cons (.str [111, 102]) (.cons (.var 3) (.cons (.ix (.var 6) (.int 2)) .nil)))))
  .nil) (.cons (.asg (.nm 3) (.tup (.cons (.str [111, 102]) (.cons (.ix (.var 6) (.int 1)) (.cons (.var 3) .nil)))))
  .nil))
  .nil))
  .nil)))
  (.cons (.ret (.call k_law_code (.cons (.var 3) (.cons (.lst .nil) .nil))))
  .nil))))))
/-- _law_uses : ["body", "found", "waiting", "entry", "k", "turn"] -/
def B_law_uses : Ss := (.cons (.own 1 (.lst .nil))
  (.cons (.own 2 (.lst (.cons (.lst (.cons (.tup .nil) (.cons (.var 0) (.cons (.int 0) .nil)))) .nil)))
  (.cons (.whl (.cmp .Gt (.blt .len (.cons (.var 2) .nil)) (.int 0)) (.cons (.popA (.nm 3) 2 .no)
  (.cons (.ifs (.isi (.ix (.var 3) (.int 1)) ["tuple"]) (.cons (.fr (.nm 4) (.r2 (.int 1) (.blt .len (.cons (.ix (.var 3) (.int 1)) .nil))) (.cons (.asg (.nm 5) (.bin .Sub (.bin .Sub (.blt .len (.cons (.ix (.var 3) (.int 1)) .nil)) (.int 1)) (.var 4)))
  (.cons (.app 2 (.lst (.cons (.bin .Add (.ix (.var 3) (.int 0)) (.tup (.cons (.var 5) .nil))) (.cons (.ix (.ix (.var 3) (.int 1)) (.bin .Add (.int 1) (.var 5))) (.cons (.bin .Add (.ix (.var 3) (.int 2)) (.blt .int (.cons (.cmp .Eq (.ix (.ix (.var 3) (.int 1)) (.int 0)) (.str [116, 111])) .nil))) .nil)))))
  .nil)))
  .nil) (.cons (.ifs (.bop true (.cons (.nt (.isi (.ix (.var 3) (.int 1)) ["str"])) (.cons (.cmp .Eq (.ix (.var 3) (.int 1)) (.ix (.var 3) (.int 2))) .nil))) (.cons (.app 1 (.ix (.var 3) (.int 0)))
  .nil) .nil)
  .nil))
  .nil)))
  (.cons (.frz 1)
  (.cons (.ret (.var 1))
  .nil)))))
/-- _law_left : ["code", "first", "other", "rest", "part", "turn", "use"] -/
def B_law_left (k_law_uses : Nat) : Ss := (.cons (.ifs (.cmp .NotEq (.sl (.var 2) .no (.yes (.blt .len (.cons (.var 1) .nil)))) (.var 1)) (.cons (.ret (.lst (.cons (.var 2) .nil)))
  .nil) .nil)
  (.cons (.asg (.nm 3) (.sl (.var 2) (.yes (.blt .len (.cons (.var 1) .nil))) .no))
  (.cons (.ifs (.cmp .Eq (.ix (.var 3) (.int 0)) (.int 0)) (.cons (.ret (.lst (.cons (.bin .Add (.var 1) (.sl (.var 3) (.yes (.int 2)) .no)) .nil)))
  .nil) .nil)
  (.cons (.asg (.nm 4) (.var 0))
  (.cons (.fr (.nm 5) (.ls (.var 1)) (.cons (.asg (.nm 4) (.ix (.var 4) (.bin .Add (.int 1) (.var 5))))
  .nil))
  (.cons (.ret (.lc [("use", 6)] (.bin .Add (.bin .Add (.var 1) (.var 6)) (.sl (.var 3) (.yes (.int 1)) .no)) (.nm 6) (.ls (.call k_law_uses (.cons (.ix (.ix (.var 4) (.int 1)) (.int 1)) .nil))) .no))
  .nil))))))
/-- _law_taken : ["code", "paths", "path"] -/
def B_law_taken (k_law_stepped : Nat) (k_law_named : Nat) : Ss := (.cons (.fr (.nm 2) (.ls (.var 1)) (.cons (.asg (.nm 0) (.call k_law_stepped (.cons (.call k_law_named (.cons (.var 0) (.cons (.lst .nil) (.cons (.str [66]) .nil)))) (.cons (.var 2) .nil))))
  .nil))
  (.cons (.ret (.var 0))
  .nil))
/-- _law_told : ["code", "paths", "path"] -/
def B_law_told (k_redexes : Nat) (k_step : Nat) : Ss := (.cons (.fr (.nm 2) (.ls (.var 1)) (.cons (.ifs (.cmp .NotIn (.var 2) (.call k_redexes (.cons (.var 0) .nil))) (.cons (.ret .non)
  .nil) .nil)
  (.cons (.asg (.nm 0) (.call k_step (.cons (.var 0) (.cons (.var 2) .nil))))
  .nil)))
  (.cons (.ret (.var 0))
  .nil))
/-! ### alike: trees of numbers and texts -/
mutual
def tree : D → Bool
  | .int _ => true
  | .str _ => true
  | .tuple ds => trees ds
  | _ => false
def trees : List D → Bool
  | [] => true
  | d :: ds => tree d && trees ds
end
mutual
def tsz : D → Nat
  | .tuple ds => 1 + tszs ds
  | _ => 1
def tszs : List D → Nat
  | [] => 0
  | d :: ds => tsz d + tszs ds
end
theorem trees_at : ∀ {ds : List D} {i : Nat} {d : D}, trees ds = true → ds[i]? = some d → tree d = true
  | d :: ds, 0, e, h, g => by
    unfold trees at h
    rw [Bool.and_eq_true] at h
    cases g; exact h.1
  | d :: ds, i + 1, e, h, g => by
    unfold trees at h
    rw [Bool.and_eq_true] at h
    exact trees_at (i := i) h.2 g
theorem tsz_pos (d : D) : 0 < tsz d := by cases d <;> simp [tsz]; omega
theorem tszs_take (ds : List D) : ∀ i, tszs (ds.take i) ≤ tszs ds := by
  induction ds with
  | nil => intro i; rw [List.take_nil]; exact Nat.le_refl _
  | cons d ds ih =>
    intro i
    cases i with
    | zero => exact Nat.zero_le _
    | succ i => have := ih i; rw [List.take_succ_cons]; unfold tszs; omega
theorem tszs_app (a b : List D) : tszs (a ++ b) = tszs a + tszs b := by
  induction a with
  | nil => rw [List.nil_append]; simp [tszs]
  | cons d a ih => show tsz d + tszs (a ++ b) = tsz d + tszs a + tszs b; rw [ih]; omega
theorem tszs_len (a : List D) : a.length ≤ tszs a := by
  induction a with
  | nil => exact Nat.zero_le _
  | cons d a ih => have := tsz_pos d; unfold tszs; rw [List.length_cons]; omega
def twD (d : D) : D := .tuple [d, d]
def szlt (W : List D) (m : Nat) : Prop := tszs W < m
abbrev sp_alike : FnS := spE (fun d : D => tree d = true ∧ tsz d ≤ 8000000) (fun d => [d, d]) fun _ => .bool true
section
variable {G : Gb} {Q : DP}
def I_al (d : D) (m : Nat) (ρ : PD.Env) : Prop := ∃ (W : List D) (s3 s4 : Option Sl), (m = tszs W ∧ tszs W ≤ 8000000 ∧ ∀ x ∈ W, tree x = true) ∧ ρ = [some (.fz d), some (.fz d), some (.ow (W.map twD)), s3, s4]
def I_al2 (d : D) (W es : List D) (i : Nat) (ρ : PD.Env) : Prop := ∃ s4 : Option Sl, ρ = [some (.fz d), some (.fz d), some (.ow ((W ++ es.take i).map twD)), some (.fz (twD (.tuple es))), s4]
theorem w_alike (ds : List D) (h : sp_alike.pre ds) : wSs G B_law_alike (endOf (sp_alike.post ds)) (env0 5 ds) := by
  refine spF_w (fun a b _ _ e => (List.cons.inj e).1) (fun d ha Q hQ => ?_) ds h
  obtain ⟨ht, hz⟩ := ha
  have hQ : Q.rt (.bool true) := hQ _ rfl
  show wSs G B_law_alike Q [some (.fz d), some (.fz d), none, none, none]
  unfold B_law_alike
  walk_at "x"
  refine whl_of (I_al d) (tsz d) ⟨[d], _, _, ⟨by show _ = tsz d + 0; omega, by show tsz d + 0 ≤ _; omega, fun x hx => by rw [List.mem_singleton.mp hx]; exact ht⟩, rfl⟩ ?_
  rintro m ρ' ⟨W, s3, s4, ⟨hm, hs, hw⟩, rfl⟩
  rcases List.eq_nil_or_concat W with rfl | ⟨W', x, rfl⟩
  · walk_at "x"
    rw [if_neg (by decide)]
    exact hQ
  · rw [List.concat_eq_append] at *
    have hx := hw x (by simp)
    have wl := tszs_len (W' ++ [x])
    rw [tszs_app, List.length_append] at wl
    rw [tszs_app] at hm hs
    have wl : W'.length + 1 ≤ tszs W' + tszs [x] := wl
    have xs : tszs [x] = tsz x := by simp [tszs]
    have xp := tsz_pos x
    have hw' : ∀ y ∈ W', tree y = true := fun y hy => hw y (List.mem_append_left _ hy)
    have ms : szlt W' m := by show tszs W' < m; omega
    rw [List.map_append, List.map_cons, List.map_nil]
    walk_at "x"
    rw [if_pos (by rw [List.length_append]; show (0:Int) < ((_ + 1 : Nat) : Int); omega)]
    cases x with
    | none => cases hx
    | bool b => cases hx
    | list l => cases hx
    | dict l => cases hx
    | int i =>
      unfold twD
      walk_at "x"
      exact ⟨tszs W', ms, W', _, _, ⟨rfl, by omega, hw'⟩, rfl⟩
    | str z =>
      unfold twD
      walk_at "x"
      exact ⟨tszs W', ms, W', _, _, ⟨rfl, by omega, hw'⟩, rfl⟩
    | tuple es =>
      unfold twD
      walk_at "x"
      have te : trees es = true := hx
      have le := tszs_len es
      have ze : tszs [PyData.tuple es] = 1 + tszs es := by simp [tszs, tsz]
      rw [ze] at hm hs
      refine ⟨by omega, by omega, for_of (I_al2 d W' es) ⟨_, by rw [List.take_zero, List.append_nil]; rfl⟩ ?_ ?_⟩
      · rintro k dd ρ'' N hd ⟨s5, rfl⟩ hN
        obtain ⟨hk, rfl⟩ := rng0_at hd
        rw [Int.toNat_natCast] at hk
        obtain ⟨y, hy⟩ : ∃ y, es[k]? = some y := ⟨_, List.getElem?_eq_getElem hk⟩
        show wG (.nm 4) _ [some (.fz d), some (.fz d), _, some (.fz (.tuple [.tuple es, .tuple es])), s5] _
        walk_at "x"
        refine ⟨y, atI_nat hy, y, atI_nat hy, ?_, hN _ ⟨some (.fz (.int k)), by rw [List.take_add_one, hy, ← List.append_assoc, List.map_append (l₁ := W' ++ List.take k es)]; rfl⟩⟩
        rw [List.length_map, List.length_append, List.length_take, sizeLine_eq]; omega
      · rintro ρ'' ⟨s5, rfl⟩
        rw [List.length_map, List.length_range, Int.toNat_natCast, List.take_length]
        walk_at "x"
        refine ⟨tszs (W' ++ es), ?_, W' ++ es, _, _, ⟨rfl, ?_, fun y hy => ?_⟩, rfl⟩
        · rw [tszs_app]; omega
        · rw [tszs_app]; omega
        · rcases List.mem_append.mp hy with e | e
          · exact hw' y e
          · obtain ⟨i, hi⟩ := List.getElem?_of_mem e
            exact trees_at te hi
/-! ### drawn codes -/
structure Dw where
  row : List Int
  at_ : Nat
  size : Nat
  around : Nat
  names : List Str
  base : Nat
structure DwP (m : Nat) (a : Dw) : Prop where
  s1 : 1 ≤ a.size
  sm : a.size < m
  rl : a.at_ + a.size ≤ a.row.length
  nn : ∀ z ∈ a.row, 0 ≤ z
  ba : a.base ≤ a.around
  nm : a.around = 0 → a.names ≠ []
abbrev sp_drawn (m : Nat) : FnS := spF (DwP m) (fun a => [.list (a.row.map .int), .int a.at_, .int a.size, .int a.around, .list (a.names.map .str), .int a.base]) fun a d => ∃ c, d = cdD c ∧ sz c = a.size ∧ clo a.around c ∧ ∀ s ∈ nms c, s ∈ a.names
theorem strs_inj {a b : List Str} (h : a.map PyData.str = b.map PyData.str) : a = b := (List.map_inj_right fun x y h => PyData.str.inj h).mp h
theorem ints_inj {a b : List Int} (h : a.map PyData.int = b.map PyData.int) : a = b := (List.map_inj_right fun x y h => PyData.int.inj h).mp h
theorem nat_inj {a b : Nat} (h : PyData.int (a : Int) = PyData.int (b : Int)) : a = b := Int.ofNat.inj (PyData.int.inj h)
theorem row_at {row : List Int} {i : Nat} (nn : ∀ z ∈ row, 0 ≤ z) (h : i < row.length) : ∃ z : Int, L2.atI (row.map PyData.int) (i : Int) = some (.int z) ∧ 0 ≤ z :=
  ⟨row[i], atI_at PyData.int (List.getElem?_eq_getElem h), nn _ (List.getElem_mem h)⟩
theorem w_drawn {m k : Nat} (hk : G.fn k = sp_drawn m) (ds : List D) (h : (sp_drawn (m + 1)).pre ds) : wSs G (B_law_drawn k) (endOf ((sp_drawn (m + 1)).post ds)) (env0 9 ds) := by
  refine spF_w (fun a a2 _ _ e => ?_) (fun a ha Q hQ => ?_) ds h
  · obtain ⟨r, t, s, n, w, b⟩ := a
    obtain ⟨r', t', s', n', w', b'⟩ := a2
    have e1 := ints_inj (PyData.list.inj (List.cons.inj e).1)
    have e := (List.cons.inj e).2
    have e2 := nat_inj (List.cons.inj e).1
    have e := (List.cons.inj e).2
    have e3 := nat_inj (List.cons.inj e).1
    have e := (List.cons.inj e).2
    have e4 := nat_inj (List.cons.inj e).1
    have e := (List.cons.inj e).2
    have e5 := strs_inj (PyData.list.inj (List.cons.inj e).1)
    have e := (List.cons.inj e).2
    have e6 := nat_inj (List.cons.inj e).1
    simp only [] at e1 e2 e3 e4 e5 e6
    rw [e1, e2, e3, e4, e5, e6]
  · obtain ⟨row, t, s, n, w, b⟩ := a
    obtain ⟨s1, sm, rl, nn, ba, nm⟩ := ha
    simp only [] at s1 sm rl nn ba nm
    have hQ : ∀ c, sz c = s → clo n c → (∀ x ∈ nms c, x ∈ w) → Q.rt (cdD c) := fun c h1 h2 h3 => hQ _ ⟨c, rfl, h1, h2, h3⟩
    show wSs G (B_law_drawn k) Q [some (.fz (.list (row.map .int))), some (.fz (.int t)), some (.fz (.int s)), some (.fz (.int n)), some (.fz (.list (w.map .str))), some (.fz (.int b)), none, none, none]
    obtain ⟨z, hz, z0⟩ := row_at nn (i := t) (by omega)
    unfold B_law_drawn
    walk_at "x"
    refine ⟨_, hz, ?_⟩
    walk_at "x"
    have qi : s = 1 → ∀ i : Int, 0 ≤ i → i < n → Q.rt (.int i) := fun e i h0 h1 => by
      have := hQ (.ix i.toNat) e.symm (show i.toNat < n by omega) fun x hx => by cases hx
      show Q.rt (.int i)
      rw [← Int.toNat_of_nonneg h0]; exact this
    have qn : s = 1 → w ≠ [] → ∃ d, L2.atI (w.map PyData.str) (z / 5 % ((w.map PyData.str).length : Int)) = some d ∧ Q.rt d := fun e hw => by
      rw [List.length_map]
      have hl : 0 < w.length := List.length_pos_iff.mpr hw
      have q0 : 0 ≤ z / 5 % (w.length : Int) := Int.emod_nonneg _ (by omega)
      have q1 : z / 5 % (w.length : Int) < w.length := Int.emod_lt_of_pos _ (by omega)
      have hi : (z / 5 % (w.length : Int)).toNat < w.length := by omega
      refine ⟨.str w[(z / 5 % (w.length : Int)).toNat], atI_atI PyData.str q0 (List.getElem?_eq_getElem hi), hQ (.nm _) e.symm True.intro fun x hx => ?_⟩
      rw [List.mem_singleton.mp hx]
      exact List.getElem_mem hi
    have wn : 0 < w.length → w ≠ [] := List.length_pos_iff.mp
    have cd5 : CDivW z 5 := wide_div (b := 1000) (by decide) (by decide) (by decide) (by decide)
    have cd4 : CDivW z 4 := wide_div (b := 1000) (by decide) (by decide) (by decide) (by decide)
    have dv : 0 < n → 0 ≤ z / 5 % (n : Int) ∧ z / 5 % (n : Int) < n := fun h => ⟨Int.emod_nonneg _ (by omega), Int.emod_lt_of_pos _ (by omega)⟩
    rw [List.length_map] at *
    by_cases e1 : s = 1
    · rw [if_pos (by omega)]
      have leaf : if 0 < (n : Int) then
            if decide ((w.length : Int) = 0) = false then
              if z % 5 < 4 then CDivW z 5 ∧ 0 < (n : Int) ∧ Q.rt (PyData.int (z / 5 % n))
                else CDivW z 5 ∧ 0 < (w.length : Int) ∧ ∃ d, L2.atI (w.map PyData.str) (z / 5 % (w.length : Int)) = some d ∧ Q.rt d
            else CDivW z 5 ∧ 0 < (n : Int) ∧ Q.rt (PyData.int (z / 5 % n))
          else CDivW z 5 ∧ 0 < (w.length : Int) ∧ ∃ d, L2.atI (w.map PyData.str) (z / 5 % (w.length : Int)) = some d ∧ Q.rt d := by
        by_cases hn : 0 < n
        · have dv := dv hn
          rw [if_pos (by omega)]
          by_cases hw : w.length = 0
          · rw [if_neg (by rw [hw]; decide)]
            exact ⟨cd5, by omega, qi e1 _ dv.1 dv.2⟩
          · rw [if_pos (decide_eq_false (by omega))]
            split
            · exact ⟨cd5, by omega, qi e1 _ dv.1 dv.2⟩
            · exact ⟨cd5, by omega, qn e1 (wn (by omega))⟩
        · rw [if_neg (by omega)]
          have hw := nm (by omega)
          have := List.length_pos_iff.mpr hw
          exact ⟨cd5, by omega, qn e1 hw⟩
      split
      · split
        · exact qi e1 _ (by omega) (by omega)
        · exact leaf
      · exact leaf
    · rw [if_neg (by omega)]
      have toC : (G.fn k).pre [PyData.list (List.map PyData.int row), PyData.int (↑t + 1), PyData.int (↑s - 1), PyData.int (↑n + 1), PyData.list (List.map PyData.str w), PyData.int ↑b] ∧
            ∀ (d : D), (G.fn k).post [PyData.list (List.map PyData.int row), PyData.int (↑t + 1), PyData.int (↑s - 1), PyData.int (↑n + 1), PyData.list (List.map PyData.str w), PyData.int ↑b] d → Q.rt (PyData.tuple [PyData.str { cps := #[116, 111] }, d]) := by
        have es : (s : Int) - 1 = ((s - 1 : Nat) : Int) := by omega
        rw [es]
        refine callF hk ⟨row, t + 1, s - 1, n + 1, w, b⟩ ⟨by show 1 ≤ s - 1; omega, by show s - 1 < m; omega, by show t + 1 + (s - 1) ≤ row.length; omega, nn, by show b ≤ n + 1; omega, fun e => absurd e (by show ¬ n + 1 = 0; omega)⟩ fun d hd => ?_
        obtain ⟨c, rfl, h1, h2, h3⟩ := hd
        have h1 : sz c = s - 1 := h1
        exact hQ (.fn c) (by show sz c + 1 = s; omega) h2 h3
      by_cases e2 : s = 2
      · rw [if_neg (by rw [decide_eq_true (by omega)]; decide)]
        exact toC
      · rw [if_pos (decide_eq_false (by omega))]
        split
        · exact toC
        · obtain ⟨l, hl, l1, l2⟩ : ∃ l : Nat, 1 + z / 4 % ((s : Int) - 2) = l ∧ 1 ≤ l ∧ l ≤ s - 2 := by
            have q0 : 0 ≤ z / 4 % ((s : Int) - 2) := Int.emod_nonneg _ (by omega)
            have q1 : z / 4 % ((s : Int) - 2) < (s : Int) - 2 := Int.emod_lt_of_pos _ (by omega)
            exact ⟨(1 + z / 4 % ((s : Int) - 2)).toNat, by omega, by omega, by omega⟩
          have es : (s : Int) - 1 - l = ((s - 1 - l : Nat) : Int) := by omega
          have et : (t : Int) + 1 + l = ((t + 1 + l : Nat) : Int) := by omega
          rw [hl, es, et]
          refine ⟨cd4, by omega, callF hk ⟨row, t + 1 + l, s - 1 - l, n, w, b⟩ ⟨by show 1 ≤ s - 1 - l; omega, by show s - 1 - l < m; omega, by show t + 1 + l + (s - 1 - l) ≤ row.length; omega, nn, ba, nm⟩ fun d hd => ?_⟩
          obtain ⟨ca, rfl, a1, a2, a3⟩ := hd
          have a1 : sz ca = s - 1 - l := a1
          have fin : ∀ c, sz c = l → clo n c → (∀ x ∈ nms c, x ∈ w) → Q.rt (.tuple [sOf, cdD c, cdD ca]) := fun c h1 h2 h3 => hQ (.ap c ca) (by show sz c + sz ca + 1 = s; omega) ⟨h2, a2⟩ fun x hx => (List.mem_append.mp hx).elim (h3 x) (a3 x)
          have ofC : (G.fn k).pre [PyData.list (List.map PyData.int row), PyData.int (↑t + 1), PyData.int l, PyData.int ↑n, PyData.list (List.map PyData.str w), PyData.int ↑b] ∧
              ∀ (d : D), (G.fn k).post [PyData.list (List.map PyData.int row), PyData.int (↑t + 1), PyData.int l, PyData.int ↑n, PyData.list (List.map PyData.str w), PyData.int ↑b] d → Q.rt (PyData.tuple [PyData.str { cps := #[111, 102] }, d, cdD ca]) := by
            refine callF hk ⟨row, t + 1, l, n, w, b⟩ ⟨l1, by show l < m; omega, by show t + 1 + l ≤ row.length; omega, nn, ba, nm⟩ fun d hd => ?_
            obtain ⟨c, rfl, h1, h2, h3⟩ := hd
            exact fin c h1 h2 h3
          by_cases e3 : z % 4 = 1
          · rw [if_neg (by rw [decide_eq_true e3]; decide)]
            exact ofC
          · rw [if_pos (decide_eq_false e3)]
            by_cases e4 : l = 1
            · rw [if_pos (by omega)]
              exact ofC
            · rw [if_neg (by omega)]
              have el : (l : Int) - 1 = ((l - 1 : Nat) : Int) := by omega
              rw [el]
              refine callF hk ⟨row, t + 2, l - 1, n + 1, w, n + 1⟩ ⟨by show 1 ≤ l - 1; omega, by show l - 1 < m; omega, by show t + 2 + (l - 1) ≤ row.length; omega, nn, Nat.le_refl _, fun e => absurd e (by show ¬ n + 1 = 0; omega)⟩ fun d hd => ?_
              obtain ⟨c, rfl, h1, h2, h3⟩ := hd
              have h1 : sz c = l - 1 := h1
              exact fin (.fn c) (by show sz c + 1 = l; omega) h2 h3
end
end KC

namespace KC
open PySem PySem.Spec PyProof.Rows L2 PD 
local macro_rules | `(tactic| walk_at "x") => `(tactic| simp (config := { decide := false }) only [st_ot, st_to, Int.reduceLT, Int.reduceLE, sl0, sl1, sl2, sl3, sl4, sl5, sl6, sl7, sl8, sl9, sl10, sl11, sl12, q_last, List.dropLast_concat, q_at0, q_at1, q_at2, q_at3, decide_true, decide_false, x_var, x_v0, x_v1, x_v11, x_v12, x_v13, x_v1t, x_v22, x_v23, x_v2t, x_w11, x_w12, x_w13, x_w1t, x_w22, x_w23, x_dnew, x_dget, x_dcm, x_chn, x_lrg, x_en, x_zp, x_zp3, x_fDt, x_fDf, x_fBd, x_d5, x_d6, x_trl, x_trt, x_trn, x_aug, x_ownd2, x_dput, x_dputl, x_dappl, x_pop, x_ins, x_ext, x_nwL, x_nwD, n_int, n_bl, n_str, n_lst, n_tup, n_non, g_int, k_int, bLv, x_ct, x_non, x_bl, x_int, x_str, x_bin, x_neg, x_cmp, x_bopt, x_bopv, x_nt, x_ntv, x_ifx, x_ix, x_ixt, x_sl, x_call, x_callk, x_blt, x_isi, x_mth, x_tup, x_lst, x_lc, x_lc2, x_d0, x_d1, x_d2, x_d3, x_d4, x_ts0, x_ts1, x_bs0, x_bs1, x_c0, x_c1,
    x_eo0, x_eo1, x_es0, x_es1, x_ls, x_r1, x_r2, x_rv, x_rr1, x_rr2, o_ls, o_tp, x_ft, x_ftst, x_fLt, x_fLf, x_fBl, x_fBi, x_fBs, x_fBb, x_fBt, x_trb, x_tri, x_nil, x_cons, x_asg, x_own, x_own2, x_frz, x_app, x_app2, x_appI, x_seti, x_set2, x_drop, x_ifs, x_whl, x_fr, x_ret, x_retN, x_pass, x_brk, x_cont, x_gnm, x_gtp, x_g0, x_gs, x_rt, x_nx,
    b_addI, b_addS, b_addL, b_addT, b_sub, b_mul, b_mulL, b_mulT, b_and, b_or, b_xor, b_div, b_mod, b_pow, b_shl, b_shr, e_ii, e_ss, e_bb, e_nn, e_ni, e_in, e_ns, e_sn, e_is, e_si, e_nb, e_bn, c_eq, c_ne, c_lt, c_le, c_gt, c_ge, c_in, c_ni, c_is, c_isn, i_l, i_t, i_s, i_d, in_l, in_t, in_d, e_tt, e_ll, f_lenD, f_lstD, f_lstS, f_srtL, f_srtD, f_maxL, f_minL, f_all, f_any, m_count, m_rfind, m_lix, l_l, l_t, l_s,
    f_lenL, f_lenT, f_lenS, f_intI, f_intB, f_str, f_tupL, f_tupT, f_lstL, f_lstT, f_abs, f_max, f_min, f_sum, m_join, m_find3, m_rfind4, m_sindex, s_lst, s_tup, wFrz, setAll, wipeE, t_str, t_lst, mtTy, o_int, o_bl, o_str, o_lst, o_tup, o_non, isT, String.reduceBEq, String.reduceEq, beq_self_eq_true, Nat.reduceAdd, Nat.reduceLT, Nat.reduceSub,
    List.map_cons, List.map_nil, List.length_cons, List.length_nil, List.set_cons_zero, List.set_cons_succ, List.any_cons, List.any_nil,
    PyData.bool.injEq, PyData.int.injEq, PyData.str.injEq, PyData.list.injEq, PyData.tuple.injEq, Option.some.injEq, Sl.fz.injEq, Sl.ow.injEq, Sl.ow2.injEq, Sl.od.injEq, Sl.odl.injEq, PyData.dict.injEq,
    exists_eq_left, exists_eq_left', exists_and_left, exists_and_right, and_assoc, true_and, and_true, if_true, if_false, ite_true, ite_false, decide_eq_true_eq, Bool.true_eq_false, Bool.false_eq_true, Bool.not_true, Bool.not_false, Bool.or_true, Bool.true_or, Bool.or_false, Bool.false_or, Bool.and_true, Bool.true_and, Bool.and_false, Bool.false_and, Nat.zero_lt_succ, reduceCtorEq])
open PL
/-! ### named programs -/
theorem pgD_inj : ∀ (a b : Pg), pgD a = pgD b → a = b
  | .nm s, .nm t, h => by rw [PyData.str.inj h]
  | .fn x a, .fn y b, h => by
    have h := (List.cons.inj (PyData.tuple.inj h)).2
    rw [PyData.str.inj (List.cons.inj h).1, pgD_inj a b (List.cons.inj (List.cons.inj h).2).1]
  | .ap f a, .ap g b, h => by
    have h := (List.cons.inj (PyData.tuple.inj h)).2
    rw [pgD_inj f g (List.cons.inj h).1, pgD_inj a b (List.cons.inj (List.cons.inj h).2).1]
  | .nm _, .fn _ _, h => by cases h
  | .nm _, .ap _ _, h => by cases h
  | .fn _ _, .nm _, h => by cases h
  | .ap _ _, .nm _, h => by cases h
  | .fn _ _, .ap _ _, h => by
    have := (List.cons.inj (PyData.tuple.inj h)).1
    exact absurd (PyData.str.inj this) (by decide)
  | .ap _ _, .fn _ _, h => by
    have := (List.cons.inj (PyData.tuple.inj h)).1
    exact absurd (PyData.str.inj this) (by decide)
structure Nd where
  c : Cd
  es : List Str
  m : Str
structure NdP (k : Nat) (a : Nd) : Prop where
  d : dp a.c < k
  cl : clo a.es.length a.c
  el : a.es.length + dp a.c ≤ 1000000
  ml : sl a.m + dp a.c ≤ 1000000
abbrev nmsD (es : List Str) : D := .list (es.reverse.map .str)
theorem nmsD_inj {a b : List Str} (h : nmsD a = nmsD b) : a = b := by
  have := strs_inj (PyData.list.inj h)
  rw [← List.reverse_reverse a, this, List.reverse_reverse]
abbrev sp_named (k : Nat) : FnS := spE (NdP k) (fun a => [cdD a.c, nmsD a.es, .str a.m]) fun a => pgD (named a.es a.m a.c)
theorem rev_get {es : List Str} {i : Nat} (h : i < es.length) : (es.reverse.map PyData.str)[es.length - 1 - i]? = some (.str (es.getD i ⟨#[]⟩)) := by
  rw [List.getElem?_map, List.getElem?_reverse (by omega), List.getD_eq_getElem?_getD, show es.length - 1 - (es.length - 1 - i) = i by omega, List.getElem?_eq_getElem h]; rfl
theorem snoc_rev (es : List Str) (x : Str) : es.reverse.map PyData.str ++ [.str x] = ((x :: es).reverse.map PyData.str) := by rw [List.reverse_cons, List.map_append]; rfl
section
variable {G : Gb} {Q : DP}
theorem w_named {m k : Nat} (hk : G.fn k = sp_named m) (ds : List D) (h : (sp_named (m + 1)).pre ds) : wSs G (B_law_named k) (endOf ((sp_named (m + 1)).post ds)) (env0 3 ds) := by
  refine spF_w (fun a a2 _ _ e => ?_) (fun a ha Q hQ => ?_) ds h
  · obtain ⟨c, es, s⟩ := a
    obtain ⟨c', es', s'⟩ := a2
    have e1 : c = c' := cdD_inj _ _ (List.cons.inj e).1
    have e2 : es = es' := nmsD_inj (List.cons.inj (List.cons.inj e).2).1
    have e3 : s = s' := PyData.str.inj (List.cons.inj (List.cons.inj (List.cons.inj e).2).2).1
    subst e1 e2 e3; rfl
  · obtain ⟨c, es, s⟩ := a
    obtain ⟨d, cl, el, ml⟩ := ha
    simp only [] at d cl el ml
    have hQ : Q.rt (pgD (named es s c)) := hQ _ rfl
    have s0 : s.length = sl s := rfl
    show wSs G (B_law_named k) Q [some (.fz (cdD c)), some (.fz (.list (es.reverse.map .str))), some (.fz (.str s))]
    unfold B_law_named
    cases c with
    | ix n =>
      have cl : n < es.length := cl
      show wSs G _ Q [some (.fz (.int n)), some (.fz (.list (es.reverse.map .str))), some (.fz (.str s))]
      walk_at "x"
      rw [List.length_map, List.length_reverse]
      exact ⟨_, atI_nat' (by omega) (by rw [show ((es.length : Int) - 1 - n).toNat = es.length - 1 - n by omega]; exact rev_get cl), hQ⟩
    | nm x =>
      show wSs G _ Q [some (.fz (.str x)), some (.fz (.list (es.reverse.map .str))), some (.fz (.str s))]
      walk_at "x"
      exact hQ
    | fn b =>
      have d : dp b < m := Nat.lt_of_succ_lt_succ d
      have el : es.length + (dp b + 1) ≤ 1000000 := el
      have ml : sl s + (dp b + 1) ≤ 1000000 := ml
      show wSs G _ Q [some (.fz (.tuple [sTo, cdD b])), some (.fz (.list (es.reverse.map .str))), some (.fz (.str s))]
      walk_at "x"
      have z1 : (⟨#[48]⟩ : Str).length = 1 := rfl
      have c1 : s.length + (⟨#[48]⟩ : Str).length ≤ sizeLine := by rw [z1, s0, sizeLine_eq]; omega
      refine ⟨c1, c1, ?_⟩
      rw [snoc_rev]
      refine ⟨by rw [List.length_map, List.length_reverse, sizeLine_eq]; omega, c1, callE hk ⟨b, (s ++ z0) :: es, s ++ z0⟩ ⟨d, cl, by show es.length + 1 + dp b ≤ _; omega, by show sl (s ++ z0) + dp b ≤ _; rw [sl_app]; show sl s + 1 + dp b ≤ _; omega⟩ hQ⟩
    | ap f a =>
      have d : max (dp f) (dp a) + 1 < m + 1 := d
      have el : es.length + (max (dp f) (dp a) + 1) ≤ 1000000 := el
      have ml : sl s + (max (dp f) (dp a) + 1) ≤ 1000000 := ml
      show wSs G _ Q [some (.fz (.tuple [sOf, cdD f, cdD a])), some (.fz (.list (es.reverse.map .str))), some (.fz (.str s))]
      walk_at "x"
      have c1 : s.length + (⟨#[49]⟩ : Str).length ≤ sizeLine := by rw [show (⟨#[49]⟩ : Str).length = 1 from rfl, s0, sizeLine_eq]; omega
      have c2 : s.length + (⟨#[50]⟩ : Str).length ≤ sizeLine := by rw [show (⟨#[50]⟩ : Str).length = 1 from rfl, s0, sizeLine_eq]; omega
      refine ⟨c1, callE hk ⟨f, es, s ++ z1⟩ ⟨by show dp f < m; omega, cl.1, by show es.length + dp f ≤ _; omega, by show sl (s ++ z1) + dp f ≤ _; rw [sl_app]; show sl s + 1 + dp f ≤ _; omega⟩ ⟨c2, callE hk ⟨a, es, s ++ z2⟩ ⟨by show dp a < m; omega, cl.2, by show es.length + dp a ≤ _; omega, by show sl (s ++ z2) + dp a ≤ _; rw [sl_app]; show sl s + 1 + dp a ≤ _; omega⟩ hQ⟩⟩
structure Rp3 where
  g : Pg
  x : Str
  A : Pg
abbrev sp_repld (k : Nat) : FnS := spE (fun a : Rp3 => gdp a.g < k) (fun a => [pgD a.g, .str a.x, pgD a.A]) fun a => pgD (replaced a.x a.A a.g)
theorem w_repld {m k : Nat} (hk : G.fn k = sp_repld m) (ds : List D) (h : (sp_repld (m + 1)).pre ds) : wSs G (B_law_replaced k) (endOf ((sp_repld (m + 1)).post ds)) (env0 3 ds) := by
  refine spF_w (fun a a2 _ _ e => ?_) (fun a ha Q hQ => ?_) ds h
  · obtain ⟨c, x, A⟩ := a
    obtain ⟨c', x', A'⟩ := a2
    have e1 : c = c' := pgD_inj _ _ (List.cons.inj e).1
    have e2 : x = x' := PyData.str.inj (List.cons.inj (List.cons.inj e).2).1
    have e3 : A = A' := pgD_inj _ _ (List.cons.inj (List.cons.inj (List.cons.inj e).2).2).1
    subst e1 e2 e3; rfl
  · obtain ⟨g, x, A⟩ := a
    have d : gdp g < m + 1 := ha
    have hQ : Q.rt (pgD (replaced x A g)) := hQ _ rfl
    show wSs G (B_law_replaced k) Q [some (.fz (pgD g)), some (.fz (.str x)), some (.fz (pgD A))]
    unfold B_law_replaced
    cases g with
    | nm s =>
      show wSs G _ Q [some (.fz (.str s)), some (.fz (.str x)), some (.fz (pgD A))]
      walk_at "x"
      have hQ : Q.rt (pgD (if s = x then A else .nm s)) := hQ
      by_cases e : s = x
      · rw [if_pos e] at hQ
        rw [if_pos e]; exact hQ
      · rw [if_neg e] at hQ
        rw [if_neg e]; exact hQ
    | fn y b =>
      have d : gdp b < m := Nat.lt_of_succ_lt_succ d
      show wSs G _ Q [some (.fz (.tuple [sTo, .str y, pgD b])), some (.fz (.str x)), some (.fz (pgD A))]
      walk_at "x"
      exact callE hk ⟨b, x, A⟩ d hQ
    | ap f a =>
      have d : max (gdp f) (gdp a) + 1 < m + 1 := d
      show wSs G _ Q [some (.fz (.tuple [sOf, pgD f, pgD a])), some (.fz (.str x)), some (.fz (pgD A))]
      walk_at "x"
      exact callE hk ⟨f, x, A⟩ (by show gdp f < m; omega) (callE hk ⟨a, x, A⟩ (by show gdp a < m; omega) hQ)
structure Cd2 where
  g : Pg
  es : List Str
abbrev sp_code (k : Nat) : FnS := spE (fun a : Cd2 => gdp a.g < k ∧ a.es.length + gdp a.g ≤ 1000000) (fun a => [pgD a.g, nmsD a.es]) fun a => cdD (code a.es a.g)
def I_cd (s : Str) (es : List Str) (i : Nat) (ρ : PD.Env) : Prop := ∃ s2 : Option Sl, (∀ j, j < i → es.getD j ⟨#[]⟩ ≠ s) ∧ ρ = [some (.fz (.str s)), some (.fz (nmsD es)), s2]
theorem ixf_first : ∀ {es : List Str} {s : Str} {i : Nat}, i < es.length → (∀ j, j < i → es.getD j ⟨#[]⟩ ≠ s) → es.getD i ⟨#[]⟩ = s → s ∈ es ∧ ixf s es = i
  | x :: l, s, 0, _, _, h => by
    have h : x = s := h
    exact ⟨by rw [h]; exact List.mem_cons_self, if_pos h⟩
  | x :: l, s, i + 1, hi, hn, h => by
    have hx : x ≠ s := hn 0 (Nat.succ_pos i)
    obtain ⟨h1, h2⟩ := ixf_first (es := l) (Nat.lt_of_succ_lt_succ hi) (fun j hj => hn (j + 1) (Nat.succ_lt_succ hj)) h
    refine ⟨List.mem_cons_of_mem _ h1, ?_⟩
    show (if x = s then 0 else ixf s l + 1) = _
    rw [if_neg hx, h2]
  | [], _, _, hi, _, _ => by cases hi
theorem w_code {m k : Nat} (hk : G.fn k = sp_code m) (ds : List D) (h : (sp_code (m + 1)).pre ds) : wSs G (B_law_code k) (endOf ((sp_code (m + 1)).post ds)) (env0 3 ds) := by
  refine spF_w (fun a a2 _ _ e => ?_) (fun a ha Q hQ => ?_) ds h
  · obtain ⟨c, x⟩ := a
    obtain ⟨c', x'⟩ := a2
    have e1 : c = c' := pgD_inj _ _ (List.cons.inj e).1
    have e2 : x = x' := nmsD_inj (List.cons.inj (List.cons.inj e).2).1
    subst e1 e2; rfl
  · obtain ⟨g, es⟩ := a
    obtain ⟨d, el⟩ := ha
    have d : gdp g < m + 1 := d
    have el : es.length + gdp g ≤ 1000000 := el
    have hQ : Q.rt (cdD (code es g)) := hQ _ rfl
    show wSs G (B_law_code k) Q [some (.fz (pgD g)), some (.fz (.list (es.reverse.map .str))), none]
    unfold B_law_code
    cases g with
    | nm s =>
      show wSs G _ Q [some (.fz (.str s)), some (.fz (.list (es.reverse.map .str))), none]
      walk_at "x"
      rw [List.length_map, List.length_reverse]
      refine ⟨by omega, by omega, for_of (I_cd s es) ⟨_, fun j hj => absurd hj (Nat.not_lt_zero _), rfl⟩ ?_ ?_⟩
      · rintro i dd ρ' N hd ⟨s2, hn, rfl⟩ hN
        obtain ⟨hi, rfl⟩ := rng0_at hd
        rw [Int.toNat_natCast] at hi
        show wG (.nm 2) _ [some (.fz (.str s)), some (.fz (.list (es.reverse.map .str))), s2] _
        walk_at "x"
        rw [List.length_map, List.length_reverse]
        refine ⟨_, atI_nat' (by omega) (by rw [show ((es.length : Int) - 1 - i).toNat = es.length - 1 - i by omega]; exact rev_get hi), ?_⟩
        rw [e_ss]
        by_cases e : es.getD i ⟨#[]⟩ = s
        · obtain ⟨h1, h2⟩ := ixf_first hi hn e
          have hQ : Q.rt (cdD (if s ∈ es then .ix (ixf s es) else .nm s)) := hQ
          rw [if_pos h1, h2] at hQ
          exact itT (decide_eq_true e) hQ
        · refine itF (decide_eq_false e) (hN _ ⟨_, fun j hj => ?_, rfl⟩)
          by_cases q : j = i
          · rw [q]; exact e
          · exact hn j (by omega)
      · rintro ρ' ⟨s2, hn, rfl⟩
        rw [List.length_map, List.length_range, Int.toNat_natCast] at hn
        walk_at "x"
        have hQ : Q.rt (cdD (if s ∈ es then .ix (ixf s es) else .nm s)) := hQ
        rw [if_neg fun q => ?_] at hQ
        · exact hQ
        · obtain ⟨j, hj, e⟩ := List.mem_iff_getElem.mp q
          refine hn j hj ?_
          rw [List.getD_eq_getElem?_getD, List.getElem?_eq_getElem hj]; exact e
    | fn y b =>
      have d : gdp b < m := Nat.lt_of_succ_lt_succ d
      have el : es.length + (gdp b + 1) ≤ 1000000 := el
      show wSs G _ Q [some (.fz (.tuple [sTo, .str y, pgD b])), some (.fz (.list (es.reverse.map .str))), none]
      walk_at "x"
      rw [snoc_rev]
      exact ⟨by rw [List.length_map, List.length_reverse, sizeLine_eq]; omega, callE hk ⟨b, y :: es⟩ ⟨d, by show es.length + 1 + gdp b ≤ _; omega⟩ hQ⟩
    | ap f a =>
      have d : max (gdp f) (gdp a) + 1 < m + 1 := d
      have el : es.length + (max (gdp f) (gdp a) + 1) ≤ 1000000 := el
      show wSs G _ Q [some (.fz (.tuple [sOf, pgD f, pgD a])), some (.fz (.list (es.reverse.map .str))), none]
      walk_at "x"
      exact callE hk ⟨f, es⟩ ⟨by show gdp f < m; omega, by show es.length + gdp f ≤ _; omega⟩ (callE hk ⟨a, es⟩ ⟨by show gdp a < m; omega, by show es.length + gdp a ≤ _; omega⟩ hQ)
/-! ### places, redexes -/
theorem bD_inj : ∀ {a b : Bool}, bD a = bD b → a = b
  | true, true, _ => rfl
  | false, false, _ => rfl
  | true, false, h => by cases h
  | false, true, h => by cases h
structure Ld where
  c : Cd
  b : Bool
def leads : Cd → Bool → Bool
  | .fn _, b => !b
  | .ap _ _, _ => true
  | _, _ => false
abbrev sp_leads : FnS := spE (fun _ : Ld => True) (fun a => [cdD a.c, bD a.b]) fun a => .bool (leads a.c a.b)
theorem w_leads (ds : List D) (h : sp_leads.pre ds) : wSs G B_law_leads (endOf (sp_leads.post ds)) (env0 2 ds) := by
  refine spF_w (fun a a2 _ _ e => ?_) (fun a ha Q hQ => ?_) ds h
  · obtain ⟨c, x⟩ := a
    obtain ⟨c', x'⟩ := a2
    have e1 : c = c' := cdD_inj _ _ (List.cons.inj e).1
    have e2 : x = x' := bD_inj (List.cons.inj (List.cons.inj e).2).1
    subst e1 e2; rfl
  · obtain ⟨c, b⟩ := a
    have hQ : Q.rt (.bool (leads c b)) := hQ _ rfl
    show wSs G B_law_leads Q [some (.fz (cdD c)), some (.fz (bD b))]
    unfold B_law_leads
    cases c with
    | ix n =>
      show wSs G _ Q [some (.fz (.int n)), some (.fz (bD b))]
      walk_at "x"
      exact hQ
    | nm s =>
      show wSs G _ Q [some (.fz (.str s)), some (.fz (bD b))]
      walk_at "x"
      exact hQ
    | fn d =>
      show wSs G _ Q [some (.fz (.tuple [sTo, cdD d])), some (.fz (bD b))]
      walk_at "x"
      rw [eq_bD]
      exact hQ
    | ap f a =>
      show wSs G _ Q [some (.fz (.tuple [sOf, cdD f, cdD a])), some (.fz (bD b))]
      walk_at "x"
      exact hQ
theorem w_lredex (ds : List D) (h : sp_isrx.pre ds) : wSs G B_law_redex (endOf (sp_isrx.post ds)) (env0 1 ds) := by
  refine spF_w (fun a b _ _ e => cdD_inj _ _ (List.cons.inj e).1) (fun c _ Q hQ => ?_) ds h
  have hQ : Q.rt (.bool (isRx c)) := hQ _ rfl
  unfold B_law_redex
  cases c with
  | ix n =>
    show wSs G _ Q [some (.fz (.int n))]
    walk_at "x"
    exact hQ
  | nm s =>
    show wSs G _ Q [some (.fz (.str s))]
    walk_at "x"
    exact hQ
  | fn b =>
    show wSs G _ Q [some (.fz (.tuple [sTo, cdD b]))]
    walk_at "x"
    exact hQ
  | ap f a =>
    cases f with
    | ix n =>
      show wSs G _ Q [some (.fz (.tuple [sOf, .int n, cdD a]))]
      walk_at "x"
      exact hQ
    | nm s =>
      show wSs G _ Q [some (.fz (.tuple [sOf, .str s, cdD a]))]
      walk_at "x"
      exact hQ
    | fn b =>
      show wSs G _ Q [some (.fz (.tuple [sOf, .tuple [sTo, cdD b], cdD a]))]
      walk_at "x"
      exact hQ
    | ap g b =>
      show wSs G _ Q [some (.fz (.tuple [sOf, .tuple [sOf, cdD g, cdD b], cdD a]))]
      walk_at "x"
      exact hQ
end
end KC

namespace KC
open PySem PySem.Spec PyProof.Rows L2 PD 
local macro_rules | `(tactic| walk_at "x") => `(tactic| simp (config := { decide := false }) only [for_nil, for_cons, Int.reduceAdd, Int.reduceSub, st_ot, st_to, Int.reduceLT, Int.reduceLE, sl0, sl1, sl2, sl3, sl4, sl5, sl6, sl7, sl8, sl9, sl10, sl11, sl12, q_last, List.dropLast_concat, q_at0, q_at1, q_at2, q_at3, decide_true, decide_false, x_var, x_v0, x_v1, x_v11, x_v12, x_v13, x_v1t, x_v22, x_v23, x_v2t, x_w11, x_w12, x_w13, x_w1t, x_w22, x_w23, x_dnew, x_dget, x_dcm, x_chn, x_lrg, x_en, x_zp, x_zp3, x_fDt, x_fDf, x_fBd, x_d5, x_d6, x_trl, x_trt, x_trn, x_aug, x_ownd2, x_dput, x_dputl, x_dappl, x_pop, x_ins, x_ext, x_nwL, x_nwD, n_int, n_bl, n_str, n_lst, n_tup, n_non, g_int, k_int, bLv, x_ct, x_non, x_bl, x_int, x_str, x_bin, x_neg, x_cmp, x_bopt, x_bopv, x_nt, x_ntv, x_ifx, x_ix, x_ixt, x_sl, x_call, x_callk, x_blt, x_isi, x_mth, x_tup, x_lst, x_lc, x_lc2, x_d0, x_d1, x_d2, x_d3, x_d4, x_ts0, x_ts1, x_bs0, x_bs1, x_c0, x_c1,
    x_eo0, x_eo1, x_es0, x_es1, x_ls, x_r1, x_r2, x_rv, x_rr1, x_rr2, o_ls, o_tp, x_ft, x_ftst, x_fLt, x_fLf, x_fBl, x_fBi, x_fBs, x_fBb, x_fBt, x_trb, x_tri, x_nil, x_cons, x_asg, x_own, x_own2, x_frz, x_app, x_app2, x_appI, x_seti, x_set2, x_drop, x_ifs, x_whl, x_fr, x_ret, x_retN, x_pass, x_brk, x_cont, x_gnm, x_gtp, x_g0, x_gs, x_rt, x_nx,
    b_addI, b_addS, b_addL, b_addT, b_sub, b_mul, b_mulL, b_mulT, b_and, b_or, b_xor, b_div, b_mod, b_pow, b_shl, b_shr, e_ii, e_ss, e_bb, e_nn, e_ni, e_in, e_ns, e_sn, e_is, e_si, e_nb, e_bn, c_eq, c_ne, c_lt, c_le, c_gt, c_ge, c_in, c_ni, c_is, c_isn, i_l, i_t, i_s, i_d, in_l, in_t, in_d, e_tt, e_ll, f_lenD, f_lstD, f_lstS, f_srtL, f_srtD, f_maxL, f_minL, f_all, f_any, m_count, m_rfind, m_lix, l_l, l_t, l_s,
    f_lenL, f_lenT, f_lenS, f_intI, f_intB, f_str, f_tupL, f_tupT, f_lstL, f_lstT, f_abs, f_max, f_min, f_sum, m_join, m_find3, m_rfind4, m_sindex, s_lst, s_tup, wFrz, setAll, wipeE, t_str, t_lst, mtTy, o_int, o_bl, o_str, o_lst, o_tup, o_non, isT, String.reduceBEq, String.reduceEq, beq_self_eq_true, Nat.reduceAdd, Nat.reduceLT, Nat.reduceSub,
    List.map_cons, List.map_nil, List.length_cons, List.length_nil, List.set_cons_zero, List.set_cons_succ, List.any_cons, List.any_nil,
    PyData.bool.injEq, PyData.int.injEq, PyData.str.injEq, PyData.list.injEq, PyData.tuple.injEq, Option.some.injEq, Sl.fz.injEq, Sl.ow.injEq, Sl.ow2.injEq, Sl.od.injEq, Sl.odl.injEq, PyData.dict.injEq,
    exists_eq_left, exists_eq_left', exists_and_left, exists_and_right, and_assoc, true_and, and_true, if_true, if_false, ite_true, ite_false, decide_eq_true_eq, Bool.true_eq_false, Bool.false_eq_true, Bool.not_true, Bool.not_false, Bool.or_true, Bool.true_or, Bool.or_false, Bool.false_or, Bool.and_true, Bool.true_and, Bool.and_false, Bool.false_and, Nat.zero_lt_succ, reduceCtorEq])
open PL
/-! ### all places -/
def ltD (x : Pa × Cd) : D := .list [paD x.1, cdD x.2]
abbrev sp_listed : FnS := spE (fun c : Cd => sz c ≤ 4000000) (fun c => [cdD c]) fun c => .list ((all c).map ltD)
def akids : Cd → List (Pa × Cd)
  | .fn b => (all b).map fun y => (false :: y.1, y.2)
  | .ap f a => (all f).map (fun y => (false :: y.1, y.2)) ++ (all a).map fun y => (true :: y.1, y.2)
  | _ => []
theorem all_kids (d : Cd) : all d = ([], d) :: akids d := by cases d <;> rfl
section
variable {G : Gb} {Q : DP}
def I_ls (c : Cd) (m : Nat) (ρ : PD.Env) : Prop := ∃ (F W : List (Pa × Cd)) (s3 s4 : Option Sl), (all c = F ++ pend all W) ∧ Wt c m F.length W ∧ ρ = [some (.fz (cdD c)), some (.ow (F.map ltD)), some (.ow (W.map ltD)), s3, s4]
theorem w_listed {k18 : Nat} (h18 : G.fn k18 = sp_leads) (ds : List D) (h : sp_listed.pre ds) : wSs G (B_law_listed k18) (endOf (sp_listed.post ds)) (env0 5 ds) := by
  refine spF_w (fun a b _ _ e => cdD_inj _ _ (List.cons.inj e).1) (fun c hz Q hQ => ?_) ds h
  have hz : sz c ≤ 4000000 := hz
  have hQ : Q.rt (.list ((all c).map ltD)) := hQ _ rfl
  have hdc := dp_sz c
  show wSs G (B_law_listed k18) Q [some (.fz (cdD c)), none, none, none, none]
  unfold B_law_listed
  walk_at "x"
  refine whl_of (I_ls c) (sz c) ⟨[], [([], c)], _, _, ?_, Wt.one c, rfl⟩ ?_
  · unfold pend
    rw [List.nil_append, List.reverse_singleton, List.flatMap_cons, List.flatMap_nil, List.append_nil]
    exact (List.map_id' _).symm
  · rintro m ρ' ⟨F, W, s3, s4, hF, hW, rfl⟩
    rcases List.eq_nil_or_concat W with rfl | ⟨W', x, rfl⟩
    · walk_at "x"
      rw [if_neg (by decide)]
      have e : F = all c := by rw [hF]; exact (List.append_nil _).symm
      rw [e]; exact hQ
    · obtain ⟨p, d⟩ := x
      rw [List.concat_eq_append] at *
      have hp := hW.pos
      have hpl : p.length + dp d ≤ dp c := hW.pl (p, d) (by simp)
      have hlen := hW.len
      rw [List.length_append] at hlen
      have hlen : W'.length + 1 ≤ sz c := hlen
      have hfl := hW.sm
      rw [pend_snoc] at hF
      have fl : F.length < sizeLine := by rw [sizeLine_eq]; omega
      have pl1 : (p.map bD).length + 1 ≤ sizeLine := by rw [List.length_map, sizeLine_eq]; omega
      have wl : (W'.map ltD).length + 1 < sizeLine := by rw [List.length_map, sizeLine_eq]; omega
      have e0 : PyData.tuple (p.map bD ++ [PyData.int 0]) = paD (p ++ [false]) := by unfold paD; rw [List.map_append]; rfl
      have e1 : PyData.tuple (p.map bD ++ [PyData.int 1]) = paD (p ++ [true]) := by unfold paD; rw [List.map_append]; rfl
      have hF2 : all c = (F ++ [(p, d)]) ++ ((akids d).map (fun y => (p ++ y.1, y.2)) ++ pend all W') := by
        rw [hF, all_kids d, List.append_assoc]
        show _ ++ ((p ++ [], d) :: _) = _
        rw [List.append_nil]; rfl
      have eF : F.map ltD ++ [.list [.tuple (p.map bD), cdD d]] = (F ++ [(p, d)]).map ltD := by rw [List.map_append]; rfl
      rw [List.map_append, List.map_cons, List.map_nil]
      have el : ltD (p, d) = .list [.tuple (p.map bD), cdD d] := rfl
      rw [el]
      walk_at "x"
      rw [if_pos (by rw [List.length_append]; show (0:Int) < ((_ + 1 : Nat) : Int); omega), e0, e1, eF]
      refine ⟨by rw [List.length_map]; exact fl, callE h18 ⟨d, true⟩ True.intro (tr_b ?_)⟩
      cases d with
      | ix n =>
        refine itF rfl (callE h18 ⟨.ix n, false⟩ True.intro (tr_b (itF rfl ⟨szs W', ?_, F ++ [(p, .ix n)], W', _, _, hF2, ?_, rfl⟩)))
        · have hp : szs W' + 1 = m := hp; omega
        · rw [List.length_append]; exact hW.leaf
      | nm n =>
        refine itF rfl (callE h18 ⟨.nm n, false⟩ True.intro (tr_b (itF rfl ⟨szs W', ?_, F ++ [(p, .nm n)], W', _, _, hF2, ?_, rfl⟩)))
        · have hp : szs W' + 1 = m := hp; omega
        · rw [List.length_append]; exact hW.leaf
      | fn b =>
        refine itF rfl (callE h18 ⟨.fn b, false⟩ True.intro (tr_b (itT rfl ⟨pl1, ?_⟩)))
        refine ⟨cdD b, rfl, by omega, szs (W' ++ [(p ++ [false], b)]), ?_, F ++ [(p, .fn b)], W' ++ [(p ++ [false], b)], _, _, ?_, ?_, by rw [List.map_append (l₁ := W')]; rfl⟩
        · rw [szs_snoc]; show szs W' + sz b < m; have hp : szs W' + (sz b + 1) = m := hp; omega
        · rw [pend_snoc, hF2]
          show _ ++ (((all b).map fun y => (false :: y.1, y.2)).map _ ++ _) = _
          rw [shift_pa]
        · rw [List.length_append]; exact hW.fn
      | ap f a =>
        refine itT rfl ⟨pl1, cdD a, rfl, by omega, callE h18 ⟨.ap f a, false⟩ True.intro (tr_b (itT rfl ⟨pl1, cdD f, rfl, ?_, szs (W' ++ [(p ++ [true], a)] ++ [(p ++ [false], f)]), ?_, F ++ [(p, .ap f a)], W' ++ [(p ++ [true], a)] ++ [(p ++ [false], f)], _, _, ?_, ?_, by rw [List.map_append (l₁ := W' ++ _), List.map_append (l₁ := W')]; rfl⟩))⟩
        · rw [List.length_append]; exact wl
        · rw [szs_snoc, szs_snoc]; show szs W' + sz a + sz f < m; have hp : szs W' + (sz f + sz a + 1) = m := hp; omega
        · rw [pend_snoc, pend_snoc, hF2]
          show _ ++ (((all f).map (fun y => (false :: y.1, y.2)) ++ (all a).map fun y => (true :: y.1, y.2)).map _ ++ _) = _
          rw [List.map_append, shift_pa, shift_pa, List.append_assoc (List.map _ (all f))]
        · rw [List.length_append]; exact hW.ap
end
end KC

namespace KC
open PySem PySem.Spec PyProof.Rows L2 PD 
local macro_rules | `(tactic| walk_at "x") => `(tactic| simp (config := { decide := false }) only [nc0, nc1, nc2, nc3, nc4, nc5, nc6, nc7, nc8, nc9, nc10, nc11, nc12, Int.add_zero, for_nil, for_cons, Int.reduceAdd, Int.reduceSub, st_ot, st_to, Int.reduceLT, Int.reduceLE, sl0, sl1, sl2, sl3, sl4, sl5, sl6, sl7, sl8, sl9, sl10, sl11, sl12, q_last, List.dropLast_concat, q_at0, q_at1, q_at2, q_at3, decide_true, decide_false, x_var, x_v0, x_v1, x_v11, x_v12, x_v13, x_v1t, x_v22, x_v23, x_v2t, x_w11, x_w12, x_w13, x_w1t, x_w22, x_w23, x_dnew, x_dget, x_dcm, x_chn, x_lrg, x_en, x_zp, x_zp3, x_fDt, x_fDf, x_fBd, x_d5, x_d6, x_trl, x_trt, x_trn, x_aug, x_ownd2, x_dput, x_dputl, x_dappl, x_pop, x_ins, x_ext, x_nwL, x_nwD, n_int, n_bl, n_str, n_lst, n_tup, n_non, g_int, k_int, bLv, x_ct, x_non, x_bl, x_int, x_str, x_bin, x_neg, x_cmp, x_bopt, x_bopv, x_nt, x_ntv, x_ifx, x_ix, x_ixt, x_sl, x_call, x_callk, x_blt, x_isi, x_mth, x_tup, x_lst, x_lc, x_lc2, x_d0, x_d1, x_d2, x_d3, x_d4, x_ts0, x_ts1, x_bs0, x_bs1, x_c0, x_c1,
    x_eo0, x_eo1, x_es0, x_es1, x_ls, x_r1, x_r2, x_rv, x_rr1, x_rr2, o_ls, o_tp, x_ft, x_ftst, x_fLt, x_fLf, x_fBl, x_fBi, x_fBs, x_fBb, x_fBt, x_trb, x_tri, x_nil, x_cons, x_asg, x_own, x_own2, x_frz, x_app, x_app2, x_appI, x_seti, x_set2, x_drop, x_ifs, x_whl, x_fr, x_ret, x_retN, x_pass, x_brk, x_cont, x_gnm, x_gtp, x_g0, x_gs, x_rt, x_nx,
    b_addI, b_addS, b_addL, b_addT, b_sub, b_mul, b_mulL, b_mulT, b_and, b_or, b_xor, b_div, b_mod, b_pow, b_shl, b_shr, e_ii, e_ss, e_bb, e_nn, e_ni, e_in, e_ns, e_sn, e_is, e_si, e_nb, e_bn, c_eq, c_ne, c_lt, c_le, c_gt, c_ge, c_in, c_ni, c_is, c_isn, i_l, i_t, i_s, i_d, in_l, in_t, in_d, e_tt, e_ll, f_lenD, f_lstD, f_lstS, f_srtL, f_srtD, f_maxL, f_minL, f_all, f_any, m_count, m_rfind, m_lix, l_l, l_t, l_s,
    f_lenL, f_lenT, f_lenS, f_intI, f_intB, f_str, f_tupL, f_tupT, f_lstL, f_lstT, f_abs, f_max, f_min, f_sum, m_join, m_find3, m_rfind4, m_sindex, s_lst, s_tup, wFrz, setAll, wipeE, t_str, t_lst, mtTy, o_int, o_bl, o_str, o_lst, o_tup, o_non, isT, String.reduceBEq, String.reduceEq, beq_self_eq_true, Nat.reduceAdd, Nat.reduceLT, Nat.reduceSub,
    List.map_cons, List.map_nil, List.length_cons, List.length_nil, List.set_cons_zero, List.set_cons_succ, List.any_cons, List.any_nil,
    PyData.bool.injEq, PyData.int.injEq, PyData.str.injEq, PyData.list.injEq, PyData.tuple.injEq, Option.some.injEq, Sl.fz.injEq, Sl.ow.injEq, Sl.ow2.injEq, Sl.od.injEq, Sl.odl.injEq, PyData.dict.injEq,
    exists_eq_left, exists_eq_left', exists_and_left, exists_and_right, and_assoc, true_and, and_true, if_true, if_false, ite_true, ite_false, decide_eq_true_eq, Bool.true_eq_false, Bool.false_eq_true, Bool.not_true, Bool.not_false, Bool.or_true, Bool.true_or, Bool.or_false, Bool.false_or, Bool.and_true, Bool.true_and, Bool.and_false, Bool.false_and, Nat.zero_lt_succ, reduceCtorEq])
open PL
/-! ### the places of a function's name -/
abbrev T3 := Pa × Cd × Nat
def leD (x : T3) : D := .list [paD x.1, cdD x.2.1, .int x.2.2]
def pr (x : T3) : Pa × Cd := (x.1, x.2.1)
def pendU (W : List T3) : List Pa := W.reverse.flatMap fun x => (uses x.2.2 x.2.1).map (x.1 ++ ·)
theorem pendU_snoc (W : List T3) (x : T3) : pendU (W ++ [x]) = (uses x.2.2 x.2.1).map (x.1 ++ ·) ++ pendU W := by unfold pendU; rw [List.reverse_append]; rfl
abbrev sp_uses : FnS := spE (fun c : Cd => sz c ≤ 4000000) (fun c => [cdD c]) fun c => .list ((uses 0 c).map paD)
theorem shift_p (p : Pa) (b : Bool) (l : List Pa) : (l.map (b :: ·)).map (p ++ ·) = l.map (p ++ [b] ++ ·) := by
  rw [List.map_map]
  refine List.map_congr_left fun y _ => ?_
  show p ++ b :: y = _
  rw [List.append_assoc]; rfl
section
variable {G : Gb} {Q : DP}
def I_us (c : Cd) (m : Nat) (ρ : PD.Env) : Prop := ∃ (F : List Pa) (W : List T3) (s3 s4 s5 : Option Sl), (uses 0 c = F ++ pendU W) ∧ Wt c m F.length (W.map pr) ∧ ρ = [some (.fz (cdD c)), some (.ow (F.map paD)), some (.ow (W.map leD)), s3, s4, s5]
theorem w_uses (ds : List D) (h : sp_uses.pre ds) : wSs G B_law_uses (endOf (sp_uses.post ds)) (env0 6 ds) := by
  refine spF_w (fun a b _ _ e => cdD_inj _ _ (List.cons.inj e).1) (fun c hz Q hQ => ?_) ds h
  have hz : sz c ≤ 4000000 := hz
  have hQ : Q.rt (.list ((uses 0 c).map paD)) := hQ _ rfl
  have hdc := dp_sz c
  show wSs G B_law_uses Q [some (.fz (cdD c)), none, none, none, none, none]
  unfold B_law_uses
  walk_at "x"
  refine whl_of (I_us c) (sz c) ⟨[], [([], c, 0)], _, _, _, ?_, Wt.one c, rfl⟩ ?_
  · unfold pendU
    rw [List.nil_append, List.reverse_singleton, List.flatMap_cons, List.flatMap_nil, List.append_nil]
    exact (List.map_id' _).symm
  · rintro m ρ' ⟨F, W, s3, s4, s5, hF, hW, rfl⟩
    rcases List.eq_nil_or_concat W with rfl | ⟨W', x, rfl⟩
    · walk_at "x"
      have e : F = uses 0 c := by rw [hF]; exact (List.append_nil _).symm
      rw [e]; exact hQ
    · obtain ⟨p, d, n⟩ := x
      rw [List.concat_eq_append] at *
      rw [List.map_append] at hW
      have hW : Wt c m F.length (W'.map pr ++ [(p, d)]) := hW
      have hp := hW.pos
      have hpl : p.length + dp d ≤ dp c := hW.pl (p, d) (by simp)
      have hlen := hW.len
      rw [List.length_append, List.length_map] at hlen
      have hlen : W'.length + 1 ≤ sz c := hlen
      have hfl := hW.sm
      rw [pendU_snoc] at hF
      have hF : uses 0 c = F ++ ((uses n d).map (p ++ ·) ++ pendU W') := hF
      have fl : F.length < sizeLine := by rw [sizeLine_eq]; omega
      have pl1 : (p.map bD).length + 1 ≤ sizeLine := by rw [List.length_map, sizeLine_eq]; omega
      have wl : (W'.map leD).length + 1 < sizeLine := by rw [List.length_map, sizeLine_eq]; omega
      have e0 : PyData.tuple (p.map bD ++ [PyData.int 0]) = paD (p ++ [false]) := by unfold paD; rw [List.map_append]; rfl
      have e1 : PyData.tuple (p.map bD ++ [PyData.int 1]) = paD (p ++ [true]) := by unfold paD; rw [List.map_append]; rfl
      rw [List.map_append, List.map_cons, List.map_nil]
      have pos : ∀ x : D, (0 : Int) < ((W'.map leD ++ [x]).length : Int) := fun x => by rw [List.length_append]; show (0:Int) < ((_ + 1 : Nat) : Int); omega
      cases d with
      | ix i =>
        have hp : szs (W'.map pr) + 1 = m := hp
        have el : leD (p, .ix i, n) = .list [.tuple (p.map bD), .int i, .int n] := rfl
        rw [el]
        walk_at "x"
        rw [if_pos (pos _), List.length_map]
        have hF : uses 0 c = F ++ ((if i = n then [[]] else []).map (p ++ ·) ++ pendU W') := hF
        by_cases e : i = n
        · rw [if_pos e] at hF
          rw [if_pos (by omega)]
          refine ⟨fl, szs (W'.map pr), by omega, F ++ [p], W', _, _, _, ?_, ?_, by rw [List.map_append]; rfl⟩
          · rw [hF, List.append_assoc]
            show _ ++ ((p ++ []) :: _) = _
            rw [List.append_nil]; rfl
          · rw [List.length_append]; exact hW.leaf
        · rw [if_neg e] at hF
          rw [if_neg (by omega)]
          exact ⟨szs (W'.map pr), by omega, F, W', _, _, _, hF, hW.leaf.less (Nat.le_succ _), rfl⟩
      | nm s =>
        have hp : szs (W'.map pr) + 1 = m := hp
        have el : leD (p, .nm s, n) = .list [.tuple (p.map bD), .str s, .int n] := rfl
        rw [el]
        walk_at "x"
        rw [if_pos (pos _)]
        exact ⟨szs (W'.map pr), by omega, F, W', _, _, _, hF, hW.leaf.less (Nat.le_succ _), rfl⟩
      | fn b =>
        have hp : szs (W'.map pr) + (sz b + 1) = m := hp
        have el : leD (p, .fn b, n) = .list [.tuple (p.map bD), .tuple [sTo, cdD b], .int n] := rfl
        rw [el]
        walk_at "x"
        rw [if_pos (pos _)]
        refine ⟨by decide, by decide, by decide, by decide, ?_⟩
        show wForE G _ _ _ [.int 1] _
        walk_at "x"
        rw [e0]
        refine ⟨pl1, by omega, szs (W'.map pr ++ [(p ++ [false], b)]), ?_, F, W' ++ [(p ++ [false], b, n + 1)], _, _, _, ?_, ?_, by rw [List.map_append (l₁ := W')]; rfl⟩
        · rw [szs_snoc]; show szs (W'.map pr) + sz b < m; omega
        · rw [pendU_snoc, hF]
          show _ ++ (((uses (n + 1) b).map (false :: ·)).map _ ++ _) = _
          rw [shift_p]
        · rw [List.map_append]; exact hW.fn.less (Nat.le_succ _)
      | ap f a =>
        have hp : szs (W'.map pr) + (sz f + sz a + 1) = m := hp
        have el : leD (p, .ap f a, n) = .list [.tuple (p.map bD), .tuple [sOf, cdD f, cdD a], .int n] := rfl
        rw [el]
        walk_at "x"
        rw [if_pos (pos _)]
        refine ⟨by decide, by decide, by decide, by decide, ?_⟩
        show wForE G _ _ _ [.int 1, .int 2] _
        walk_at "x"
        rw [e0, e1]
        refine ⟨pl1, by omega, pl1, ?_, szs (W'.map pr ++ [(p ++ [true], a)] ++ [(p ++ [false], f)]), ?_, F, W' ++ [(p ++ [true], a, n)] ++ [(p ++ [false], f, n)], _, _, _, ?_, ?_, by rw [List.map_append (l₁ := W' ++ _), List.map_append (l₁ := W')]; rfl⟩
        · rw [List.length_append]; exact wl
        · rw [szs_snoc, szs_snoc]; show szs (W'.map pr) + sz a + sz f < m; omega
        · rw [pendU_snoc, pendU_snoc, hF]
          show _ ++ (((uses n f).map (false :: ·) ++ (uses n a).map (true :: ·)).map _ ++ _) = _
          rw [List.map_append, shift_p, shift_p, List.append_assoc]
        · rw [List.map_append, List.map_append]; exact hW.ap.less (Nat.le_succ _)
end
end KC

namespace KC
open PySem PySem.Spec PyProof.Rows L2 PD 
local macro_rules | `(tactic| walk_at "x") => `(tactic| simp (config := { decide := false }) only [nc0, nc1, nc2, nc3, nc4, nc5, nc6, nc7, nc8, nc9, nc10, nc11, nc12, Int.add_zero, for_nil, for_cons, Int.reduceAdd, Int.reduceSub, st_ot, st_to, Int.reduceLT, Int.reduceLE, sl0, sl1, sl2, sl3, sl4, sl5, sl6, sl7, sl8, sl9, sl10, sl11, sl12, q_last, List.dropLast_concat, q_at0, q_at1, q_at2, q_at3, decide_true, decide_false, x_var, x_v0, x_v1, x_v11, x_v12, x_v13, x_v1t, x_v22, x_v23, x_v2t, x_w11, x_w12, x_w13, x_w1t, x_w22, x_w23, x_dnew, x_dget, x_dcm, x_chn, x_lrg, x_en, x_zp, x_zp3, x_fDt, x_fDf, x_fBd, x_d5, x_d6, x_trl, x_trt, x_trn, x_aug, x_ownd2, x_dput, x_dputl, x_dappl, x_pop, x_ins, x_ext, x_nwL, x_nwD, n_int, n_bl, n_str, n_lst, n_tup, n_non, g_int, k_int, bLv, x_ct, x_non, x_bl, x_int, x_str, x_bin, x_neg, x_cmp, x_bopt, x_bopv, x_nt, x_ntv, x_ifx, x_ix, x_ixt, x_sl, x_call, x_callk, x_blt, x_isi, x_mth, x_tup, x_lst, x_lc, x_lc2, x_d0, x_d1, x_d2, x_d3, x_d4, x_ts0, x_ts1, x_bs0, x_bs1, x_c0, x_c1,
    x_eo0, x_eo1, x_es0, x_es1, x_ls, x_r1, x_r2, x_rv, x_rr1, x_rr2, o_ls, o_tp, x_ft, x_ftst, x_fLt, x_fLf, x_fBl, x_fBi, x_fBs, x_fBb, x_fBt, x_trb, x_tri, x_nil, x_cons, x_asg, x_own, x_own2, x_frz, x_app, x_app2, x_appI, x_seti, x_set2, x_drop, x_ifs, x_whl, x_fr, x_ret, x_retN, x_pass, x_brk, x_cont, x_gnm, x_gtp, x_g0, x_gs, x_rt, x_nx,
    b_addI, b_addS, b_addL, b_addT, b_sub, b_mul, b_mulL, b_mulT, b_and, b_or, b_xor, b_div, b_mod, b_pow, b_shl, b_shr, e_ii, e_ss, e_bb, e_nn, e_ni, e_in, e_ns, e_sn, e_is, e_si, e_nb, e_bn, c_eq, c_ne, c_lt, c_le, c_gt, c_ge, c_in, c_ni, c_is, c_isn, i_l, i_t, i_s, i_d, in_l, in_t, in_d, e_tt, e_ll, f_lenD, f_lstD, f_lstS, f_srtL, f_srtD, f_maxL, f_minL, f_all, f_any, m_count, m_rfind, m_lix, l_l, l_t, l_s,
    f_lenL, f_lenT, f_lenS, f_intI, f_intB, f_str, f_tupL, f_tupT, f_lstL, f_lstT, f_abs, f_max, f_min, f_sum, m_join, m_find3, m_rfind4, m_sindex, s_lst, s_tup, wFrz, setAll, wipeE, t_str, t_lst, mtTy, o_int, o_bl, o_str, o_lst, o_tup, o_non, isT, String.reduceBEq, String.reduceEq, beq_self_eq_true, Nat.reduceAdd, Nat.reduceLT, Nat.reduceSub,
    List.map_cons, List.map_nil, List.length_cons, List.length_nil, List.set_cons_zero, List.set_cons_succ, List.any_cons, List.any_nil,
    PyData.bool.injEq, PyData.int.injEq, PyData.str.injEq, PyData.list.injEq, PyData.tuple.injEq, Option.some.injEq, Sl.fz.injEq, Sl.ow.injEq, Sl.ow2.injEq, Sl.od.injEq, Sl.odl.injEq, PyData.dict.injEq,
    exists_eq_left, exists_eq_left', exists_and_left, exists_and_right, and_assoc, true_and, and_true, if_true, if_false, ite_true, ite_false, decide_eq_true_eq, Bool.true_eq_false, Bool.false_eq_true, Bool.not_true, Bool.not_false, Bool.or_true, Bool.true_or, Bool.or_false, Bool.false_or, Bool.and_true, Bool.true_and, Bool.and_false, Bool.false_and, Nat.zero_lt_succ, reduceCtorEq])
open PL
/-! ### what is left of a step behind another one -/
structure Lf where
  c : Cd
  p : Pa
  q : Pa
def LfP (a : Lf) : Prop := (∃ x, St a.p a.c x) ∧ (∃ y, St a.q a.c y) ∧ a.p ≠ a.q ∧ sz a.c ≤ 4000000
abbrev sp_left : FnS := spE LfP (fun a => [cdD a.c, paD a.p, paD a.q]) fun a => .list ((leftL a.c a.p a.q).map paD)
theorem eqvs_pa : ∀ (p q : Pa), PyData.eqvAll (p.map bD) (q.map bD) = decide (p = q)
  | [], [] => by simp [PyData.eqvAll]
  | [], _ :: _ => by simp [PyData.eqvAll]
  | _ :: _, [] => by simp [PyData.eqvAll]
  | a :: p, b :: q => by
    have h : PyData.eqvAll ((a :: p).map bD) ((b :: q).map bD) = (PyData.eqv (bD a) (bD b) && PyData.eqvAll (p.map bD) (q.map bD)) := by rw [List.map_cons, List.map_cons, PyData.eqvAll]
    have g : PyData.eqv (bD a) (bD b) = decide (a = b) := by cases a <;> cases b <;> decide
    rw [h, g, eqvs_pa p q]
    by_cases e1 : a = b <;> by_cases e2 : p = q <;> simp [e1, e2]
theorem eqv_pa (p q : Pa) : PyData.eqv (paD p) (paD q) = decide (p = q) := by
  unfold paD
  rw [PyData.eqv, eqvs_pa]
theorem shp_pa (p : Pa) : shp (paD p) = true := by
  have h1 : ∀ p : Pa, PyData.plainAll (p.map bD) = true := by
    intro p
    induction p with
    | nil => simp [PyData.plainAll]
    | cons b p ih =>
      rw [List.map_cons]
      unfold PyData.plainAll
      rw [ih]; cases b <;> rfl
  have h2 : ∀ p : Pa, PyData.depthAll (p.map bD) ≤ 1 := by
    intro p
    induction p with
    | nil => simp [PyData.depthAll]
    | cons b p ih =>
      rw [List.map_cons]
      unfold PyData.depthAll
      have : (bD b).depth ≤ 1 := by cases b <;> simp [bD, PyData.depth]
      omega
  unfold shp
  have e1 : (paD p).plain = true := by unfold paD PyData.plain; exact h1 p
  have e2 : (paD p).depth ≤ 60 := by unfold paD PyData.depth; have := h2 p; omega
  rw [e1, decide_eq_true e2]; rfl
theorem eq_pa {p q : Pa} {N : Bool → Prop} : wEq (paD p) (paD q) N = N (decide (p = q)) := by
  have h : wEq (paD p) (paD q) N = (shp (paD p) = true ∧ shp (paD q) = true ∧ N (PyData.eqv (paD p) (paD q))) := rfl
  rw [h, shp_pa, shp_pa, eqv_pa]
  simp
theorem tup_pa (p : Pa) : PyData.tuple (p.map bD) = paD p := rfl
theorem app_pa (p q : Pa) : PyData.tuple (p.map bD ++ q.map bD) = paD (p ++ q) := by rw [← List.map_append]; rfl
theorem part_len : ∀ {p : Pa} {c x : Cd}, part c p = some x → p.length + dp x ≤ dp c
  | [], c, x, h => by rw [part_nil] at h; cases h; show 0 + _ ≤ _; omega
  | b :: p, c, x, h => by
    obtain ⟨y, h1, h2⟩ := part_uncons h
    have := part_len h2
    rw [List.length_cons]
    rcases part_one h1 with ⟨rfl, _⟩ | ⟨a, rfl, _⟩ | ⟨f, rfl, _⟩
    · show _ ≤ dp y + 1; omega
    · show _ ≤ max (dp y) (dp a) + 1; omega
    · show _ ≤ max (dp f) (dp y) + 1; omega
theorem part_sz : ∀ {p : Pa} {c x : Cd}, part c p = some x → sz x ≤ sz c
  | [], c, x, h => by rw [part_nil] at h; cases h; exact Nat.le_refl _
  | b :: p, c, x, h => by
    obtain ⟨y, h1, h2⟩ := part_uncons h
    have := part_sz h2
    rcases part_one h1 with ⟨rfl, _⟩ | ⟨a, rfl, _⟩ | ⟨f, rfl, _⟩
    · show _ ≤ sz y + 1; omega
    · show _ ≤ sz y + sz a + 1; omega
    · show _ ≤ sz f + sz y + 1; omega
theorem uses_len : ∀ {b : Cd} {d : Nat} {u : Pa}, u ∈ uses d b → u.length ≤ dp b
  | .ix n, d, u, h => by
    have h : u ∈ (if n = d then [[]] else []) := h
    split at h
    · rw [List.mem_singleton.mp h]; exact Nat.zero_le _
    · cases h
  | .nm _, _, _, h => by cases h
  | .fn b, d, u, h => by
    obtain ⟨v, hv, rfl⟩ := List.mem_map.mp h
    exact Nat.succ_le_succ (uses_len hv)
  | .ap f a, d, u, h => by
    rcases List.mem_append.mp h with h | h
    · obtain ⟨v, hv, rfl⟩ := List.mem_map.mp h
      have := uses_len hv
      show v.length + 1 ≤ max (dp f) (dp a) + 1; omega
    · obtain ⟨v, hv, rfl⟩ := List.mem_map.mp h
      have := uses_len hv
      show v.length + 1 ≤ max (dp f) (dp a) + 1; omega
theorem uses_sz : ∀ (b : Cd) (d : Nat), (uses d b).length ≤ sz b
  | .ix n, d => by
    show (if n = d then [[]] else [] : List Pa).length ≤ 1
    split <;> simp
  | .nm _, _ => Nat.zero_le _
  | .fn b, d => by
    show ((uses (d + 1) b).map _).length ≤ sz b + 1
    have := uses_sz b (d + 1)
    rw [List.length_map]; omega
  | .ap f a, d => by
    show ((uses d f).map _ ++ (uses d a).map _).length ≤ sz f + sz a + 1
    have := uses_sz f d
    have := uses_sz a d
    rw [List.length_append, List.length_map, List.length_map]; omega
theorem leftL_f {c : Cd} {p q r : Pa} (e : q.take p.length = p) (h : q.drop p.length = false :: r) : leftL c p q = [p ++ r.drop 1] := by
  unfold leftL
  rw [if_neg (by rw [e]; simp), h]
theorem leftL_t {c : Cd} {p q r : Pa} (e : q.take p.length = p) (h : q.drop p.length = true :: r) : leftL c p q = (uses 0 (bodyAt c p)).map fun u => p ++ u ++ r := by
  unfold leftL
  rw [if_neg (by rw [e]; simp), h]
section
variable {G : Gb} {Q : DP}
def I_lf (c : Cd) (p q r : Pa) (i : Nat) (ρ : PD.Env) : Prop := ∃ s5 s6 : Option Sl, ρ = [some (.fz (cdD c)), some (.fz (paD p)), some (.fz (paD q)), some (.fz (paD r)), some (.fz (cdD (pk c p i))), s5, s6]
theorem w_left {k22 : Nat} (h22 : G.fn k22 = sp_uses) (ds : List D) (h : sp_left.pre ds) : wSs G (B_law_left k22) (endOf (sp_left.post ds)) (env0 7 ds) := by
  refine spF_w (fun a a2 _ _ e => ?_) (fun a ha Q hQ => ?_) ds h
  · obtain ⟨c, p, q⟩ := a
    obtain ⟨c', p', q'⟩ := a2
    have e1 : c = c' := cdD_inj _ _ (List.cons.inj e).1
    have e2 : p = p' := paD_inj _ _ (List.cons.inj (List.cons.inj e).2).1
    have e3 : q = q' := paD_inj _ _ (List.cons.inj (List.cons.inj (List.cons.inj e).2).2).1
    subst e1 e2 e3; rfl
  · obtain ⟨c, p, q⟩ := a
    obtain ⟨⟨x, hx⟩, ⟨y, hy⟩, ne, hz⟩ := ha
    have hx : St p c x := hx
    have hy : St q c y := hy
    have ne : p ≠ q := ne
    have hz : sz c ≤ 4000000 := hz
    have hQ : Q.rt (.list ((leftL c p q).map paD)) := hQ _ rfl
    obtain ⟨b, a, hp, _⟩ := hx.at
    show wSs G (B_law_left k22) Q [some (.fz (cdD c)), some (.fz (.tuple (p.map bD))), some (.fz (.tuple (q.map bD))), none, none, none, none]
    unfold B_law_left
    walk_at "x"
    rw [List.length_map, cutD_to, cutD_from, tup_pa, tup_pa, eqv_pa]
    refine ⟨shp_pa _, shp_pa _, ?_⟩
    obtain ⟨b', a', hq, _⟩ := hy.at
    have lp := part_len hp
    have lq := part_len hq
    have ds := dp_sz c
    by_cases e : q.take p.length = p
    · rw [if_neg (by rw [decide_eq_true e]; decide)]
      have eb : bodyAt c p = b := by unfold bodyAt; rw [hp]
      have hq2 : q = p ++ q.drop p.length := by
        have := List.take_append_drop p.length q
        rw [e] at this; exact this.symm
      have ql : q.length = p.length + (q.drop p.length).length := by
        have := congrArg List.length hq2
        rwa [List.length_append] at this
      cases hr : q.drop p.length with
      | nil => rw [hr, List.append_nil] at hq2; exact absurd hq2.symm ne
      | cons t r =>
        rw [hr] at ql
        rw [List.length_cons] at ql
        refine ⟨bD t, atI_nat (j := 0) rfl, ?_⟩
        rw [eq_bD]
        cases t with
        | false =>
          rw [leftL_f e hr] at hQ
          refine itT rfl ?_
          have c2 : cutD ((false :: r).map bD) (some 2) none = (r.drop 1).map bD := cutD_from bD (false :: r) 2
          rw [c2, app_pa]
          refine ⟨?_, hQ⟩
          rw [List.length_map, List.length_drop, sizeLine_eq]; omega
        | true =>
          refine itF rfl ?_
          have c1 : cutD ((true :: r).map bD) (some 1) none = r.map bD := cutD_from bD (true :: r) 1
          rw [leftL_t e hr, eb] at hQ
          have hQ : Q.rt (.list (((uses 0 b).map fun u => p ++ u ++ r).map paD)) := hQ
          refine for_of (I_lf c p q (true :: r)) ⟨_, _, by rw [show pk c p 0 = c by unfold pk; rw [List.take_zero, part_nil]; rfl]; rfl⟩ ?_ ?_
          · rintro i d ρ' N hd ⟨s5, s6, rfl⟩ hN
            obtain ⟨t, ht, rfl, -, hi⟩ := map_at hd
            have st := pk_step hp ht
            have hN := fun s5 => hN [some (.fz (cdD c)), some (.fz (paD p)), some (.fz (paD q)), some (.fz (paD (true :: r))), some (.fz (cdD (pk c p (i + 1)))), s5, s6] ⟨_, _, rfl⟩
            generalize pk c p (i + 1) = v at st hN
            generalize pk c p i = u at st
            rcases part_one st with ⟨rfl, rfl⟩ | ⟨a, rfl, rfl⟩ | ⟨f, rfl, rfl⟩
            · show wG (.nm 5) (.int 0) [_, _, _, _, some (.fz (.tuple [sTo, cdD v])), _, _] _
              walk_at "x"
              exact hN _
            · show wG (.nm 5) (.int 0) [_, _, _, _, some (.fz (.tuple [sOf, cdD v, cdD a])), _, _] _
              walk_at "x"
              exact hN _
            · show wG (.nm 5) (.int 1) [_, _, _, _, some (.fz (.tuple [sOf, cdD f, cdD v])), _, _] _
              walk_at "x"
              exact hN _
          · rintro ρ' ⟨s5, s6, rfl⟩
            rw [List.length_map]
            have ep : pk c p p.length = .ap (.fn b) a := by unfold pk; rw [List.take_length, hp]; rfl
            rw [ep]
            show wSs G _ _ [some (.fz (cdD c)), some (.fz (.tuple (p.map bD))), some (.fz (paD q)), some (.fz (.tuple ((true :: r).map bD))), some (.fz (.tuple [sOf, .tuple [sTo, cdD b], cdD a])), s5, s6]
            walk_at "x"
            have bz := part_sz hp
            have bz : sz b + 1 + sz a + 1 ≤ sz c := bz
            have lb : p.length + (max (dp b + 1) (dp a) + 1) ≤ dp c := lp
            refine callE h22 b (by show sz b ≤ _; omega) ?_
            walk_at "x"
            have ul := uses_sz b 0
            refine ⟨by rw [List.length_map, sizeLine_eq]; omega, mapXof paD (fun u => some (paD (p ++ u ++ r))) ?_ ?_⟩
            · intro u hu K hK
              have ulen := uses_len hu
              show wG (.nm 6) (.tuple (u.map bD)) [_, some (.fz (.tuple (p.map bD))), _, some (.fz (.tuple ((true :: r).map bD))), _, _, none] _
              walk_at "x"
              have e1 : cutD (bD true :: r.map bD) (some 1) none = r.map bD := c1
              rw [e1, List.length_map, List.length_map]
              refine ⟨by rw [sizeLine_eq]; omega, by rw [List.length_append, List.length_map, List.length_map, List.length_map, sizeLine_eq]; omega, ?_⟩
              rw [← List.map_append, app_pa]
              exact hK
            · rw [List.nil_append, fmsome]
              rw [List.map_map] at hQ
              exact hQ
    · rw [if_pos (by rw [decide_eq_false e]; rfl)]
      have eL : leftL c p q = [q] := by unfold leftL; rw [if_pos e]
      rw [eL] at hQ
      exact hQ
end
/-! ### steps of named programs -/
def gpart : Pg → Pa → Option Pg
  | g, [] => some g
  | .fn _ b, false :: p => gpart b p
  | .ap f _, false :: p => gpart f p
  | .ap _ a, true :: p => gpart a p
  | _, _ :: _ => none
def grepl : Pg → Pa → Pg → Pg
  | _, [], x => x
  | .fn y b, _ :: p, x => .fn y (grepl b p x)
  | .ap f a, false :: p, x => .ap (grepl f p x) a
  | .ap f a, true :: p, x => .ap f (grepl a p x)
  | g, _ :: _, _ => g
theorem gpart_nil (g : Pg) : gpart g [] = some g := by cases g <;> rfl
theorem grepl_nil (g x : Pg) : grepl g [] x = x := by cases g <;> rfl
theorem gpart_one {c x : Pg} {b : Bool} (h : gpart c [b] = some x) : (∃ y, c = .fn y x ∧ b = false) ∨ (∃ a, c = .ap x a ∧ b = false) ∨ ∃ f, c = .ap f x ∧ b = true := by
  cases c with
  | nm s => exact absurd h (by simp [gpart])
  | fn y d => cases b with
    | false => rw [show gpart (.fn y d) [false] = gpart d [] from rfl, gpart_nil] at h; cases h; exact .inl ⟨y, rfl, rfl⟩
    | true => exact absurd h (by simp [gpart])
  | ap f a => cases b with
    | false => rw [show gpart (.ap f a) [false] = gpart f [] from rfl, gpart_nil] at h; cases h; exact .inr (.inl ⟨a, rfl, rfl⟩)
    | true => rw [show gpart (.ap f a) [true] = gpart a [] from rfl, gpart_nil] at h; cases h; exact .inr (.inr ⟨f, rfl, rfl⟩)
theorem gpart_cons {c x : Pg} {b : Bool} {p : Pa} (h : gpart c [b] = some x) : gpart c (b :: p) = gpart x p := by
  rcases gpart_one h with ⟨y, rfl, rfl⟩ | ⟨a, rfl, rfl⟩ | ⟨f, rfl, rfl⟩ <;> rfl
theorem gpart_uncons {c y : Pg} {b : Bool} {p : Pa} (h : gpart c (b :: p) = some y) : ∃ x, gpart c [b] = some x ∧ gpart x p = some y := by
  cases c with
  | nm s => exact absurd h (by simp [gpart])
  | fn z d => cases b with
    | false => exact ⟨d, gpart_nil d, h⟩
    | true => exact absurd h (by simp [gpart])
  | ap f a => cases b with
    | false => exact ⟨f, gpart_nil f, h⟩
    | true => exact ⟨a, gpart_nil a, h⟩
theorem gpart_app {q : Pa} : ∀ {p : Pa} {c x : Pg}, gpart c p = some x → gpart c (p ++ q) = gpart x q
  | [], c, x, h => by rw [gpart_nil] at h; cases h; rfl
  | b :: p, c, x, h => by
    obtain ⟨y, h1, h2⟩ := gpart_uncons h
    rw [List.cons_append, gpart_cons h1]
    exact gpart_app h2
theorem gpart_unapp {q : Pa} : ∀ {p : Pa} {c y : Pg}, gpart c (p ++ q) = some y → ∃ x, gpart c p = some x ∧ gpart x q = some y
  | [], c, y, h => ⟨c, gpart_nil c, h⟩
  | b :: p, c, y, h => by
    obtain ⟨x, h1, h2⟩ := gpart_uncons h
    obtain ⟨z, h3, h4⟩ := gpart_unapp (p := p) h2
    exact ⟨z, by rw [gpart_cons h1]; exact h3, h4⟩
def gpk (c : Pg) (p : Pa) (k : Nat) : Pg := (gpart c (p.take k)).getD c
theorem gpk_some {c y : Pg} {p : Pa} (h : gpart c p = some y) (k : Nat) : gpart c (p.take k) = some (gpk c p k) := by
  have : gpart c (p.take k ++ p.drop k) = some y := by rw [List.take_append_drop]; exact h
  obtain ⟨x, hx, _⟩ := gpart_unapp this
  unfold gpk
  rw [hx]; rfl
theorem gpk_step {c y : Pg} {p : Pa} (h : gpart c p = some y) {k : Nat} {b : Bool} (hb : p[k]? = some b) : gpart (gpk c p k) [b] = some (gpk c p (k + 1)) := by
  have h1 := gpk_some h k
  have h2 := gpk_some h (k + 1)
  rw [List.take_add_one, hb] at h2
  rw [← gpart_app (q := [b]) h1]
  exact h2
theorem stepN_eq {x : Str} {b a : Pg} : ∀ {p : Pa} {g : Pg}, gpart g p = some (.ap (.fn x b) a) → stepN p g = grepl g p (replaced x a b)
  | [], g, h => by rw [gpart_nil] at h; cases h; rfl
  | t :: p, g, h => by
    obtain ⟨y, h1, h2⟩ := gpart_uncons h
    have ih := stepN_eq h2
    rcases gpart_one h1 with ⟨z, rfl, rfl⟩ | ⟨a, rfl, rfl⟩ | ⟨f, rfl, rfl⟩
    · exact congrArg (Pg.fn z) ih
    · show Pg.ap (stepN p y) a = Pg.ap (grepl y p _) a; rw [ih]
    · show Pg.ap f (stepN p y) = Pg.ap f (grepl y p _); rw [ih]
theorem gdp_part : ∀ {p : Pa} {c x : Pg}, gpart c p = some x → p.length + gdp x ≤ gdp c
  | [], c, x, h => by rw [gpart_nil] at h; cases h; show 0 + _ ≤ _; omega
  | b :: p, c, x, h => by
    obtain ⟨y, h1, h2⟩ := gpart_uncons h
    have := gdp_part h2
    rw [List.length_cons]
    rcases gpart_one h1 with ⟨z, rfl, _⟩ | ⟨a, rfl, _⟩ | ⟨f, rfl, _⟩
    · show _ ≤ gdp y + 1; omega
    · show _ ≤ max (gdp y) (gdp a) + 1; omega
    · show _ ≤ max (gdp f) (gdp y) + 1; omega
structure Sn where
  g : Pg
  p : Pa
structure SnP (m n : Nat) (a : Sn) : Prop where
  at_ : ∃ x b c, gpart a.g a.p = some (.ap (.fn x b) c)
  d : gdp a.g < m
  d2 : gdp (stepN a.p a.g) < n
  m6 : m ≤ 1000000
  n6 : n ≤ 1000000
abbrev sp_stepped (m n : Nat) : FnS := spE (SnP m n) (fun a => [pgD a.g, paD a.p]) fun a => cdD (code [] (stepN a.p a.g))
section
variable {G : Gb} {Q : DP}
def I_sn1 (g : Pg) (p : Pa) (i : Nat) (ρ : PD.Env) : Prop := ∃ s4 : Option Sl, ρ = [some (.fz (pgD g)), some (.fz (paD p)), some (.ow (((List.range i).map (gpk g p)).map pgD)), some (.fz (pgD (gpk g p i))), s4, none, none]
def I_sn2 (g : Pg) (p : Pa) (r : Pg) (i : Nat) (ρ : PD.Env) : Prop := ∃ s4 s5 s6 : Option Sl, ρ = [some (.fz (pgD g)), some (.fz (paD p)), some (.ow (((List.range p.length).map (gpk g p)).map pgD)), some (.fz (pgD (grepl (gpk g p (p.length - i)) (p.drop (p.length - i)) r))), s4, s5, s6]
theorem w_stepped {m n k16 k17 : Nat} (h16 : G.fn k16 = sp_repld m) (h17 : G.fn k17 = sp_code n) (ds : List D) (h : (sp_stepped m n).pre ds) : wSs G (B_law_stepped k16 k17) (endOf ((sp_stepped m n).post ds)) (env0 7 ds) := by
  refine spF_w (fun a a2 _ _ e => ?_) (fun a ha Q hQ => ?_) ds h
  · obtain ⟨c, p⟩ := a
    obtain ⟨c', p'⟩ := a2
    have e1 : c = c' := pgD_inj _ _ (List.cons.inj e).1
    have e2 : p = p' := paD_inj _ _ (List.cons.inj (List.cons.inj e).2).1
    subst e1 e2; rfl
  · obtain ⟨g, p⟩ := a
    obtain ⟨⟨x, b, a, hp⟩, d, d2, m6, n6⟩ := ha
    simp only [] at hp d d2
    have hQ : Q.rt (cdD (code [] (stepN p g))) := hQ _ rfl
    have hl := gdp_part hp
    have hl : p.length + (max (gdp b + 1) (gdp a) + 1) ≤ gdp g := hl
    rw [stepN_eq hp] at hQ d2
    show wSs G (B_law_stepped k16 k17) Q [some (.fz (pgD g)), some (.fz (.tuple (p.map bD))), none, none, none, none, none]
    unfold B_law_stepped
    walk_at "x"
    refine for_of (I_sn1 g p) ⟨_, by rw [show gpk g p 0 = g by unfold gpk; rw [List.take_zero, gpart_nil]; rfl]; rfl⟩ ?_ ?_
    · rintro i dd ρ' N hd ⟨s4, rfl⟩ hN
      obtain ⟨t, ht, rfl, -, hi⟩ := map_at hd
      have st := gpk_step hp ht
      have hN := hN [some (.fz (pgD g)), some (.fz (paD p)), some (.ow (((List.range i).map (gpk g p)).map pgD ++ [pgD (gpk g p i)])), some (.fz (pgD (gpk g p (i + 1)))), some (.fz (bD t)), none, none] ⟨_, by rw [List.range_succ, List.map_append, List.map_append]; rfl⟩
      have fl : (((List.range i).map (gpk g p)).map pgD).length < sizeLine := by rw [List.length_map, List.length_map, List.length_range, sizeLine_eq]; omega
      generalize gpk g p (i + 1) = v at st hN
      generalize (((List.range i).map (gpk g p)).map pgD) = us at hN fl
      generalize gpk g p i = u at st hN
      rcases gpart_one st with ⟨y, rfl, rfl⟩ | ⟨a, rfl, rfl⟩ | ⟨f, rfl, rfl⟩
      · show wG (.nm 4) (.int 0) [_, _, _, some (.fz (.tuple [sTo, .str y, pgD v])), _, _, _] _
        walk_at "x"
        exact ⟨fl, hN⟩
      · show wG (.nm 4) (.int 0) [_, _, _, some (.fz (.tuple [sOf, pgD v, pgD a])), _, _, _] _
        walk_at "x"
        exact ⟨fl, hN⟩
      · show wG (.nm 4) (.int 1) [_, _, _, some (.fz (.tuple [sOf, pgD f, pgD v])), _, _, _] _
        walk_at "x"
        exact ⟨fl, hN⟩
    · rintro ρ' ⟨s4, rfl⟩
      rw [List.length_map]
      have ep : gpk g p p.length = .ap (.fn x b) a := by unfold gpk; rw [List.take_length, hp]; rfl
      rw [ep]
      show wSs G _ _ [_, some (.fz (.tuple (p.map bD))), _, some (.fz (.tuple [sOf, .tuple [sTo, .str x, pgD b], pgD a])), _, _, _]
      walk_at "x"
      refine callE h16 ⟨b, x, a⟩ (by show gdp b < m; omega) ?_
      walk_at "x"
      rw [List.length_map]
      refine ⟨by omega, by omega, for_of (I_sn2 g p (replaced x a b)) ⟨_, _, _, by rw [Nat.sub_zero, List.drop_length, grepl_nil]; rfl⟩ ?_ ?_⟩
      · rintro i dd ρ' N hd ⟨s4, s5, s6, rfl⟩ hN
        obtain ⟨hi, rfl⟩ := rng0_at hd
        rw [Int.toNat_natCast] at hi
        have hk : p.length - 1 - i < p.length := by omega
        have e1 : p.length - i = p.length - 1 - i + 1 := by omega
        have e2 : p.length - (i + 1) = p.length - 1 - i := by omega
        obtain ⟨t, ht⟩ : ∃ t, p[p.length - 1 - i]? = some t := ⟨_, List.getElem?_eq_getElem hk⟩
        have hd2 : p.drop (p.length - 1 - i) = t :: p.drop (p.length - 1 - i + 1) := by
          rw [List.drop_eq_getElem_cons hk]
          rw [List.getElem?_eq_getElem hk] at ht
          cases ht; rfl
        have st := gpk_step hp ht
        have ei : (p.length : Int) - 1 - i = ((p.length - 1 - i : Nat) : Int) := by omega
        have hu : L2.atI (((List.range p.length).map (gpk g p)).map pgD) ((p.length - 1 - i : Nat) : Int) = some (pgD (gpk g p (p.length - 1 - i))) := atI_nat (by rw [List.getElem?_map, List.getElem?_map, List.getElem?_range hk]; rfl)
        have fin : ∀ u : Pg, u = grepl (gpk g p (p.length - 1 - i)) (p.drop (p.length - 1 - i)) (replaced x a b) → ∀ s4 s5 s6 : Option Sl, N [some (.fz (pgD g)), some (.fz (paD p)), some (.ow (((List.range p.length).map (gpk g p)).map pgD)), some (.fz (pgD u)), s4, s5, s6] := fun u e s4 s5 s6 => hN _ ⟨s4, s5, s6, by rw [e2, ← e]⟩
        rw [e1]
        generalize gpk g p (p.length - 1 - i + 1) = v at st
        generalize (((List.range p.length).map (gpk g p)).map pgD) = us at hu fin
        generalize gpk g p (p.length - 1 - i) = u at st hu fin
        generalize hr : grepl v (p.drop (p.length - 1 - i + 1)) (replaced x a b) = r
        show wG (.nm 5) _ [some (.fz (pgD g)), some (.fz (.tuple (p.map bD))), some (.ow us), some (.fz (pgD r)), s4, s5, s6] _
        walk_at "x"
        rw [List.length_map, ei]
        have hpat : L2.atI (p.map bD) ((p.length - 1 - i : Nat) : Int) = some (bD t) := atI_at bD ht
        rcases gpart_one st with ⟨y, rfl, rfl⟩ | ⟨a2, rfl, rfl⟩ | ⟨f, rfl, rfl⟩
        · refine ⟨.tuple [sTo, .str y, pgD v], hu, ?_⟩
          walk_at "x"
          refine fin (.fn y r) ?_ _ _ _
          rw [hd2, ← hr]; rfl
        · refine ⟨.tuple [sOf, pgD v, pgD a2], hu, ?_⟩
          walk_at "x"
          refine ⟨_, hpat, ?_⟩
          rw [eq_bD]
          refine itT rfl (fin (.ap r a2) ?_ _ _ _)
          rw [hd2, ← hr]; rfl
        · refine ⟨.tuple [sOf, pgD f, pgD v], hu, ?_⟩
          walk_at "x"
          refine ⟨_, hpat, ?_⟩
          rw [eq_bD]
          refine itF rfl (fin (.ap f r) ?_ _ _ _)
          rw [hd2, ← hr]; rfl
      · rintro ρ' ⟨s4, s5, s6, rfl⟩
        rw [List.length_map, List.length_range, Int.toNat_natCast, Nat.sub_self, List.drop_zero]
        walk_at "x"
        have e : gpk g p 0 = g := by unfold gpk; rw [List.take_zero, gpart_nil]; rfl
        rw [e]
        exact callE h17 ⟨_, []⟩ ⟨d2, by show 0 + gdp (grepl g p (replaced x a b)) ≤ _; omega⟩ hQ
end
end KC

namespace KC
open PySem PySem.Spec PyProof.Rows L2 PD 
local macro_rules | `(tactic| walk_at "x") => `(tactic| simp (config := { decide := false }) only [nc0, nc1, nc2, nc3, nc4, nc5, nc6, nc7, nc8, nc9, nc10, nc11, nc12, Int.add_zero, for_nil, for_cons, Int.reduceAdd, Int.reduceSub, st_ot, st_to, Int.reduceLT, Int.reduceLE, sl0, sl1, sl2, sl3, sl4, sl5, sl6, sl7, sl8, sl9, sl10, sl11, sl12, q_last, List.dropLast_concat, q_at0, q_at1, q_at2, q_at3, decide_true, decide_false, x_var, x_v0, x_v1, x_v11, x_v12, x_v13, x_v1t, x_v22, x_v23, x_v2t, x_w11, x_w12, x_w13, x_w1t, x_w22, x_w23, x_dnew, x_dget, x_dcm, x_chn, x_lrg, x_en, x_zp, x_zp3, x_fDt, x_fDf, x_fBd, x_d5, x_d6, x_trl, x_trt, x_trn, x_aug, x_ownd2, x_dput, x_dputl, x_dappl, x_pop, x_ins, x_ext, x_nwL, x_nwD, n_int, n_bl, n_str, n_lst, n_tup, n_non, g_int, k_int, bLv, x_ct, x_non, x_bl, x_int, x_str, x_bin, x_neg, x_cmp, x_bopt, x_bopv, x_nt, x_ntv, x_ifx, x_ix, x_ixt, x_sl, x_call, x_callk, x_blt, x_isi, x_mth, x_tup, x_lst, x_lc, x_lc2, x_d0, x_d1, x_d2, x_d3, x_d4, x_ts0, x_ts1, x_bs0, x_bs1, x_c0, x_c1,
    x_eo0, x_eo1, x_es0, x_es1, x_ls, x_r1, x_r2, x_rv, x_rr1, x_rr2, o_ls, o_tp, x_ft, x_ftst, x_fLt, x_fLf, x_fBl, x_fBi, x_fBs, x_fBb, x_fBt, x_trb, x_tri, x_nil, x_cons, x_asg, x_own, x_own2, x_frz, x_app, x_app2, x_appI, x_seti, x_set2, x_drop, x_ifs, x_whl, x_fr, x_ret, x_retN, x_pass, x_brk, x_cont, x_gnm, x_gtp, x_g0, x_gs, x_rt, x_nx,
    b_addI, b_addS, b_addL, b_addT, b_sub, b_mul, b_mulL, b_mulT, b_and, b_or, b_xor, b_div, b_mod, b_pow, b_shl, b_shr, e_ii, e_ss, e_bb, e_nn, e_ni, e_in, e_ns, e_sn, e_is, e_si, e_nb, e_bn, c_eq, c_ne, c_lt, c_le, c_gt, c_ge, c_in, c_ni, c_is, c_isn, i_l, i_t, i_s, i_d, in_l, in_t, in_d, e_tt, e_ll, f_lenD, f_lstD, f_lstS, f_srtL, f_srtD, f_maxL, f_minL, f_all, f_any, m_count, m_rfind, m_lix, l_l, l_t, l_s,
    f_lenL, f_lenT, f_lenS, f_intI, f_intB, f_str, f_tupL, f_tupT, f_lstL, f_lstT, f_abs, f_max, f_min, f_sum, m_join, m_find3, m_rfind4, m_sindex, s_lst, s_tup, wFrz, setAll, wipeE, t_str, t_lst, mtTy, o_int, o_bl, o_str, o_lst, o_tup, o_non, isT, String.reduceBEq, String.reduceEq, beq_self_eq_true, Nat.reduceAdd, Nat.reduceLT, Nat.reduceSub,
    List.map_cons, List.map_nil, List.length_cons, List.length_nil, List.set_cons_zero, List.set_cons_succ, List.any_cons, List.any_nil,
    PyData.bool.injEq, PyData.int.injEq, PyData.str.injEq, PyData.list.injEq, PyData.tuple.injEq, Option.some.injEq, Sl.fz.injEq, Sl.ow.injEq, Sl.ow2.injEq, Sl.od.injEq, Sl.odl.injEq, PyData.dict.injEq,
    exists_eq_left, exists_eq_left', exists_and_left, exists_and_right, and_assoc, true_and, and_true, if_true, if_false, ite_true, ite_false, decide_eq_true_eq, Bool.true_eq_false, Bool.false_eq_true, Bool.not_true, Bool.not_false, Bool.or_true, Bool.true_or, Bool.or_false, Bool.false_or, Bool.and_true, Bool.true_and, Bool.and_false, Bool.false_and, Nat.zero_lt_succ, reduceCtorEq])
open PL
/-! ### runs of the law and of the program -/
structure Tk where
  c : Cd
  L : List Pa
  z : Cd
def Sm (m : Nat) (x : Cd) : Prop := dp x < m ∧ sz x ≤ 4000000
structure TkP (m : Nat) (a : Tk) : Prop where
  r : Rn (Sm m) a.L a.c a.z
  cl : clo 0 a.c
  nn : Nn a.c
  m6 : m ≤ 1000000
abbrev sp_taken (m : Nat) : FnS := spE (TkP m) (fun a => [cdD a.c, .list (a.L.map paD)]) fun a => cdD a.z
theorem code_gdp (g : Pg) : ∀ es, dp (code es g) = gdp g := by
  induction g with
  | nm s => intro es; show dp (if s ∈ es then _ else _) = 0; split <;> rfl
  | fn x b ih => intro es; exact congrArg (· + 1) (ih _)
  | ap f a h1 h2 => intro es; show max _ _ + 1 = max _ _ + 1; rw [h1, h2]
theorem St.named {p : Pa} {c c' : Cd} (h : St p c c') : ∀ es m, ∃ x b a, gpart (KC.named es m c) p = some (.ap (.fn x b) a) := by
  induction h with
  | here b a => intro es m; exact ⟨_, _, _, gpart_nil _⟩
  | fn _ ih => intro es m; exact ih _ _
  | apl _ ih => intro es m; exact ih _ _
  | apr _ ih => intro es m; exact ih _ _
theorem Nok.zero : Nok [] ⟨#[66]⟩ := ⟨List.nodup_nil, rfl, fun e he => by cases he⟩
theorem St.nn {p : Pa} {c c' : Cd} (h : St p c c') (n : Nn c) : Nn c' := fun s hs => n s (h.nms hs)
theorem tk_inj {m : Nat} (a b : Tk) (ha : TkP m a) (hb : TkP m b) (e : [cdD a.c, PyData.list (a.L.map paD)] = [cdD b.c, .list (b.L.map paD)]) : a.z = b.z := by
  obtain ⟨c, L, z⟩ := a
  obtain ⟨c', L', z'⟩ := b
  have e1 : c = c' := cdD_inj _ _ (List.cons.inj e).1
  have e2 : L = L' := (List.map_inj_right fun x y h => paD_inj x y h).mp (PyData.list.inj (List.cons.inj (List.cons.inj e).2).1)
  subst e1 e2
  exact ha.r.det hb.r
theorem St.plen {p : Pa} {c c' : Cd} (h : St p c c') : p.length ≤ KC.dp c := by
  obtain ⟨b, a, hp, _⟩ := h.at
  have := part_len hp
  omega
theorem Rn.uncons {P : Cd → Prop} {L : List Pa} {c z : Cd} {p : Pa} (h : Rn P (p :: L) c z) : ∃ c', P c ∧ St p c c' ∧ Rn P L c' z := by
  cases h with
  | cons a b r => exact ⟨_, a, b, r⟩
theorem Rn.first {P : Cd → Prop} {L : List Pa} {c z : Cd} (h : Rn P L c z) : P c := by
  cases h with
  | nil h => exact h
  | cons h _ _ => exact h
theorem any_pas (p : Pa) (ps : List Pa) : (ps.map paD).any (fun y => PyData.eqv y (paD p)) = decide (p ∈ ps) := by
  induction ps with
  | nil => rfl
  | cons m ns ih =>
    rw [List.map_cons, List.any_cons, ih, eqv_pa]
    by_cases h : m = p <;> by_cases g : p ∈ ns <;> simp [h, g, eq_comm]
    exact fun e => h e.symm
theorem plain_pas (ps : List Pa) : PyData.plainAll (ps.map paD) = true := by
  induction ps with
  | nil => simp [PyData.plainAll]
  | cons n ns ih =>
    rw [List.map_cons]
    unfold PyData.plainAll
    have := shp_pa n
    unfold shp at this
    rw [Bool.and_eq_true] at this
    rw [ih, this.1]; rfl
section
variable {G : Gb} {Q : DP}
def I_tk (m : Nat) (L : List Pa) (z : Cd) (i : Nat) (ρ : PD.Env) : Prop := ∃ (c : Cd) (s2 : Option Sl), TkP m ⟨c, L.drop i, z⟩ ∧ ρ = [some (.fz (cdD c)), some (.fz (.list (L.map paD))), s2]
theorem w_taken {m n k15 k21 : Nat} (h15 : G.fn k15 = sp_named m) (h21 : G.fn k21 = sp_stepped m m) (ds : List D) (h : (sp_taken m).pre ds) : wSs G (B_law_taken k21 k15) (endOf ((sp_taken m).post ds)) (env0 3 ds) := by
  refine spF_w' (fun a b ha hb e d hd => by rw [hd]; exact congrArg cdD (tk_inj a b ha hb e)) (fun a ha Q hQ => ?_) ds h
  obtain ⟨c, L, z⟩ := a
  have hQ : Q.rt (cdD z) := hQ _ rfl
  show wSs G (B_law_taken k21 k15) Q [some (.fz (cdD c)), some (.fz (.list (L.map paD))), none]
  unfold B_law_taken
  walk_at "x"
  refine for_of (I_tk m L z) ⟨c, none, by rw [List.drop_zero]; exact ha, rfl⟩ ?_ ?_
  · rintro i d ρ' N hd ⟨c, s2, ⟨r, cl, nn, m6⟩, rfl⟩ hN
    obtain ⟨p, hp, rfl, -, hi⟩ := map_at hd
    have hd2 : L.drop i = p :: L.drop (i + 1) := by
      rw [List.drop_eq_getElem_cons hi]
      rw [List.getElem?_eq_getElem hi] at hp
      cases hp; rfl
    rw [hd2] at r
    obtain ⟨c', ⟨s1, s2'⟩, st, r'⟩ := r.uncons
    have cl' := st.clo cl
    have nn' := st.nn nn
    have s1' : dp c' < m := r'.first.1
    have s1 : dp c < m := s1
    walk_at "x"
    refine callE h15 ⟨c, [], ⟨#[66]⟩⟩ ⟨s1, cl, by show 0 + dp c ≤ _; omega, by show 1 + dp c ≤ _; omega⟩ ?_
    have sc := stepN_code st Nok.zero cl nn
    have gd : gdp (stepN p (named [] ⟨#[66]⟩ c)) = dp c' := by rw [← code_gdp _ [], sc]
    refine callE h21 ⟨_, p⟩ ⟨st.named _ _, by show gdp (named _ _ c) < m; rw [named_gdp]; exact s1, by show gdp _ < m; rw [gd]; exact s1', m6, m6⟩ ?_
    have sc : code [] (stepN p (named [] ⟨#[66]⟩ c)) = c' := sc
    show N [some (.fz (cdD (code [] (stepN p (named [] ⟨#[66]⟩ c))))), _, _]
    rw [sc]
    exact hN _ ⟨c', _, ⟨r', cl', nn', m6⟩, rfl⟩
  · rintro ρ' ⟨c, s2, ⟨r, cl, nn, m6⟩, rfl⟩
    rw [List.length_map, List.drop_length] at r
    walk_at "x"
    cases r
    exact hQ
theorem w_told {m k9 k10 : Nat} (h9 : G.fn k9 = sp_rdx) (h10 : G.fn k10 = sp_step m) (ds : List D) (h : (sp_taken m).pre ds) : wSs G (B_law_told k9 k10) (endOf ((sp_taken m).post ds)) (env0 3 ds) := by
  refine spF_w' (fun a b ha hb e d hd => by rw [hd]; exact congrArg cdD (tk_inj a b ha hb e)) (fun a ha Q hQ => ?_) ds h
  obtain ⟨c, L, z⟩ := a
  have hQ : Q.rt (cdD z) := hQ _ rfl
  show wSs G (B_law_told k9 k10) Q [some (.fz (cdD c)), some (.fz (.list (L.map paD))), none]
  unfold B_law_told
  walk_at "x"
  refine for_of (I_tk m L z) ⟨c, none, by rw [List.drop_zero]; exact ha, rfl⟩ ?_ ?_
  · rintro i d ρ' N hd ⟨c, s2, ⟨r, cl, nn, m6⟩, rfl⟩ hN
    obtain ⟨p, hp, rfl, -, hi⟩ := map_at hd
    have hd2 : L.drop i = p :: L.drop (i + 1) := by
      rw [List.drop_eq_getElem_cons hi]
      rw [List.getElem?_eq_getElem hi] at hp
      cases hp; rfl
    rw [hd2] at r
    obtain ⟨c', ⟨s1, s2'⟩, st, r'⟩ := r.uncons
    have cl' := st.clo cl
    have nn' := st.nn nn
    have pl := st.plen
    walk_at "x"
    refine callE h9 c s2' ?_
    rw [in_t, any_pas, plain_pas, shp_pa]
    refine ⟨rfl, rfl, ?_⟩
    rw [decide_eq_true (mem_rdx.mpr ⟨_, st⟩), if_neg (by decide)]
    refine callE h10 ⟨c, p, c'⟩ ⟨st, by show p.length ≤ _; omega, s1⟩ (hN _ ⟨c', _, ⟨r', cl', nn', m6⟩, rfl⟩)
  · rintro ρ' ⟨c, s2, ⟨r, cl, nn, m6⟩, rfl⟩
    rw [List.length_map, List.drop_length] at r
    walk_at "x"
    cases r
    exact hQ
end
end KC

namespace K14
open PySem PySem.Spec PyProof.Rows L2 PD
/-- the i-th statement of the text -/
def topS (i : Nat) : Stmt := PySem.Challenge.pw_plainbehind_k14_two_steps_meet_whole.main.body.getD i (.Pass ⟨0, 0, 0, 0⟩)

/-! #### is_function -/
abbrev s_is_function : Stmt := topS 1
abbrev C_is_function : Ck := mkCk ["code"] [] [] [] ["isinstance", "tuple"]
def b_is_function : Ss := (.cons (.ret (.bop true (.cons (.isi (.var 0) ["tuple"]) (.cons (.cmp .Eq (.ix (.var 0) (.int 0)) (.str [116, 111])) .nil))))
  .nil)
theorem sc_is_function : FnScope ["code"] ["code"] (defScope s_is_function) := C8.fnScope_by (by decide +kernel)
theorem ok_is_function : okSs C_is_function (defScope s_is_function) b_is_function (defBody s_is_function) = true := by decide +kernel

/-! #### is_call -/
abbrev s_is_call : Stmt := topS 2
abbrev C_is_call : Ck := mkCk ["code"] [] [] [] ["isinstance", "tuple"]
def b_is_call : Ss := (.cons (.ret (.bop true (.cons (.isi (.var 0) ["tuple"]) (.cons (.cmp .Eq (.ix (.var 0) (.int 0)) (.str [111, 102])) .nil))))
  .nil)
theorem sc_is_call : FnScope ["code"] ["code"] (defScope s_is_call) := C8.fnScope_by (by decide +kernel)
theorem ok_is_call : okSs C_is_call (defScope s_is_call) b_is_call (defBody s_is_call) = true := by decide +kernel

/-! #### _parts_along -/
abbrev s__parts_along : Stmt := topS 7
abbrev C__parts_along : Ck := mkCk ["code", "path", "parts", "turn", "part"] [(0, "is_function"), (1, "is_call")] [] [] []
def b__parts_along : Ss := (.cons (.own 2 (.lst (.cons (.var 0) .nil)))
  (.cons (.fr (.nm 3) (.ls (.var 1)) (.cons (.asg (.nm 4) (.ix (.var 2) (.neg (.int 1))))
  (.cons (.ifs (.bop true (.cons (.call 0 (.cons (.var 4) .nil)) (.cons (.cmp .Eq (.var 3) (.int 0)) .nil))) (.cons (.app 2 (.ix (.var 4) (.int 1)))
  .nil) (.cons (.ifs (.bop true (.cons (.call 1 (.cons (.var 4) .nil)) (.cons (.cmp .In (.var 3) (.tup (.cons (.int 0) (.cons (.int 1) .nil)))) .nil))) (.cons (.app 2 (.ix (.var 4) (.bin .Add (.int 1) (.var 3))))
  .nil) (.cons .never
  .nil))
  .nil))
  .nil)))
  (.cons (.frz 2)
  (.cons (.ret (.var 2))
  .nil))))
theorem sc__parts_along : FnScope ["code", "path", "parts", "turn", "part"] ["code", "path"] (defScope s__parts_along) := C8.fnScope_by (by decide +kernel)
theorem ok__parts_along : okSs C__parts_along (defScope s__parts_along) b__parts_along (defBody s__parts_along) = true := by decide +kernel

/-! #### part_at -/
abbrev s_part_at : Stmt := topS 8
abbrev C_part_at : Ck := mkCk ["code", "path"] [(2, "_parts_along")] [] [] []
def b_part_at : Ss := (.cons (.ret (.ix (.call 2 (.cons (.var 0) (.cons (.var 1) .nil))) (.neg (.int 1))))
  .nil)
theorem sc_part_at : FnScope ["code", "path"] ["code", "path"] (defScope s_part_at) := C8.fnScope_by (by decide +kernel)
theorem ok_part_at : okSs C_part_at (defScope s_part_at) b_part_at (defBody s_part_at) = true := by decide +kernel

/-! #### with_part -/
abbrev s_with_part : Stmt := topS 9
abbrev C_with_part : Ck := mkCk ["code", "path", "part", "parts", "at", "above"] [(0, "is_function"), (2, "_parts_along")] [] [] ["len", "range", "reversed"]
def b_with_part : Ss := (.cons (.asg (.nm 3) (.call 2 (.cons (.var 0) (.cons (.var 1) .nil))))
  (.cons (.fr (.nm 4) (.rr1 (.blt .len (.cons (.var 1) .nil))) (.cons (.asg (.nm 5) (.ix (.var 3) (.var 4)))
  (.cons (.ifs (.call 0 (.cons (.var 5) .nil)) (.cons (.asg (.nm 2) (.tup (.cons (.str [116, 111]) (.cons (.var 2) .nil))))
  .nil) (.cons (.ifs (.cmp .Eq (.ix (.var 1) (.var 4)) (.int 0)) (.cons (.asg (.nm 2) (.tup (.cons (.str [111, 102]) (.cons (.var 2) (.cons (.ix (.var 5) (.int 2)) .nil)))))
  .nil) (.cons (.asg (.nm 2) (.tup (.cons (.str [111, 102]) (.cons (.ix (.var 5) (.int 1)) (.cons (.var 2) .nil)))))
  .nil))
  .nil))
  .nil)))
  (.cons (.ret (.var 2))
  .nil)))
theorem sc_with_part : FnScope ["code", "path", "part", "parts", "at", "above"] ["code", "path", "part"] (defScope s_with_part) := C8.fnScope_by (by decide +kernel)
theorem ok_with_part : okSs C_with_part (defScope s_with_part) b_with_part (defBody s_with_part) = true := by decide +kernel

/-! #### shifted -/
abbrev s_shifted : Stmt := topS 11
abbrev C_shifted : Ck := mkCk ["code", "by", "above"] [(0, "is_function"), (1, "is_call"), (5, "shifted")] [] [] ["isinstance", "str"]
def b_shifted : Ss := (.cons (.ifs (.isi (.var 0) ["str"]) (.cons (.ret (.var 0))
  .nil) .nil)
  (.cons (.ifs (.call 0 (.cons (.var 0) .nil)) (.cons (.ret (.tup (.cons (.str [116, 111]) (.cons (.call 5 (.cons (.ix (.var 0) (.int 1)) (.cons (.var 1) (.cons (.bin .Add (.var 2) (.int 1)) .nil)))) .nil))))
  .nil) .nil)
  (.cons (.ifs (.call 1 (.cons (.var 0) .nil)) (.cons (.ret (.tup (.cons (.str [111, 102]) (.cons (.call 5 (.cons (.ix (.var 0) (.int 1)) (.cons (.var 1) (.cons (.var 2) .nil)))) (.cons (.call 5 (.cons (.ix (.var 0) (.int 2)) (.cons (.var 1) (.cons (.var 2) .nil)))) .nil)))))
  .nil) .nil)
  (.cons (.ifs (.cmp .GtE (.var 0) (.var 2)) (.cons (.ret (.bin .Add (.var 0) (.var 1)))
  .nil) .nil)
  (.cons (.ret (.var 0))
  .nil)))))
theorem sc_shifted : FnScope ["code", "by", "above"] ["code", "by", "above"] (defScope s_shifted) := C8.fnScope_by (by decide +kernel)
theorem ok_shifted : okSs C_shifted (defScope s_shifted) b_shifted (defBody s_shifted) = true := by decide +kernel

/-! #### _put -/
abbrev s__put : Stmt := topS 12
abbrev C__put : Ck := mkCk ["code", "argument", "depth"] [(0, "is_function"), (1, "is_call"), (6, "_put"), (27, "shifted")] [] [] ["isinstance", "str"]
def b__put : Ss := (.cons (.ifs (.isi (.var 0) ["str"]) (.cons (.ret (.var 0))
  .nil) .nil)
  (.cons (.ifs (.call 0 (.cons (.var 0) .nil)) (.cons (.ret (.tup (.cons (.str [116, 111]) (.cons (.call 6 (.cons (.ix (.var 0) (.int 1)) (.cons (.var 1) (.cons (.bin .Add (.var 2) (.int 1)) .nil)))) .nil))))
  .nil) .nil)
  (.cons (.ifs (.call 1 (.cons (.var 0) .nil)) (.cons (.ret (.tup (.cons (.str [111, 102]) (.cons (.call 6 (.cons (.ix (.var 0) (.int 1)) (.cons (.var 1) (.cons (.var 2) .nil)))) (.cons (.call 6 (.cons (.ix (.var 0) (.int 2)) (.cons (.var 1) (.cons (.var 2) .nil)))) .nil)))))
  .nil) .nil)
  (.cons (.ifs (.cmp .Lt (.var 0) (.var 2)) (.cons (.ret (.var 0))
  .nil) .nil)
  (.cons (.ifs (.cmp .Eq (.var 0) (.var 2)) (.cons (.ret (.call 27 (.cons (.var 1) (.cons (.var 2) .nil))))
  .nil) .nil)
  (.cons (.ret (.bin .Sub (.var 0) (.int 1)))
  .nil))))))
theorem sc__put : FnScope ["code", "argument", "depth"] ["code", "argument", "depth"] (defScope s__put) := C8.fnScope_by (by decide +kernel)
theorem ok__put : okSs C__put (defScope s__put) b__put (defBody s__put) = true := by decide +kernel

/-! #### put -/
abbrev s_put : Stmt := topS 13
abbrev C_put : Ck := mkCk ["body", "argument"] [(6, "_put")] [] [] []
def b_put : Ss := (.cons (.ret (.call 6 (.cons (.var 0) (.cons (.var 1) (.cons (.int 0) .nil)))))
  .nil)
theorem sc_put : FnScope ["body", "argument"] ["body", "argument"] (defScope s_put) := C8.fnScope_by (by decide +kernel)
theorem ok_put : okSs C_put (defScope s_put) b_put (defBody s_put) = true := by decide +kernel

/-! #### _is_redex -/
abbrev s__is_redex : Stmt := topS 15
abbrev C__is_redex : Ck := mkCk ["code"] [(0, "is_function"), (1, "is_call")] [] [] []
def b__is_redex : Ss := (.cons (.ret (.bop true (.cons (.call 1 (.cons (.var 0) .nil)) (.cons (.call 0 (.cons (.ix (.var 0) (.int 1)) .nil)) .nil))))
  .nil)
theorem sc__is_redex : FnScope ["code"] ["code"] (defScope s__is_redex) := C8.fnScope_by (by decide +kernel)
theorem ok__is_redex : okSs C__is_redex (defScope s__is_redex) b__is_redex (defBody s__is_redex) = true := by decide +kernel

/-! #### redexes -/
abbrev s_redexes : Stmt := topS 16
abbrev C_redexes : Ck := mkCk ["code", "found", "waiting", "path", "part"] [(0, "is_function"), (1, "is_call"), (8, "_is_redex")] [] [] ["tuple"]
def b_redexes : Ss := (.cons (.own 1 (.lst .nil))
  (.cons (.own 2 (.lst (.cons (.tup (.cons (.tup .nil) (.cons (.var 0) .nil))) .nil)))
  (.cons (.whl (.var 2) (.cons (.popA (.tp [3, 4]) 2 .no)
  (.cons (.ifs (.call 8 (.cons (.var 4) .nil)) (.cons (.app 1 (.var 3))
  .nil) .nil)
  (.cons (.ifs (.call 0 (.cons (.var 4) .nil)) (.cons (.app 2 (.tup (.cons (.bin .Add (.var 3) (.tup (.cons (.int 0) .nil))) (.cons (.ix (.var 4) (.int 1)) .nil))))
  .nil) (.cons (.ifs (.call 1 (.cons (.var 4) .nil)) (.cons (.app 2 (.tup (.cons (.bin .Add (.var 3) (.tup (.cons (.int 1) .nil))) (.cons (.ix (.var 4) (.int 2)) .nil))))
  (.cons (.app 2 (.tup (.cons (.bin .Add (.var 3) (.tup (.cons (.int 0) .nil))) (.cons (.ix (.var 4) (.int 1)) .nil))))
  .nil)) .nil)
  .nil))
  .nil))))
  (.cons (.ret (.blt .tuple (.cons (.var 1) .nil)))
  .nil))))
theorem sc_redexes : FnScope ["code", "found", "waiting", "path", "part"] ["code"] (defScope s_redexes) := C8.fnScope_by (by decide +kernel)
theorem ok_redexes : okSs C_redexes (defScope s_redexes) b_redexes (defBody s_redexes) = true := by decide +kernel

/-! #### step -/
abbrev s_step : Stmt := topS 17
abbrev C_step : Ck := mkCk ["code", "path", "part"] [(3, "part_at"), (4, "with_part"), (7, "put"), (8, "_is_redex")] [] [] []
def b_step : Ss := (.cons (.asg (.nm 2) (.call 3 (.cons (.var 0) (.cons (.var 1) .nil))))
  (.cons (.ifs (.nt (.call 8 (.cons (.var 2) .nil))) (.cons .never
  .nil) .nil)
  (.cons (.ret (.call 4 (.cons (.var 0) (.cons (.var 1) (.cons (.call 7 (.cons (.ix (.ix (.var 2) (.int 1)) (.int 1)) (.cons (.ix (.var 2) (.int 2)) .nil))) .nil)))))
  .nil)))
theorem sc_step : FnScope ["code", "path", "part"] ["code", "path"] (defScope s_step) := C8.fnScope_by (by decide +kernel)
theorem ok_step : okSs C_step (defScope s_step) b_step (defBody s_step) = true := by decide +kernel

/-! #### _law_cell -/
abbrev s__law_cell : Stmt := topS 19
abbrev C__law_cell : Ck := mkCk ["script", "k", "seed", "cell"] [] [] [] ["int", "len"]
def b__law_cell : Ss := (.cons (.ifs (.cmp .Lt (.var 1) (.blt .len (.cons (.var 0) .nil))) (.cons (.ret (.ix (.var 0) (.var 1)))
  .nil) .nil)
  (.cons (.asg (.nm 2) (.int 17))
  (.cons (.fr (.nm 3) (.ls (.var 0)) (.cons (.asg (.nm 2) (.bin .Mod (.blt .int (.cons (.bin .Add (.bin .Mult (.var 2) (.int 31)) (.bin .Mod (.blt .int (.cons (.var 3) .nil)) (.int 1000003))) .nil)) (.int 1000003)))
  .nil))
  (.cons (.ret (.bin .Mod (.blt .int (.cons (.bin .Mult (.bin .Mult (.bin .Add (.var 2) (.int 7)) (.bin .Add (.var 1) (.int 3))) (.int 69621)) .nil)) (.int 2147483647)))
  .nil))))
theorem sc__law_cell : FnScope ["script", "k", "seed", "cell"] ["script", "k"] (defScope s__law_cell) := C8.fnScope_by (by decide +kernel)
theorem ok__law_cell : okSs C__law_cell (defScope s__law_cell) b__law_cell (defBody s__law_cell) = true := by decide +kernel

/-! #### _law_digits -/
abbrev s__law_digits : Stmt := topS 20
abbrev C__law_digits : Ck := mkCk ["cell", "sizes", "row", "rest", "seed", "k", "size", "twice"] [] [] [] ["int", "len", "range"]
def b__law_digits : Ss := (.cons (.own 2 (.lst .nil))
  (.cons (.asg (.nm 3) (.blt .int (.cons (.var 0) .nil)))
  (.cons (.ifs (.cmp .GtE (.var 3) (.bin .Pow (.int 10) (.int 18))) (.cons (.asg (.nm 3) (.bin .Sub (.var 3) (.bin .Pow (.int 10) (.int 18))))
  (.cons (.fr (.nm 6) (.ls (.var 1)) (.cons (.app 2 (.bin .Mod (.blt .int (.cons (.var 3) .nil)) (.var 6)))
  (.cons (.asg (.nm 3) (.bin .FloorDiv (.blt .int (.cons (.var 3) .nil)) (.var 6)))
  .nil)))
  (.cons (.frz 2)
  (.cons (.ret (.var 2))
  .nil)))) .nil)
  (.cons (.asg (.nm 4) (.bin .Mod (.blt .int (.cons (.var 3) .nil)) (.int 2147483629)))
  (.cons (.fr (.nm 5) (.r1 (.blt .len (.cons (.var 1) .nil))) (.cons (.asg (.nm 4) (.bin .Mod (.blt .int (.cons (.bin .Add (.bin .Add (.bin .Mult (.var 4) (.int 48271)) (.bin .Mult (.int 974711) (.var 5))) (.int 12345)) .nil)) (.int 2147483647)))
  (.cons (.asg (.nm 7) (.bin .Mod (.blt .int (.cons (.bin .Mult (.var 4) (.bin .Add (.bin .FloorDiv (.var 4) (.int 65537)) (.int 3))) .nil)) (.int 2147483629)))
  (.cons (.app 2 (.bin .Mod (.bin .FloorDiv (.var 7) (.int 19)) (.ix (.var 1) (.var 5))))
  .nil))))
  (.cons (.frz 2)
  (.cons (.ret (.var 2))
  .nil)))))))
theorem sc__law_digits : FnScope ["cell", "sizes", "row", "rest", "seed", "k", "size", "twice"] ["cell", "sizes"] (defScope s__law_digits) := C8.fnScope_by (by decide +kernel)
theorem ok__law_digits : okSs C__law_digits (defScope s__law_digits) b__law_digits (defBody s__law_digits) = true := by decide +kernel

/-! #### _law_alike -/
abbrev s__law_alike : Stmt := topS 21
abbrev C__law_alike : Ck := mkCk ["told", "due", "waiting", "pair", "k"] [] [] [] ["bool", "int", "isinstance", "len", "range", "str", "tuple"]
def b__law_alike : Ss := (.cons (.own 2 (.lst (.cons (.tup (.cons (.var 0) (.cons (.var 1) .nil))) .nil)))
  (.cons (.whl (.cmp .Gt (.blt .len (.cons (.var 2) .nil)) (.int 0)) (.cons (.popA (.nm 3) 2 .no)
  (.cons (.ifs (.isi (.ix (.var 3) (.int 1)) ["tuple"]) (.cons (.ifs (.bop false (.cons (.nt (.isi (.ix (.var 3) (.int 0)) ["tuple"])) (.cons (.cmp .NotEq (.blt .len (.cons (.ix (.var 3) (.int 0)) .nil)) (.blt .len (.cons (.ix (.var 3) (.int 1)) .nil))) .nil))) (.cons (.ret (.bl false))
  .nil) .nil)
  (.cons (.fr (.nm 4) (.r1 (.blt .len (.cons (.ix (.var 3) (.int 1)) .nil))) (.cons (.app 2 (.tup (.cons (.ix (.ix (.var 3) (.int 0)) (.var 4)) (.cons (.ix (.ix (.var 3) (.int 1)) (.var 4)) .nil))))
  .nil))
  .nil)) (.cons (.ifs (.isi (.ix (.var 3) (.int 1)) ["str"]) (.cons (.ifs (.bop false (.cons (.nt (.isi (.ix (.var 3) (.int 0)) ["str"])) (.cons (.cmp .NotEq (.ix (.var 3) (.int 0)) (.ix (.var 3) (.int 1))) .nil))) (.cons (.ret (.bl false))
  .nil) .nil)
  .nil) (.cons (.ifs (.bop false (.cons (.isi (.ix (.var 3) (.int 0)) ["bool"]) (.cons (.nt (.isi (.ix (.var 3) (.int 0)) ["int"])) (.cons (.cmp .NotEq (.ix (.var 3) (.int 0)) (.ix (.var 3) (.int 1))) .nil)))) (.cons (.ret (.bl false))
  .nil) .nil)
  .nil))
  .nil))
  .nil)))
  (.cons (.ret (.bl true))
  .nil)))
theorem sc__law_alike : FnScope ["told", "due", "waiting", "pair", "k"] ["told", "due"] (defScope s__law_alike) := C8.fnScope_by (by decide +kernel)
theorem ok__law_alike : okSs C__law_alike (defScope s__law_alike) b__law_alike (defBody s__law_alike) = true := by decide +kernel

/-! #### _law_drawn -/
abbrev s__law_drawn : Stmt := topS 22
abbrev C__law_drawn : Ck := mkCk ["row", "at", "size", "around", "names", "base", "digit", "left", "argument"] [(14, "_law_drawn")] [] [] ["int", "len"]
def b__law_drawn : Ss := (.cons (.asg (.nm 6) (.blt .int (.cons (.ix (.var 0) (.var 1)) .nil)))
  (.cons (.ifs (.cmp .Eq (.var 2) (.int 1)) (.cons (.ifs (.bop true (.cons (.cmp .Gt (.var 5) (.int 0)) (.cons (.cmp .Eq (.bin .Mod (.var 6) (.int 5)) (.int 0)) .nil))) (.cons (.ret (.bin .Sub (.var 3) (.var 5)))
  .nil) .nil)
  (.cons (.ifs (.bop true (.cons (.cmp .Gt (.var 3) (.int 0)) (.cons (.bop false (.cons (.cmp .Eq (.blt .len (.cons (.var 4) .nil)) (.int 0)) (.cons (.cmp .Lt (.bin .Mod (.var 6) (.int 5)) (.int 4)) .nil))) .nil))) (.cons (.ret (.bin .Mod (.bin .FloorDiv (.var 6) (.int 5)) (.var 3)))
  .nil) .nil)
  (.cons (.ret (.ix (.var 4) (.bin .Mod (.bin .FloorDiv (.var 6) (.int 5)) (.blt .len (.cons (.var 4) .nil)))))
  .nil))) .nil)
  (.cons (.ifs (.bop false (.cons (.cmp .Eq (.var 2) (.int 2)) (.cons (.cmp .Eq (.bin .Mod (.var 6) (.int 4)) (.int 0)) .nil))) (.cons (.ret (.tup (.cons (.str [116, 111]) (.cons (.call 14 (.cons (.var 0) (.cons (.bin .Add (.var 1) (.int 1)) (.cons (.bin .Sub (.var 2) (.int 1)) (.cons (.bin .Add (.var 3) (.int 1)) (.cons (.var 4) (.cons (.var 5) .nil))))))) .nil))))
  .nil) .nil)
  (.cons (.asg (.nm 7) (.bin .Add (.int 1) (.bin .Mod (.bin .FloorDiv (.var 6) (.int 4)) (.bin .Sub (.var 2) (.int 2)))))
  (.cons (.asg (.nm 8) (.call 14 (.cons (.var 0) (.cons (.bin .Add (.bin .Add (.var 1) (.int 1)) (.var 7)) (.cons (.bin .Sub (.bin .Sub (.var 2) (.int 1)) (.var 7)) (.cons (.var 3) (.cons (.var 4) (.cons (.var 5) .nil))))))))
  (.cons (.ifs (.bop false (.cons (.cmp .Eq (.bin .Mod (.var 6) (.int 4)) (.int 1)) (.cons (.cmp .Eq (.var 7) (.int 1)) .nil))) (.cons (.ret (.tup (.cons (.str [111, 102]) (.cons (.call 14 (.cons (.var 0) (.cons (.bin .Add (.var 1) (.int 1)) (.cons (.var 7) (.cons (.var 3) (.cons (.var 4) (.cons (.var 5) .nil))))))) (.cons (.var 8) .nil)))))
  .nil) .nil)
  (.cons (.ret (.tup (.cons (.str [111, 102]) (.cons (.tup (.cons (.str [116, 111]) (.cons (.call 14 (.cons (.var 0) (.cons (.bin .Add (.var 1) (.int 2)) (.cons (.bin .Sub (.var 7) (.int 1)) (.cons (.bin .Add (.var 3) (.int 1)) (.cons (.var 4) (.cons (.bin .Add (.var 3) (.int 1)) .nil))))))) .nil))) (.cons (.var 8) .nil)))))
  .nil)))))))
theorem sc__law_drawn : FnScope ["row", "at", "size", "around", "names", "base", "digit", "left", "argument"] ["row", "at", "size", "around", "names", "base"] (defScope s__law_drawn) := C8.fnScope_by (by decide +kernel)
theorem ok__law_drawn : okSs C__law_drawn (defScope s__law_drawn) b__law_drawn (defBody s__law_drawn) = true := by decide +kernel

/-! #### _law_named -/
abbrev s__law_named : Stmt := topS 23
abbrev C__law_named : Ck := mkCk ["code", "names", "mark"] [(15, "_law_named")] [] [] ["isinstance", "len", "str", "tuple"]
def b__law_named : Ss := (.cons (.ifs (.isi (.var 0) ["str"]) (.cons (.ret (.var 0))
  .nil) .nil)
  (.cons (.ifs (.nt (.isi (.var 0) ["tuple"])) (.cons (.ret (.ix (.var 1) (.bin .Sub (.bin .Sub (.blt .len (.cons (.var 1) .nil)) (.int 1)) (.var 0))))
  .nil) .nil)
  (.cons (.ifs (.cmp .Eq (.ix (.var 0) (.int 0)) (.str [116, 111])) (.cons (.ret (.tup (.cons (.str [116, 111]) (.cons (.bin .Add (.var 2) (.str [48])) (.cons (.call 15 (.cons (.ix (.var 0) (.int 1)) (.cons (.bin .Add (.var 1) (.lst (.cons (.bin .Add (.var 2) (.str [48])) .nil))) (.cons (.bin .Add (.var 2) (.str [48])) .nil)))) .nil)))))
  .nil) .nil)
  (.cons (.ret (.tup (.cons (.str [111, 102]) (.cons (.call 15 (.cons (.ix (.var 0) (.int 1)) (.cons (.var 1) (.cons (.bin .Add (.var 2) (.str [49])) .nil)))) (.cons (.call 15 (.cons (.ix (.var 0) (.int 2)) (.cons (.var 1) (.cons (.bin .Add (.var 2) (.str [50])) .nil)))) .nil)))))
  .nil))))
theorem sc__law_named : FnScope ["code", "names", "mark"] ["code", "names", "mark"] (defScope s__law_named) := C8.fnScope_by (by decide +kernel)
theorem ok__law_named : okSs C__law_named (defScope s__law_named) b__law_named (defBody s__law_named) = true := by decide +kernel

/-! #### _law_replaced -/
abbrev s__law_replaced : Stmt := topS 24
abbrev C__law_replaced : Ck := mkCk ["program", "name", "part"] [(16, "_law_replaced")] [] [] ["isinstance", "str"]
def b__law_replaced : Ss := (.cons (.ifs (.isi (.var 0) ["str"]) (.cons (.ret (.ifx (.cmp .Eq (.var 0) (.var 1)) (.var 2) (.var 0)))
  .nil) .nil)
  (.cons (.ifs (.cmp .Eq (.ix (.var 0) (.int 0)) (.str [116, 111])) (.cons (.ret (.tup (.cons (.str [116, 111]) (.cons (.ix (.var 0) (.int 1)) (.cons (.call 16 (.cons (.ix (.var 0) (.int 2)) (.cons (.var 1) (.cons (.var 2) .nil)))) .nil)))))
  .nil) .nil)
  (.cons (.ret (.tup (.cons (.str [111, 102]) (.cons (.call 16 (.cons (.ix (.var 0) (.int 1)) (.cons (.var 1) (.cons (.var 2) .nil)))) (.cons (.call 16 (.cons (.ix (.var 0) (.int 2)) (.cons (.var 1) (.cons (.var 2) .nil)))) .nil)))))
  .nil)))
theorem sc__law_replaced : FnScope ["program", "name", "part"] ["program", "name", "part"] (defScope s__law_replaced) := C8.fnScope_by (by decide +kernel)
theorem ok__law_replaced : okSs C__law_replaced (defScope s__law_replaced) b__law_replaced (defBody s__law_replaced) = true := by decide +kernel

/-! #### _law_code -/
abbrev s__law_code : Stmt := topS 25
abbrev C__law_code : Ck := mkCk ["program", "names", "k"] [(17, "_law_code")] [] [] ["isinstance", "len", "range", "str"]
def b__law_code : Ss := (.cons (.ifs (.isi (.var 0) ["str"]) (.cons (.fr (.nm 2) (.r1 (.blt .len (.cons (.var 1) .nil))) (.cons (.ifs (.cmp .Eq (.ix (.var 1) (.bin .Sub (.bin .Sub (.blt .len (.cons (.var 1) .nil)) (.int 1)) (.var 2))) (.var 0)) (.cons (.ret (.var 2))
  .nil) .nil)
  .nil))
  (.cons (.ret (.var 0))
  .nil)) .nil)
  (.cons (.ifs (.cmp .Eq (.ix (.var 0) (.int 0)) (.str [116, 111])) (.cons (.ret (.tup (.cons (.str [116, 111]) (.cons (.call 17 (.cons (.ix (.var 0) (.int 2)) (.cons (.bin .Add (.var 1) (.lst (.cons (.ix (.var 0) (.int 1)) .nil))) .nil))) .nil))))
  .nil) .nil)
  (.cons (.ret (.tup (.cons (.str [111, 102]) (.cons (.call 17 (.cons (.ix (.var 0) (.int 1)) (.cons (.var 1) .nil))) (.cons (.call 17 (.cons (.ix (.var 0) (.int 2)) (.cons (.var 1) .nil))) .nil)))))
  .nil)))
theorem sc__law_code : FnScope ["program", "names", "k"] ["program", "names"] (defScope s__law_code) := C8.fnScope_by (by decide +kernel)
theorem ok__law_code : okSs C__law_code (defScope s__law_code) b__law_code (defBody s__law_code) = true := by decide +kernel

/-! #### _law_leads -/
abbrev s__law_leads : Stmt := topS 26
abbrev C__law_leads : Ck := mkCk ["part", "turn"] [] [] [] ["isinstance", "tuple"]
def b__law_leads : Ss := (.cons (.ifs (.nt (.isi (.var 0) ["tuple"])) (.cons (.ret (.bl false))
  .nil) .nil)
  (.cons (.ret (.bop false (.cons (.cmp .Eq (.ix (.var 0) (.int 0)) (.str [111, 102])) (.cons (.cmp .Eq (.var 1) (.int 0)) .nil))))
  .nil))
theorem sc__law_leads : FnScope ["part", "turn"] ["part", "turn"] (defScope s__law_leads) := C8.fnScope_by (by decide +kernel)
theorem ok__law_leads : okSs C__law_leads (defScope s__law_leads) b__law_leads (defBody s__law_leads) = true := by decide +kernel

/-! #### _law_listed -/
abbrev s__law_listed : Stmt := topS 27
abbrev C__law_listed : Ck := mkCk ["code", "found", "waiting", "entry", "turn"] [(18, "_law_leads")] [] [] ["len"]
def b__law_listed : Ss := (.cons (.own 1 (.lst .nil))
  (.cons (.own 2 (.lst (.cons (.lst (.cons (.tup .nil) (.cons (.var 0) .nil))) .nil)))
  (.cons (.whl (.cmp .Gt (.blt .len (.cons (.var 2) .nil)) (.int 0)) (.cons (.popA (.nm 3) 2 .no)
  (.cons (.app 1 (.var 3))
  (.cons (.fr (.nm 4) (.ls (.lst (.cons (.int 1) (.cons (.int 0) .nil)))) (.cons (.ifs (.call 18 (.cons (.ix (.var 3) (.int 1)) (.cons (.var 4) .nil))) (.cons (.app 2 (.lst (.cons (.bin .Add (.ix (.var 3) (.int 0)) (.tup (.cons (.var 4) .nil))) (.cons (.ix (.ix (.var 3) (.int 1)) (.bin .Add (.int 1) (.var 4))) .nil))))
  .nil) .nil)
  .nil))
  .nil))))
  (.cons (.frz 1)
  (.cons (.ret (.var 1))
  .nil)))))
theorem sc__law_listed : FnScope ["code", "found", "waiting", "entry", "turn"] ["code"] (defScope s__law_listed) := C8.fnScope_by (by decide +kernel)
theorem ok__law_listed : okSs C__law_listed (defScope s__law_listed) b__law_listed (defBody s__law_listed) = true := by decide +kernel

/-! #### _law_redex -/
abbrev s__law_redex : Stmt := topS 28
abbrev C__law_redex : Ck := mkCk ["part"] [] [] [] ["isinstance", "tuple"]
def b__law_redex : Ss := (.cons (.ret (.bop true (.cons (.isi (.var 0) ["tuple"]) (.cons (.cmp .Eq (.ix (.var 0) (.int 0)) (.str [111, 102])) (.cons (.isi (.ix (.var 0) (.int 1)) ["tuple"]) (.cons (.cmp .Eq (.ix (.ix (.var 0) (.int 1)) (.int 0)) (.str [116, 111])) .nil))))))
  .nil)
theorem sc__law_redex : FnScope ["part"] ["part"] (defScope s__law_redex) := C8.fnScope_by (by decide +kernel)
theorem ok__law_redex : okSs C__law_redex (defScope s__law_redex) b__law_redex (defBody s__law_redex) = true := by decide +kernel

/-! #### _law_stepped -/
abbrev s__law_stepped : Stmt := topS 29
abbrev C__law_stepped : Ck := mkCk ["program", "path", "ups", "part", "turn", "k", "up"] [(16, "_law_replaced"), (17, "_law_code")] [] [] ["len", "range"]
def b__law_stepped : Ss := (.cons (.own 2 (.lst .nil))
  (.cons (.asg (.nm 3) (.var 0))
  (.cons (.fr (.nm 4) (.ls (.var 1)) (.cons (.app 2 (.var 3))
  (.cons (.asg (.nm 3) (.ifx (.cmp .Eq (.ix (.var 3) (.int 0)) (.str [116, 111])) (.ix (.var 3) (.int 2)) (.ix (.var 3) (.bin .Add (.int 1) (.var 4)))))
  .nil)))
  (.cons (.asg (.nm 3) (.call 16 (.cons (.ix (.ix (.var 3) (.int 1)) (.int 2)) (.cons (.ix (.ix (.var 3) (.int 1)) (.int 1)) (.cons (.ix (.var 3) (.int 2)) .nil)))))
  (.cons (.fr (.nm 5) (.r1 (.blt .len (.cons (.var 1) .nil))) (.cons (.asg (.nm 6) (.ix (.var 2) (.bin .Sub (.bin .Sub (.blt .len (.cons (.var 1) .nil)) (.int 1)) (.var 5))))
  (.cons (.ifs (.cmp .Eq (.ix (.var 6) (.int 0)) (.str [116, 111])) (.cons (.asg (.nm 3) (.tup (.cons (.str [116, 111]) (.cons (.ix (.var 6) (.int 1)) (.cons (.var 3) .nil)))))
  .nil) (.cons (.ifs (.cmp .Eq (.ix (.var 1) (.bin .Sub (.bin .Sub (.blt .len (.cons (.var 1) .nil)) (.int 1)) (.var 5))) (.int 0)) (.cons (.asg (.nm 3) (.tup (.cons (.str [111, 102]) (.cons (.var 3) (.cons (.ix (.var 6) (.int 2)) .nil)))))
  .nil) (.cons (.asg (.nm 3) (.tup (.cons (.str [111, 102]) (.cons (.ix (.var 6) (.int 1)) (.cons (.var 3) .nil)))))
  .nil))
  .nil))
  .nil)))
  (.cons (.ret (.call 17 (.cons (.var 3) (.cons (.lst .nil) .nil))))
  .nil))))))
theorem sc__law_stepped : FnScope ["program", "path", "ups", "part", "turn", "k", "up"] ["program", "path"] (defScope s__law_stepped) := C8.fnScope_by (by decide +kernel)
theorem ok__law_stepped : okSs C__law_stepped (defScope s__law_stepped) b__law_stepped (defBody s__law_stepped) = true := by decide +kernel

/-! #### _law_uses -/
abbrev s__law_uses : Stmt := topS 30
abbrev C__law_uses : Ck := mkCk ["body", "found", "waiting", "entry", "k", "turn"] [] [] [] ["int", "isinstance", "len", "range", "str", "tuple"]
def b__law_uses : Ss := (.cons (.own 1 (.lst .nil))
  (.cons (.own 2 (.lst (.cons (.lst (.cons (.tup .nil) (.cons (.var 0) (.cons (.int 0) .nil)))) .nil)))
  (.cons (.whl (.cmp .Gt (.blt .len (.cons (.var 2) .nil)) (.int 0)) (.cons (.popA (.nm 3) 2 .no)
  (.cons (.ifs (.isi (.ix (.var 3) (.int 1)) ["tuple"]) (.cons (.fr (.nm 4) (.r2 (.int 1) (.blt .len (.cons (.ix (.var 3) (.int 1)) .nil))) (.cons (.asg (.nm 5) (.bin .Sub (.bin .Sub (.blt .len (.cons (.ix (.var 3) (.int 1)) .nil)) (.int 1)) (.var 4)))
  (.cons (.app 2 (.lst (.cons (.bin .Add (.ix (.var 3) (.int 0)) (.tup (.cons (.var 5) .nil))) (.cons (.ix (.ix (.var 3) (.int 1)) (.bin .Add (.int 1) (.var 5))) (.cons (.bin .Add (.ix (.var 3) (.int 2)) (.blt .int (.cons (.cmp .Eq (.ix (.ix (.var 3) (.int 1)) (.int 0)) (.str [116, 111])) .nil))) .nil)))))
  .nil)))
  .nil) (.cons (.ifs (.bop true (.cons (.nt (.isi (.ix (.var 3) (.int 1)) ["str"])) (.cons (.cmp .Eq (.ix (.var 3) (.int 1)) (.ix (.var 3) (.int 2))) .nil))) (.cons (.app 1 (.ix (.var 3) (.int 0)))
  .nil) .nil)
  .nil))
  .nil)))
  (.cons (.frz 1)
  (.cons (.ret (.var 1))
  .nil)))))
theorem sc__law_uses : FnScope ["body", "found", "waiting", "entry", "k", "turn"] ["body"] (defScope s__law_uses) := C8.fnScope_by (by decide +kernel)
theorem ok__law_uses : okSs C__law_uses (defScope s__law_uses) b__law_uses (defBody s__law_uses) = true := by decide +kernel

/-! #### _law_left -/
abbrev s__law_left : Stmt := topS 31
abbrev C__law_left : Ck := mkCk ["code", "first", "other", "rest", "part", "turn", "use"] [(22, "_law_uses")] [] [] ["len"]
def b__law_left : Ss := (.cons (.ifs (.cmp .NotEq (.sl (.var 2) .no (.yes (.blt .len (.cons (.var 1) .nil)))) (.var 1)) (.cons (.ret (.lst (.cons (.var 2) .nil)))
  .nil) .nil)
  (.cons (.asg (.nm 3) (.sl (.var 2) (.yes (.blt .len (.cons (.var 1) .nil))) .no))
  (.cons (.ifs (.cmp .Eq (.ix (.var 3) (.int 0)) (.int 0)) (.cons (.ret (.lst (.cons (.bin .Add (.var 1) (.sl (.var 3) (.yes (.int 2)) .no)) .nil)))
  .nil) .nil)
  (.cons (.asg (.nm 4) (.var 0))
  (.cons (.fr (.nm 5) (.ls (.var 1)) (.cons (.asg (.nm 4) (.ix (.var 4) (.bin .Add (.int 1) (.var 5))))
  .nil))
  (.cons (.ret (.lc [("use", 6)] (.bin .Add (.bin .Add (.var 1) (.var 6)) (.sl (.var 3) (.yes (.int 1)) .no)) (.nm 6) (.ls (.call 22 (.cons (.ix (.ix (.var 4) (.int 1)) (.int 1)) .nil))) .no))
  .nil))))))
theorem sc__law_left : FnScope ["code", "first", "other", "rest", "part", "turn", "use"] ["code", "first", "other"] (defScope s__law_left) := C8.fnScope_by (by decide +kernel)
theorem ok__law_left : okSs C__law_left (defScope s__law_left) b__law_left (defBody s__law_left) = true := by decide +kernel

/-! #### _law_taken -/
abbrev s__law_taken : Stmt := topS 32
abbrev C__law_taken : Ck := mkCk ["code", "paths", "path"] [(15, "_law_named"), (21, "_law_stepped")] [] [] []
def b__law_taken : Ss := (.cons (.fr (.nm 2) (.ls (.var 1)) (.cons (.asg (.nm 0) (.call 21 (.cons (.call 15 (.cons (.var 0) (.cons (.lst .nil) (.cons (.str [66]) .nil)))) (.cons (.var 2) .nil))))
  .nil))
  (.cons (.ret (.var 0))
  .nil))
theorem sc__law_taken : FnScope ["code", "paths", "path"] ["code", "paths"] (defScope s__law_taken) := C8.fnScope_by (by decide +kernel)
theorem ok__law_taken : okSs C__law_taken (defScope s__law_taken) b__law_taken (defBody s__law_taken) = true := by decide +kernel

/-! #### _law_told -/
abbrev s__law_told : Stmt := topS 33
abbrev C__law_told : Ck := mkCk ["code", "paths", "path"] [(9, "redexes"), (10, "step")] [] [] []
def b__law_told : Ss := (.cons (.fr (.nm 2) (.ls (.var 1)) (.cons (.ifs (.cmp .NotIn (.var 2) (.call 9 (.cons (.var 0) .nil))) (.cons (.ret .non)
  .nil) .nil)
  (.cons (.asg (.nm 0) (.call 10 (.cons (.var 0) (.cons (.var 2) .nil))))
  .nil)))
  (.cons (.ret (.var 0))
  .nil))
theorem sc__law_told : FnScope ["code", "paths", "path"] ["code", "paths"] (defScope s__law_told) := C8.fnScope_by (by decide +kernel)
theorem ok__law_told : okSs C__law_told (defScope s__law_told) b__law_told (defBody s__law_told) = true := by decide +kernel

/-! #### law -/
abbrev s_law : Stmt := topS 34
abbrev C_law : Ck := mkCk ["script", "head", "one", "two", "three", "names", "sort", "first", "found", "picks", "k", "inner", "code", "first_path", "other", "item", "ways", "due", "way", "told"] [(9, "redexes"), (11, "_law_cell"), (12, "_law_digits"), (13, "_law_alike"), (14, "_law_drawn"), (19, "_law_listed"), (20, "_law_redex"), (23, "_law_left"), (24, "_law_taken"), (25, "_law_told")] [] [] ["int", "len", "range", "tuple"]
def b_law : Ss := (.cons (.asg (.nm 1) (.call 12 (.cons (.call 11 (.cons (.var 0) (.cons (.int 0) .nil))) (.cons (.lst (.cons (.int 4) (.cons (.int 21) (.cons (.int 12) (.cons (.int 12) .nil))))) .nil))))
  (.cons (.asg (.nm 2) (.call 12 (.cons (.call 11 (.cons (.var 0) (.cons (.int 1) .nil))) (.cons (.bin .Mult (.lst (.cons (.int 1000) .nil)) (.int 24)) .nil))))
  (.cons (.asg (.nm 3) (.call 12 (.cons (.call 11 (.cons (.var 0) (.cons (.int 2) .nil))) (.cons (.bin .Mult (.lst (.cons (.int 1000) .nil)) (.int 12)) .nil))))
  (.cons (.asg (.nm 4) (.call 12 (.cons (.call 11 (.cons (.var 0) (.cons (.int 3) .nil))) (.cons (.bin .Mult (.lst (.cons (.int 1000) .nil)) (.int 12)) .nil))))
  (.cons (.asg (.nm 5) (.lst (.cons (.str [97]) (.cons (.str [103]) (.cons (.str [120]) (.cons (.str [116, 111, 49]) .nil))))))
  (.cons (.asg (.nm 6) (.blt .int (.cons (.ix (.var 1) (.int 0)) .nil)))
  (.cons (.asg (.nm 7) (.call 14 (.cons (.var 2) (.cons (.int 0) (.cons (.bin .Add (.int 4) (.blt .int (.cons (.ix (.var 1) (.int 1)) .nil))) (.cons (.bin .Add (.int 1) (.blt .int (.cons (.cmp .Eq (.var 6) (.int 2)) .nil))) (.cons (.var 5) (.cons (.int 1) .nil))))))))
  (.cons (.ifs (.cmp .Eq (.var 6) (.int 0)) (.cons (.asg (.nm 11) (.tup (.cons (.str [111, 102]) (.cons (.tup (.cons (.str [116, 111]) (.cons (.call 14 (.cons (.var 3) (.cons (.int 0) (.cons (.bin .Add (.int 1) (.blt .int (.cons (.ix (.var 1) (.int 2)) .nil))) (.cons (.int 1) (.cons (.var 5) (.cons (.int 1) .nil))))))) .nil))) (.cons (.call 14 (.cons (.var 4) (.cons (.int 0) (.cons (.bin .Add (.int 1) (.blt .int (.cons (.ix (.var 1) (.int 3)) .nil))) (.cons (.int 0) (.cons (.var 5) (.cons (.int 0) .nil))))))) .nil)))))
  (.cons (.asg (.nm 12) (.tup (.cons (.str [111, 102]) (.cons (.tup (.cons (.str [116, 111]) (.cons (.var 7) .nil))) (.cons (.var 11) .nil)))))
  .nil)) (.cons (.ifs (.cmp .Eq (.var 6) (.int 1)) (.cons (.asg (.nm 11) (.tup (.cons (.str [111, 102]) (.cons (.tup (.cons (.str [116, 111]) (.cons (.call 14 (.cons (.var 3) (.cons (.int 0) (.cons (.bin .Add (.int 1) (.blt .int (.cons (.ix (.var 1) (.int 2)) .nil))) (.cons (.int 2) (.cons (.var 5) (.cons (.int 2) .nil))))))) .nil))) (.cons (.var 7) .nil)))))
  (.cons (.asg (.nm 12) (.tup (.cons (.str [111, 102]) (.cons (.tup (.cons (.str [116, 111]) (.cons (.var 11) .nil))) (.cons (.call 14 (.cons (.var 4) (.cons (.int 0) (.cons (.bin .Add (.int 1) (.blt .int (.cons (.ix (.var 1) (.int 3)) .nil))) (.cons (.int 0) (.cons (.var 5) (.cons (.int 0) .nil))))))) .nil)))))
  .nil)) (.cons (.ifs (.cmp .Eq (.var 6) (.int 2)) (.cons (.asg (.nm 12) (.tup (.cons (.str [111, 102]) (.cons (.tup (.cons (.str [116, 111]) (.cons (.tup (.cons (.str [116, 111]) (.cons (.var 7) .nil))) .nil))) (.cons (.call 14 (.cons (.var 3) (.cons (.int 0) (.cons (.bin .Add (.int 1) (.blt .int (.cons (.ix (.var 1) (.int 2)) .nil))) (.cons (.int 0) (.cons (.var 5) (.cons (.int 0) .nil))))))) .nil)))))
  (.cons (.asg (.nm 12) (.tup (.cons (.str [111, 102]) (.cons (.var 12) (.cons (.call 14 (.cons (.var 4) (.cons (.int 0) (.cons (.bin .Add (.int 1) (.blt .int (.cons (.ix (.var 1) (.int 3)) .nil))) (.cons (.int 0) (.cons (.var 5) (.cons (.int 0) .nil))))))) .nil)))))
  .nil)) (.cons (.asg (.nm 12) (.tup (.cons (.str [116, 111]) (.cons (.var 7) .nil))))
  .nil))
  .nil))
  .nil))
  (.cons (.asg (.nm 8) (.lc [("item", 15)] (.ix (.var 15) (.int 0)) (.nm 15) (.ls (.call 19 (.cons (.var 12) .nil))) (.yes (.call 20 (.cons (.ix (.var 15) (.int 1)) .nil)))))
  (.cons (.ifs (.nt (.call 13 (.cons (.call 9 (.cons (.var 12) .nil)) (.cons (.blt .tuple (.cons (.var 8) .nil)) .nil)))) (.cons (.ret (.bl false))
  .nil) .nil)
  (.cons (.asg (.nm 9) (.call 12 (.cons (.call 11 (.cons (.var 0) (.cons (.int 4) .nil))) (.cons (.bin .Mult (.lst (.cons (.int 1000) .nil)) (.int 10)) .nil))))
  (.cons (.fr (.nm 10) (.r1 (.int 5)) (.cons (.asg (.nm 13) (.ifx (.cmp .Gt (.blt .len (.cons (.var 8) .nil)) (.int 0)) (.ix (.var 8) (.bin .Mod (.blt .int (.cons (.ix (.var 9) (.bin .Mult (.int 2) (.var 10))) .nil)) (.blt .len (.cons (.var 8) .nil)))) (.tup .nil)))
  (.cons (.asg (.nm 14) (.ifx (.cmp .Gt (.blt .len (.cons (.var 8) .nil)) (.int 0)) (.ix (.var 8) (.bin .Mod (.blt .int (.cons (.ix (.var 9) (.bin .Add (.bin .Mult (.int 2) (.var 10)) (.int 1))) .nil)) (.blt .len (.cons (.var 8) .nil)))) (.tup .nil)))
  (.cons (.ifs (.cmp .NotEq (.var 13) (.var 14)) (.cons (.asg (.nm 16) (.lst (.cons (.bin .Add (.lst (.cons (.var 13) .nil)) (.call 23 (.cons (.var 12) (.cons (.var 13) (.cons (.var 14) .nil))))) (.cons (.bin .Add (.lst (.cons (.var 14) .nil)) (.call 23 (.cons (.var 12) (.cons (.var 14) (.cons (.var 13) .nil))))) .nil))))
  (.cons (.asg (.nm 17) (.call 24 (.cons (.var 12) (.cons (.ix (.var 16) (.int 0)) .nil))))
  (.cons (.fr (.nm 18) (.ls (.var 16)) (.cons (.asg (.nm 19) (.call 25 (.cons (.var 12) (.cons (.var 18) .nil))))
  (.cons (.ifs (.bop false (.cons (.cmp .Is (.var 19) .non) (.cons (.nt (.call 13 (.cons (.var 19) (.cons (.var 17) .nil)))) .nil))) (.cons (.ret (.bl false))
  .nil) .nil)
  .nil)))
  .nil))) .nil)
  .nil))))
  (.cons (.ret (.bl true))
  .nil)))))))))))))
theorem sc_law : FnScope ["script", "head", "one", "two", "three", "names", "sort", "first", "found", "picks", "k", "inner", "code", "first_path", "other", "item", "ways", "due", "way", "told"] ["script"] (defScope s_law) := C8.fnScope_by (by decide +kernel)
theorem ok_law : okSs C_law (defScope s_law) b_law (defBody s_law) = true := by decide +kernel
end K14

namespace K14
open PySem PySem.Spec PyProof.Rows L2 PD KC
local macro_rules | `(tactic| walk_at "x") => `(tactic| simp (config := { decide := false }) only [nc0, nc1, nc2, nc3, nc4, nc5, nc6, nc7, nc8, nc9, nc10, nc11, nc12, Int.add_zero, for_nil, for_cons, Int.reduceAdd, Int.reduceSub, st_ot, st_to, Int.reduceLT, Int.reduceLE, sl0, sl1, sl2, sl3, sl4, sl5, sl6, sl7, sl8, sl9, sl10, sl11, sl12, q_last, List.dropLast_concat, q_at0, q_at1, q_at2, q_at3, decide_true, decide_false, x_var, x_v0, x_v1, x_v11, x_v12, x_v13, x_v1t, x_v22, x_v23, x_v2t, x_w11, x_w12, x_w13, x_w1t, x_w22, x_w23, x_dnew, x_dget, x_dcm, x_chn, x_lrg, x_en, x_zp, x_zp3, x_fDt, x_fDf, x_fBd, x_d5, x_d6, x_trl, x_trt, x_trn, x_aug, x_ownd2, x_dput, x_dputl, x_dappl, x_pop, x_ins, x_ext, x_nwL, x_nwD, n_int, n_bl, n_str, n_lst, n_tup, n_non, g_int, k_int, bLv, x_ct, x_non, x_bl, x_int, x_str, x_bin, x_neg, x_cmp, x_bopt, x_bopv, x_nt, x_ntv, x_ifx, x_ix, x_ixt, x_sl, x_call, x_callk, x_blt, x_isi, x_mth, x_tup, x_lst, x_lc, x_lc2, x_d0, x_d1, x_d2, x_d3, x_d4, x_ts0, x_ts1, x_bs0, x_bs1, x_c0, x_c1,
    x_eo0, x_eo1, x_es0, x_es1, x_ls, x_r1, x_r2, x_rv, x_rr1, x_rr2, o_ls, o_tp, x_ft, x_ftst, x_fLt, x_fLf, x_fBl, x_fBi, x_fBs, x_fBb, x_fBt, x_trb, x_tri, x_nil, x_cons, x_asg, x_own, x_own2, x_frz, x_app, x_app2, x_appI, x_seti, x_set2, x_drop, x_ifs, x_whl, x_fr, x_ret, x_retN, x_pass, x_brk, x_cont, x_gnm, x_gtp, x_g0, x_gs, x_rt, x_nx,
    b_addI, b_addS, b_addL, b_addT, b_sub, b_mul, b_mulL, b_mulT, b_and, b_or, b_xor, b_div, b_mod, b_pow, b_shl, b_shr, e_ii, e_ss, e_bb, e_nn, e_ni, e_in, e_ns, e_sn, e_is, e_si, e_nb, e_bn, c_eq, c_ne, c_lt, c_le, c_gt, c_ge, c_in, c_ni, c_is, c_isn, i_l, i_t, i_s, i_d, in_l, in_t, in_d, e_tt, e_ll, f_lenD, f_lstD, f_lstS, f_srtL, f_srtD, f_maxL, f_minL, f_all, f_any, m_count, m_rfind, m_lix, l_l, l_t, l_s,
    f_lenL, f_lenT, f_lenS, f_intI, f_intB, f_str, f_tupL, f_tupT, f_lstL, f_lstT, f_abs, f_max, f_min, f_sum, m_join, m_find3, m_rfind4, m_sindex, s_lst, s_tup, wFrz, setAll, wipeE, t_str, t_lst, mtTy, o_int, o_bl, o_str, o_lst, o_tup, o_non, isT, String.reduceBEq, String.reduceEq, beq_self_eq_true, Nat.reduceAdd, Nat.reduceLT, Nat.reduceSub,
    List.map_cons, List.map_nil, List.length_cons, List.length_nil, List.set_cons_zero, List.set_cons_succ, List.any_cons, List.any_nil,
    PyData.bool.injEq, PyData.int.injEq, PyData.str.injEq, PyData.list.injEq, PyData.tuple.injEq, Option.some.injEq, Sl.fz.injEq, Sl.ow.injEq, Sl.ow2.injEq, Sl.od.injEq, Sl.odl.injEq, PyData.dict.injEq,
    exists_eq_left, exists_eq_left', exists_and_left, exists_and_right, and_assoc, true_and, and_true, if_true, if_false, ite_true, ite_false, decide_eq_true_eq, Bool.true_eq_false, Bool.false_eq_true, Bool.not_true, Bool.not_false, Bool.or_true, Bool.true_or, Bool.or_false, Bool.false_or, Bool.and_true, Bool.true_and, Bool.and_false, Bool.false_and, Nat.zero_lt_succ, reduceCtorEq])
open PL
def F_if : Ss := (.cons (.ifs (.cmp .NotEq (.var 13) (.var 14)) (.cons (.asg (.nm 16) (.lst (.cons (.bin .Add (.lst (.cons (.var 13) .nil)) (.call 23 (.cons (.var 12) (.cons (.var 13) (.cons (.var 14) .nil))))) (.cons (.bin .Add (.lst (.cons (.var 14) .nil)) (.call 23 (.cons (.var 12) (.cons (.var 14) (.cons (.var 13) .nil))))) .nil))))
  (.cons (.asg (.nm 17) (.call 24 (.cons (.var 12) (.cons (.ix (.var 16) (.int 0)) .nil))))
  (.cons (.fr (.nm 18) (.ls (.var 16)) (.cons (.asg (.nm 19) (.call 25 (.cons (.var 12) (.cons (.var 18) .nil))))
  (.cons (.ifs (.bop false (.cons (.cmp .Is (.var 19) .non) (.cons (.nt (.call 13 (.cons (.var 19) (.cons (.var 17) .nil)))) .nil))) (.cons (.ret (.bl false))
  .nil) .nil)
  .nil)))
  .nil))) .nil)
  .nil)
def law_T12 : Ss := (.cons (.ret (.bl true))
  .nil)
def law_T11 : Ss := (.cons (.fr (.nm 10) (.r1 (.int 5)) (.cons (.asg (.nm 13) (.ifx (.cmp .Gt (.blt .len (.cons (.var 8) .nil)) (.int 0)) (.ix (.var 8) (.bin .Mod (.blt .int (.cons (.ix (.var 9) (.bin .Mult (.int 2) (.var 10))) .nil)) (.blt .len (.cons (.var 8) .nil)))) (.tup .nil)))
  (.cons (.asg (.nm 14) (.ifx (.cmp .Gt (.blt .len (.cons (.var 8) .nil)) (.int 0)) (.ix (.var 8) (.bin .Mod (.blt .int (.cons (.ix (.var 9) (.bin .Add (.bin .Mult (.int 2) (.var 10)) (.int 1))) .nil)) (.blt .len (.cons (.var 8) .nil)))) (.tup .nil)))
  F_if)))
  law_T12)
def law_T10 : Ss := (.cons (.asg (.nm 9) (.call 12 (.cons (.call 11 (.cons (.var 0) (.cons (.int 4) .nil))) (.cons (.bin .Mult (.lst (.cons (.int 1000) .nil)) (.int 10)) .nil))))
  law_T11)
def law_T9 : Ss := (.cons (.ifs (.nt (.call 13 (.cons (.call 9 (.cons (.var 12) .nil)) (.cons (.blt .tuple (.cons (.var 8) .nil)) .nil)))) (.cons (.ret (.bl false))
  .nil) .nil)
  law_T10)
def law_T8 : Ss := (.cons (.asg (.nm 8) (.lc [("item", 15)] (.ix (.var 15) (.int 0)) (.nm 15) (.ls (.call 19 (.cons (.var 12) .nil))) (.yes (.call 20 (.cons (.ix (.var 15) (.int 1)) .nil)))))
  law_T9)
def law_T7 : Ss := (.cons (.ifs (.cmp .Eq (.var 6) (.int 0)) (.cons (.asg (.nm 11) (.tup (.cons (.str [111, 102]) (.cons (.tup (.cons (.str [116, 111]) (.cons (.call 14 (.cons (.var 3) (.cons (.int 0) (.cons (.bin .Add (.int 1) (.blt .int (.cons (.ix (.var 1) (.int 2)) .nil))) (.cons (.int 1) (.cons (.var 5) (.cons (.int 1) .nil))))))) .nil))) (.cons (.call 14 (.cons (.var 4) (.cons (.int 0) (.cons (.bin .Add (.int 1) (.blt .int (.cons (.ix (.var 1) (.int 3)) .nil))) (.cons (.int 0) (.cons (.var 5) (.cons (.int 0) .nil))))))) .nil)))))
  (.cons (.asg (.nm 12) (.tup (.cons (.str [111, 102]) (.cons (.tup (.cons (.str [116, 111]) (.cons (.var 7) .nil))) (.cons (.var 11) .nil)))))
  .nil)) (.cons (.ifs (.cmp .Eq (.var 6) (.int 1)) (.cons (.asg (.nm 11) (.tup (.cons (.str [111, 102]) (.cons (.tup (.cons (.str [116, 111]) (.cons (.call 14 (.cons (.var 3) (.cons (.int 0) (.cons (.bin .Add (.int 1) (.blt .int (.cons (.ix (.var 1) (.int 2)) .nil))) (.cons (.int 2) (.cons (.var 5) (.cons (.int 2) .nil))))))) .nil))) (.cons (.var 7) .nil)))))
  (.cons (.asg (.nm 12) (.tup (.cons (.str [111, 102]) (.cons (.tup (.cons (.str [116, 111]) (.cons (.var 11) .nil))) (.cons (.call 14 (.cons (.var 4) (.cons (.int 0) (.cons (.bin .Add (.int 1) (.blt .int (.cons (.ix (.var 1) (.int 3)) .nil))) (.cons (.int 0) (.cons (.var 5) (.cons (.int 0) .nil))))))) .nil)))))
  .nil)) (.cons (.ifs (.cmp .Eq (.var 6) (.int 2)) (.cons (.asg (.nm 12) (.tup (.cons (.str [111, 102]) (.cons (.tup (.cons (.str [116, 111]) (.cons (.tup (.cons (.str [116, 111]) (.cons (.var 7) .nil))) .nil))) (.cons (.call 14 (.cons (.var 3) (.cons (.int 0) (.cons (.bin .Add (.int 1) (.blt .int (.cons (.ix (.var 1) (.int 2)) .nil))) (.cons (.int 0) (.cons (.var 5) (.cons (.int 0) .nil))))))) .nil)))))
  (.cons (.asg (.nm 12) (.tup (.cons (.str [111, 102]) (.cons (.var 12) (.cons (.call 14 (.cons (.var 4) (.cons (.int 0) (.cons (.bin .Add (.int 1) (.blt .int (.cons (.ix (.var 1) (.int 3)) .nil))) (.cons (.int 0) (.cons (.var 5) (.cons (.int 0) .nil))))))) .nil)))))
  .nil)) (.cons (.asg (.nm 12) (.tup (.cons (.str [116, 111]) (.cons (.var 7) .nil))))
  .nil))
  .nil))
  .nil))
  law_T8)
def law_T6 : Ss := (.cons (.asg (.nm 7) (.call 14 (.cons (.var 2) (.cons (.int 0) (.cons (.bin .Add (.int 4) (.blt .int (.cons (.ix (.var 1) (.int 1)) .nil))) (.cons (.bin .Add (.int 1) (.blt .int (.cons (.cmp .Eq (.var 6) (.int 2)) .nil))) (.cons (.var 5) (.cons (.int 1) .nil))))))))
  law_T7)
def law_T0 : Ss := (.cons (.asg (.nm 1) (.call 12 (.cons (.call 11 (.cons (.var 0) (.cons (.int 0) .nil))) (.cons (.lst (.cons (.int 4) (.cons (.int 21) (.cons (.int 12) (.cons (.int 12) .nil))))) .nil))))
  (.cons (.asg (.nm 2) (.call 12 (.cons (.call 11 (.cons (.var 0) (.cons (.int 1) .nil))) (.cons (.bin .Mult (.lst (.cons (.int 1000) .nil)) (.int 24)) .nil))))
  (.cons (.asg (.nm 3) (.call 12 (.cons (.call 11 (.cons (.var 0) (.cons (.int 2) .nil))) (.cons (.bin .Mult (.lst (.cons (.int 1000) .nil)) (.int 12)) .nil))))
  (.cons (.asg (.nm 4) (.call 12 (.cons (.call 11 (.cons (.var 0) (.cons (.int 3) .nil))) (.cons (.bin .Mult (.lst (.cons (.int 1000) .nil)) (.int 12)) .nil))))
  (.cons (.asg (.nm 5) (.lst (.cons (.str [97]) (.cons (.str [103]) (.cons (.str [120]) (.cons (.str [116, 111, 49]) .nil))))))
  (.cons (.asg (.nm 6) (.blt .int (.cons (.ix (.var 1) (.int 0)) .nil)))
  law_T6))))))
-- 13 statements

structure HG (G : Gb) : Prop where
  f9 : G.fn 9 = sp_rdx
  f11 : G.fn 11 = PL.sp_cell
  f12 : G.fn 12 = PL.sp_digits
  f13 : G.fn 13 = sp_alike
  f14 : G.fn 14 = sp_drawn 60
  f19 : G.fn 19 = sp_listed
  f20 : G.fn 20 = sp_isrx
  f23 : G.fn 23 = sp_left
  f24 : G.fn 24 = sp_taken 60
  f25 : G.fn 25 = sp_taken 60
/-- the drawn code -/
structure Dc (c : Cd) : Prop where
  s : sz c ≤ 52
  cl : clo 0 c
  nn : Nn c
theorem tree_cd : ∀ c : Cd, tree (cdD c) = true
  | .ix _ => rfl
  | .nm _ => rfl
  | .fn b => by show (tree sTo && (tree (cdD b) && true)) = true; rw [tree_cd b]; rfl
  | .ap f a => by show (tree sOf && (tree (cdD f) && (tree (cdD a) && true))) = true; rw [tree_cd f, tree_cd a]; rfl
theorem tsz_cd : ∀ c : Cd, tsz (cdD c) ≤ 2 * sz c
  | .ix _ => (by decide : 1 ≤ 2 * 1)
  | .nm _ => (by decide : 1 ≤ 2 * 1)
  | .fn b => by have := tsz_cd b; show 1 + (1 + (tsz (cdD b) + 0)) ≤ 2 * (sz b + 1); omega
  | .ap f a => by have := tsz_cd f; have := tsz_cd a; show 1 + (1 + (tsz (cdD f) + (tsz (cdD a) + 0))) ≤ 2 * (sz f + sz a + 1); omega
theorem tree_bs : ∀ p : Pa, trees (p.map bD) = true
  | [] => rfl
  | b :: p => by rw [List.map_cons]; show (tree (bD b) && trees (p.map bD)) = true; rw [tree_bs p]; cases b <;> rfl
theorem tree_ps : ∀ ps : List Pa, trees (ps.map paD) = true
  | [] => rfl
  | p :: ps => by rw [List.map_cons]; show (trees (p.map bD) && trees (ps.map paD)) = true; rw [tree_ps ps, tree_bs p]; rfl
theorem tsz_bs : ∀ p : Pa, tszs (p.map bD) ≤ p.length
  | [] => Nat.le_refl _
  | b :: p => by have := tsz_bs p; rw [List.map_cons]; show tsz (bD b) + tszs (p.map bD) ≤ p.length + 1; cases b <;> (show 1 + _ ≤ _; omega)
theorem tsz_ps {n : Nat} : ∀ {ps : List Pa}, (∀ p ∈ ps, p.length ≤ n) → tszs (ps.map paD) ≤ ps.length * (n + 1)
  | [], _ => Nat.zero_le _
  | p :: ps, h => by
    have := tsz_ps fun q hq => h q (List.mem_cons_of_mem _ hq)
    have h1 := h p List.mem_cons_self
    have h2 := tsz_bs p
    rw [List.map_cons, List.length_cons, Nat.succ_mul]
    show (1 + tszs (p.map bD)) + tszs (ps.map paD) ≤ _
    omega
theorem rdx_len (c : Cd) : (rdx c).length ≤ sz c := by
  rw [rdx_all, List.length_map]
  have := List.length_filter_le (fun x : Pa × Cd => isRx x.2) (all c)
  rw [all_len] at this
  exact this
section
variable {G : Gb} {c : Cd} {P : DP} {s0 s1 s2 s3 s4 s5 s6 s7 s8 s9 s10 s11 s13 s14 s15 s16 s17 s18 s19 : Option Sl}
theorem _root_.KC.Rn.last {P : Cd → Prop} {L : List Pa} {c z : Cd} (h : Rn P L c z) : P z := by
  induction h with
  | nil h => exact h
  | cons _ _ _ ih => exact ih
theorem ite_f {A B : Prop} (h : B) : wTr (.bool true) fun b => if (!b) = true then A else B := by
  show if (!true) = true then A else B
  simpa using h
theorem PB_Sm {x : Cd} (hc : Dc c) (h : PB c x) : Sm 60 x := by
  have h1 := h.1
  have h2 := h.2
  have hs := hc.s
  have h3 : cube (sz c) ≤ 52 * 52 * 52 := cube_of (n := 52) hs hs hs |> fun h => h
  exact ⟨by omega, by omega⟩
theorem w_if (hg : HG G) (hc : Dc c) {p q : Pa} (hp : p ∈ rdx c) (hq : q ∈ rdx c) (hN : ∀ s16 s17 s18 s19, P.nx [s0, s1, s2, s3, s4, s5, s6, s7, s8, s9, s10, s11, some (.fz (cdD c)), some (.fz (paD p)), some (.fz (paD q)), s15, s16, s17, s18, s19]) :
    wSs G F_if P [s0, s1, s2, s3, s4, s5, s6, s7, s8, s9, s10, s11, some (.fz (cdD c)), some (.fz (paD p)), some (.fz (paD q)), s15, s16, s17, s18, s19] := by
  obtain ⟨x, hx⟩ := mem_rdx.mp hp
  obtain ⟨y, hy⟩ := mem_rdx.mp hq
  unfold F_if
  walk_at "x"
  rw [eq_pa]
  by_cases e : p = q
  · rw [if_neg (by rw [decide_eq_true e]; decide)]
    exact hN _ _ _ _
  rw [if_pos (by rw [decide_eq_false e]; rfl)]
  have hs := hc.s
  have e' : q ≠ p := fun h => e h.symm
  obtain ⟨z, r1, r2⟩ := meet hx hy e
  rw [left_L hx hy e] at r1
  rw [left_L hy hx e'] at r2
  have r1 := r1.imp fun x h => PB_Sm hc h
  have r2 := r2.imp fun x h => PB_Sm hc h
  have ll : ∀ p q : Pa, (leftL c p q).length ≤ 54 := fun p q => by
    unfold leftL
    split
    · exact Nat.le_of_ble_eq_true rfl
    · split
      · exact Nat.le_of_ble_eq_true rfl
      · rw [List.length_map]
        have h1 := uses_sz (bodyAt c p) 0
        have h2 : sz (bodyAt c p) ≤ sz c := by
          unfold bodyAt
          split
          · rename_i b a h
            have := part_sz h
            have : sz b + 1 + sz a + 1 ≤ sz c := this
            omega
          · exact Nat.le_refl _
        omega
      · exact Nat.le_of_ble_eq_true rfl
  have ln : ∀ p q : Pa, [paD p].length + ((leftL c p q).map paD).length ≤ sizeLine := fun p q => by
    have := ll p q
    rw [List.length_map, sizeLine_eq]; show 1 + _ ≤ _; omega
  have t1 : TkP 60 ⟨c, p :: leftL c p q, z⟩ := ⟨r1, hc.cl, hc.nn, by decide⟩
  have t2 : TkP 60 ⟨c, q :: leftL c q p, z⟩ := ⟨r2, hc.cl, hc.nn, by decide⟩
  have hz : ∀ {A B : Prop}, A → if (match cdD z with | PyData.none => true | x => false) = false then A else B := fun {A B} h => by cases z <;> exact h
  have az : tree (cdD z) = true ∧ tsz (cdD z) ≤ 8000000 := ⟨tree_cd z, by
    have := tsz_cd z
    have h2 : sz z ≤ 4000000 := r1.last.2
    omega⟩
  refine callE hg.f23 ⟨c, p, q⟩ ⟨⟨x, hx⟩, ⟨y, hy⟩, e, by show sz c ≤ _; omega⟩ ⟨ln p q, ?_⟩
  refine callE hg.f23 ⟨c, q, p⟩ ⟨⟨y, hy⟩, ⟨x, hx⟩, e', by show sz c ≤ _; omega⟩ ⟨ln q p, ?_⟩
  refine callE hg.f24 ⟨c, p :: leftL c p q, z⟩ t1 (callE hg.f25 ⟨c, p :: leftL c p q, z⟩ t1 ?_)
  refine hz (callE hg.f13 (cdD z) az (ite_f ?_))
  refine callE hg.f25 ⟨c, q :: leftL c q p, z⟩ t2 (hz (callE hg.f13 (cdD z) az (ite_f ?_)))
  exact hN _ _ _ _
def I_11 (s0 s1 s2 s3 s4 s5 s6 s7 s11 s15 : Option Sl) (c : Cd) (rs : List Int) (i : Nat) (ρ : PD.Env) : Prop := ∃ s10 s13 s14 s16 s17 s18 s19 : Option Sl, ρ = [s0, s1, s2, s3, s4, s5, s6, s7, some (.fz (.list ((rdx c).map paD))), some (.fz (.list (rs.map .int))), s10, s11, some (.fz (cdD c)), s13, s14, s15, s16, s17, s18, s19]
theorem pick_pa {ps : List Pa} {z : Int} (h : ps ≠ []) {Q : D → Prop} (hQ : ∀ p ∈ ps, Q (paD p)) : ∃ d, L2.atI (ps.map paD) (z % (ps.length : Int)) = some d ∧ Q d := by
  have hl : 0 < ps.length := List.length_pos_iff.mpr h
  have q0 : 0 ≤ z % (ps.length : Int) := Int.emod_nonneg _ (by omega)
  have q1 : z % (ps.length : Int) < ps.length := Int.emod_lt_of_pos _ (by omega)
  have hi : (z % (ps.length : Int)).toNat < ps.length := by omega
  exact ⟨_, atI_atI paD q0 (List.getElem?_eq_getElem hi), hQ _ (List.getElem_mem hi)⟩
theorem t11 (hg : HG G) (hc : Dc c) {rs : List Int} (hr : rs.length = 10) (hP : P.rt (.bool true)) :
    wSs G law_T11 P [s0, s1, s2, s3, s4, s5, s6, s7, some (.fz (.list ((rdx c).map paD))), some (.fz (.list (rs.map .int))), s10, s11, some (.fz (cdD c)), s13, s14, s15, s16, s17, s18, s19] := by
  unfold law_T11
  walk_at "x"
  refine ⟨by decide, by decide, for_of (I_11 s0 s1 s2 s3 s4 s5 s6 s7 s11 s15 c rs) ⟨_, _, _, _, _, _, _, rfl⟩ ?_ ?_⟩
  · rintro k d ρ' N hd ⟨s10, s13, s14, s16, s17, s18, s19, rfl⟩ hN
    obtain ⟨hk, rfl⟩ := rng0_at hd
    have hk : k < 5 := hk
    have hN : ∀ s10 s13 s14 s16 s17 s18 s19, N [s0, s1, s2, s3, s4, s5, s6, s7, some (.fz (.list ((rdx c).map paD))), some (.fz (.list (rs.map .int))), s10, s11, some (.fz (cdD c)), s13, s14, s15, s16, s17, s18, s19] := fun s10 s13 s14 s16 s17 s18 s19 => hN _ ⟨s10, s13, s14, s16, s17, s18, s19, rfl⟩
    show wG (.nm 10) _ _ fun ρ => wSs G (.cons _ (.cons _ F_if)) _ ρ
    by_cases e : rdx c = []
    · rw [e] at hN ⊢
      walk_at "x"
      unfold F_if
      walk_at "x"
      refine ⟨by decide, by decide, ?_⟩
      rw [if_neg (by decide)]
      exact hN _ _ _ _ _ _ _
    · have hl : 0 < (rdx c).length := List.length_pos_iff.mpr e
      walk_at "x"
      rw [List.length_map]
      rw [if_pos (by omega)]
      refine ⟨mulR (by omega) (by omega), _, atI_ints (by omega) (by omega), ?_⟩
      walk_at "x"
      refine ⟨by omega, pick_pa e fun p hp => ?_⟩
      rw [if_pos (by omega)]
      refine ⟨mulR (by omega) (by omega), _, atI_ints (by omega) (by omega), ?_⟩
      walk_at "x"
      refine ⟨by omega, pick_pa e fun q hq => ?_⟩
      exact w_if hg hc hp hq fun s16 s17 s18 s19 => hN _ _ _ s16 s17 s18 s19
  · rintro ρ' ⟨s10, s13, s14, s16, s17, s18, s19, rfl⟩
    unfold law_T12
    walk_at "x"
    exact hP
theorem t10 (hg : HG G) (hc : Dc c) {ns : List Int} (hP : P.rt (.bool true)) :
    wSs G law_T10 P [some (.fz (.list (ns.map .int))), s1, s2, s3, s4, s5, s6, s7, some (.fz (.list ((rdx c).map paD))), s9, s10, s11, some (.fz (cdD c)), s13, s14, s15, s16, s17, s18, s19] := by
  unfold law_T10
  walk_at "x"
  refine callC hg.f11 4 (by decide) fun z => ⟨by decide, by decide, by decide, callD1 (n := 10) hg.f12 (by decide) (by decide) fun rs hr _ => ?_⟩
  exact t11 hg hc hr hP
theorem t9 (hg : HG G) (hc : Dc c) {ns : List Int} (hP : P.rt (.bool true)) :
    wSs G law_T9 P [some (.fz (.list (ns.map .int))), s1, s2, s3, s4, s5, s6, s7, some (.fz (.list ((rdx c).map paD))), s9, s10, s11, some (.fz (cdD c)), s13, s14, s15, s16, s17, s18, s19] := by
  unfold law_T9
  walk_at "x"
  have hs := hc.s
  refine callE hg.f9 c (by show sz c ≤ _; omega) ?_
  have pl : ∀ p ∈ rdx c, p.length ≤ 52 := fun p hp => by
    obtain ⟨x, hx⟩ := mem_rdx.mp hp
    have := hx.plen
    have := dp_sz c
    omega
  have h1 := tsz_ps pl
  have h2 := rdx_len c
  have h3 : (rdx c).length * (52 + 1) ≤ 52 * 53 := Nat.mul_le_mul_right _ (by omega)
  refine callE hg.f13 (.tuple ((rdx c).map paD)) ⟨tree_ps _, by show 1 + tszs _ ≤ _; omega⟩ (ite_f ?_)
  exact t10 hg hc hP
theorem fm_redex (c : Cd) : (all c).filterMap (fun x => if isRx x.2 = true then some (paD x.1) else none) = (rdx c).map paD := by
  rw [rdx_all, List.map_map]
  induction all c with
  | nil => rfl
  | cons x l ih =>
    rw [List.filterMap_cons, List.filter_cons]
    by_cases h : isRx x.2 = true
    · rw [if_pos h, if_pos h, List.map_cons, ih]; rfl
    · rw [if_neg h, if_neg h, ih]
theorem t8 (hg : HG G) (hc : Dc c) {ns : List Int} (hP : P.rt (.bool true)) :
    wSs G law_T8 P [some (.fz (.list (ns.map .int))), s1, s2, s3, s4, s5, s6, s7, s8, s9, s10, s11, some (.fz (cdD c)), s13, s14, s15, s16, s17, s18, s19] := by
  unfold law_T8
  walk_at "x"
  have hs := hc.s
  refine callE hg.f19 c (by show sz c ≤ _; omega) ?_
  walk_at "x"
  refine ⟨by rw [List.length_map, all_len, sizeLine_eq]; omega, mapXof ltD (fun x => if isRx x.2 = true then some (paD x.1) else none) ?_ ?_⟩
  · intro x hx K hK
    show wG (.nm 15) (.list [paD x.1, cdD x.2]) _ _
    walk_at "x"
    refine callE hg.f20 x.2 True.intro (tr_b ?_)
    cases h : isRx x.2 with
    | true => rw [if_pos h] at hK; exact itT rfl hK
    | false => rw [if_neg (by rw [h]; decide)] at hK; exact itF rfl hK
  · rw [List.nil_append, fm_redex]
    exact t9 hg hc hP
/-! #### the drawn code -/
def names4 : List Str := [⟨#[97]⟩, ⟨#[103]⟩, ⟨#[120]⟩, ⟨#[116, 111, 49]⟩]
theorem names_nB : ∀ s ∈ names4, ¬ isB s := by
  intro s hs
  simp only [names4, List.mem_cons, List.not_mem_nil, or_false] at hs
  rcases hs with rfl | rfl | rfl | rfl <;> (unfold isB; decide)
theorem c_drawn (hg : HG G) {row : List Int} {size around base : Nat} {Q : D → Prop} (s1 : 1 ≤ size) (s2 : size ≤ 24) (rl : size ≤ row.length) (nn : ∀ z ∈ row, 0 ≤ z) (ba : base ≤ around) (hQ : ∀ c, sz c = size → clo around c → Nn c → Q (cdD c)) :
    (G.fn 14).pre [.list (row.map .int), .int 0, .int size, .int around, .list (names4.map .str), .int base] ∧ ∀ d, (G.fn 14).post [.list (row.map .int), .int 0, .int size, .int around, .list (names4.map .str), .int base] d → Q d := by
  refine callF hg.f14 ⟨row, 0, size, around, names4, base⟩ ⟨s1, by show size < 60; omega, by show 0 + size ≤ row.length; omega, nn, ba, fun _ => by show names4 ≠ []; decide⟩ fun d hd => ?_
  obtain ⟨c, rfl, h1, h2, h3⟩ := hd
  exact hQ c h1 h2 fun s hs => names_nB s (h3 s hs)
def sz0 : List Int := [4, 21, 12, 12]
structure Rw (rs : List Int) (n : Nat) : Prop where
  l : rs.length = n
  nn : ∀ z ∈ rs, 0 ≤ z
theorem nfn {b : Cd} (h : Nn b) : Nn (.fn b) := h
theorem nap {f a : Cd} (h : Nn f) (g : Nn a) : Nn (.ap f a) := fun s hs => (List.mem_append.mp hs).elim (h s) (g s)
theorem t7 (hg : HG G) {ns hd one two three : List Int} (dh : digs hd sz0) (r1 : Rw one 24) (r2 : Rw two 12) (r3 : Rw three 12) {first : Cd} {sort : Int} {n : Nat} (hsz : sz first ≤ 24) (hcl : clo n first) (hn : Nn first) (h2 : n = if sort = 2 then 2 else 1) (hP : P.rt (.bool true)) :
    wSs G law_T7 P [some (.fz (.list (ns.map .int))), some (.fz (.list (hd.map .int))), some (.fz (.list (one.map .int))), some (.fz (.list (two.map .int))), some (.fz (.list (three.map .int))), some (.fz (.list (names4.map .str))), some (.fz (.int sort)), some (.fz (cdD first)), none, none, none, none, none, none, none, none, none, none, none, none] := by
  have hl : hd.length = 4 := digs_len dh
  have d2 := digs_at (i := 2) dh (by omega)
  have d3 := digs_at (i := 3) dh (by omega)
  have d2 : 0 ≤ hd.getD 2 0 ∧ hd.getD 2 0 < 12 := d2
  have d3 : 0 ≤ hd.getD 3 0 ∧ hd.getD 3 0 < 12 := d3
  have a2 : L2.atI (hd.map PyData.int) 2 = some (.int (hd.getD 2 0)) := atI_ints (by decide) (by omega)
  have a3 : L2.atI (hd.map PyData.int) 3 = some (.int (hd.getD 3 0)) := atI_ints (by decide) (by omega)
  unfold law_T7
  walk_at "x"
  obtain ⟨v2, e2, l2⟩ : ∃ v : Nat, hd.getD 2 0 = v ∧ v < 12 := ⟨(hd.getD 2 0).toNat, by omega, by omega⟩
  obtain ⟨v3, e3, l3⟩ : ∃ v : Nat, hd.getD 3 0 = v ∧ v < 12 := ⟨(hd.getD 3 0).toNat, by omega, by omega⟩
  rw [e2] at a2
  rw [e3] at a3
  have s2 : (1 : Int) + v2 = ((1 + v2 : Nat) : Int) := by omega
  have s3 : (1 : Int) + v3 = ((1 + v3 : Nat) : Int) := by omega
  by_cases q0 : sort = 0
  · rw [if_pos q0]
    rw [if_neg (by omega)] at h2
    subst h2
    refine ⟨_, a2, ?_⟩
    walk_at "x"
    rw [s2]
    refine c_drawn hg (size := 1 + v2) (around := 1) (base := 1) (by omega) (by omega) (by rw [r2.l]; omega) r2.nn (Nat.le_refl _) fun x x1 x2 x3 => ?_
    refine ⟨_, a3, ?_⟩
    walk_at "x"
    rw [s3]
    refine c_drawn hg (size := 1 + v3) (around := 0) (base := 0) (by omega) (by omega) (by rw [r3.l]; omega) r3.nn (Nat.le_refl _) fun y y1 y2 y3 => ?_
    refine t8 (c := .ap (.fn first) (.ap (.fn x) y)) hg ⟨?_, ⟨hcl, x2, y2⟩, nap (nfn hn) (nap (nfn x3) y3)⟩ hP
    show sz first + 1 + (sz x + 1 + sz y + 1) + 1 ≤ 52
    omega
  · rw [if_neg q0]
    by_cases q1 : sort = 1
    · rw [if_pos q1]
      rw [if_neg (by omega)] at h2
      subst h2
      refine ⟨_, a2, ?_⟩
      walk_at "x"
      rw [s2]
      refine c_drawn hg (size := 1 + v2) (around := 2) (base := 2) (by omega) (by omega) (by rw [r2.l]; omega) r2.nn (Nat.le_refl _) fun x x1 x2 x3 => ?_
      refine ⟨_, a3, ?_⟩
      walk_at "x"
      rw [s3]
      refine c_drawn hg (size := 1 + v3) (around := 0) (base := 0) (by omega) (by omega) (by rw [r3.l]; omega) r3.nn (Nat.le_refl _) fun y y1 y2 y3 => ?_
      refine t8 (c := .ap (.fn (.ap (.fn x) first)) y) hg ⟨?_, ⟨⟨x2, hcl⟩, y2⟩, nap (nfn (nap (nfn x3) hn)) y3⟩ hP
      show sz x + 1 + sz first + 1 + 1 + sz y + 1 ≤ 52
      omega
    · rw [if_neg q1]
      by_cases q2 : sort = 2
      · rw [if_pos q2]
        rw [if_pos q2] at h2
        subst h2
        refine ⟨_, a2, ?_⟩
        walk_at "x"
        rw [s2]
        refine c_drawn hg (size := 1 + v2) (around := 0) (base := 0) (by omega) (by omega) (by rw [r2.l]; omega) r2.nn (Nat.le_refl _) fun x x1 x2 x3 => ?_
        refine ⟨_, a3, ?_⟩
        walk_at "x"
        rw [s3]
        refine c_drawn hg (size := 1 + v3) (around := 0) (base := 0) (by omega) (by omega) (by rw [r3.l]; omega) r3.nn (Nat.le_refl _) fun y y1 y2 y3 => ?_
        refine t8 (c := .ap (.ap (.fn (.fn first)) x) y) hg ⟨?_, ⟨⟨hcl, x2⟩, y2⟩, nap (nap (nfn (nfn hn)) x3) y3⟩ hP
        show sz first + 1 + 1 + sz x + 1 + sz y + 1 ≤ 52
        omega
      · rw [if_neg q2]
        rw [if_neg q2] at h2
        subst h2
        refine t8 (c := .fn first) hg ⟨?_, hcl, nfn hn⟩ hP
        show sz first + 1 ≤ 52
        omega
def okIn (ns : List Int) : Prop := ns.length ≤ 63 ∧ ∀ z ∈ ns, Builtin.Int.intBits z ≤ 1048576
theorem w_law (hg : HG G) (ds : List D) (h : (lawS okIn).pre ds) : wSs G b_law (endOf ((lawS okIn).post ds)) (env0 20 ds) := by
  obtain ⟨ns, hn, rfl⟩ := h
  show wSs G law_T0 _ [some (.fz (.list (ns.map .int))), none, none, none, none, none, none, none, none, none, none, none, none, none, none, none, none, none, none, none]
  unfold law_T0
  walk_at "x"
  refine callC hg.f11 0 (by decide) fun z0 => callD (ss := sz0) hg.f12 (by decide +kernel) (by decide) fun hd dh => ?_
  refine callC hg.f11 1 (by decide) fun z1 => ?_
  refine ⟨by decide, by decide, by decide, callD1 (n := 24) hg.f12 (by decide) (by decide) fun one l1 n1 => ?_⟩
  refine callC hg.f11 2 (by decide) fun z2 => ⟨by decide, by decide, by decide, callD1 (n := 12) hg.f12 (by decide) (by decide) fun two l2 n2 => ?_⟩
  refine callC hg.f11 3 (by decide) fun z3 => ⟨by decide, by decide, by decide, callD1 (n := 12) hg.f12 (by decide) (by decide) fun three l3 n3 => ?_⟩
  have hl : hd.length = 4 := digs_len dh
  have d0 := digs_at (i := 0) dh (by omega)
  have d1 := digs_at (i := 1) dh (by omega)
  have d1 : 0 ≤ hd.getD 1 0 ∧ hd.getD 1 0 < 21 := d1
  refine ⟨_, atI_ints (by decide) (by omega), ?_⟩
  walk_at "x"
  refine ⟨_, atI_ints (by decide) (by omega), ?_⟩
  walk_at "x"
  have d0 : 0 ≤ hd.getD 0 0 := d0.1
  show (G.fn 14).pre [_, _, .int (4 + hd.getD 1 0), .int (1 + if hd.getD 0 0 = 2 then 1 else 0), .list (names4.map .str), _] ∧ ∀ d, (G.fn 14).post [_, _, .int (4 + hd.getD 1 0), .int (1 + if hd.getD 0 0 = 2 then 1 else 0), .list (names4.map .str), _] d → _
  obtain ⟨v1, e1, l1'⟩ : ∃ v : Nat, hd.getD 1 0 = v ∧ v < 21 := ⟨(hd.getD 1 0).toNat, by omega, by omega⟩
  have s1 : (4 : Int) + v1 = ((4 + v1 : Nat) : Int) := by omega
  obtain ⟨n, en, ne⟩ : ∃ n : Nat, (1 + if hd.getD 0 0 = 2 then 1 else 0) = (n : Int) ∧ n = if hd.getD 0 0 = 2 then 2 else 1 := by
    by_cases q : hd.getD 0 0 = 2
    · exact ⟨2, by rw [if_pos q]; rfl, by rw [if_pos q]⟩
    · exact ⟨1, by rw [if_neg q]; rfl, by rw [if_neg q]⟩
  rw [e1, s1, en]
  have n1' : 1 ≤ n := by rw [ne]; split <;> omega
  refine c_drawn hg (size := 4 + v1) (around := n) (base := 1) (by omega) (by omega) (by rw [l1]; omega) (fun z hz => (n1 z hz).1) n1' fun x x1 x2 x3 => ?_
  exact t7 hg dh ⟨l1, fun z hz => (n1 z hz).1⟩ ⟨l2, fun z hz => (n2 z hz).1⟩ ⟨l3, fun z hz => (n3 z hz).1⟩ (by omega) x2 x3 ne rfl
end
end K14

namespace K14
open PySem PySem.Spec PyProof.Rows L2 PD KC
def fnD : Nat → FnS
  | 0 => sp_isfn | 1 => sp_isap | 2 => sp_parts | 3 => sp_partat | 4 => sp_with | 5 => sp_shf 60 | 6 => sp_put0 60 60 | 7 => sp_put 60 60 | 8 => sp_isrx | 9 => sp_rdx | 10 => sp_step 60 | 11 => PL.sp_cell | 12 => PL.sp_digits
  | 13 => sp_alike | 14 => sp_drawn 60 | 15 => sp_named 60 | 16 => sp_repld 60 | 17 => sp_code 60 | 18 => sp_leads | 19 => sp_listed | 20 => sp_isrx | 21 => sp_stepped 60 60 | 22 => sp_uses | 23 => sp_left | 24 => sp_taken 60 | 25 => sp_taken 60 | 27 => sp_shf2 60
  | _ => ⟨fun _ => False, fun _ _ => True⟩
def ctD : Nat → D := fun _ => .none
abbrev G0 : Gb := ⟨fnD, ctD⟩
abbrev Gx (k : Nat) (f : FnS) : Gb := ⟨fun j => if j = k then f else fnD j, ctD⟩
theorem hg : HG G0 := ⟨rfl, rfl, rfl, rfl, rfl, rfl, rfl, rfl, rfl, rfl⟩
abbrev WS (b : Ss) (n : Nat) (f : FnS) : Prop := ∀ ds : List D, f.pre ds → wSs G0 b (endOf (f.post ds)) (env0 n ds)
abbrev WX (G : Gb) (b : Ss) (n : Nat) (f : FnS) : Prop := ∀ ds : List D, f.pre ds → wSs G b (endOf (f.post ds)) (env0 n ds)
theorem w_is_function : WS b_is_function 1 sp_isfn := fun ds h => w_isfn ds h
theorem w_is_call : WS b_is_call 1 sp_isap := fun ds h => w_isap ds h
theorem w_parts_along : WS b__parts_along 5 sp_parts := fun ds h => w_parts (k0 := 0) (k1 := 1) rfl rfl ds h
theorem w_part_at : WS b_part_at 2 sp_partat := fun ds h => w_partat (k2 := 2) rfl ds h
theorem w_with_part : WS b_with_part 6 sp_with := fun ds h => w_with (k0 := 0) (k2 := 2) rfl rfl ds h
theorem w_shifted (m : Nat) : WX (Gx 5 (sp_shf m)) b_shifted 3 (sp_shf (m + 1)) := fun ds h => w_shf (k0 := 0) (k1 := 1) (k5 := 5) rfl rfl rfl ds h
theorem w__put (m : Nat) : WX (Gx 6 (sp_put0 m 60)) b__put 3 (sp_put0 (m + 1) 60) := fun ds h => w_put0 (k0 := 0) (k1 := 1) (k6 := 6) (k5 := 27) rfl rfl rfl rfl ds h
theorem w_putP : WS b_put 2 (sp_put 60 60) := fun ds h => w_put (k6 := 6) rfl ds h
theorem w_is_redex : WS b__is_redex 1 sp_isrx := fun ds h => w_isrx (k0 := 0) (k1 := 1) rfl rfl ds h
theorem w_redexes : WS b_redexes 5 sp_rdx := fun ds h => w_rdx (k0 := 0) (k1 := 1) (k8 := 8) rfl rfl rfl ds h
theorem w_stepP : WS b_step 3 (sp_step 60) := fun ds h => w_step (k3 := 3) (k4 := 4) (k7 := 7) (k8 := 8) rfl rfl rfl rfl ds h
theorem w_law_cell : WS b__law_cell 4 PL.sp_cell := fun ds h => PL.w_cell ds h
theorem w_law_digits : WS b__law_digits 8 PL.sp_digits := fun ds h => PL.w_digits ds h
theorem w_law_alike : WS b__law_alike 5 sp_alike := fun ds h => w_alike ds h
theorem w_law_drawn (m : Nat) : WX (Gx 14 (sp_drawn m)) b__law_drawn 9 (sp_drawn (m + 1)) := fun ds h => w_drawn (k := 14) rfl ds h
theorem w_law_named (m : Nat) : WX (Gx 15 (sp_named m)) b__law_named 3 (sp_named (m + 1)) := fun ds h => w_named (k := 15) rfl ds h
theorem w_law_replaced (m : Nat) : WX (Gx 16 (sp_repld m)) b__law_replaced 3 (sp_repld (m + 1)) := fun ds h => w_repld (k := 16) rfl ds h
theorem w_law_code (m : Nat) : WX (Gx 17 (sp_code m)) b__law_code 3 (sp_code (m + 1)) := fun ds h => w_code (k := 17) rfl ds h
theorem w_law_leads : WS b__law_leads 2 sp_leads := fun ds h => w_leads ds h
theorem w_law_listed : WS b__law_listed 5 sp_listed := fun ds h => w_listed (k18 := 18) rfl ds h
theorem w_law_redex : WS b__law_redex 1 sp_isrx := fun ds h => w_lredex ds h
theorem w_law_stepped : WS b__law_stepped 7 (sp_stepped 60 60) := fun ds h => w_stepped (k16 := 16) (k17 := 17) rfl rfl ds h
theorem w_law_uses : WS b__law_uses 6 sp_uses := fun ds h => w_uses ds h
theorem w_law_left : WS b__law_left 7 sp_left := fun ds h => w_left (k22 := 22) rfl ds h
theorem w_law_taken : WS b__law_taken 3 (sp_taken 60) := fun ds h => w_taken (n := 0) (k15 := 15) (k21 := 21) rfl rfl ds h
theorem w_law_told : WS b__law_told 3 (sp_taken 60) := fun ds h => w_told (k9 := 9) (k10 := 10) rfl rfl ds h
theorem w_lawA : WS b_law 20 (lawS okIn) := fun ds h => w_law hg ds h
abbrev sp_put0_60 (m : Nat) : FnS := sp_put0 m 60
theorem sh_shf : Sh (sp_shf2 60) (sp_shf 60) [.int 0] := by
  rintro xs ⟨⟨c, i⟩, hp, rfl⟩
  refine ⟨⟨⟨c, i, 0⟩, hp, rfl⟩, fun d hd => ?_⟩
  rintro ⟨c', i'⟩ hp' e
  have e1 : c = c' := cdD_inj _ _ (List.cons.inj e).1
  have e2 : i = i' := nat_inj (List.cons.inj (List.cons.inj e).2).1
  subst e1 e2
  exact hd ⟨c, i, 0⟩ hp rfl
end K14

/-! defs whose last parameters have values where they lack -/
namespace PD
open PySem PySem.Spec PyProof.Rows L2
section
variable {P : Program} {w : World} {K : PySem.W.Frag} {mg : Str → Option Value} {base : Heap} {k : Nat} {G : Gb}
theorem fn_okV {x : Str} {st : Stmt} {f : Addr} {fd : FuncData} {ps : List Str} {C : Ck} {ss : Ss} {fs : FnS} {dvs : List V}
    (kn : Known P w K mg base C G k) (F : FunD K x x (defArgs st) (defBody st) (defScope st) dvs [] f fd) (S : FnScope C.N ps (defScope st)) (hok : okSs C (defScope st) ss (defBody st) = true) (hk : 1 ≤ k) (har : ∀ ds, fs.pre ds → ds.length = ps.length)
    (hw : ∀ ds, fs.pre ds → wSs G ss (endOf (fs.post ds)) (env0 C.N.length ds)) : FnOk P w K mg base CX0 (k + 1) f fd ps (spD ⟨K, P, w⟩ fs) := by
  obtain ⟨oc, od, dV, kV, doc, pm, an, cdv, ct, osl, rfl, lk, hcd, _, _⟩ := F.ex
  refine fn_of lk hcd S (fun vs H Q E ⟨F0, ds, s, q, h, _⟩ => by rw [da_len q]; exact har ds h) fun A outer s H vs Q E hr ⟨F0, ds, sm, q, h, kq⟩ => ?_
  have db : DB (cxOf CX0 P w K mg base C.N x (defScope st) f cdv A outer s H E).nox C G (defScope st) :=
    ⟨⟨rfl, S.nd, rfl, rfl, hr.mono hk, kn.bl, fun j y hy => ⟨let ⟨a, fd, ps, ds, dvs, dd, f0, h1, h2, h3, h4, h5, h6, h7⟩ := (kn.fn j y hy).ex; ⟨a, fd, ps, k, ds, dvs, dd, f0, h1, h2, h3, h4, h5 P w, h6, hr, h7⟩⟩,
      fun j y n ks hy => ⟨let ⟨a, fd, ps, h1, h2, h3, h4⟩ := (kn.fk j y n ks hy).ex; ⟨a, fd, ps, k, h1, h2, h3, h4, hr⟩⟩, fun j y hy => let ⟨u, v, e1, e2, e3⟩ := kn.ct j y hy; ⟨u, v, e1, e2, e3 P w⟩⟩, S.kind, fun _ => rfl, PassesOwn.never⟩
  refine ⟨_, (sSs db ss (defBody st) hok).nox, ?_⟩
  exact ⟨F0, H, F0, F0, _, endOf (fs.post ds), start_R sm q, Same.refl F0, hw ds h, ⟨fun F' ρ σ H' r _ hd => kq .none .non F' H' hd r.ext r.sub .non, fun _ _ _ _ _ _ hb => hb.elim, fun _ _ _ _ _ _ hb => hb.elim, fun v F' H' d' e s' rv hd => kq d' v F' H' hd e s' rv⟩⟩
/-- a def with values dd for its last parameters -/
structure DnV (K : PySem.W.Frag) (mg : Str → Option Value) (x : Str) (st : Stmt) (ps : List Str) (dd : List D) : Prop where
  ex : ∃ (f : Addr) (fd : FuncData) (dvs : List V), FunD K x x (defArgs st) (defBody st) (defScope st) dvs [] f fd ∧ mg x = some (.ref f) ∧ Binds K fd ps [] ∧ (∃ ds, Vals dvs ds ∧ Binds K fd ps ds) ∧ ∀ P w F, RpAll ⟨K, P, w⟩ F dvs dd
theorem DnV.fnB {x : Str} {st : Stmt} {ps : List Str} {dd : List D} (d : DnV K mg x st ps dd) {C : Ck} {ss : Ss} {fs : FnS}
    (kn : Known P w K mg base C G k) (S : FnScope C.N ps (defScope st)) (hok : okSs C (defScope st) ss (defBody st) = true) (hk : 1 ≤ k) (har : ∀ ds, fs.pre ds → ds.length = ps.length)
    (hw : ∀ ds, fs.pre ds → wSs G ss (endOf (fs.post ds)) (env0 C.N.length ds)) : FnB P w K mg base (k + 1) x fs :=
  let ⟨f, fd, dvs, F, hm, hb, _, _⟩ := d.ex
  ⟨f, fd, ps, [], [], [], fs, hm, F.kp, hb, .nil, fun _ _ _ => .nil, fn_okV kn F S hok hk har hw, Sh.self fs⟩
/-- .. called without them -/
theorem DnV.fnD {x : Str} {st : Stmt} {ps : List Str} {dd : List D} (d : DnV K mg x st ps dd) {C : Ck} {ss : Ss} {fs f' : FnS}
    (kn : Known P w K mg base C G k) (S : FnScope C.N ps (defScope st)) (hok : okSs C (defScope st) ss (defBody st) = true) (hk : 1 ≤ k) (har : ∀ ds, fs.pre ds → ds.length = ps.length)
    (hw : ∀ ds, fs.pre ds → wSs G ss (endOf (fs.post ds)) (env0 C.N.length ds)) (sh : Sh f' fs dd) : FnB P w K mg base (k + 1) x f' :=
  let ⟨f, fd, dvs, F, hm, _, ⟨ds, hv, hb⟩, hd⟩ := d.ex
  ⟨f, fd, ps, ds, dvs, dd, fs, hm, F.kp, hb, hv, hd, fn_okV kn F S hok hk har hw, sh⟩
theorem dnv_of {h : Heap} {x : Str} {st : Stmt} {ps : List Str} {f T : Addr} {od an : Option Addr} {sl : Array (Option Value)} {oc kV dc pm cd ct : Value} {o : Obj} {its : List Value} {n : Nat} {dvs : List V} {dd : List D} (X : K.In h) (Gm : h.Ns mainGlobals mg)
    (a : PySem.W.nsIn K mainGlobals x = some (some (.ref f))) (l : K.lookup f = some ⟨oc, od, .func (PySem.W.fnOf x x (defArgs st) (defBody st) (defScope st) (.ref T) kV dc pm an cd ct), sl⟩) (c : PySem.W.codeIn K cd x = true) (kp : PySem.W.keepIn K (.ref f) = true)
    (lT : K.lookup T = some o) (oT : o.data = .seq its.toArray n) (rT : Vals dvs its) (hd : ∀ P w F, RpAll ⟨K, P, w⟩ F dvs dd) (hne : dvs ≠ []) (hle : dvs.length ≤ ps.length)
    (hb : ∀ (T : Addr) (kV doc pm : Value) (an : Option Addr) (cdv ct : Value) (us its : List Value), us.length = ps.length → its.length = dvs.length →
      ∃ k, bindArgs (PySem.W.fnOf x x (defArgs st) (defBody st) (defScope st) (.ref T) kV doc pm an cdv ct) ⟨us, []⟩ = seqItems? (.ref T) >>= k ∧ k (some its.toArray) = pure (ps.zip (us ++ its.drop dvs.length)))
    (hb0 : ∀ (T : Addr) (kV doc pm : Value) (an : Option Addr) (cdv ct : Value) (us its : List Value), us.length = ps.length - dvs.length → its.length = dvs.length →
      ∃ k, bindArgs (PySem.W.fnOf x x (defArgs st) (defBody st) (defScope st) (.ref T) kV doc pm an cdv ct) ⟨us, []⟩ = seqItems? (.ref T) >>= k ∧ k (some its.toArray) = pure (ps.zip (us ++ its.drop 0))) : DnV K mg x st ps dd := by
  have F : FunD K x x (defArgs st) (defBody st) (defScope st) dvs [] f _ := ⟨⟨oc, od, .ref T, kV, dc, pm, an, cd, ct, sl, rfl, l, c, .inr ⟨hne, T, o, its, n, rfl, lT, oT, rT⟩, .inl rfl⟩, kp⟩
  obtain ⟨ds, h1, h2⟩ := F.binds1 (ps := ps) ps.length dvs.length hne (by omega) hb
  rw [List.drop_length] at h1
  cases h1
  obtain ⟨ds, h3, h4⟩ := F.binds1 (ps := ps) (ps.length - dvs.length) 0 hne (by omega) hb0
  exact ⟨f, _, dvs, F, PySem.W.mg_of X Gm a, h2, ⟨ds, h3, h4⟩, hd⟩
theorem DnV.bot {x : Str} {st : Stmt} {ps : List Str} {dd : List D} (d : DnV K mg x st ps dd) {f : FnS} (hf : ∀ ds, ¬ f.pre ds) : FnB P w K mg base k x f :=
  let ⟨a, fd, dvs, F, hm, hb, _, _⟩ := d.ex
  ⟨a, fd, ps, [], [], [], f, hm, F.kp, hb, .nil, fun _ _ _ => .nil, fnok_bot hf, Sh.self f⟩
end
end PD

namespace K14
open PySem PySem.Spec PyProof.Rows L2 PD KC
theorem finish {P : Program} {w : World} {K : PySem.W.Frag} {mg : Str → Option Value} {h : Heap} {fa : Addr} (hfa : mg "law" = some (.ref fa))
    (d_is_function : PD.Dn K mg "is_function" s_is_function ["code"])
    (d_is_call : PD.Dn K mg "is_call" s_is_call ["code"])
    (d__parts_along : PD.Dn K mg "_parts_along" s__parts_along ["code", "path"])
    (d_part_at : PD.Dn K mg "part_at" s_part_at ["code", "path"])
    (d_with_part : PD.Dn K mg "with_part" s_with_part ["code", "path", "part"])
    (d_shifted : PD.DnV K mg "shifted" s_shifted ["code", "by", "above"] [.int 0])
    (d__put : PD.Dn K mg "_put" s__put ["code", "argument", "depth"])
    (d_put : PD.Dn K mg "put" s_put ["body", "argument"])
    (d__is_redex : PD.Dn K mg "_is_redex" s__is_redex ["code"])
    (d_redexes : PD.Dn K mg "redexes" s_redexes ["code"])
    (d_step : PD.Dn K mg "step" s_step ["code", "path"])
    (d__law_cell : PD.Dn K mg "_law_cell" s__law_cell ["script", "k"])
    (d__law_digits : PD.Dn K mg "_law_digits" s__law_digits ["cell", "sizes"])
    (d__law_alike : PD.Dn K mg "_law_alike" s__law_alike ["told", "due"])
    (d__law_drawn : PD.Dn K mg "_law_drawn" s__law_drawn ["row", "at", "size", "around", "names", "base"])
    (d__law_named : PD.Dn K mg "_law_named" s__law_named ["code", "names", "mark"])
    (d__law_replaced : PD.Dn K mg "_law_replaced" s__law_replaced ["program", "name", "part"])
    (d__law_code : PD.Dn K mg "_law_code" s__law_code ["program", "names"])
    (d__law_leads : PD.Dn K mg "_law_leads" s__law_leads ["part", "turn"])
    (d__law_listed : PD.Dn K mg "_law_listed" s__law_listed ["code"])
    (d__law_redex : PD.Dn K mg "_law_redex" s__law_redex ["part"])
    (d__law_stepped : PD.Dn K mg "_law_stepped" s__law_stepped ["program", "path"])
    (d__law_uses : PD.Dn K mg "_law_uses" s__law_uses ["body"])
    (d__law_left : PD.Dn K mg "_law_left" s__law_left ["code", "first", "other"])
    (d__law_taken : PD.Dn K mg "_law_taken" s__law_taken ["code", "paths"])
    (d__law_told : PD.Dn K mg "_law_told" s__law_told ["code", "paths"])
    (d_law : PD.Dn K mg "law" s_law ["script"])
    (n_bool : mg "bool" = none)
    (n_int : mg "int" = none)
    (n_isinstance : mg "isinstance" = none)
    (n_len : mg "len" = none)
    (n_range : mg "range" = none)
    (n_reversed : mg "reversed" = none)
    (n_str : mg "str" = none)
    (n_tuple : mg "tuple" = none) :
    ∃ fd : FuncData, (∀ (s : Shared) (u : Value), BindsTo s fd ⟨[u], []⟩ [("script", u)]) ∧ ∀ base : Heap, K.In base → base.Ns mainGlobals mg → FnOk P w K mg base CX0 126 fa fd ["script"] (spD ⟨K, P, w⟩ (lawS okIn)) := by
  have kn : ∀ base : Heap, (K.In base ∧ base.Ns mainGlobals mg) → Known P w K mg base C_law G0 125 := by
    intro base _
    have f_is_function : FnB P w K mg base 2 "is_function" (G0.fn 0) := d_is_function.fnB (known (P := P) (w := w) (base := base) (G := G0) (k := 1) (.cons n_isinstance (.cons n_tuple .nil)) .nil .nil .nil) sc_is_function ok_is_function (by decide) (by intro ds h; first | (obtain ⟨_, rfl, _⟩ := h; rfl) | (obtain ⟨_, rfl⟩ := h; rfl) | (obtain ⟨_, _, rfl, _⟩ := h; rfl) | (obtain ⟨_, _, rfl⟩ := h; rfl) | (obtain ⟨_, _, _, rfl, _⟩ := h; rfl) | (obtain ⟨_, _, _, rfl⟩ := h; rfl) | (obtain ⟨_, _, _, _, rfl, _⟩ := h; rfl) | (obtain ⟨_, _, _, _, rfl⟩ := h; rfl) | (obtain ⟨_, _, _, _, _, rfl, _⟩ := h; rfl) | (obtain ⟨_, _, _, _, _, rfl⟩ := h; rfl) | (obtain ⟨_, _, _, _, _, _, rfl, _⟩ := h; rfl) | (obtain ⟨_, _, _, _, _, _, rfl⟩ := h; rfl) | (obtain ⟨_, _, _, _, _, _, _, rfl, _⟩ := h; rfl) | (obtain ⟨_, _, _, _, _, _, _, rfl⟩ := h; rfl) | (obtain ⟨_, _, _, _, _, _, _, _, rfl, _⟩ := h; rfl) | (obtain ⟨_, _, _, _, _, _, _, _, rfl⟩ := h; rfl) | (obtain ⟨_, _, _, _, _, _, _, _, _, rfl, _⟩ := h; rfl) | (obtain ⟨_, _, _, _, _, _, _, _, _, rfl⟩ := h; rfl) | (obtain ⟨_, _, rfl⟩ := h; rfl) | (cases h; rfl)) w_is_function
    have f_is_call : FnB P w K mg base 2 "is_call" (G0.fn 1) := d_is_call.fnB (known (P := P) (w := w) (base := base) (G := G0) (k := 1) (.cons n_isinstance (.cons n_tuple .nil)) .nil .nil .nil) sc_is_call ok_is_call (by decide) (by intro ds h; first | (obtain ⟨_, rfl, _⟩ := h; rfl) | (obtain ⟨_, rfl⟩ := h; rfl) | (obtain ⟨_, _, rfl, _⟩ := h; rfl) | (obtain ⟨_, _, rfl⟩ := h; rfl) | (obtain ⟨_, _, _, rfl, _⟩ := h; rfl) | (obtain ⟨_, _, _, rfl⟩ := h; rfl) | (obtain ⟨_, _, _, _, rfl, _⟩ := h; rfl) | (obtain ⟨_, _, _, _, rfl⟩ := h; rfl) | (obtain ⟨_, _, _, _, _, rfl, _⟩ := h; rfl) | (obtain ⟨_, _, _, _, _, rfl⟩ := h; rfl) | (obtain ⟨_, _, _, _, _, _, rfl, _⟩ := h; rfl) | (obtain ⟨_, _, _, _, _, _, rfl⟩ := h; rfl) | (obtain ⟨_, _, _, _, _, _, _, rfl, _⟩ := h; rfl) | (obtain ⟨_, _, _, _, _, _, _, rfl⟩ := h; rfl) | (obtain ⟨_, _, _, _, _, _, _, _, rfl, _⟩ := h; rfl) | (obtain ⟨_, _, _, _, _, _, _, _, rfl⟩ := h; rfl) | (obtain ⟨_, _, _, _, _, _, _, _, _, rfl, _⟩ := h; rfl) | (obtain ⟨_, _, _, _, _, _, _, _, _, rfl⟩ := h; rfl) | (obtain ⟨_, _, rfl⟩ := h; rfl) | (cases h; rfl)) w_is_call
    have f__parts_along : FnB P w K mg base 3 "_parts_along" (G0.fn 2) := d__parts_along.fnB (known (P := P) (w := w) (base := base) (G := G0) (k := 2) .nil (.cons (f_is_function.mono (by omega)) (.cons (f_is_call.mono (by omega)) .nil)) .nil .nil) sc__parts_along ok__parts_along (by decide) (by intro ds h; first | (obtain ⟨_, rfl, _⟩ := h; rfl) | (obtain ⟨_, rfl⟩ := h; rfl) | (obtain ⟨_, _, rfl, _⟩ := h; rfl) | (obtain ⟨_, _, rfl⟩ := h; rfl) | (obtain ⟨_, _, _, rfl, _⟩ := h; rfl) | (obtain ⟨_, _, _, rfl⟩ := h; rfl) | (obtain ⟨_, _, _, _, rfl, _⟩ := h; rfl) | (obtain ⟨_, _, _, _, rfl⟩ := h; rfl) | (obtain ⟨_, _, _, _, _, rfl, _⟩ := h; rfl) | (obtain ⟨_, _, _, _, _, rfl⟩ := h; rfl) | (obtain ⟨_, _, _, _, _, _, rfl, _⟩ := h; rfl) | (obtain ⟨_, _, _, _, _, _, rfl⟩ := h; rfl) | (obtain ⟨_, _, _, _, _, _, _, rfl, _⟩ := h; rfl) | (obtain ⟨_, _, _, _, _, _, _, rfl⟩ := h; rfl) | (obtain ⟨_, _, _, _, _, _, _, _, rfl, _⟩ := h; rfl) | (obtain ⟨_, _, _, _, _, _, _, _, rfl⟩ := h; rfl) | (obtain ⟨_, _, _, _, _, _, _, _, _, rfl, _⟩ := h; rfl) | (obtain ⟨_, _, _, _, _, _, _, _, _, rfl⟩ := h; rfl) | (obtain ⟨_, _, rfl⟩ := h; rfl) | (cases h; rfl)) w_parts_along
    have f_part_at : FnB P w K mg base 4 "part_at" (G0.fn 3) := d_part_at.fnB (known (P := P) (w := w) (base := base) (G := G0) (k := 3) .nil (.cons (f__parts_along.mono (by omega)) .nil) .nil .nil) sc_part_at ok_part_at (by decide) (by intro ds h; first | (obtain ⟨_, rfl, _⟩ := h; rfl) | (obtain ⟨_, rfl⟩ := h; rfl) | (obtain ⟨_, _, rfl, _⟩ := h; rfl) | (obtain ⟨_, _, rfl⟩ := h; rfl) | (obtain ⟨_, _, _, rfl, _⟩ := h; rfl) | (obtain ⟨_, _, _, rfl⟩ := h; rfl) | (obtain ⟨_, _, _, _, rfl, _⟩ := h; rfl) | (obtain ⟨_, _, _, _, rfl⟩ := h; rfl) | (obtain ⟨_, _, _, _, _, rfl, _⟩ := h; rfl) | (obtain ⟨_, _, _, _, _, rfl⟩ := h; rfl) | (obtain ⟨_, _, _, _, _, _, rfl, _⟩ := h; rfl) | (obtain ⟨_, _, _, _, _, _, rfl⟩ := h; rfl) | (obtain ⟨_, _, _, _, _, _, _, rfl, _⟩ := h; rfl) | (obtain ⟨_, _, _, _, _, _, _, rfl⟩ := h; rfl) | (obtain ⟨_, _, _, _, _, _, _, _, rfl, _⟩ := h; rfl) | (obtain ⟨_, _, _, _, _, _, _, _, rfl⟩ := h; rfl) | (obtain ⟨_, _, _, _, _, _, _, _, _, rfl, _⟩ := h; rfl) | (obtain ⟨_, _, _, _, _, _, _, _, _, rfl⟩ := h; rfl) | (obtain ⟨_, _, rfl⟩ := h; rfl) | (cases h; rfl)) w_part_at
    have f_with_part : FnB P w K mg base 4 "with_part" (G0.fn 4) := d_with_part.fnB (known (P := P) (w := w) (base := base) (G := G0) (k := 3) (.cons n_len (.cons n_range (.cons n_reversed .nil))) (.cons (f_is_function.mono (by omega)) (.cons (f__parts_along.mono (by omega)) .nil)) .nil .nil) sc_with_part ok_with_part (by decide) (by intro ds h; first | (obtain ⟨_, rfl, _⟩ := h; rfl) | (obtain ⟨_, rfl⟩ := h; rfl) | (obtain ⟨_, _, rfl, _⟩ := h; rfl) | (obtain ⟨_, _, rfl⟩ := h; rfl) | (obtain ⟨_, _, _, rfl, _⟩ := h; rfl) | (obtain ⟨_, _, _, rfl⟩ := h; rfl) | (obtain ⟨_, _, _, _, rfl, _⟩ := h; rfl) | (obtain ⟨_, _, _, _, rfl⟩ := h; rfl) | (obtain ⟨_, _, _, _, _, rfl, _⟩ := h; rfl) | (obtain ⟨_, _, _, _, _, rfl⟩ := h; rfl) | (obtain ⟨_, _, _, _, _, _, rfl, _⟩ := h; rfl) | (obtain ⟨_, _, _, _, _, _, rfl⟩ := h; rfl) | (obtain ⟨_, _, _, _, _, _, _, rfl, _⟩ := h; rfl) | (obtain ⟨_, _, _, _, _, _, _, rfl⟩ := h; rfl) | (obtain ⟨_, _, _, _, _, _, _, _, rfl, _⟩ := h; rfl) | (obtain ⟨_, _, _, _, _, _, _, _, rfl⟩ := h; rfl) | (obtain ⟨_, _, _, _, _, _, _, _, _, rfl, _⟩ := h; rfl) | (obtain ⟨_, _, _, _, _, _, _, _, _, rfl⟩ := h; rfl) | (obtain ⟨_, _, rfl⟩ := h; rfl) | (cases h; rfl)) w_with_part
    have r_shifted : ∀ m, FnB P w K mg base (2 + m) "shifted" (sp_shf m) := by
      intro m
      induction m with
      | zero => exact d_shifted.bot (by rintro ds ⟨_, h, _⟩; exact absurd h (by first | (intro h; exact absurd h (Nat.not_lt_zero _)) | (intro h; exact absurd h.1 (Nat.not_lt_zero _)) | (intro h; exact absurd h.sm (Nat.not_lt_zero _)) | (intro h; exact absurd h.d (Nat.not_lt_zero _))))
      | succ m ih =>
        have q : FnB P w K mg base ((2 + m) + 1) "shifted" (sp_shf (m + 1)) := d_shifted.fnB (known (P := P) (w := w) (base := base) (G := (Gx 5 (sp_shf m))) (k := 2 + m) (.cons n_isinstance (.cons n_str .nil)) (.cons (f_is_function.mono (by omega)) (.cons (f_is_call.mono (by omega)) (.cons (ih.mono (by omega)) .nil))) .nil .nil) sc_shifted ok_shifted (by omega) (by intro ds h; first | (obtain ⟨_, rfl, _⟩ := h; rfl) | (obtain ⟨_, rfl⟩ := h; rfl) | (obtain ⟨_, _, rfl, _⟩ := h; rfl) | (obtain ⟨_, _, rfl⟩ := h; rfl) | (obtain ⟨_, _, _, rfl, _⟩ := h; rfl) | (obtain ⟨_, _, _, rfl⟩ := h; rfl) | (obtain ⟨_, _, _, _, rfl, _⟩ := h; rfl) | (obtain ⟨_, _, _, _, rfl⟩ := h; rfl) | (obtain ⟨_, _, _, _, _, rfl, _⟩ := h; rfl) | (obtain ⟨_, _, _, _, _, rfl⟩ := h; rfl) | (obtain ⟨_, _, _, _, _, _, rfl, _⟩ := h; rfl) | (obtain ⟨_, _, _, _, _, _, rfl⟩ := h; rfl) | (obtain ⟨_, _, _, _, _, _, _, rfl, _⟩ := h; rfl) | (obtain ⟨_, _, _, _, _, _, _, rfl⟩ := h; rfl) | (obtain ⟨_, _, _, _, _, _, _, _, rfl, _⟩ := h; rfl) | (obtain ⟨_, _, _, _, _, _, _, _, rfl⟩ := h; rfl) | (obtain ⟨_, _, _, _, _, _, _, _, _, rfl, _⟩ := h; rfl) | (obtain ⟨_, _, _, _, _, _, _, _, _, rfl⟩ := h; rfl) | (obtain ⟨_, _, rfl⟩ := h; rfl) | (cases h; rfl)) (w_shifted m)
        exact q
    have f_shifted : FnB P w K mg base 62 "shifted" (G0.fn 5) := r_shifted 60
    have f_shifted_27 : FnB P w K mg base 62 "shifted" (G0.fn 27) := d_shifted.fnD (known (P := P) (w := w) (base := base) (G := (Gx 5 (sp_shf 59))) (k := 61) (.cons n_isinstance (.cons n_str .nil)) (.cons (f_is_function.mono (by omega)) (.cons (f_is_call.mono (by omega)) (.cons ((r_shifted 59).mono (by omega)) .nil))) .nil .nil) sc_shifted ok_shifted (by decide) (by intro ds h; first | (obtain ⟨_, rfl, _⟩ := h; rfl) | (obtain ⟨_, rfl⟩ := h; rfl) | (obtain ⟨_, _, rfl, _⟩ := h; rfl) | (obtain ⟨_, _, rfl⟩ := h; rfl) | (obtain ⟨_, _, _, rfl, _⟩ := h; rfl) | (obtain ⟨_, _, _, rfl⟩ := h; rfl) | (obtain ⟨_, _, _, _, rfl, _⟩ := h; rfl) | (obtain ⟨_, _, _, _, rfl⟩ := h; rfl) | (obtain ⟨_, _, _, _, _, rfl, _⟩ := h; rfl) | (obtain ⟨_, _, _, _, _, rfl⟩ := h; rfl) | (obtain ⟨_, _, _, _, _, _, rfl, _⟩ := h; rfl) | (obtain ⟨_, _, _, _, _, _, rfl⟩ := h; rfl) | (obtain ⟨_, _, _, _, _, _, _, rfl, _⟩ := h; rfl) | (obtain ⟨_, _, _, _, _, _, _, rfl⟩ := h; rfl) | (obtain ⟨_, _, _, _, _, _, _, _, rfl, _⟩ := h; rfl) | (obtain ⟨_, _, _, _, _, _, _, _, rfl⟩ := h; rfl) | (obtain ⟨_, _, _, _, _, _, _, _, _, rfl, _⟩ := h; rfl) | (obtain ⟨_, _, _, _, _, _, _, _, _, rfl⟩ := h; rfl) | (obtain ⟨_, _, rfl⟩ := h; rfl) | (cases h; rfl)) (w_shifted 59) (sh_shf)
    have r__put : ∀ m, FnB P w K mg base (62 + m) "_put" (sp_put0_60 m) := by
      intro m
      induction m with
      | zero => exact d__put.bot (by rintro ds ⟨_, h, _⟩; exact absurd h (by first | (intro h; exact absurd h (Nat.not_lt_zero _)) | (intro h; exact absurd h.1 (Nat.not_lt_zero _)) | (intro h; exact absurd h.sm (Nat.not_lt_zero _)) | (intro h; exact absurd h.d (Nat.not_lt_zero _))))
      | succ m ih =>
        have q : FnB P w K mg base ((62 + m) + 1) "_put" (sp_put0_60 (m + 1)) := d__put.fnB (known (P := P) (w := w) (base := base) (G := (Gx 6 (sp_put0_60 m))) (k := 62 + m) (.cons n_isinstance (.cons n_str .nil)) (.cons (f_is_function.mono (by omega)) (.cons (f_is_call.mono (by omega)) (.cons (ih.mono (by omega)) (.cons (f_shifted_27.mono (by omega)) .nil)))) .nil .nil) sc__put ok__put (by omega) (by intro ds h; first | (obtain ⟨_, rfl, _⟩ := h; rfl) | (obtain ⟨_, rfl⟩ := h; rfl) | (obtain ⟨_, _, rfl, _⟩ := h; rfl) | (obtain ⟨_, _, rfl⟩ := h; rfl) | (obtain ⟨_, _, _, rfl, _⟩ := h; rfl) | (obtain ⟨_, _, _, rfl⟩ := h; rfl) | (obtain ⟨_, _, _, _, rfl, _⟩ := h; rfl) | (obtain ⟨_, _, _, _, rfl⟩ := h; rfl) | (obtain ⟨_, _, _, _, _, rfl, _⟩ := h; rfl) | (obtain ⟨_, _, _, _, _, rfl⟩ := h; rfl) | (obtain ⟨_, _, _, _, _, _, rfl, _⟩ := h; rfl) | (obtain ⟨_, _, _, _, _, _, rfl⟩ := h; rfl) | (obtain ⟨_, _, _, _, _, _, _, rfl, _⟩ := h; rfl) | (obtain ⟨_, _, _, _, _, _, _, rfl⟩ := h; rfl) | (obtain ⟨_, _, _, _, _, _, _, _, rfl, _⟩ := h; rfl) | (obtain ⟨_, _, _, _, _, _, _, _, rfl⟩ := h; rfl) | (obtain ⟨_, _, _, _, _, _, _, _, _, rfl, _⟩ := h; rfl) | (obtain ⟨_, _, _, _, _, _, _, _, _, rfl⟩ := h; rfl) | (obtain ⟨_, _, rfl⟩ := h; rfl) | (cases h; rfl)) (w__put m)
        exact q
    have f__put : FnB P w K mg base 122 "_put" (G0.fn 6) := r__put 60
    have f_put : FnB P w K mg base 123 "put" (G0.fn 7) := d_put.fnB (known (P := P) (w := w) (base := base) (G := G0) (k := 122) .nil (.cons (f__put.mono (by omega)) .nil) .nil .nil) sc_put ok_put (by decide) (by intro ds h; first | (obtain ⟨_, rfl, _⟩ := h; rfl) | (obtain ⟨_, rfl⟩ := h; rfl) | (obtain ⟨_, _, rfl, _⟩ := h; rfl) | (obtain ⟨_, _, rfl⟩ := h; rfl) | (obtain ⟨_, _, _, rfl, _⟩ := h; rfl) | (obtain ⟨_, _, _, rfl⟩ := h; rfl) | (obtain ⟨_, _, _, _, rfl, _⟩ := h; rfl) | (obtain ⟨_, _, _, _, rfl⟩ := h; rfl) | (obtain ⟨_, _, _, _, _, rfl, _⟩ := h; rfl) | (obtain ⟨_, _, _, _, _, rfl⟩ := h; rfl) | (obtain ⟨_, _, _, _, _, _, rfl, _⟩ := h; rfl) | (obtain ⟨_, _, _, _, _, _, rfl⟩ := h; rfl) | (obtain ⟨_, _, _, _, _, _, _, rfl, _⟩ := h; rfl) | (obtain ⟨_, _, _, _, _, _, _, rfl⟩ := h; rfl) | (obtain ⟨_, _, _, _, _, _, _, _, rfl, _⟩ := h; rfl) | (obtain ⟨_, _, _, _, _, _, _, _, rfl⟩ := h; rfl) | (obtain ⟨_, _, _, _, _, _, _, _, _, rfl, _⟩ := h; rfl) | (obtain ⟨_, _, _, _, _, _, _, _, _, rfl⟩ := h; rfl) | (obtain ⟨_, _, rfl⟩ := h; rfl) | (cases h; rfl)) w_putP
    have f__is_redex : FnB P w K mg base 3 "_is_redex" (G0.fn 8) := d__is_redex.fnB (known (P := P) (w := w) (base := base) (G := G0) (k := 2) .nil (.cons (f_is_function.mono (by omega)) (.cons (f_is_call.mono (by omega)) .nil)) .nil .nil) sc__is_redex ok__is_redex (by decide) (by intro ds h; first | (obtain ⟨_, rfl, _⟩ := h; rfl) | (obtain ⟨_, rfl⟩ := h; rfl) | (obtain ⟨_, _, rfl, _⟩ := h; rfl) | (obtain ⟨_, _, rfl⟩ := h; rfl) | (obtain ⟨_, _, _, rfl, _⟩ := h; rfl) | (obtain ⟨_, _, _, rfl⟩ := h; rfl) | (obtain ⟨_, _, _, _, rfl, _⟩ := h; rfl) | (obtain ⟨_, _, _, _, rfl⟩ := h; rfl) | (obtain ⟨_, _, _, _, _, rfl, _⟩ := h; rfl) | (obtain ⟨_, _, _, _, _, rfl⟩ := h; rfl) | (obtain ⟨_, _, _, _, _, _, rfl, _⟩ := h; rfl) | (obtain ⟨_, _, _, _, _, _, rfl⟩ := h; rfl) | (obtain ⟨_, _, _, _, _, _, _, rfl, _⟩ := h; rfl) | (obtain ⟨_, _, _, _, _, _, _, rfl⟩ := h; rfl) | (obtain ⟨_, _, _, _, _, _, _, _, rfl, _⟩ := h; rfl) | (obtain ⟨_, _, _, _, _, _, _, _, rfl⟩ := h; rfl) | (obtain ⟨_, _, _, _, _, _, _, _, _, rfl, _⟩ := h; rfl) | (obtain ⟨_, _, _, _, _, _, _, _, _, rfl⟩ := h; rfl) | (obtain ⟨_, _, rfl⟩ := h; rfl) | (cases h; rfl)) w_is_redex
    have f_redexes : FnB P w K mg base 4 "redexes" (G0.fn 9) := d_redexes.fnB (known (P := P) (w := w) (base := base) (G := G0) (k := 3) (.cons n_tuple .nil) (.cons (f_is_function.mono (by omega)) (.cons (f_is_call.mono (by omega)) (.cons (f__is_redex.mono (by omega)) .nil))) .nil .nil) sc_redexes ok_redexes (by decide) (by intro ds h; first | (obtain ⟨_, rfl, _⟩ := h; rfl) | (obtain ⟨_, rfl⟩ := h; rfl) | (obtain ⟨_, _, rfl, _⟩ := h; rfl) | (obtain ⟨_, _, rfl⟩ := h; rfl) | (obtain ⟨_, _, _, rfl, _⟩ := h; rfl) | (obtain ⟨_, _, _, rfl⟩ := h; rfl) | (obtain ⟨_, _, _, _, rfl, _⟩ := h; rfl) | (obtain ⟨_, _, _, _, rfl⟩ := h; rfl) | (obtain ⟨_, _, _, _, _, rfl, _⟩ := h; rfl) | (obtain ⟨_, _, _, _, _, rfl⟩ := h; rfl) | (obtain ⟨_, _, _, _, _, _, rfl, _⟩ := h; rfl) | (obtain ⟨_, _, _, _, _, _, rfl⟩ := h; rfl) | (obtain ⟨_, _, _, _, _, _, _, rfl, _⟩ := h; rfl) | (obtain ⟨_, _, _, _, _, _, _, rfl⟩ := h; rfl) | (obtain ⟨_, _, _, _, _, _, _, _, rfl, _⟩ := h; rfl) | (obtain ⟨_, _, _, _, _, _, _, _, rfl⟩ := h; rfl) | (obtain ⟨_, _, _, _, _, _, _, _, _, rfl, _⟩ := h; rfl) | (obtain ⟨_, _, _, _, _, _, _, _, _, rfl⟩ := h; rfl) | (obtain ⟨_, _, rfl⟩ := h; rfl) | (cases h; rfl)) w_redexes
    have f_step : FnB P w K mg base 124 "step" (G0.fn 10) := d_step.fnB (known (P := P) (w := w) (base := base) (G := G0) (k := 123) .nil (.cons (f_part_at.mono (by omega)) (.cons (f_with_part.mono (by omega)) (.cons (f_put.mono (by omega)) (.cons (f__is_redex.mono (by omega)) .nil)))) .nil .nil) sc_step ok_step (by decide) (by intro ds h; first | (obtain ⟨_, rfl, _⟩ := h; rfl) | (obtain ⟨_, rfl⟩ := h; rfl) | (obtain ⟨_, _, rfl, _⟩ := h; rfl) | (obtain ⟨_, _, rfl⟩ := h; rfl) | (obtain ⟨_, _, _, rfl, _⟩ := h; rfl) | (obtain ⟨_, _, _, rfl⟩ := h; rfl) | (obtain ⟨_, _, _, _, rfl, _⟩ := h; rfl) | (obtain ⟨_, _, _, _, rfl⟩ := h; rfl) | (obtain ⟨_, _, _, _, _, rfl, _⟩ := h; rfl) | (obtain ⟨_, _, _, _, _, rfl⟩ := h; rfl) | (obtain ⟨_, _, _, _, _, _, rfl, _⟩ := h; rfl) | (obtain ⟨_, _, _, _, _, _, rfl⟩ := h; rfl) | (obtain ⟨_, _, _, _, _, _, _, rfl, _⟩ := h; rfl) | (obtain ⟨_, _, _, _, _, _, _, rfl⟩ := h; rfl) | (obtain ⟨_, _, _, _, _, _, _, _, rfl, _⟩ := h; rfl) | (obtain ⟨_, _, _, _, _, _, _, _, rfl⟩ := h; rfl) | (obtain ⟨_, _, _, _, _, _, _, _, _, rfl, _⟩ := h; rfl) | (obtain ⟨_, _, _, _, _, _, _, _, _, rfl⟩ := h; rfl) | (obtain ⟨_, _, rfl⟩ := h; rfl) | (cases h; rfl)) w_stepP
    have f__law_cell : FnB P w K mg base 2 "_law_cell" (G0.fn 11) := d__law_cell.fnB (known (P := P) (w := w) (base := base) (G := G0) (k := 1) (.cons n_int (.cons n_len .nil)) .nil .nil .nil) sc__law_cell ok__law_cell (by decide) (by intro ds h; first | (obtain ⟨_, rfl, _⟩ := h; rfl) | (obtain ⟨_, rfl⟩ := h; rfl) | (obtain ⟨_, _, rfl, _⟩ := h; rfl) | (obtain ⟨_, _, rfl⟩ := h; rfl) | (obtain ⟨_, _, _, rfl, _⟩ := h; rfl) | (obtain ⟨_, _, _, rfl⟩ := h; rfl) | (obtain ⟨_, _, _, _, rfl, _⟩ := h; rfl) | (obtain ⟨_, _, _, _, rfl⟩ := h; rfl) | (obtain ⟨_, _, _, _, _, rfl, _⟩ := h; rfl) | (obtain ⟨_, _, _, _, _, rfl⟩ := h; rfl) | (obtain ⟨_, _, _, _, _, _, rfl, _⟩ := h; rfl) | (obtain ⟨_, _, _, _, _, _, rfl⟩ := h; rfl) | (obtain ⟨_, _, _, _, _, _, _, rfl, _⟩ := h; rfl) | (obtain ⟨_, _, _, _, _, _, _, rfl⟩ := h; rfl) | (obtain ⟨_, _, _, _, _, _, _, _, rfl, _⟩ := h; rfl) | (obtain ⟨_, _, _, _, _, _, _, _, rfl⟩ := h; rfl) | (obtain ⟨_, _, _, _, _, _, _, _, _, rfl, _⟩ := h; rfl) | (obtain ⟨_, _, _, _, _, _, _, _, _, rfl⟩ := h; rfl) | (obtain ⟨_, _, rfl⟩ := h; rfl) | (cases h; rfl)) w_law_cell
    have f__law_digits : FnB P w K mg base 2 "_law_digits" (G0.fn 12) := d__law_digits.fnB (known (P := P) (w := w) (base := base) (G := G0) (k := 1) (.cons n_int (.cons n_len (.cons n_range .nil))) .nil .nil .nil) sc__law_digits ok__law_digits (by decide) (by intro ds h; first | (obtain ⟨_, rfl, _⟩ := h; rfl) | (obtain ⟨_, rfl⟩ := h; rfl) | (obtain ⟨_, _, rfl, _⟩ := h; rfl) | (obtain ⟨_, _, rfl⟩ := h; rfl) | (obtain ⟨_, _, _, rfl, _⟩ := h; rfl) | (obtain ⟨_, _, _, rfl⟩ := h; rfl) | (obtain ⟨_, _, _, _, rfl, _⟩ := h; rfl) | (obtain ⟨_, _, _, _, rfl⟩ := h; rfl) | (obtain ⟨_, _, _, _, _, rfl, _⟩ := h; rfl) | (obtain ⟨_, _, _, _, _, rfl⟩ := h; rfl) | (obtain ⟨_, _, _, _, _, _, rfl, _⟩ := h; rfl) | (obtain ⟨_, _, _, _, _, _, rfl⟩ := h; rfl) | (obtain ⟨_, _, _, _, _, _, _, rfl, _⟩ := h; rfl) | (obtain ⟨_, _, _, _, _, _, _, rfl⟩ := h; rfl) | (obtain ⟨_, _, _, _, _, _, _, _, rfl, _⟩ := h; rfl) | (obtain ⟨_, _, _, _, _, _, _, _, rfl⟩ := h; rfl) | (obtain ⟨_, _, _, _, _, _, _, _, _, rfl, _⟩ := h; rfl) | (obtain ⟨_, _, _, _, _, _, _, _, _, rfl⟩ := h; rfl) | (obtain ⟨_, _, rfl⟩ := h; rfl) | (cases h; rfl)) w_law_digits
    have f__law_alike : FnB P w K mg base 2 "_law_alike" (G0.fn 13) := d__law_alike.fnB (known (P := P) (w := w) (base := base) (G := G0) (k := 1) (.cons n_bool (.cons n_int (.cons n_isinstance (.cons n_len (.cons n_range (.cons n_str (.cons n_tuple .nil))))))) .nil .nil .nil) sc__law_alike ok__law_alike (by decide) (by intro ds h; first | (obtain ⟨_, rfl, _⟩ := h; rfl) | (obtain ⟨_, rfl⟩ := h; rfl) | (obtain ⟨_, _, rfl, _⟩ := h; rfl) | (obtain ⟨_, _, rfl⟩ := h; rfl) | (obtain ⟨_, _, _, rfl, _⟩ := h; rfl) | (obtain ⟨_, _, _, rfl⟩ := h; rfl) | (obtain ⟨_, _, _, _, rfl, _⟩ := h; rfl) | (obtain ⟨_, _, _, _, rfl⟩ := h; rfl) | (obtain ⟨_, _, _, _, _, rfl, _⟩ := h; rfl) | (obtain ⟨_, _, _, _, _, rfl⟩ := h; rfl) | (obtain ⟨_, _, _, _, _, _, rfl, _⟩ := h; rfl) | (obtain ⟨_, _, _, _, _, _, rfl⟩ := h; rfl) | (obtain ⟨_, _, _, _, _, _, _, rfl, _⟩ := h; rfl) | (obtain ⟨_, _, _, _, _, _, _, rfl⟩ := h; rfl) | (obtain ⟨_, _, _, _, _, _, _, _, rfl, _⟩ := h; rfl) | (obtain ⟨_, _, _, _, _, _, _, _, rfl⟩ := h; rfl) | (obtain ⟨_, _, _, _, _, _, _, _, _, rfl, _⟩ := h; rfl) | (obtain ⟨_, _, _, _, _, _, _, _, _, rfl⟩ := h; rfl) | (obtain ⟨_, _, rfl⟩ := h; rfl) | (cases h; rfl)) w_law_alike
    have r__law_drawn : ∀ m, FnB P w K mg base (1 + m) "_law_drawn" (sp_drawn m) := by
      intro m
      induction m with
      | zero => exact d__law_drawn.bot (by rintro ds ⟨_, h, _⟩; exact absurd h (by first | (intro h; exact absurd h (Nat.not_lt_zero _)) | (intro h; exact absurd h.1 (Nat.not_lt_zero _)) | (intro h; exact absurd h.sm (Nat.not_lt_zero _)) | (intro h; exact absurd h.d (Nat.not_lt_zero _))))
      | succ m ih =>
        have q : FnB P w K mg base ((1 + m) + 1) "_law_drawn" (sp_drawn (m + 1)) := d__law_drawn.fnB (known (P := P) (w := w) (base := base) (G := (Gx 14 (sp_drawn m))) (k := 1 + m) (.cons n_int (.cons n_len .nil)) (.cons (ih.mono (by omega)) .nil) .nil .nil) sc__law_drawn ok__law_drawn (by omega) (by intro ds h; first | (obtain ⟨_, rfl, _⟩ := h; rfl) | (obtain ⟨_, rfl⟩ := h; rfl) | (obtain ⟨_, _, rfl, _⟩ := h; rfl) | (obtain ⟨_, _, rfl⟩ := h; rfl) | (obtain ⟨_, _, _, rfl, _⟩ := h; rfl) | (obtain ⟨_, _, _, rfl⟩ := h; rfl) | (obtain ⟨_, _, _, _, rfl, _⟩ := h; rfl) | (obtain ⟨_, _, _, _, rfl⟩ := h; rfl) | (obtain ⟨_, _, _, _, _, rfl, _⟩ := h; rfl) | (obtain ⟨_, _, _, _, _, rfl⟩ := h; rfl) | (obtain ⟨_, _, _, _, _, _, rfl, _⟩ := h; rfl) | (obtain ⟨_, _, _, _, _, _, rfl⟩ := h; rfl) | (obtain ⟨_, _, _, _, _, _, _, rfl, _⟩ := h; rfl) | (obtain ⟨_, _, _, _, _, _, _, rfl⟩ := h; rfl) | (obtain ⟨_, _, _, _, _, _, _, _, rfl, _⟩ := h; rfl) | (obtain ⟨_, _, _, _, _, _, _, _, rfl⟩ := h; rfl) | (obtain ⟨_, _, _, _, _, _, _, _, _, rfl, _⟩ := h; rfl) | (obtain ⟨_, _, _, _, _, _, _, _, _, rfl⟩ := h; rfl) | (obtain ⟨_, _, rfl⟩ := h; rfl) | (cases h; rfl)) (w_law_drawn m)
        exact q
    have f__law_drawn : FnB P w K mg base 61 "_law_drawn" (G0.fn 14) := r__law_drawn 60
    have r__law_named : ∀ m, FnB P w K mg base (1 + m) "_law_named" (sp_named m) := by
      intro m
      induction m with
      | zero => exact d__law_named.bot (by rintro ds ⟨_, h, _⟩; exact absurd h (by first | (intro h; exact absurd h (Nat.not_lt_zero _)) | (intro h; exact absurd h.1 (Nat.not_lt_zero _)) | (intro h; exact absurd h.sm (Nat.not_lt_zero _)) | (intro h; exact absurd h.d (Nat.not_lt_zero _))))
      | succ m ih =>
        have q : FnB P w K mg base ((1 + m) + 1) "_law_named" (sp_named (m + 1)) := d__law_named.fnB (known (P := P) (w := w) (base := base) (G := (Gx 15 (sp_named m))) (k := 1 + m) (.cons n_isinstance (.cons n_len (.cons n_str (.cons n_tuple .nil)))) (.cons (ih.mono (by omega)) .nil) .nil .nil) sc__law_named ok__law_named (by omega) (by intro ds h; first | (obtain ⟨_, rfl, _⟩ := h; rfl) | (obtain ⟨_, rfl⟩ := h; rfl) | (obtain ⟨_, _, rfl, _⟩ := h; rfl) | (obtain ⟨_, _, rfl⟩ := h; rfl) | (obtain ⟨_, _, _, rfl, _⟩ := h; rfl) | (obtain ⟨_, _, _, rfl⟩ := h; rfl) | (obtain ⟨_, _, _, _, rfl, _⟩ := h; rfl) | (obtain ⟨_, _, _, _, rfl⟩ := h; rfl) | (obtain ⟨_, _, _, _, _, rfl, _⟩ := h; rfl) | (obtain ⟨_, _, _, _, _, rfl⟩ := h; rfl) | (obtain ⟨_, _, _, _, _, _, rfl, _⟩ := h; rfl) | (obtain ⟨_, _, _, _, _, _, rfl⟩ := h; rfl) | (obtain ⟨_, _, _, _, _, _, _, rfl, _⟩ := h; rfl) | (obtain ⟨_, _, _, _, _, _, _, rfl⟩ := h; rfl) | (obtain ⟨_, _, _, _, _, _, _, _, rfl, _⟩ := h; rfl) | (obtain ⟨_, _, _, _, _, _, _, _, rfl⟩ := h; rfl) | (obtain ⟨_, _, _, _, _, _, _, _, _, rfl, _⟩ := h; rfl) | (obtain ⟨_, _, _, _, _, _, _, _, _, rfl⟩ := h; rfl) | (obtain ⟨_, _, rfl⟩ := h; rfl) | (cases h; rfl)) (w_law_named m)
        exact q
    have f__law_named : FnB P w K mg base 61 "_law_named" (G0.fn 15) := r__law_named 60
    have r__law_replaced : ∀ m, FnB P w K mg base (1 + m) "_law_replaced" (sp_repld m) := by
      intro m
      induction m with
      | zero => exact d__law_replaced.bot (by rintro ds ⟨_, h, _⟩; exact absurd h (by first | (intro h; exact absurd h (Nat.not_lt_zero _)) | (intro h; exact absurd h.1 (Nat.not_lt_zero _)) | (intro h; exact absurd h.sm (Nat.not_lt_zero _)) | (intro h; exact absurd h.d (Nat.not_lt_zero _))))
      | succ m ih =>
        have q : FnB P w K mg base ((1 + m) + 1) "_law_replaced" (sp_repld (m + 1)) := d__law_replaced.fnB (known (P := P) (w := w) (base := base) (G := (Gx 16 (sp_repld m))) (k := 1 + m) (.cons n_isinstance (.cons n_str .nil)) (.cons (ih.mono (by omega)) .nil) .nil .nil) sc__law_replaced ok__law_replaced (by omega) (by intro ds h; first | (obtain ⟨_, rfl, _⟩ := h; rfl) | (obtain ⟨_, rfl⟩ := h; rfl) | (obtain ⟨_, _, rfl, _⟩ := h; rfl) | (obtain ⟨_, _, rfl⟩ := h; rfl) | (obtain ⟨_, _, _, rfl, _⟩ := h; rfl) | (obtain ⟨_, _, _, rfl⟩ := h; rfl) | (obtain ⟨_, _, _, _, rfl, _⟩ := h; rfl) | (obtain ⟨_, _, _, _, rfl⟩ := h; rfl) | (obtain ⟨_, _, _, _, _, rfl, _⟩ := h; rfl) | (obtain ⟨_, _, _, _, _, rfl⟩ := h; rfl) | (obtain ⟨_, _, _, _, _, _, rfl, _⟩ := h; rfl) | (obtain ⟨_, _, _, _, _, _, rfl⟩ := h; rfl) | (obtain ⟨_, _, _, _, _, _, _, rfl, _⟩ := h; rfl) | (obtain ⟨_, _, _, _, _, _, _, rfl⟩ := h; rfl) | (obtain ⟨_, _, _, _, _, _, _, _, rfl, _⟩ := h; rfl) | (obtain ⟨_, _, _, _, _, _, _, _, rfl⟩ := h; rfl) | (obtain ⟨_, _, _, _, _, _, _, _, _, rfl, _⟩ := h; rfl) | (obtain ⟨_, _, _, _, _, _, _, _, _, rfl⟩ := h; rfl) | (obtain ⟨_, _, rfl⟩ := h; rfl) | (cases h; rfl)) (w_law_replaced m)
        exact q
    have f__law_replaced : FnB P w K mg base 61 "_law_replaced" (G0.fn 16) := r__law_replaced 60
    have r__law_code : ∀ m, FnB P w K mg base (1 + m) "_law_code" (sp_code m) := by
      intro m
      induction m with
      | zero => exact d__law_code.bot (by rintro ds ⟨_, h, _⟩; exact absurd h (by first | (intro h; exact absurd h (Nat.not_lt_zero _)) | (intro h; exact absurd h.1 (Nat.not_lt_zero _)) | (intro h; exact absurd h.sm (Nat.not_lt_zero _)) | (intro h; exact absurd h.d (Nat.not_lt_zero _))))
      | succ m ih =>
        have q : FnB P w K mg base ((1 + m) + 1) "_law_code" (sp_code (m + 1)) := d__law_code.fnB (known (P := P) (w := w) (base := base) (G := (Gx 17 (sp_code m))) (k := 1 + m) (.cons n_isinstance (.cons n_len (.cons n_range (.cons n_str .nil)))) (.cons (ih.mono (by omega)) .nil) .nil .nil) sc__law_code ok__law_code (by omega) (by intro ds h; first | (obtain ⟨_, rfl, _⟩ := h; rfl) | (obtain ⟨_, rfl⟩ := h; rfl) | (obtain ⟨_, _, rfl, _⟩ := h; rfl) | (obtain ⟨_, _, rfl⟩ := h; rfl) | (obtain ⟨_, _, _, rfl, _⟩ := h; rfl) | (obtain ⟨_, _, _, rfl⟩ := h; rfl) | (obtain ⟨_, _, _, _, rfl, _⟩ := h; rfl) | (obtain ⟨_, _, _, _, rfl⟩ := h; rfl) | (obtain ⟨_, _, _, _, _, rfl, _⟩ := h; rfl) | (obtain ⟨_, _, _, _, _, rfl⟩ := h; rfl) | (obtain ⟨_, _, _, _, _, _, rfl, _⟩ := h; rfl) | (obtain ⟨_, _, _, _, _, _, rfl⟩ := h; rfl) | (obtain ⟨_, _, _, _, _, _, _, rfl, _⟩ := h; rfl) | (obtain ⟨_, _, _, _, _, _, _, rfl⟩ := h; rfl) | (obtain ⟨_, _, _, _, _, _, _, _, rfl, _⟩ := h; rfl) | (obtain ⟨_, _, _, _, _, _, _, _, rfl⟩ := h; rfl) | (obtain ⟨_, _, _, _, _, _, _, _, _, rfl, _⟩ := h; rfl) | (obtain ⟨_, _, _, _, _, _, _, _, _, rfl⟩ := h; rfl) | (obtain ⟨_, _, rfl⟩ := h; rfl) | (cases h; rfl)) (w_law_code m)
        exact q
    have f__law_code : FnB P w K mg base 61 "_law_code" (G0.fn 17) := r__law_code 60
    have f__law_leads : FnB P w K mg base 2 "_law_leads" (G0.fn 18) := d__law_leads.fnB (known (P := P) (w := w) (base := base) (G := G0) (k := 1) (.cons n_isinstance (.cons n_tuple .nil)) .nil .nil .nil) sc__law_leads ok__law_leads (by decide) (by intro ds h; first | (obtain ⟨_, rfl, _⟩ := h; rfl) | (obtain ⟨_, rfl⟩ := h; rfl) | (obtain ⟨_, _, rfl, _⟩ := h; rfl) | (obtain ⟨_, _, rfl⟩ := h; rfl) | (obtain ⟨_, _, _, rfl, _⟩ := h; rfl) | (obtain ⟨_, _, _, rfl⟩ := h; rfl) | (obtain ⟨_, _, _, _, rfl, _⟩ := h; rfl) | (obtain ⟨_, _, _, _, rfl⟩ := h; rfl) | (obtain ⟨_, _, _, _, _, rfl, _⟩ := h; rfl) | (obtain ⟨_, _, _, _, _, rfl⟩ := h; rfl) | (obtain ⟨_, _, _, _, _, _, rfl, _⟩ := h; rfl) | (obtain ⟨_, _, _, _, _, _, rfl⟩ := h; rfl) | (obtain ⟨_, _, _, _, _, _, _, rfl, _⟩ := h; rfl) | (obtain ⟨_, _, _, _, _, _, _, rfl⟩ := h; rfl) | (obtain ⟨_, _, _, _, _, _, _, _, rfl, _⟩ := h; rfl) | (obtain ⟨_, _, _, _, _, _, _, _, rfl⟩ := h; rfl) | (obtain ⟨_, _, _, _, _, _, _, _, _, rfl, _⟩ := h; rfl) | (obtain ⟨_, _, _, _, _, _, _, _, _, rfl⟩ := h; rfl) | (obtain ⟨_, _, rfl⟩ := h; rfl) | (cases h; rfl)) w_law_leads
    have f__law_listed : FnB P w K mg base 3 "_law_listed" (G0.fn 19) := d__law_listed.fnB (known (P := P) (w := w) (base := base) (G := G0) (k := 2) (.cons n_len .nil) (.cons (f__law_leads.mono (by omega)) .nil) .nil .nil) sc__law_listed ok__law_listed (by decide) (by intro ds h; first | (obtain ⟨_, rfl, _⟩ := h; rfl) | (obtain ⟨_, rfl⟩ := h; rfl) | (obtain ⟨_, _, rfl, _⟩ := h; rfl) | (obtain ⟨_, _, rfl⟩ := h; rfl) | (obtain ⟨_, _, _, rfl, _⟩ := h; rfl) | (obtain ⟨_, _, _, rfl⟩ := h; rfl) | (obtain ⟨_, _, _, _, rfl, _⟩ := h; rfl) | (obtain ⟨_, _, _, _, rfl⟩ := h; rfl) | (obtain ⟨_, _, _, _, _, rfl, _⟩ := h; rfl) | (obtain ⟨_, _, _, _, _, rfl⟩ := h; rfl) | (obtain ⟨_, _, _, _, _, _, rfl, _⟩ := h; rfl) | (obtain ⟨_, _, _, _, _, _, rfl⟩ := h; rfl) | (obtain ⟨_, _, _, _, _, _, _, rfl, _⟩ := h; rfl) | (obtain ⟨_, _, _, _, _, _, _, rfl⟩ := h; rfl) | (obtain ⟨_, _, _, _, _, _, _, _, rfl, _⟩ := h; rfl) | (obtain ⟨_, _, _, _, _, _, _, _, rfl⟩ := h; rfl) | (obtain ⟨_, _, _, _, _, _, _, _, _, rfl, _⟩ := h; rfl) | (obtain ⟨_, _, _, _, _, _, _, _, _, rfl⟩ := h; rfl) | (obtain ⟨_, _, rfl⟩ := h; rfl) | (cases h; rfl)) w_law_listed
    have f__law_redex : FnB P w K mg base 2 "_law_redex" (G0.fn 20) := d__law_redex.fnB (known (P := P) (w := w) (base := base) (G := G0) (k := 1) (.cons n_isinstance (.cons n_tuple .nil)) .nil .nil .nil) sc__law_redex ok__law_redex (by decide) (by intro ds h; first | (obtain ⟨_, rfl, _⟩ := h; rfl) | (obtain ⟨_, rfl⟩ := h; rfl) | (obtain ⟨_, _, rfl, _⟩ := h; rfl) | (obtain ⟨_, _, rfl⟩ := h; rfl) | (obtain ⟨_, _, _, rfl, _⟩ := h; rfl) | (obtain ⟨_, _, _, rfl⟩ := h; rfl) | (obtain ⟨_, _, _, _, rfl, _⟩ := h; rfl) | (obtain ⟨_, _, _, _, rfl⟩ := h; rfl) | (obtain ⟨_, _, _, _, _, rfl, _⟩ := h; rfl) | (obtain ⟨_, _, _, _, _, rfl⟩ := h; rfl) | (obtain ⟨_, _, _, _, _, _, rfl, _⟩ := h; rfl) | (obtain ⟨_, _, _, _, _, _, rfl⟩ := h; rfl) | (obtain ⟨_, _, _, _, _, _, _, rfl, _⟩ := h; rfl) | (obtain ⟨_, _, _, _, _, _, _, rfl⟩ := h; rfl) | (obtain ⟨_, _, _, _, _, _, _, _, rfl, _⟩ := h; rfl) | (obtain ⟨_, _, _, _, _, _, _, _, rfl⟩ := h; rfl) | (obtain ⟨_, _, _, _, _, _, _, _, _, rfl, _⟩ := h; rfl) | (obtain ⟨_, _, _, _, _, _, _, _, _, rfl⟩ := h; rfl) | (obtain ⟨_, _, rfl⟩ := h; rfl) | (cases h; rfl)) w_law_redex
    have f__law_stepped : FnB P w K mg base 62 "_law_stepped" (G0.fn 21) := d__law_stepped.fnB (known (P := P) (w := w) (base := base) (G := G0) (k := 61) (.cons n_len (.cons n_range .nil)) (.cons (f__law_replaced.mono (by omega)) (.cons (f__law_code.mono (by omega)) .nil)) .nil .nil) sc__law_stepped ok__law_stepped (by decide) (by intro ds h; first | (obtain ⟨_, rfl, _⟩ := h; rfl) | (obtain ⟨_, rfl⟩ := h; rfl) | (obtain ⟨_, _, rfl, _⟩ := h; rfl) | (obtain ⟨_, _, rfl⟩ := h; rfl) | (obtain ⟨_, _, _, rfl, _⟩ := h; rfl) | (obtain ⟨_, _, _, rfl⟩ := h; rfl) | (obtain ⟨_, _, _, _, rfl, _⟩ := h; rfl) | (obtain ⟨_, _, _, _, rfl⟩ := h; rfl) | (obtain ⟨_, _, _, _, _, rfl, _⟩ := h; rfl) | (obtain ⟨_, _, _, _, _, rfl⟩ := h; rfl) | (obtain ⟨_, _, _, _, _, _, rfl, _⟩ := h; rfl) | (obtain ⟨_, _, _, _, _, _, rfl⟩ := h; rfl) | (obtain ⟨_, _, _, _, _, _, _, rfl, _⟩ := h; rfl) | (obtain ⟨_, _, _, _, _, _, _, rfl⟩ := h; rfl) | (obtain ⟨_, _, _, _, _, _, _, _, rfl, _⟩ := h; rfl) | (obtain ⟨_, _, _, _, _, _, _, _, rfl⟩ := h; rfl) | (obtain ⟨_, _, _, _, _, _, _, _, _, rfl, _⟩ := h; rfl) | (obtain ⟨_, _, _, _, _, _, _, _, _, rfl⟩ := h; rfl) | (obtain ⟨_, _, rfl⟩ := h; rfl) | (cases h; rfl)) w_law_stepped
    have f__law_uses : FnB P w K mg base 2 "_law_uses" (G0.fn 22) := d__law_uses.fnB (known (P := P) (w := w) (base := base) (G := G0) (k := 1) (.cons n_int (.cons n_isinstance (.cons n_len (.cons n_range (.cons n_str (.cons n_tuple .nil)))))) .nil .nil .nil) sc__law_uses ok__law_uses (by decide) (by intro ds h; first | (obtain ⟨_, rfl, _⟩ := h; rfl) | (obtain ⟨_, rfl⟩ := h; rfl) | (obtain ⟨_, _, rfl, _⟩ := h; rfl) | (obtain ⟨_, _, rfl⟩ := h; rfl) | (obtain ⟨_, _, _, rfl, _⟩ := h; rfl) | (obtain ⟨_, _, _, rfl⟩ := h; rfl) | (obtain ⟨_, _, _, _, rfl, _⟩ := h; rfl) | (obtain ⟨_, _, _, _, rfl⟩ := h; rfl) | (obtain ⟨_, _, _, _, _, rfl, _⟩ := h; rfl) | (obtain ⟨_, _, _, _, _, rfl⟩ := h; rfl) | (obtain ⟨_, _, _, _, _, _, rfl, _⟩ := h; rfl) | (obtain ⟨_, _, _, _, _, _, rfl⟩ := h; rfl) | (obtain ⟨_, _, _, _, _, _, _, rfl, _⟩ := h; rfl) | (obtain ⟨_, _, _, _, _, _, _, rfl⟩ := h; rfl) | (obtain ⟨_, _, _, _, _, _, _, _, rfl, _⟩ := h; rfl) | (obtain ⟨_, _, _, _, _, _, _, _, rfl⟩ := h; rfl) | (obtain ⟨_, _, _, _, _, _, _, _, _, rfl, _⟩ := h; rfl) | (obtain ⟨_, _, _, _, _, _, _, _, _, rfl⟩ := h; rfl) | (obtain ⟨_, _, rfl⟩ := h; rfl) | (cases h; rfl)) w_law_uses
    have f__law_left : FnB P w K mg base 3 "_law_left" (G0.fn 23) := d__law_left.fnB (known (P := P) (w := w) (base := base) (G := G0) (k := 2) (.cons n_len .nil) (.cons (f__law_uses.mono (by omega)) .nil) .nil .nil) sc__law_left ok__law_left (by decide) (by intro ds h; first | (obtain ⟨_, rfl, _⟩ := h; rfl) | (obtain ⟨_, rfl⟩ := h; rfl) | (obtain ⟨_, _, rfl, _⟩ := h; rfl) | (obtain ⟨_, _, rfl⟩ := h; rfl) | (obtain ⟨_, _, _, rfl, _⟩ := h; rfl) | (obtain ⟨_, _, _, rfl⟩ := h; rfl) | (obtain ⟨_, _, _, _, rfl, _⟩ := h; rfl) | (obtain ⟨_, _, _, _, rfl⟩ := h; rfl) | (obtain ⟨_, _, _, _, _, rfl, _⟩ := h; rfl) | (obtain ⟨_, _, _, _, _, rfl⟩ := h; rfl) | (obtain ⟨_, _, _, _, _, _, rfl, _⟩ := h; rfl) | (obtain ⟨_, _, _, _, _, _, rfl⟩ := h; rfl) | (obtain ⟨_, _, _, _, _, _, _, rfl, _⟩ := h; rfl) | (obtain ⟨_, _, _, _, _, _, _, rfl⟩ := h; rfl) | (obtain ⟨_, _, _, _, _, _, _, _, rfl, _⟩ := h; rfl) | (obtain ⟨_, _, _, _, _, _, _, _, rfl⟩ := h; rfl) | (obtain ⟨_, _, _, _, _, _, _, _, _, rfl, _⟩ := h; rfl) | (obtain ⟨_, _, _, _, _, _, _, _, _, rfl⟩ := h; rfl) | (obtain ⟨_, _, rfl⟩ := h; rfl) | (cases h; rfl)) w_law_left
    have f__law_taken : FnB P w K mg base 63 "_law_taken" (G0.fn 24) := d__law_taken.fnB (known (P := P) (w := w) (base := base) (G := G0) (k := 62) .nil (.cons (f__law_named.mono (by omega)) (.cons (f__law_stepped.mono (by omega)) .nil)) .nil .nil) sc__law_taken ok__law_taken (by decide) (by intro ds h; first | (obtain ⟨_, rfl, _⟩ := h; rfl) | (obtain ⟨_, rfl⟩ := h; rfl) | (obtain ⟨_, _, rfl, _⟩ := h; rfl) | (obtain ⟨_, _, rfl⟩ := h; rfl) | (obtain ⟨_, _, _, rfl, _⟩ := h; rfl) | (obtain ⟨_, _, _, rfl⟩ := h; rfl) | (obtain ⟨_, _, _, _, rfl, _⟩ := h; rfl) | (obtain ⟨_, _, _, _, rfl⟩ := h; rfl) | (obtain ⟨_, _, _, _, _, rfl, _⟩ := h; rfl) | (obtain ⟨_, _, _, _, _, rfl⟩ := h; rfl) | (obtain ⟨_, _, _, _, _, _, rfl, _⟩ := h; rfl) | (obtain ⟨_, _, _, _, _, _, rfl⟩ := h; rfl) | (obtain ⟨_, _, _, _, _, _, _, rfl, _⟩ := h; rfl) | (obtain ⟨_, _, _, _, _, _, _, rfl⟩ := h; rfl) | (obtain ⟨_, _, _, _, _, _, _, _, rfl, _⟩ := h; rfl) | (obtain ⟨_, _, _, _, _, _, _, _, rfl⟩ := h; rfl) | (obtain ⟨_, _, _, _, _, _, _, _, _, rfl, _⟩ := h; rfl) | (obtain ⟨_, _, _, _, _, _, _, _, _, rfl⟩ := h; rfl) | (obtain ⟨_, _, rfl⟩ := h; rfl) | (cases h; rfl)) w_law_taken
    have f__law_told : FnB P w K mg base 125 "_law_told" (G0.fn 25) := d__law_told.fnB (known (P := P) (w := w) (base := base) (G := G0) (k := 124) .nil (.cons (f_redexes.mono (by omega)) (.cons (f_step.mono (by omega)) .nil)) .nil .nil) sc__law_told ok__law_told (by decide) (by intro ds h; first | (obtain ⟨_, rfl, _⟩ := h; rfl) | (obtain ⟨_, rfl⟩ := h; rfl) | (obtain ⟨_, _, rfl, _⟩ := h; rfl) | (obtain ⟨_, _, rfl⟩ := h; rfl) | (obtain ⟨_, _, _, rfl, _⟩ := h; rfl) | (obtain ⟨_, _, _, rfl⟩ := h; rfl) | (obtain ⟨_, _, _, _, rfl, _⟩ := h; rfl) | (obtain ⟨_, _, _, _, rfl⟩ := h; rfl) | (obtain ⟨_, _, _, _, _, rfl, _⟩ := h; rfl) | (obtain ⟨_, _, _, _, _, rfl⟩ := h; rfl) | (obtain ⟨_, _, _, _, _, _, rfl, _⟩ := h; rfl) | (obtain ⟨_, _, _, _, _, _, rfl⟩ := h; rfl) | (obtain ⟨_, _, _, _, _, _, _, rfl, _⟩ := h; rfl) | (obtain ⟨_, _, _, _, _, _, _, rfl⟩ := h; rfl) | (obtain ⟨_, _, _, _, _, _, _, _, rfl, _⟩ := h; rfl) | (obtain ⟨_, _, _, _, _, _, _, _, rfl⟩ := h; rfl) | (obtain ⟨_, _, _, _, _, _, _, _, _, rfl, _⟩ := h; rfl) | (obtain ⟨_, _, _, _, _, _, _, _, _, rfl⟩ := h; rfl) | (obtain ⟨_, _, rfl⟩ := h; rfl) | (cases h; rfl)) w_law_told
    exact known (P := P) (w := w) (base := base) (G := G0) (k := 125) (.cons n_int (.cons n_len (.cons n_range (.cons n_tuple .nil)))) (.cons (f_redexes.mono (by omega)) (.cons (f__law_cell.mono (by omega)) (.cons (f__law_digits.mono (by omega)) (.cons (f__law_alike.mono (by omega)) (.cons (f__law_drawn.mono (by omega)) (.cons (f__law_listed.mono (by omega)) (.cons (f__law_redex.mono (by omega)) (.cons (f__law_left.mono (by omega)) (.cons (f__law_taken.mono (by omega)) (.cons (f__law_told.mono (by omega)) .nil)))))))))) .nil .nil
  obtain ⟨fd, h1, h2⟩ := law_fin d_law hfa kn sc_law ok_law (by decide) (by intro ds h; first | (obtain ⟨_, rfl, _⟩ := h; rfl) | (obtain ⟨_, rfl⟩ := h; rfl) | (obtain ⟨_, _, rfl, _⟩ := h; rfl) | (obtain ⟨_, _, rfl⟩ := h; rfl) | (obtain ⟨_, _, _, rfl, _⟩ := h; rfl) | (obtain ⟨_, _, _, rfl⟩ := h; rfl) | (obtain ⟨_, _, _, _, rfl, _⟩ := h; rfl) | (obtain ⟨_, _, _, _, rfl⟩ := h; rfl) | (obtain ⟨_, _, _, _, _, rfl, _⟩ := h; rfl) | (obtain ⟨_, _, _, _, _, rfl⟩ := h; rfl) | (obtain ⟨_, _, _, _, _, _, rfl, _⟩ := h; rfl) | (obtain ⟨_, _, _, _, _, _, rfl⟩ := h; rfl) | (obtain ⟨_, _, _, _, _, _, _, rfl, _⟩ := h; rfl) | (obtain ⟨_, _, _, _, _, _, _, rfl⟩ := h; rfl) | (obtain ⟨_, _, _, _, _, _, _, _, rfl, _⟩ := h; rfl) | (obtain ⟨_, _, _, _, _, _, _, _, rfl⟩ := h; rfl) | (obtain ⟨_, _, _, _, _, _, _, _, _, rfl, _⟩ := h; rfl) | (obtain ⟨_, _, _, _, _, _, _, _, _, rfl⟩ := h; rfl) | (obtain ⟨_, _, rfl⟩ := h; rfl) | (cases h; rfl)) w_lawA
  exact ⟨fd, h1, fun base hb hn => h2 base ⟨hb, hn⟩⟩
end K14
open PySem PySem.W PyProof.Rows
set_option maxHeartbeats 0 in
theorem PySem.Challenge.cw_plainbehind_k14_two_steps_meet_whole_holds : PySem.Challenge.rw_plainbehind_k14_two_steps_meet_whole.Holds := by
  w_on; o_law; k_head; (case hw => w_witness2)
  k_fill
  refine L2.walk_ofB (l := PySem.Challenge.rw_plainbehind_k14_two_steps_meet_whole) (n := 63) (k := 126) (x := "script") (CX := fun _ => L2.CX0) (sp := fun w => PD.spD ⟨_, PySem.Challenge.rw_plainbehind_k14_two_steps_meet_whole.prog, w⟩ (PD.lawS K14.okIn)) rfl (by decide) rfl ⟨rfl, by decide, by decide⟩ (fun w h Y => PySem.W.kIn_of Y) ?F (fun _ _ a ns hl hb _ hS => PD.law_sp (K := ⟨_, PySem.Challenge.rw_plainbehind_k14_two_steps_meet_whole.prog, _⟩) ⟨hl, hb⟩ hS) (fun _ _ _ _ _ h => h)
  case F =>
    intro w mg fa h KX G hmg
    refine' K14.finish (h := h) hmg
      (PD.dn_of KX G ?a0 ?l0 ?c0 ?k0 (fun _ _ _ _ _ _ us hl => match us, hl with | [_], _ => rfl))
      (PD.dn_of KX G ?a1 ?l1 ?c1 ?k1 (fun _ _ _ _ _ _ us hl => match us, hl with | [_], _ => rfl))
      (PD.dn_of KX G ?a2 ?l2 ?c2 ?k2 (fun _ _ _ _ _ _ us hl => match us, hl with | [_, _], _ => rfl))
      (PD.dn_of KX G ?a3 ?l3 ?c3 ?k3 (fun _ _ _ _ _ _ us hl => match us, hl with | [_, _], _ => rfl))
      (PD.dn_of KX G ?a4 ?l4 ?c4 ?k4 (fun _ _ _ _ _ _ us hl => match us, hl with | [_, _, _], _ => rfl))
      (PD.dnv_of (dvs := [L2.V.int 0]) KX G ?a5 ?l5 ?c5 ?k5 ?t5 ?o5 ?r5 (fun _ _ _ => (.cons (.int _) .nil)) (by simp) (by decide) (fun _ _ _ _ _ _ _ us its h1 h2 => match us, its, h1, h2 with | [_, _, _], [_], _, _ => ⟨_, rfl, rfl⟩) (fun _ _ _ _ _ _ _ us its h1 h2 => match us, its, h1, h2 with | [_, _], [_], _, _ => ⟨_, rfl, rfl⟩))
      (PD.dn_of KX G ?a6 ?l6 ?c6 ?k6 (fun _ _ _ _ _ _ us hl => match us, hl with | [_, _, _], _ => rfl))
      (PD.dn_of KX G ?a7 ?l7 ?c7 ?k7 (fun _ _ _ _ _ _ us hl => match us, hl with | [_, _], _ => rfl))
      (PD.dn_of KX G ?a8 ?l8 ?c8 ?k8 (fun _ _ _ _ _ _ us hl => match us, hl with | [_], _ => rfl))
      (PD.dn_of KX G ?a9 ?l9 ?c9 ?k9 (fun _ _ _ _ _ _ us hl => match us, hl with | [_], _ => rfl))
      (PD.dn_of KX G ?a10 ?l10 ?c10 ?k10 (fun _ _ _ _ _ _ us hl => match us, hl with | [_, _], _ => rfl))
      (PD.dn_of KX G ?a11 ?l11 ?c11 ?k11 (fun _ _ _ _ _ _ us hl => match us, hl with | [_, _], _ => rfl))
      (PD.dn_of KX G ?a12 ?l12 ?c12 ?k12 (fun _ _ _ _ _ _ us hl => match us, hl with | [_, _], _ => rfl))
      (PD.dn_of KX G ?a13 ?l13 ?c13 ?k13 (fun _ _ _ _ _ _ us hl => match us, hl with | [_, _], _ => rfl))
      (PD.dn_of KX G ?a14 ?l14 ?c14 ?k14 (fun _ _ _ _ _ _ us hl => match us, hl with | [_, _, _, _, _, _], _ => rfl))
      (PD.dn_of KX G ?a15 ?l15 ?c15 ?k15 (fun _ _ _ _ _ _ us hl => match us, hl with | [_, _, _], _ => rfl))
      (PD.dn_of KX G ?a16 ?l16 ?c16 ?k16 (fun _ _ _ _ _ _ us hl => match us, hl with | [_, _, _], _ => rfl))
      (PD.dn_of KX G ?a17 ?l17 ?c17 ?k17 (fun _ _ _ _ _ _ us hl => match us, hl with | [_, _], _ => rfl))
      (PD.dn_of KX G ?a18 ?l18 ?c18 ?k18 (fun _ _ _ _ _ _ us hl => match us, hl with | [_, _], _ => rfl))
      (PD.dn_of KX G ?a19 ?l19 ?c19 ?k19 (fun _ _ _ _ _ _ us hl => match us, hl with | [_], _ => rfl))
      (PD.dn_of KX G ?a20 ?l20 ?c20 ?k20 (fun _ _ _ _ _ _ us hl => match us, hl with | [_], _ => rfl))
      (PD.dn_of KX G ?a21 ?l21 ?c21 ?k21 (fun _ _ _ _ _ _ us hl => match us, hl with | [_, _], _ => rfl))
      (PD.dn_of KX G ?a22 ?l22 ?c22 ?k22 (fun _ _ _ _ _ _ us hl => match us, hl with | [_], _ => rfl))
      (PD.dn_of KX G ?a23 ?l23 ?c23 ?k23 (fun _ _ _ _ _ _ us hl => match us, hl with | [_, _, _], _ => rfl))
      (PD.dn_of KX G ?a24 ?l24 ?c24 ?k24 (fun _ _ _ _ _ _ us hl => match us, hl with | [_, _], _ => rfl))
      (PD.dn_of KX G ?a25 ?l25 ?c25 ?k25 (fun _ _ _ _ _ _ us hl => match us, hl with | [_, _], _ => rfl))
      (PD.dn_of KX G ?a26 ?l26 ?c26 ?k26 (fun _ _ _ _ _ _ us hl => match us, hl with | [_], _ => rfl))
      (PySem.W.mg_none_of KX G ?nbool)
      (PySem.W.mg_none_of KX G ?nint)
      (PySem.W.mg_none_of KX G ?nisinstance)
      (PySem.W.mg_none_of KX G ?nlen)
      (PySem.W.mg_none_of KX G ?nrange)
      (PySem.W.mg_none_of KX G ?nreversed)
      (PySem.W.mg_none_of KX G ?nstr)
      (PySem.W.mg_none_of KX G ?ntuple)
    (case a0 => k_is); (case l0 => k_is); (case c0 => k_is); (case k0 => k_is)
    (case a1 => k_is); (case l1 => k_is); (case c1 => k_is); (case k1 => k_is)
    (case a2 => k_is); (case l2 => k_is); (case c2 => k_is); (case k2 => k_is)
    (case a3 => k_is); (case l3 => k_is); (case c3 => k_is); (case k3 => k_is)
    (case a4 => k_is); (case l4 => k_is); (case c4 => k_is); (case k4 => k_is)
    (case a5 => k_is); (case l5 => k_is); (case c5 => k_is); (case k5 => k_is); (case t5 => k_is); (case o5 => rfl); (case r5 => exact (.cons ⟨_, rfl⟩ .nil))
    (case a6 => k_is); (case l6 => k_is); (case c6 => k_is); (case k6 => k_is)
    (case a7 => k_is); (case l7 => k_is); (case c7 => k_is); (case k7 => k_is)
    (case a8 => k_is); (case l8 => k_is); (case c8 => k_is); (case k8 => k_is)
    (case a9 => k_is); (case l9 => k_is); (case c9 => k_is); (case k9 => k_is)
    (case a10 => k_is); (case l10 => k_is); (case c10 => k_is); (case k10 => k_is)
    (case a11 => k_is); (case l11 => k_is); (case c11 => k_is); (case k11 => k_is)
    (case a12 => k_is); (case l12 => k_is); (case c12 => k_is); (case k12 => k_is)
    (case a13 => k_is); (case l13 => k_is); (case c13 => k_is); (case k13 => k_is)
    (case a14 => k_is); (case l14 => k_is); (case c14 => k_is); (case k14 => k_is)
    (case a15 => k_is); (case l15 => k_is); (case c15 => k_is); (case k15 => k_is)
    (case a16 => k_is); (case l16 => k_is); (case c16 => k_is); (case k16 => k_is)
    (case a17 => k_is); (case l17 => k_is); (case c17 => k_is); (case k17 => k_is)
    (case a18 => k_is); (case l18 => k_is); (case c18 => k_is); (case k18 => k_is)
    (case a19 => k_is); (case l19 => k_is); (case c19 => k_is); (case k19 => k_is)
    (case a20 => k_is); (case l20 => k_is); (case c20 => k_is); (case k20 => k_is)
    (case a21 => k_is); (case l21 => k_is); (case c21 => k_is); (case k21 => k_is)
    (case a22 => k_is); (case l22 => k_is); (case c22 => k_is); (case k22 => k_is)
    (case a23 => k_is); (case l23 => k_is); (case c23 => k_is); (case k23 => k_is)
    (case a24 => k_is); (case l24 => k_is); (case c24 => k_is); (case k24 => k_is)
    (case a25 => k_is); (case l25 => k_is); (case c25 => k_is); (case k25 => k_is)
    (case a26 => k_is); (case l26 => k_is); (case c26 => k_is); (case k26 => k_is)
    (case nbool => k_is)
    (case nint => k_is)
    (case nisinstance => k_is)
    (case nlen => k_is)
    (case nrange => k_is)
    (case nreversed => k_is)
    (case nstr => k_is)
    (case ntuple => k_is)



