import PyProof.Rows.All
import Wide.All
import OpenK.AllK
import Wide.FinOn
import HandS.TupMul
import HandS.WideBits
import HandS.Wide
import HandS.Rev
import HandS.RevRange
import HandS.Replace
import HandS.Defaults
import HandS.ForMost
import HandS.IsInst
import HandS.StrMore
import HandS.Deep
import HandS.Codes
import HandS.TupAny
import HandS.EndBits
import PySem.Challenge.RW_plainbehind_k31_text_meanings
set_option Elab.async false
set_option linter.all false
set_option maxRecDepth 100000
set_option maxHeartbeats 4000000
/-! tuple * int, whatever the int -/
namespace PD
open PySem PySem.Spec PyProof.Rows L2
theorem tup_mul_same (l : Addr) (items : Array Value) (n : Nat) (dd : Option Addr) (sl : Array (Option Value)) (x : Int) (u : Tok) (c0 : (decide (x < -(2 ^ 63)) || decide (x ≥ 2 ^ 63)) = false) (c1 : (items.isEmpty || x == 1) = true) :
    Meets (Builtin.«tuple.__mul__» ⟨[.ref l, .int x u], []⟩) (fun _ R s => s.heap.get? l = some { cls := .type "tuple", dict := dd, data := .seq items n, slots := sl } ∧
      R (.ok (.ret (Value.ref l))) s) :=
  .of_wp fun prog w A R s h => by
    obtain ⟨hp, g, d, tk, os⟩ := s
    obtain ⟨hl, h⟩ := h
    have f1 := AutoSeq1.idx_int
    wp_walk using wpAny_loadPart' hl
    repeat (first
      | (refine wpAny_ite_false (decide_eq_false (by rw [c0]; exact Bool.false_ne_true)) ?_; wp_walk using wpAny_loadPart' hl)
      | (refine wpAny_ite_true (decide_eq_true c1) ?_; wp_walk using wpAny_loadPart' hl))
    exact ⟨_, rfl, h⟩
theorem tup_mul_none (l : Addr) (items : Array Value) (n : Nat) (dd : Option Addr) (sl : Array (Option Value)) (x : Int) (u : Tok) (c0 : (decide (x < -(2 ^ 63)) || decide (x ≥ 2 ^ 63)) = false) (c1 : (items.isEmpty || x == 1) = false) (c2 : (decide (x ≤ 0) || items.isEmpty) = true) :
    Meets (Builtin.«tuple.__mul__» ⟨[.ref l, .int x u], []⟩) (fun _ R s => s.heap.get? l = some { cls := .type "tuple", dict := dd, data := .seq items n, slots := sl } ∧
      R (.ok (.ret (Value.ref s.heap.objs.size))) { s with heap := s.heap.push { cls := Value.type "tuple", data := Data.seq #[] }, toks := s.toks }) :=
  .of_wp fun prog w A R s h => by
    obtain ⟨hp, g, d, tk, os⟩ := s
    obtain ⟨hl, h⟩ := h
    have f1 := AutoSeq1.idx_int
    wp_walk using wpAny_loadPart' hl
    repeat (first
      | (refine wpAny_ite_false (decide_eq_false (by rw [c0]; exact Bool.false_ne_true)) ?_; wp_walk using wpAny_loadPart' hl)
      | (refine wpAny_ite_false (decide_eq_false (by rw [c1]; exact Bool.false_ne_true)) ?_; wp_walk using wpAny_loadPart' hl)
      | (refine wpAny_ite_true (decide_eq_true c2) ?_; wp_walk using wpAny_loadPart' hl))
    exact ⟨_, rfl, h⟩
/-- t * k of any k: the same thing where nothing is to do -/
def rRepA (K : PySem.W.Frag) : R2 := fun x y H Q => ∃ l k xs, x = .ref l ∧ y = .int k ∧ SqT K H l xs ∧ -(2 ^ 63) ≤ k ∧ k ≤ 1000 ∧ xs.length ≤ 1000 ∧
  ((xs = [] ∨ k = 1) → Q (.ref l) H) ∧ (xs ≠ [] → k ≠ 1 → ∀ p, H p = none → Q (.ref p) (upd H p (.tup (List.replicate k.toNat xs).flatten)))
theorem op_repA {X : Cx} : OpR X (binaryOp .Mult) (rRepA X.K) := by
  intro pins s σ H x y v u Q I rx ry h
  obtain ⟨l, k, xs, rfl, rfl, hT, h1, h2, hz, q1, q2⟩ := h
  by_cases hc : xs ≠ [] ∧ 2 ≤ k
  · exact op_repT pins s σ H _ _ v u Q I rx ry ⟨l, k, xs, rfl, rfl, hT, hc.1, hc.2, h2, hz, q2 hc.1 (by omega)⟩
  have rx' := rx
  cases rx
  obtain ⟨t, rfl⟩ := ry
  obtain ⟨its, r, ⟨⟨cls, dd, data, sl⟩, ho, hcl, n, hd⟩, hs⟩ := I.tuple hT
  simp only at hcl hd
  subst hcl hd
  have hle : its.length = xs.length := r.length.symm
  have c0 : (decide (k < -(2 ^ 63)) || decide (k ≥ 2 ^ 63)) = false := by
    rw [decide_eq_false (by omega), decide_eq_false (by omega)] <;> rfl
  by_cases hd1 : xs = [] ∨ k = 1
  · have c1 : (its.toArray.isEmpty || k == 1) = true := by
      rcases hd1 with e | e
      · have : its = [] := List.eq_nil_of_length_eq_zero (by rw [hle, e]; rfl)
        rw [this]; rfl
      · rw [e]; simp
    refine wpAny_binaryOp_repeat_ref (T := "tuple") (U := "int") (by decide) ⟨_, ho, rfl⟩ (fun s' => typeIs_int s' k t) noFill_tuple_mul F.fills_int_mul F.slot_int_rmul repeat_tuple F.slot_int_index.lookup
      (call_meets F.slot_int_rmul (typeIs_int s k t) F.entry_int_rmul (F.args_int_rmul_2 _ _) (int_rmul_tuple k t l its.toArray n dd sl)
        ⟨ho, rfl, ⟨_, ho, rfl⟩, call_meets F.slot_tuple_mul ⟨_, ho, rfl⟩ F.entry_tuple_mul (F.args_tuple_mul_2 _ _) (tup_mul_same l its.toArray n dd sl k t c0 c1) ⟨ho, ?_⟩⟩)
    exact ⟨.ref l, H, I, rx', q1 hd1⟩
  · have hne : xs ≠ [] := fun e => hd1 (.inl e)
    have hk : k ≠ 1 := fun e => hd1 (.inr e)
    have hn : its ≠ [] := fun e => hne (by
      rw [e] at hle
      exact List.eq_nil_of_length_eq_zero hle.symm)
    have hi : its.toArray.isEmpty = false := by
      cases its with
      | nil => exact absurd rfl hn
      | cons a b => rfl
    have c1 : (its.toArray.isEmpty || k == 1) = false := by
      rw [hi, Bool.false_or]
      exact beq_eq_false_iff_ne.mpr hk
    have hk0 : k ≤ 0 := by
      have : ¬ (2 ≤ k) := fun z => hc ⟨hne, z⟩
      omega
    have c2 : (decide (k ≤ 0) || its.toArray.isEmpty) = true := by
      rw [decide_eq_true hk0]; rfl
    refine wpAny_binaryOp_repeat_ref (T := "tuple") (U := "int") (by decide) ⟨_, ho, rfl⟩ (fun s' => typeIs_int s' k t) noFill_tuple_mul F.fills_int_mul F.slot_int_rmul repeat_tuple F.slot_int_index.lookup
      (call_meets F.slot_int_rmul (typeIs_int s k t) F.entry_int_rmul (F.args_int_rmul_2 _ _) (int_rmul_tuple k t l its.toArray n dd sl)
        ⟨ho, rfl, ⟨_, ho, rfl⟩, call_meets F.slot_tuple_mul ⟨_, ho, rfl⟩ F.entry_tuple_mul (F.args_tuple_mul_2 _ _) (tup_mul_none l its.toArray n dd sl k t c0 c1 c2) ⟨ho, ?_⟩⟩)
    have e0 : k.toNat = 0 := by omega
    have e1 : (List.replicate k.toNat xs).flatten = [] := by rw [e0]; rfl
    have q := q2 hne hk
    rw [e1] at q
    refine ⟨.ref s.heap.objs.size, _, I.laid (t' := s.toks) (o := .tup []) (fun b ob q => Heap.get?_push_of_some _ q) (Nat.le_refl _) ?_, rfl, q _ (I.hok.fresh (Nat.le_refl _))⟩
    exact ⟨Nat.zero_le _, [], .nil, IsTup.new _ _⟩
end PD

namespace PD
open PySem PySem.Spec PyProof.Rows L2

abbrev D := PyData
abbrev Sg := L2.St

/-! ### two heaps: F (what never changes again) within H (all) -/
structure Ext (F H F' H' : Hp) : Prop where
  f : Same F F'
  h : Same H H'
  new : ∀ a, H a ≠ none → F' a = F a
theorem Ext.refl (F H : Hp) : Ext F H F H := ⟨Same.refl F, Same.refl H, fun _ _ => rfl⟩
theorem some_ne {H : Hp} {a : Addr} {o : HO} (h : H a = some o) : H a ≠ none := fun e => by rw [h] at e; cases e
theorem ne_some {H : Hp} {a : Addr} (h : H a ≠ none) : ∃ o, H a = some o := by
  cases e : H a with
  | none => exact absurd e h
  | some o => exact ⟨o, rfl⟩
theorem Same.ne {H H' : Hp} (s : Same H H') {a : Addr} (h : H a ≠ none) : H' a ≠ none := by
  obtain ⟨o, e⟩ := ne_some h
  exact some_ne (s a o e)
theorem Ext.trans {F H F1 H1 F2 H2 : Hp} (a : Ext F H F1 H1) (b : Ext F1 H1 F2 H2) : Ext F H F2 H2 :=
  ⟨a.f.trans b.f, a.h.trans b.h, fun x hx => (b.new x (Same.ne a.h hx)).trans (a.new x hx)⟩
theorem same_upd {H : Hp} {p : Addr} {o : HO} (h : H p = none) : Same H (upd H p o) := fun b x e => by
  rw [upd_ne (ne_of_none e h)]; exact e
theorem same_upd2 {F H : Hp} {p : Addr} {o : HO} (s : Same F H) (h : F p = none) : Same F (upd H p o) := fun b x e => by
  rw [upd_ne (ne_of_none e h)]; exact s b x e
theorem same_both {F H : Hp} {p : Addr} {o : HO} (s : Same F H) : Same (upd F p o) (upd H p o) := fun b x e => by
  by_cases hb : b = p
  · subst hb; rw [upd_same] at e ⊢; exact e
  · rw [upd_ne hb] at e ⊢; exact s b x e
/-- a new thing, never to change -/
theorem Ext.lay {F H : Hp} {p : Addr} {o : HO} (s : Same F H) (h : H p = none) : Ext F H (upd F p o) (upd H p o) :=
  ⟨same_upd (s.free h), same_upd h, fun a ha => by
    have : a ≠ p := fun e => ha (e ▸ h)
    rw [upd_ne this]⟩
/-- a new thing that may change -/
theorem Ext.mkO {F H : Hp} {p : Addr} {o : HO} (h : H p = none) : Ext F H F (upd H p o) := ⟨Same.refl F, same_upd h, fun _ _ => rfl⟩

/-! ### data -/
mutual
/-- at v, in H, stands the datum -/
inductive Rp (K : PySem.W.Frag) (H : Hp) : V → D → Prop
  | non : Rp K H .non .none
  | bl (b : Bool) : Rp K H (.bl b) (.bool b)
  | int (i : Int) : Rp K H (.int i) (.int i)
  | str (x : Str) : Rp K H (.str x) (.str x)
  | lst {a : Addr} {xs : List V} {ds : List D} : SqL K H a xs → RpAll K H xs ds → Rp K H (.ref a) (.list ds)
  | tup {a : Addr} {xs : List V} {ds : List D} : SqT K H a xs → RpAll K H xs ds → Rp K H (.ref a) (.tuple ds)
inductive RpAll (K : PySem.W.Frag) (H : Hp) : List V → List D → Prop
  | nil : RpAll K H [] []
  | cons {v : V} {vs : List V} {d : D} {ds : List D} : Rp K H v d → RpAll K H vs ds → RpAll K H (v :: vs) (d :: ds)
end
mutual
theorem rp_dp {K : PySem.W.Frag} {H : Hp} : ∀ (d : D) (v : V), Rp K H v d → Dp K H v d
  | .none, _, h => by cases h; exact .non
  | .bool b, _, h => by cases h; exact .bl b
  | .int i, _, h => by cases h; exact .int i
  | .str x, _, h => by cases h; exact .str x
  | .list ds, _, h => by
    cases h with
    | lst hs ha => exact .lst hs (ra_da ds _ ha)
  | .tuple ds, _, h => by
    cases h with
    | tup hs ha => exact .tup hs (ra_da ds _ ha)
  | .dict _, _, h => by cases h
theorem ra_da {K : PySem.W.Frag} {H : Hp} : ∀ (ds : List D) (vs : List V), RpAll K H vs ds → DpAll K H vs ds
  | [], _, h => by cases h; exact .nil
  | d :: ds, _, h => by
    cases h with
    | cons h1 h2 => exact .cons (rp_dp d _ h1) (ra_da ds _ h2)
end
theorem rd_mono {H H' : Hp} {a : Addr} {u : HO} (e : Same H H') (h : Rd H a u) : Rd H' a u := by
  rcases h with h | ⟨o, h⟩
  · exact .inl (e _ _ h)
  · exact .inr ⟨o, e _ _ h⟩
theorem sqL_mono {K : PySem.W.Frag} {H H' : Hp} {a : Addr} {xs : List V} (e : Same H H') (h : SqL K H a xs) : SqL K H' a xs := e.seq h
theorem sqT_mono {K : PySem.W.Frag} {H H' : Hp} {a : Addr} {xs : List V} (e : Same H H') (h : SqT K H a xs) : SqT K H' a xs := by
  rcases h with (h | ⟨o, h⟩) | h
  · exact .inl (.inl (e _ _ h))
  · exact .inl (.inr ⟨o, e _ _ h⟩)
  · exact .inr h
mutual
theorem dp_mono {K : PySem.W.Frag} {H H' : Hp} (e : Same H H') : ∀ (d : D) (v : V), Rp K H v d → Rp K H' v d
  | .none, _, h => by cases h; exact .non
  | .bool b, _, h => by cases h; exact .bl b
  | .int i, _, h => by cases h; exact .int i
  | .str x, _, h => by cases h; exact .str x
  | .list ds, _, h => by
    cases h with
    | lst hs ha => exact .lst (sqL_mono e hs) (dpAll_mono e ds _ ha)
  | .tuple ds, _, h => by
    cases h with
    | tup hs ha => exact .tup (sqT_mono e hs) (dpAll_mono e ds _ ha)
  | .dict _, _, h => by cases h
theorem dpAll_mono {K : PySem.W.Frag} {H H' : Hp} (e : Same H H') : ∀ (ds : List D) (vs : List V), RpAll K H vs ds → RpAll K H' vs ds
  | [], _, h => by cases h; exact .nil
  | d :: ds, _, h => by
    cases h with
    | cons h1 h2 => exact .cons (dp_mono e d _ h1) (dpAll_mono e ds _ h2)
end
theorem dp_m {K : PySem.W.Frag} {H H' : Hp} {v : V} {d : D} (h : Rp K H v d) (e : Same H H') : Rp K H' v d := dp_mono e d v h
theorem da_m {K : PySem.W.Frag} {H H' : Hp} {vs : List V} {ds : List D} (h : RpAll K H vs ds) (e : Same H H') : RpAll K H' vs ds := dpAll_mono e ds vs h
theorem da_len {K : PySem.W.Frag} {H : Hp} : ∀ {vs : List V} {ds : List D}, RpAll K H vs ds → vs.length = ds.length
  | _, _, .nil => rfl
  | _, _, .cons _ h => by rw [List.length_cons, List.length_cons, da_len h]
theorem da_get {K : PySem.W.Frag} {H : Hp} : ∀ {vs : List V} {ds : List D} {i : Nat} {d : D}, RpAll K H vs ds → ds[i]? = some d → ∃ v, vs[i]? = some v ∧ Rp K H v d
  | _, _, _, _, .nil, e => by simp at e
  | _, _, 0, _, .cons h _, e => by simp at e; subst e; exact ⟨_, rfl, h⟩
  | _, _, i + 1, d, .cons _ h, e => by
    obtain ⟨v, e1, h1⟩ := da_get (i := i) (d := d) h (by simpa using e)
    exact ⟨v, by simpa using e1, h1⟩
theorem da_get' {K : PySem.W.Frag} {H : Hp} : ∀ {vs : List V} {ds : List D} {i : Nat} {v : V}, RpAll K H vs ds → vs[i]? = some v → ∃ d, ds[i]? = some d ∧ Rp K H v d
  | _, _, _, _, .nil, e => by simp at e
  | _, _, 0, _, .cons h _, e => by simp at e; subst e; exact ⟨_, rfl, h⟩
  | _, _, i + 1, d, .cons _ h, e => by
    obtain ⟨v, e1, h1⟩ := da_get' (i := i) (v := d) h (by simpa using e)
    exact ⟨v, by simpa using e1, h1⟩
theorem da_app {K : PySem.W.Frag} {H : Hp} : ∀ {vs : List V} {ds : List D} {ws : List V} {es : List D}, RpAll K H vs ds → RpAll K H ws es → RpAll K H (vs ++ ws) (ds ++ es)
  | _, _, _, _, .nil, h => h
  | _, _, _, _, .cons h1 h2, h => .cons h1 (da_app h2 h)
theorem da_snoc {K : PySem.W.Frag} {H : Hp} {vs : List V} {ds : List D} {v : V} {d : D} (h : RpAll K H vs ds) (h1 : Rp K H v d) : RpAll K H (vs ++ [v]) (ds ++ [d]) := da_app h (.cons h1 .nil)
theorem da_take {K : PySem.W.Frag} {H : Hp} : ∀ {vs : List V} {ds : List D} (n : Nat), RpAll K H vs ds → RpAll K H (vs.take n) (ds.take n)
  | _, _, 0, _ => .nil
  | _, _, _ + 1, .nil => .nil
  | _, _, n + 1, .cons h t => .cons h (da_take n t)
theorem da_drop {K : PySem.W.Frag} {H : Hp} : ∀ {vs : List V} {ds : List D} (n : Nat), RpAll K H vs ds → RpAll K H (vs.drop n) (ds.drop n)
  | _, _, 0, h => h
  | _, _, _ + 1, .nil => .nil
  | _, _, n + 1, .cons _ t => da_drop n t
theorem da_set {K : PySem.W.Frag} {H : Hp} {v : V} {d : D} (r : Rp K H v d) : ∀ {vs : List V} {ds : List D} (i : Nat), RpAll K H vs ds → RpAll K H (vs.set i v) (ds.set i d)
  | _, _, _, .nil => .nil
  | _, _, 0, .cons _ t => .cons r t
  | _, _, i + 1, .cons q t => .cons q (da_set r i t)
theorem da_rep {K : PySem.W.Frag} {H : Hp} {vs : List V} {ds : List D} (h : RpAll K H vs ds) : ∀ k : Nat, RpAll K H (List.replicate k vs).flatten (List.replicate k ds).flatten
  | 0 => .nil
  | k + 1 => by
    rw [List.replicate_succ, List.replicate_succ, List.flatten_cons, List.flatten_cons]
    exact da_app h (da_rep h k)

/-! ### slots -/
inductive Sl where
  | fz (d : D)
  | ow (ds : List D)
  | ow2 (dss : List (List D))
abbrev Env := List (Option Sl)
def Own2 (K : PySem.W.Frag) (F H : Hp) : List Addr → List (List D) → Prop
  | [], [] => True
  | b :: bs, ds :: dss => (∃ xs, H b = some (.lst xs) ∧ RpAll K F xs ds) ∧ Own2 K F H bs dss
  | _, _ => False
def SlRep (K : PySem.W.Frag) (F H : Hp) : Option Sl → Option V → List Addr → Prop
  | none, _, os => os = []
  | some (.fz d), v, os => os = [] ∧ ∃ x, v = some x ∧ Rp K F x d
  | some (.ow ds), v, os => ∃ a xs, v = some (.ref a) ∧ os = [a] ∧ H a = some (.lst xs) ∧ RpAll K F xs ds
  | some (.ow2 dss), v, os => ∃ a bs, v = some (.ref a) ∧ os = a :: bs ∧ H a = some (.lst (bs.map V.ref)) ∧ Own2 K F H bs dss
theorem Own2.mono {K : PySem.W.Frag} {F H F' H' : Hp} (f : Same F F') : ∀ {bs : List Addr} {dss : List (List D)}, (∀ b ∈ bs, ∀ o, H b = some o → H' b = some o) → Own2 K F H bs dss → Own2 K F' H' bs dss
  | [], [], _, _ => True.intro
  | b :: bs, ds :: dss, h, ⟨⟨xs, e, r⟩, t⟩ => ⟨⟨xs, h b List.mem_cons_self _ e, da_m r f⟩, Own2.mono f (fun c hc => h c (List.mem_cons_of_mem _ hc)) t⟩
  | [], _ :: _, _, h => h
  | _ :: _, [], _, h => h
theorem SlRep.mono {K : PySem.W.Frag} {F H F' H' : Hp} {s : Option Sl} {v : Option V} {os : List Addr} (f : Same F F') (h : ∀ b ∈ os, ∀ o, H b = some o → H' b = some o) (r : SlRep K F H s v os) : SlRep K F' H' s v os := by
  match s, r with
  | none, r => exact r
  | some (.fz d), ⟨e, x, e1, q⟩ => exact ⟨e, x, e1, dp_m q f⟩
  | some (.ow ds), ⟨a, xs, e1, e2, e3, q⟩ =>
    subst e2
    exact ⟨a, xs, e1, rfl, h a (by simp) _ e3, da_m q f⟩
  | some (.ow2 dss), ⟨a, bs, e1, e2, e3, q⟩ =>
    subst e2
    exact ⟨a, bs, e1, rfl, h a (by simp) _ e3, q.mono f fun b hb => h b (List.mem_cons_of_mem _ hb)⟩
theorem Own2.there {K : PySem.W.Frag} {F H : Hp} : ∀ {bs : List Addr} {dss : List (List D)}, Own2 K F H bs dss → ∀ b ∈ bs, H b ≠ none
  | [], [], _, b, hb => by simp at hb
  | c :: bs, ds :: dss, ⟨⟨xs, e, _⟩, t⟩, b, hb => by
    rcases List.mem_cons.mp hb with rfl | hb
    · exact some_ne e
    · exact Own2.there t b hb
  | [], _ :: _, h, _, _ => h.elim
  | _ :: _, [], h, _, _ => h.elim
theorem SlRep.there {K : PySem.W.Frag} {F H : Hp} {s : Option Sl} {v : Option V} {os : List Addr} (r : SlRep K F H s v os) : ∀ b ∈ os, H b ≠ none := by
  intro b hb
  match s, r with
  | none, r => rw [r] at hb; simp at hb
  | some (.fz d), ⟨e, _⟩ => rw [e] at hb; simp at hb
  | some (.ow ds), ⟨a, xs, e1, e2, e3, q⟩ =>
    subst e2
    have : b = a := by simpa using hb
    subst this
    exact some_ne e3
  | some (.ow2 dss), ⟨a, bs, e1, e2, e3, q⟩ =>
    subst e2
    rcases List.mem_cons.mp hb with rfl | hb
    · exact some_ne e3
    · exact q.there b hb

abbrev gt {α : Type} (l : List (Option α)) (i : Nat) : Option α := l.getD i none
theorem gt_set {α : Type} {l : List (Option α)} {i j : Nat} {x : Option α} (h : i < l.length) : gt (l.set i x) j = if j = i then x else gt l j := by
  unfold gt
  rw [List.getD_eq_getElem?_getD, List.getD_eq_getElem?_getD]
  by_cases e : j = i
  · subst e; rw [if_pos rfl, List.getElem?_set_self h]; rfl
  · rw [if_neg e, List.getElem?_set_ne (Ne.symm e)]
theorem gt_some {α : Type} {l : List (Option α)} {i : Nat} {x : α} (h : gt l i = some x) : l[i]? = some (some x) := by
  unfold gt at h
  rw [List.getD_eq_getElem?_getD] at h
  cases e : l[i]? with
  | none => rw [e] at h; cases h
  | some y => rw [e] at h; exact congrArg some h
theorem gt_lt {α : Type} {l : List (Option α)} {i : Nat} {x : α} (h : gt l i = some x) : i < l.length := (List.getElem?_eq_some_iff.mp (gt_some h)).1

/-- the addresses that the slots own -/
structure Owns (K : PySem.W.Frag) (H0 F : Hp) (ρ : Env) (σ : Sg) (H : Hp) (O : Nat → List Addr) : Prop where
  nd : ∀ i, (O i).Nodup
  dj : ∀ i j a, a ∈ O i → a ∈ O j → i = j
  no : ∀ i a, a ∈ O i → F a = none ∧ H0 a = none
  rep : ∀ i, SlRep K F H (gt ρ i) (gt σ i) (O i)
structure R (K : PySem.W.Frag) (F0 H0 F : Hp) (ρ : Env) (σ : Sg) (H : Hp) : Prop where
  ext : Ext F0 H0 F H
  sub : Same F H
  len : σ.length = ρ.length
  own : ∃ O, Owns K H0 F ρ σ H O

section
variable {K : PySem.W.Frag} {F0 H0 F H F' H' : Hp} {ρ : Env} {σ : Sg}
/-- expressions: all that was there stays -/
theorem R.go (r : R K F0 H0 F ρ σ H) (e : Ext F H F' H') (s : Same F' H') : R K F0 H0 F' ρ σ H' := by
  obtain ⟨O, o⟩ := r.own
  refine ⟨r.ext.trans e, s, r.len, O, o.nd, o.dj, fun i a ha => ⟨?_, (o.no i a ha).2⟩, fun i => (o.rep i).mono e.f fun b _ x q => e.h b x q⟩
  rw [e.new a ((o.rep i).there a ha)]
  exact (o.no i a ha).1
/-- a slot is set to what never changes -/
theorem R.setF {i : Nat} {v : V} {d : D} (r : R K F0 H0 F ρ σ H) (hi : i < ρ.length) (q : Rp K F v d) : R K F0 H0 F (ρ.set i (some (.fz d))) (σ.set i (some v)) H := by
  obtain ⟨O, o⟩ := r.own
  have hi' : i < σ.length := by rw [r.len]; exact hi
  refine ⟨r.ext, r.sub, by rw [List.length_set, List.length_set]; exact r.len, fun j => if j = i then [] else O j, fun j => ?_, fun j k a h1 h2 => ?_, fun j a h1 => ?_, fun j => ?_⟩
  · split
    · exact List.nodup_nil
    · exact o.nd j
  · by_cases ej : j = i
    · rw [if_pos ej] at h1; simp at h1
    · rw [if_neg ej] at h1
      by_cases ek : k = i
      · rw [if_pos ek] at h2; simp at h2
      · rw [if_neg ek] at h2; exact o.dj j k a h1 h2
  · by_cases ej : j = i
    · rw [if_pos ej] at h1; simp at h1
    · rw [if_neg ej] at h1; exact o.no j a h1
  · rw [gt_set hi, gt_set hi']
    by_cases ej : j = i
    · rw [if_pos ej, if_pos ej, if_pos ej]; exact ⟨rfl, v, rfl, q⟩
    · rw [if_neg ej, if_neg ej, if_neg ej]; exact o.rep j
/-- a slot is forgotten -/
theorem R.wipe1 {i : Nat} (r : R K F0 H0 F ρ σ H) : R K F0 H0 F (ρ.set i none) (σ.set i none) H := by
  obtain ⟨O, o⟩ := r.own
  by_cases hi : i < ρ.length
  · have hi' : i < σ.length := by rw [r.len]; exact hi
    refine ⟨r.ext, r.sub, by rw [List.length_set, List.length_set]; exact r.len, fun j => if j = i then [] else O j, fun j => ?_, fun j k a h1 h2 => ?_, fun j a h1 => ?_, fun j => ?_⟩
    · split
      · exact List.nodup_nil
      · exact o.nd j
    · by_cases ej : j = i
      · rw [if_pos ej] at h1; simp at h1
      · rw [if_neg ej] at h1
        by_cases ek : k = i
        · rw [if_pos ek] at h2; simp at h2
        · rw [if_neg ek] at h2; exact o.dj j k a h1 h2
    · by_cases ej : j = i
      · rw [if_pos ej] at h1; simp at h1
      · rw [if_neg ej] at h1; exact o.no j a h1
    · rw [gt_set hi, gt_set hi']
      by_cases ej : j = i
      · rw [if_pos ej, if_pos ej, if_pos ej]; exact rfl
      · rw [if_neg ej, if_neg ej, if_neg ej]; exact o.rep j
  · have hi' : ¬ i < σ.length := by rw [r.len]; exact hi
    rw [List.set_eq_of_length_le (by omega), List.set_eq_of_length_le (by omega)]
    exact r
/-- a slot is set to a new thing that the slot owns -/
theorem R.setO {i : Nat} {v : V} {s : Sl} {os : List Addr} (r : R K F0 H0 F ρ σ H) (hi : i < ρ.length) (nd : os.Nodup) (no : ∀ a ∈ os, F a = none ∧ H0 a = none)
    (ap : ∀ O, Owns K H0 F ρ σ H O → ∀ j, j ≠ i → ∀ a ∈ os, a ∉ O j) (q : SlRep K F H (some s) (some v) os) : R K F0 H0 F (ρ.set i (some s)) (σ.set i (some v)) H := by
  obtain ⟨O, o⟩ := r.own
  have ap := ap O o
  have hi' : i < σ.length := by rw [r.len]; exact hi
  refine ⟨r.ext, r.sub, by rw [List.length_set, List.length_set]; exact r.len, fun j => if j = i then os else O j, fun j => ?_, fun j k a h1 h2 => ?_, fun j a h1 => ?_, fun j => ?_⟩
  · split
    · exact nd
    · exact o.nd j
  · by_cases ej : j = i
    · rw [if_pos ej] at h1
      by_cases ek : k = i
      · rw [ej, ek]
      · rw [if_neg ek] at h2; exact absurd h2 (ap k ek a h1)
    · rw [if_neg ej] at h1
      by_cases ek : k = i
      · rw [if_pos ek] at h2; exact absurd h1 (ap j ej a h2)
      · rw [if_neg ek] at h2; exact o.dj j k a h1 h2
  · by_cases ej : j = i
    · rw [if_pos ej] at h1; exact no a h1
    · rw [if_neg ej] at h1; exact o.no j a h1
  · rw [gt_set hi, gt_set hi']
    by_cases ej : j = i
    · rw [if_pos ej, if_pos ej, if_pos ej]; exact q
    · rw [if_neg ej, if_neg ej, if_neg ej]; exact o.rep j
end
end PD

namespace PD
open PySem PySem.Spec PyProof.Rows L2

/-! ### the small syntax -/
inductive Bl | len | int | str | tuple | list | abs | max | min | sum
  deriving DecidableEq
inductive Mt | join | find3 | rfind4 | sindex
  deriving DecidableEq
inductive Tg where
  | nm (i : Nat)
  | tp (is : List Nat)
mutual
inductive E where
  | var (i : Nat)
  | ct (k : Nat)
  | non
  | bl (b : Bool)
  | int (i : Int)
  | str (x : List Nat)
  | bin (op : Operator) (a b : E)
  | neg (a : E)
  | cmp (op : CmpOp) (a b : E)
  | bop (conj : Bool) (es : Es)
  | nt (a : E)
  | ifx (c a b : E)
  | ix (a i : E)
  | sl (a : E) (lo hi : Eo)
  | call (k : Nat) (es : Es)
  | callk (k n : Nat) (es : Es) (ks : List Str) (kes : Es)
  | blt (b : Bl) (es : Es)
  | isi (a : E) (ts : List String)
  | mth (m : Mt) (o : E) (es : Es)
  | tup (es : Es)
  | lst (es : Es)
  | lc (own : List (Str × Nat)) (elt : E) (tg : Tg) (it : I) (cs : Eo)
inductive Eo where
  | no
  | yes (e : E)
inductive Es where
  | nil
  | cons (e : E) (es : Es)
inductive I where
  | ls (e : E)
  | r1 (a : E)
  | r2 (a b : E)
  | rv (e : E)
  | rr1 (a : E)
  | rr2 (a b : E)
end
mutual
inductive S where
  | asg (tg : Tg) (e : E)
  | own (i : Nat) (e : E)
  | own2 (i : Nat)
  | frz (i : Nat)
  | app (i : Nat) (e : E)
  | app2 (i : Nat) (e : E)
  | appI (i : Nat) (j e : E)
  | seti (i : Nat) (j e : E)
  | set2 (i : Nat) (j k e : E)
  | drop (e : E)
  | ifs (c : E) (a b : Ss)
  | whl (c : E) (b : Ss)
  | fr (tg : Tg) (it : I) (b : Ss)
  | ret (e : E)
  | retN
  | pass
  | brk
  | cont
  | never
inductive Ss where
  | nil
  | cons (s : S) (ss : Ss)
end

/-! ### what data does -/
inductive Md where
  | t (n : Nat)
  | fr
  | tst
def wTr : D → (Bool → Prop) → Prop
  | .none, Q => Q false
  | .bool b, Q => Q b
  | .int i, Q => Q (i != 0)
  | .str x, Q => x.length ≤ sizeLine ∧ Q ((x.length : Int) != 0)
  | .list ds, Q => Q (!ds.isEmpty)
  | .tuple ds, Q => Q (!ds.isEmpty)
  | _, _ => False
/-- the end of an expression whose value is no new list -/
def fin : Md → (D → Prop) → D → Prop
  | .t _, Q, d => Q d
  | .fr, _, _ => False
  | .tst, Q, d => wTr d fun b => Q (.bool b)
/-- .. a new list -/
def finL : Md → (D → Prop) → List D → Prop
  | .t _, Q, ds => Q (.list ds)
  | .fr, Q, ds => Q (.list ds)
  | .tst, Q, ds => Q (.bool (!ds.isEmpty))
def finB (md : Md) (Q : D → Prop) : D → Prop
  | .list ds => finL md Q ds
  | d => fin md Q d

def wBin : Operator → D → D → (D → Prop) → Prop
  | .Add, .int i, .int j, Q => Q (.int (i + j))
  | .Add, .str a, .str b, Q => a.length + b.length ≤ sizeLine ∧ Q (.str (a ++ b))
  | .Add, .list a, .list b, Q => a.length + b.length ≤ sizeLine ∧ Q (.list (a ++ b))
  | .Add, .tuple a, .tuple b, Q => a.length + b.length ≤ sizeLine ∧ Q (.tuple (a ++ b))
  | .Sub, .int i, .int j, Q => Q (.int (i - j))
  | .Mult, .int i, .int j, Q => IntMulOk i j ∧ Q (.int (i * j))
  | .Mult, .list a, .int j, Q => (-(2 ^ 63) ≤ j ∧ j < 2 ^ 63 ∧ a.length * j.toNat ≤ sizeLine) ∧ Q (.list (List.replicate j.toNat a).flatten)
  | .Mult, .tuple a, .int j, Q => (-(2 ^ 63) ≤ j ∧ j ≤ 1000 ∧ a.length ≤ 1000) ∧ Q (.tuple (List.replicate j.toNat a).flatten)
  | .FloorDiv, .int i, .int j, Q => CDivW i j ∧ Q (.int (i / j))
  | .Mod, .int i, .int j, Q => 0 < j ∧ Q (.int (i % j))
  | .Pow, .int i, .int j, Q => CPow i j ∧ Q (.int (i ^ j.toNat))
  | .BitAnd, .int i, .int j, Q => Q (.int (Builtin.bitAnd i j))
  | .BitOr, .int i, .int j, Q => Q (.int (Builtin.bitOr i j))
  | .BitXor, .int i, .int j, Q => Q (.int (Builtin.bitXor i j))
  | .LShift, .int i, .int j, Q => CShl i j ∧ Q (.int (i * 2 ^ j.toNat))
  | .RShift, .int i, .int j, Q => 0 ≤ j ∧ Q (.int (i / 2 ^ j.toNat))
  | _, _, _, _ => False
def scalD : D → D → Bool
  | .int _, .int _ => true
  | .str _, .str _ => true
  | .bool _, .bool _ => true
  | .none, .none => true
  | .none, .int _ => true | .int _, .none => true | .none, .bool _ => true | .bool _, .none => true | .none, .str _ => true | .str _, .none => true
  | .int _, .str _ => true | .str _, .int _ => true | .bool _, .str _ => true | .str _, .bool _ => true
  | _, _ => false
def eqS : D → D → Bool
  | .int i, .int j => decide (i = j)
  | .str x, .str y => decide (x = y)
  | .bool x, .bool y => decide (x = y)
  | .none, .none => true
  | _, _ => false
def wEq (x y : D) (Q : Bool → Prop) : Prop := if scalD x y = true then Q (eqS x y) else SeqAt.shaped x = true ∧ SeqAt.shaped y = true ∧ Q (PyData.eqv x y)
def isStr1 : Str → Option Nat
  | ⟨⟨[c]⟩⟩ => some c
  | _ => none
def flatD : D → Bool
  | .int _ => true | .str _ => true | .bool _ => true | .none => true
  | _ => false
def wIn (x y : D) (Q : Bool → Prop) : Prop :=
  match y with
  | .str z => match x with
    | .str s => match isStr1 s with
      | some c => Q (decide (c ∈ z.cps.toList))
      | none => Q (!(Builtin.Str.occurrences z s 0 z.length 1).isEmpty)
    | _ => False
  | .list ds => if flatD x = true ∧ ds.all flatD = true then Q (ds.any fun z => PyData.eqv z x) else SeqAt.shaped x = true ∧ SeqAt.shaped (.list ds) = true ∧ Q (ds.any fun z => PyData.eqv z x)
  | .tuple ds => flatD x = true ∧ ds.all flatD = true ∧ Q (ds.any fun z => PyData.eqv z x)
  | _ => False
def wCmp : CmpOp → D → D → (Bool → Prop) → Prop
  | .Eq, x, y, Q => wEq x y Q
  | .NotEq, x, y, Q => wEq x y fun b => Q (!b)
  | .Lt, .int i, .int j, Q => Q (decide (i < j))
  | .LtE, .int i, .int j, Q => Q (decide (i ≤ j))
  | .Gt, .int i, .int j, Q => Q (decide (j < i))
  | .GtE, .int i, .int j, Q => Q (decide (j ≤ i))
  | .In, x, y, Q => wIn x y Q
  | .NotIn, x, y, Q => wIn x y fun b => Q (!b)
  | .Is, x, .none, Q => Q (match x with | .none => true | _ => false)
  | .IsNot, x, .none, Q => Q (match x with | .none => false | _ => true)
  | _, _, _, _ => False
def wIx : D → D → (D → Prop) → Prop
  | .list ds, .int i, Q => ∃ d, atI ds i = some d ∧ Q d
  | .tuple ds, .int i, Q => ∃ d, atI ds i = some d ∧ Q d
  | .str z, .int i, Q => z.length ≤ sizeLine ∧ ∃ c, atI z.cps.toList i = some c ∧ Q (.str ⟨#[c]⟩)
  | _, _, _ => False
def cutD (xs : List D) (lo hi : Option Int) : List D := (xs.drop (HT.sIx xs.length 0 lo)).take (HT.sIx xs.length xs.length hi - HT.sIx xs.length 0 lo)
def seqOf : D → Option (List D)
  | .list ds => some ds
  | .tuple ds => some ds
  | .str z => some (z.cps.toList.map fun c => .str ⟨#[c]⟩)
  | _ => none
def wSl : D → Option Int → Option Int → (D → Prop) → Prop
  | .list ds, lo, hi, Q => Q (.list (cutD ds lo hi))
  | .str z, lo, hi, Q => z.length ≤ sizeLine ∧ Q (.str (cutS z lo hi))
  | .tuple ds, lo, hi, Q => Q (.tuple (cutD ds lo hi))
  | _, _, _, _ => False
def lsOf : D → Option (List D)
  | .list ds => some ds
  | .tuple ds => some ds
  | _ => none
def intOf : D → Option Int
  | .int i => some i
  | _ => none
def strOf : D → Option Str
  | .str s => some s
  | _ => none
def wBl : Bl → List D → (D → Prop) → Prop
  | .len, [.list ds], Q => Q (.int ds.length)
  | .len, [.tuple ds], Q => Q (.int ds.length)
  | .len, [.str s], Q => s.length ≤ sizeLine ∧ Q (.int s.length)
  | .int, [.int i], Q => Q (.int i)
  | .int, [.bool b], Q => Q (.int (if b then 1 else 0))
  | .str, [.int i], Q => i.natAbs.log2 < 1920 ∧ Q (.str (toString i))
  | .tuple, [.list ds], Q => Q (.tuple ds)
  | .tuple, [.tuple ds], Q => Q (.tuple ds)
  | .list, [.list ds], Q => Q (.list ds)
  | .list, [.tuple ds], Q => Q (.list ds)
  | .abs, [.int i], Q => Q (.int (if i < 0 then -i else i))
  | .max, [.int i, .int j], Q => Q (.int (if j > i then j else i))
  | .min, [.int i, .int j], Q => Q (.int (if j < i then j else i))
  | .sum, [.list ds], Q => ∃ ns : List Int, ds = ns.map .int ∧ Q (.int ns.sum)
  | _, _, _ => False
/-- how deep a built-in function reads what still changes -/
def bLv : Bl → Nat
  | .len => 1
  | _ => 0
def tyN : D → String
  | .none => "NoneType" | .bool _ => "bool" | .int _ => "int" | .str _ => "str" | .list _ => "list" | .tuple _ => "tuple" | .dict _ => "dict"
def isT (n t : String) : Bool := n == t || (n == "bool" && t == "int")
def isOne (d : D) (t : String) : Bool := isT (tyN d) t
def wMt : Mt → D → List D → (D → Prop) → Prop
  | .join, .str a, [.list ds], Q => ∃ ys : List Str, ds = ys.map .str ∧ (ys.map (·.length)).sum + ys.length * a.length ≤ 16777216 ∧ Q (.str (Txt.join a ys))
  | .find3, .str a, [.str b, .int i], Q => Q (.int (Txt.find3 a b i))
  | .rfind4, .str a, [.str b, .int i, .int j], Q => Q (.int (Txt.rfindIn a b i j))
  | .sindex, .str a, [.str b], Q => ∃ i rest, Builtin.Str.occurrences a b 0 a.length 1 = i :: rest ∧ Q (.int (i : Nat))
  | _, _, _, _ => False

def mtTy : Mt → String
  | .join => "str" | .find3 => "str" | .rfind4 => "str" | .sindex => "str"
/-- a def's meaning: what it wants of its arguments, what it gives -/
structure FnS where
  pre : List D → Prop
  post : List D → D → Prop
structure Gb where
  fn : Nat → FnS
  ct : Nat → D

def wipeE (ρ : Env) : List Nat → Env
  | [] => ρ
  | v :: vs => (wipeE ρ vs).set v none
def setAll : List Nat → List D → Env → Option Env
  | [], [], ρ => some ρ
  | i :: is, d :: ds, ρ => if i < ρ.length then setAll is ds (ρ.set i (some (.fz d))) else none
  | _, _, _ => none
def wG : Tg → D → Env → (Env → Prop) → Prop
  | .nm i, d, ρ, Q => i < ρ.length ∧ Q (ρ.set i (some (.fz d)))
  | .tp is, .tuple ds, ρ, Q => ∃ ρ', setAll is ds ρ = some ρ' ∧ Q ρ'
  | _, _, _, _ => False
def wMap (f : D → (Option D → Prop) → Prop) : List D → List D → (List D → Prop) → Prop
  | [], acc, Q => Q acc
  | d :: ds, acc, Q => f d fun o => match o with
    | some y => wMap f ds (acc ++ [y]) Q
    | none => wMap f ds acc Q

mutual
def wE (G : Gb) : Md → E → Env → (D → Prop) → Prop
  | md, .var i, ρ, Q => match gt ρ i with
    | some (.fz d) => fin md Q d
    | some (.ow ds) => match md with
      | .t (_ + 1) => Q (.list ds)
      | .tst => Q (.bool (!ds.isEmpty))
      | _ => False
    | some (.ow2 dss) => match md with
      | .t (_ + 2) => Q (.list (dss.map .list))
      | .tst => Q (.bool (!dss.isEmpty))
      | _ => False
    | none => False
  | md, .ct k, _, Q => fin md Q (G.ct k)
  | md, .non, _, Q => fin md Q .none
  | md, .bl b, _, Q => fin md Q (.bool b)
  | md, .int i, _, Q => fin md Q (.int i)
  | md, .str x, _, Q => fin md Q (.str ⟨x.toArray⟩)
  | md, .bin op a b, ρ, Q => wE G (.t 1) a ρ fun x => wE G (.t 1) b ρ fun y => wBin op x y (finB md Q)
  | md, .neg a, ρ, Q => wE G (.t 0) a ρ fun x => ∃ i, x = .int i ∧ fin md Q (.int (-i))
  | md, .cmp op a b, ρ, Q => wE G (.t 2) a ρ fun x => wE G (.t 2) b ρ fun y => wCmp op x y fun c => fin md Q (.bool c)
  | md, .bop conj es, ρ, Q => match md with
    | .tst => wTs G conj es ρ Q
    | .t _ => wBs G conj es ρ Q
    | .fr => False
  | md, .nt a, ρ, Q => match md with
    | .tst => wE G .tst a ρ fun x => ∃ c, x = .bool c ∧ Q (.bool (!c))
    | .t _ => wE G (.t 0) a ρ fun x => ∃ c, x = .bool c ∧ Q (.bool (!c))
    | .fr => False
  | md, .ifx c a b, ρ, Q => wE G .tst c ρ fun x => ∃ k, x = .bool k ∧ (if k = true then wE G md a ρ Q else wE G md b ρ Q)
  | md, .ix a i, ρ, Q => match md with
    | .t n => wE G (.t (n + 1)) a ρ fun x => wE G (.t 0) i ρ fun y => wIx x y Q
    | .tst => wE G (.t 1) a ρ fun x => wE G (.t 0) i ρ fun y => wIx x y fun z => wTr z fun b => Q (.bool b)
    | .fr => False
  | md, .sl a lo hi, ρ, Q => wE G (.t 1) a ρ fun x => wEo G lo ρ fun l => wEo G hi ρ fun h => wSl x l h (finB md Q)
  | md, .call k es, ρ, Q => wEs G 0 es ρ fun ds => (G.fn k).pre ds ∧ ∀ d, (G.fn k).post ds d → fin md Q d
  | md, .callk k n es ks kes, ρ, Q => wEs G 0 es ρ fun ds => wEs G 0 kes ρ fun zs => (ds.length = n ∧ zs.length = ks.length) ∧ (G.fn k).pre (ds ++ zs) ∧ ∀ d, (G.fn k).post (ds ++ zs) d → fin md Q d
  | md, .blt b es, ρ, Q => wEs G (bLv b + 1) es ρ fun ds => wBl b ds (finB md Q)
  | md, .isi a ts, ρ, Q => wE G (.t 2) a ρ fun x => fin md Q (.bool (ts.any (isOne x)))
  | md, .mth m o es, ρ, Q => wE G (.t 1) o ρ fun x => tyN x = mtTy m ∧ wEs G 1 es ρ fun ds => wMt m x ds (finB md Q)
  | md, .tup es, ρ, Q => wEs G 0 es ρ fun ds => ds.length ≤ sizeLine ∧ fin md Q (.tuple ds)
  | md, .lst es, ρ, Q => wEs G 0 es ρ fun ds => ds.length ≤ sizeLine ∧ finL md Q ds
  | md, .lc own elt tg it cs, ρ, Q => wI G 1 it ρ fun ds => ds.length ≤ sizeLine ∧
      wMap (fun d K => wG tg d (wipeE ρ (own.map (·.2))) fun ρ' => wC G cs ρ' fun k => if k = true then wE G (.t 0) elt ρ' fun y => K (some y) else K none) ds [] (finL md Q)
def wTs (G : Gb) : Bool → Es → Env → (D → Prop) → Prop
  | conj, .nil, _, Q => Q (.bool conj)
  | conj, .cons e es, ρ, Q => match es with
    | .nil => wE G .tst e ρ Q
    | .cons e2 es2 => wE G .tst e ρ fun x => ∃ c, x = .bool c ∧ (if c = conj then wTs G conj (.cons e2 es2) ρ Q else Q (.bool (!conj)))
def wBs (G : Gb) : Bool → Es → Env → (D → Prop) → Prop
  | conj, .nil, _, Q => False
  | conj, .cons e es, ρ, Q => match es with
    | .nil => wE G (.t 0) e ρ Q
    | .cons e2 es2 => wE G (.t 0) e ρ fun x => ∃ c, x = .bool c ∧ (if c = conj then wBs G conj (.cons e2 es2) ρ Q else Q (.bool (!conj)))
def wC (G : Gb) : Eo → Env → (Bool → Prop) → Prop
  | .no, _, Q => Q true
  | .yes e, ρ, Q => wE G .tst e ρ fun x => ∃ b, x = .bool b ∧ Q b
def wEo (G : Gb) : Eo → Env → (Option Int → Prop) → Prop
  | .no, _, Q => Q none
  | .yes e, ρ, Q => wE G (.t 0) e ρ fun d => ∃ i, d = .int i ∧ Q (some i)
def wEs (G : Gb) : Nat → Es → Env → (List D → Prop) → Prop
  | _, .nil, _, Q => Q []
  | n, .cons e es, ρ, Q => wE G (.t n) e ρ fun d => wEs G n es ρ fun ds => Q (d :: ds)
def wI (G : Gb) : Nat → I → Env → (List D → Prop) → Prop
  | n, .ls e, ρ, Q => wE G (.t n) e ρ fun d => ∃ ds, seqOf d = some ds ∧ Q ds
  | _, .r1 a, ρ, Q => wE G (.t 0) a ρ fun d => ∃ j, d = .int j ∧ (-(2 ^ 62) ≤ j ∧ j < 2 ^ 62) ∧ Q ((List.range j.toNat).map fun (k : Nat) => .int k)
  | _, .r2 a b, ρ, Q => wE G (.t 0) a ρ fun d => wE G (.t 0) b ρ fun e => ∃ i j, d = .int i ∧ e = .int j ∧ (-(2 ^ 62) ≤ i ∧ i < 2 ^ 62 ∧ -(2 ^ 62) ≤ j ∧ j < 2 ^ 62) ∧ Q ((List.range (j - i).toNat).map fun (k : Nat) => .int (i + k))
  | n, .rv e, ρ, Q => wE G (.t n) e ρ fun d => ∃ ds, lsOf d = some ds ∧ Q ds.reverse
  | _, .rr1 a, ρ, Q => wE G (.t 0) a ρ fun d => ∃ j, d = .int j ∧ (-(2 ^ 62) ≤ j ∧ j < 2 ^ 62) ∧ Q ((List.range j.toNat).map fun (k : Nat) => .int k).reverse
  | _, .rr2 a b, ρ, Q => wE G (.t 0) a ρ fun d => wE G (.t 0) b ρ fun e => ∃ i j, d = .int i ∧ e = .int j ∧ (-(2 ^ 62) ≤ i ∧ i < 2 ^ 62 ∧ -(2 ^ 62) ≤ j ∧ j < 2 ^ 62) ∧ Q ((List.range (j - i).toNat).map fun (k : Nat) => .int (i + k)).reverse
end

/-! ### statements -/
structure DP where
  nx : Env → Prop
  rt : D → Prop
  bk : Env → Prop
  ct : Env → Prop
def wFor (g : D → Env → (Env → Prop) → Prop) (body : DP → Env → Prop) (P : DP) : List D → Env → Prop
  | [], ρ => P.nx ρ
  | d :: ds, ρ => g d ρ fun ρ' => body { P with nx := wFor g body P ds, ct := wFor g body P ds, bk := P.nx } ρ'
def wWhl (c : Env → (Bool → Prop) → Prop) (body : DP → Env → Prop) (P : DP) (ρ : Env) : Prop :=
  ∃ W : Nat → Env → Prop, (∃ m, W m ρ) ∧ ∀ m ρ, W m ρ → c ρ fun b => if b = true then body { P with nx := fun ρ' => ∃ m', m' < m ∧ W m' ρ', ct := fun ρ' => ∃ m', m' < m ∧ W m' ρ', bk := P.nx } ρ else P.nx ρ
mutual
def wS (G : Gb) : S → DP → Env → Prop
  | .asg tg e, P, ρ => wE G (.t 0) e ρ fun d => wG tg d ρ P.nx
  | .own i e, P, ρ => wE G .fr e ρ fun d => ∃ ds, d = .list ds ∧ i < ρ.length ∧ P.nx (ρ.set i (some (.ow ds)))
  | .own2 i, P, ρ => i < ρ.length ∧ P.nx (ρ.set i (some (.ow2 [])))
  | .frz i, P, ρ => match gt ρ i with
    | some (.fz _) => P.nx ρ
    | some (.ow ds) => P.nx (ρ.set i (some (.fz (.list ds))))
    | some (.ow2 dss) => P.nx (ρ.set i (some (.fz (.list (dss.map .list)))))
    | none => P.nx ρ
  | .app i e, P, ρ => ∃ ds, gt ρ i = some (.ow ds) ∧ wE G (.t 0) e ρ fun d => ds.length < sizeLine ∧ P.nx (ρ.set i (some (.ow (ds ++ [d]))))
  | .app2 i e, P, ρ => ∃ dss, gt ρ i = some (.ow2 dss) ∧ wE G .fr e ρ fun d => ∃ ds, d = .list ds ∧ dss.length < sizeLine ∧ P.nx (ρ.set i (some (.ow2 (dss ++ [ds]))))
  | .appI i j e, P, ρ => ∃ dss, gt ρ i = some (.ow2 dss) ∧ wE G (.t 0) j ρ fun y => ∃ k n ds, y = .int k ∧ ixN dss.length k = some n ∧ dss[n]? = some ds ∧ wE G (.t 0) e ρ fun d => ds.length < sizeLine ∧ P.nx (ρ.set i (some (.ow2 (dss.set n (ds ++ [d])))))
  | .seti i j e, P, ρ => ∃ ds, gt ρ i = some (.ow ds) ∧ wE G (.t 0) e ρ fun d => wE G (.t 0) j ρ fun y => ∃ k n, y = .int k ∧ ixN ds.length k = some n ∧ P.nx (ρ.set i (some (.ow (ds.set n d))))
  | .set2 i j k e, P, ρ => ∃ dss, gt ρ i = some (.ow2 dss) ∧ wE G (.t 0) e ρ fun d => wE G (.t 0) j ρ fun y => ∃ k1 n1 ds, y = .int k1 ∧ ixN dss.length k1 = some n1 ∧ dss[n1]? = some ds ∧
      wE G (.t 0) k ρ fun z => ∃ k2 n2, z = .int k2 ∧ ixN ds.length k2 = some n2 ∧ P.nx (ρ.set i (some (.ow2 (dss.set n1 (ds.set n2 d)))))
  | .drop e, P, ρ => wE G (.t 0) e ρ fun _ => P.nx ρ
  | .ifs c a b, P, ρ => wE G .tst c ρ fun x => ∃ k, x = .bool k ∧ (if k = true then wSs G a P ρ else wSs G b P ρ)
  | .whl c b, P, ρ => wWhl (fun ρ Q => wE G .tst c ρ fun x => ∃ k, x = .bool k ∧ Q k) (wSs G b) P ρ
  | .fr tg it b, P, ρ => wI G 0 it ρ fun ds => wFor (wG tg) (wSs G b) P ds ρ
  | .ret e, P, ρ => wE G (.t 0) e ρ P.rt
  | .retN, P, _ => P.rt .none
  | .pass, P, ρ => P.nx ρ
  | .brk, P, ρ => P.bk ρ
  | .cont, P, ρ => P.ct ρ
  | .never, _, _ => False
def wSs (G : Gb) : Ss → DP → Env → Prop
  | .nil, P, ρ => P.nx ρ
  | .cons s ss, P, ρ => wS G s { P with nx := wSs G ss P } ρ
end
end PD

namespace PD
open PySem PySem.Spec PyProof.Rows L2

/-! ### what an expression hands on -/
def Res (K : PySem.W.Frag) (F H : Hp) : Nat → V → D → Prop
  | 0, v, d => Rp K F v d
  | n + 1, v, d => Rp K F v d ∨ ∃ a xs ds, v = .ref a ∧ d = .list ds ∧ H a = some (.lst xs) ∧ Paired (Res K F H n) xs ds
section
variable {K : PySem.W.Frag} {F H F' H' F0 H0 : Hp} {v : V} {d : D} {xs : List V} {ds : List D}
theorem paired_of : ∀ {xs : List V} {ds : List D}, RpAll K F xs ds → Paired (Rp K F) xs ds
  | _, _, .nil => .nil
  | _, _, .cons h t => .cons h (paired_of t)
theorem ra_of : ∀ {xs : List V} {ds : List D}, Paired (Rp K F) xs ds → RpAll K F xs ds
  | _, _, .nil => .nil
  | _, _, .cons h t => .cons h (ra_of t)
theorem paired_imp {α β : Type} {G G' : α → β → Prop} (f : ∀ a b, G a b → G' a b) : ∀ {xs : List α} {ys : List β}, Paired G xs ys → Paired G' xs ys
  | _, _, .nil => .nil
  | _, _, .cons h t => .cons (f _ _ h) (paired_imp f t)
theorem paired_get {α β : Type} {G : α → β → Prop} : ∀ {xs : List α} {ys : List β} {i : Nat} {y : β}, Paired G xs ys → ys[i]? = some y → ∃ x, xs[i]? = some x ∧ G x y
  | _, _, _, _, .nil, e => by simp at e
  | _, _, 0, _, .cons h _, e => by simp at e; subst e; exact ⟨_, rfl, h⟩
  | _, _, i + 1, y, .cons _ h, e => by
    obtain ⟨x, e1, h1⟩ := paired_get (i := i) (y := y) h (by simpa using e)
    exact ⟨x, by simpa using e1, h1⟩
theorem paired_len {α β : Type} {G : α → β → Prop} {xs : List α} {ys : List β} (h : Paired G xs ys) : xs.length = ys.length := Paired.length h
theorem Res.of (h : Rp K F v d) : ∀ {n : Nat}, Res K F H n v d
  | 0 => h
  | _ + 1 => .inl h
theorem Res.mono (f : Same F F') (g : Same H H') : ∀ {n : Nat} {v : V} {d : D}, Res K F H n v d → Res K F' H' n v d
  | 0, _, _, h => dp_m h f
  | n + 1, v, d, h => by
    rcases h with h | ⟨a, xs, ds, e1, e2, e3, p⟩
    · exact .inl (dp_m h f)
    · exact .inr ⟨a, xs, ds, e1, e2, g _ _ e3, paired_imp (fun _ _ q => Res.mono f g q) p⟩
theorem da_of : ∀ {xs : List V} {ds : List D}, Paired (Dp K H) xs ds → DpAll K H xs ds
  | _, _, .nil => .nil
  | _, _, .cons h t => .cons h (da_of t)
theorem Res.dp (s : Same F H) : ∀ {n : Nat} {v : V} {d : D}, Res K F H n v d → Dp K H v d
  | 0, _, _, h => rp_dp _ _ (dp_m h s)
  | n + 1, v, d, h => by
    rcases h with h | ⟨a, xs, ds, e1, e2, e3, p⟩
    · exact rp_dp _ _ (dp_m h s)
    · subst e1 e2
      exact .lst (SqL.of e3) (da_of (paired_imp (fun _ _ q => Res.dp s q) p))
theorem Res.scal {n : Nat} (h : Res K F H n v d) (hd : ∀ ds, d ≠ .list ds) : Rp K F v d := by
  cases n with
  | zero => exact h
  | succ n =>
    rcases h with h | ⟨a, xs, ds, e1, e2, _⟩
    · exact h
    · exact absurd e2 (hd ds)
theorem Res.list {n : Nat} {ds : List D} (s : Same F H) (h : Res K F H (n + 1) v (.list ds)) : ∃ a xs, v = .ref a ∧ SqL K H a xs ∧ Paired (Res K F H n) xs ds := by
  rcases h with h | ⟨a, xs, ds', e1, e2, e3, p⟩
  · cases h with
    | lst hr ha => exact ⟨_, _, rfl, sqL_mono s hr, paired_imp (fun _ _ q => Res.of q) (paired_of ha)⟩
  · cases e2
    exact ⟨a, xs, e1, SqL.of e3, p⟩
/-- a new list that nothing else knows -/
def Fre (K : PySem.W.Frag) (H F' H' : Hp) (v : V) (ds : List D) : Prop := ∃ a xs, v = .ref a ∧ H a = none ∧ F' a = none ∧ H' a = some (.lst xs) ∧ RpAll K F' xs ds
/-- a new list, or something that never changes -/
def Dyn (K : PySem.W.Frag) (H F' H' : Hp) (v : V) (d : D) : Prop := (∃ ds, d = .list ds ∧ Fre K H F' H' v ds) ∨ ((∀ ds, d ≠ .list ds) ∧ Rp K F' v d)

/-! ### the readings, by data -/
abbrev WE := Env → (D → Prop) → Prop
def tX (K : PySem.W.Frag) (RR : Hp → Hp → Hp → V → D → Prop) (w : WE) : TE := fun σ H Z =>
  ∃ F0 H0 F ρ Q, R K F0 H0 F ρ σ H ∧ w ρ Q ∧ ∀ v F' H' d, Ext F H F' H' → Same F' H' → RR H F' H' v d → Q d → Z v H'
abbrev rN (K : PySem.W.Frag) (n : Nat) : Hp → Hp → Hp → V → D → Prop := fun _ F' H' v d => Res K F' H' n v d
abbrev rF (K : PySem.W.Frag) : Hp → Hp → Hp → V → D → Prop := fun H F' H' v d => ∃ ds, d = .list ds ∧ Fre K H F' H' v ds
abbrev tN (K : PySem.W.Frag) (n : Nat) (w : WE) : TE := tX K (rN K n) w
def tTs (K : PySem.W.Frag) (w : WE) : TT := fun σ H Z =>
  ∃ F0 H0 F ρ Q, R K F0 H0 F ρ σ H ∧ w ρ Q ∧ ∀ b F' H', Ext F H F' H' → Same F' H' → Q (.bool b) → Z b H'
def tAs (K : PySem.W.Frag) (n : Nat) (w : Env → (List D → Prop) → Prop) : TA := fun σ H Z =>
  ∃ F0 H0 F ρ Q, R K F0 H0 F ρ σ H ∧ w ρ Q ∧ ∀ vs F' H' ds, Ext F H F' H' → Same F' H' → Paired (Res K F' H' n) vs ds → Q ds → Z vs H'
def tOs (K : PySem.W.Frag) (w : Env → (Option Int → Prop) → Prop) : TO := fun σ H Z =>
  ∃ F0 H0 F ρ Q, R K F0 H0 F ρ σ H ∧ w ρ Q ∧ ∀ o F' H', Ext F H F' H' → Same F' H' → Q o → Z o H'
end
theorem pe_w {X : Cx} {e : Expr} {t t' : TE} (h : PE X e t) (k : ∀ σ H Q, t' σ H Q → t σ H Q) : PE X e t' := ⟨fun pins s σ H Q I hw => h.run pins s σ H Q I (k σ H Q hw)⟩
theorem pt_w {X : Cx} {e : Expr} {t t' : TT} (h : PT X e t) (k : ∀ σ H Q, t' σ H Q → t σ H Q) : PT X e t' := ⟨fun pins s σ H Q I hw => h.run pins s σ H Q I (k σ H Q hw)⟩
theorem pw_w {X : Cx} {e : Expr} {t t' : TT} (h : PW X e t) (k : ∀ σ H Q, t' σ H Q → t σ H Q) : PW X e t' := ⟨fun wh pins s σ H Q I hw => h.run wh pins s σ H Q I (k σ H Q hw)⟩
theorem pa_w {X : Cx} {e : List Expr} {t t' : TA} (h : PA X e t) (k : ∀ σ H Q, t' σ H Q → t σ H Q) : PA X e t' := ⟨fun pos pins s σ H Q I hw => h.run pos pins s σ H Q I (k σ H Q hw)⟩
theorem po_w {X : Cx} {e : Option Expr} {t t' : TO} (h : PO X e t) (k : ∀ σ H Q, t' σ H Q → t σ H Q) : PO X e t' := ⟨fun pins s σ H Q I hw => h.run pins s σ H Q I (k σ H Q hw)⟩

/-- all modes of an expression -/
structure Snd (X : Cx) (pe : Expr) (w : Md → WE) : Prop where
  n : ∀ n, PE X pe (tN X.K n (w (.t n)))
  f : PE X pe (tX X.K (rF X.K) (w .fr))
  t : PT X pe (tTs X.K (w .tst))
/-- its truth is its value's -/
def PlainT (X : Cx) (pe : Expr) : Prop := ∀ whole, isTrue pe X.env whole = (do let v ← whole; standAt pe.pos; holding [v] (truthy v))

section
variable {X : Cx} {pe : Expr} {w0 : WE}
theorem tru_of {K : PySem.W.Frag} {F H : Hp} (s : Same F H) {n : Nat} : ∀ {d : D} {v : V} {Q : Bool → Prop}, Res K F H n v d → wTr d Q → ∃ k, TruV K v H k ∧ Q k := by
  intro d v Q r h
  have rd := Res.dp s r
  cases d with
  | none => cases rd; exact ⟨_, rfl, h⟩
  | bool b => cases rd; exact ⟨_, rfl, h⟩
  | int i => cases rd; exact ⟨_, rfl, h⟩
  | str x => cases rd; exact ⟨_, ⟨h.1, rfl⟩, h.2⟩
  | list ds =>
    cases rd with
    | lst hs ha =>
      refine ⟨_, .inl ⟨_, hs, rfl⟩, ?_⟩
      cases ha <;> exact h
  | tuple ds =>
    cases rd with
    | tup hs ha =>
      refine ⟨_, .inr (.inl ⟨_, hs, rfl⟩), ?_⟩
      cases ha <;> exact h
  | dict _ => exact h.elim
/-- a value that never changes -/
theorem mkPure (h : PE X pe (tN X.K 0 w0)) (hp : PlainT X pe) : Snd X pe (fun md ρ Q => w0 ρ (fin md Q)) := by
  refine ⟨fun n => pe_w h fun σ H Z ⟨F0, H0, F, ρ, Q, r, hw, k⟩ => ⟨F0, H0, F, ρ, Q, r, hw, fun v F' H' d e s q hq => k v F' H' d e s (Res.of q) hq⟩,
    pe_w h fun σ H Z ⟨F0, H0, F, ρ, Q, r, hw, k⟩ => ⟨F0, H0, F, ρ, _, r, hw, fun v F' H' d e s q hq => (show False from hq).elim⟩, ?_⟩
  refine pt_w (pt_truth h hp) fun σ H Z ⟨F0, H0, F, ρ, Q, r, hw, k⟩ => ?_
  refine ⟨F0, H0, F, ρ, _, r, hw, fun v F' H' d e s q hq => ?_⟩
  obtain ⟨b, h1, h2⟩ := tru_of s q hq
  exact ⟨b, h1, k b F' H' e s h2⟩
theorem Fre.freeze {K : PySem.W.Frag} {F H F' H' : Hp} {v : V} {ds : List D} (s : Same F' H') (e : Ext F H F' H') (f : Fre K H F' H' v ds) : ∃ F'', Ext F H F'' H' ∧ Same F'' H' ∧ Rp K F'' v (.list ds) := by
  obtain ⟨a, xs, rfl, h1, h2, h3, h4⟩ := f
  refine ⟨upd F' a (.lst xs), ⟨fun b o q => ?_, e.h, fun b hb => ?_⟩, fun b o q => ?_, .lst (SqL.of upd_same) (da_m h4 (same_upd h2))⟩
  · have : b ≠ a := ne_of_none (e.f b o q) h2
    rw [upd_ne this]; exact e.f b o q
  · have : b ≠ a := fun z => hb (z ▸ h1)
    rw [upd_ne this]; exact e.new b hb
  · by_cases hb : b = a
    · subst hb; rw [upd_same] at q; rw [← q]; exact h3
    · rw [upd_ne hb] at q; exact s b o q
theorem finB_pure {md : Md} {Q : D → Prop} {d : D} (h : ∀ ds, d ≠ .list ds) : finB md Q d = fin md Q d := by
  cases d <;> first | rfl | exact absurd rfl (h _)
/-- a value that never changes, or a new list -/
theorem mkDyn (h : PE X pe (tX X.K (Dyn X.K) w0)) (hp : PlainT X pe) : Snd X pe (fun md ρ Q => w0 ρ (finB md Q)) := by
  refine ⟨fun n => pe_w h fun σ H Z ⟨F0, H0, F, ρ, Q, r, hw, k⟩ => ⟨F0, H0, F, ρ, _, r, hw, fun v F' H' d e s q hq => ?_⟩,
    pe_w h fun σ H Z ⟨F0, H0, F, ρ, Q, r, hw, k⟩ => ⟨F0, H0, F, ρ, _, r, hw, fun v F' H' d e s q hq => ?_⟩, ?_⟩
  · rcases q with ⟨ds, rfl, f⟩ | ⟨hn, q⟩
    · obtain ⟨F'', e2, s2, q2⟩ := f.freeze s e
      exact k v F'' H' _ e2 s2 (Res.of q2) hq
    · rw [finB_pure hn] at hq
      exact k v F' H' d e s (Res.of q) hq
  · rcases q with ⟨ds, rfl, f⟩ | ⟨hn, q⟩
    · exact k v F' H' _ e s ⟨ds, rfl, f⟩ hq
    · rw [finB_pure hn] at hq
      exact (show False from hq).elim
  · refine pt_w (pt_truth h hp) fun σ H Z ⟨F0, H0, F, ρ, Q, r, hw, k⟩ => ?_
    refine ⟨F0, H0, F, ρ, _, r, hw, fun v F' H' d e s q hq => ?_⟩
    rcases q with ⟨ds, rfl, f⟩ | ⟨hn, q⟩
    · obtain ⟨F'', e2, s2, q2⟩ := f.freeze s e
      obtain ⟨b, h1, h2⟩ := tru_of (n := 0) (Q := fun b => Q (.bool b)) s2 q2 (show wTr (.list ds) _ from hq)
      exact ⟨b, h1, k b F'' H' e2 s2 h2⟩
    · rw [finB_pure hn] at hq
      obtain ⟨b, h1, h2⟩ := tru_of (n := 0) s q hq
      exact ⟨b, h1, k b F' H' e s h2⟩
/-- a new list -/
theorem mkList {wl : Env → (List D → Prop) → Prop} (h : PE X pe (tX X.K (rF X.K) (fun ρ Q => wl ρ fun ds => Q (.list ds)))) (hp : PlainT X pe) : Snd X pe (fun md ρ Q => wl ρ (finL md Q)) := by
  have h2 : PE X pe (tX X.K (Dyn X.K) (fun ρ Q => wl ρ fun ds => Q (.list ds))) := pe_w h fun σ H Z ⟨F0, H0, F, ρ, Q, r, hw, k⟩ => ⟨F0, H0, F, ρ, Q, r, hw, fun v F' H' d e s q hq => k v F' H' d e s (.inl q) hq⟩
  have m := mkDyn h2 hp
  refine ⟨fun n => m.n n, m.f, m.t⟩
/-- two things one after another -/
theorem two {K : PySem.W.Frag} {n m : Nat} {wa wb : WE} {F0 H0 F : Hp} {ρ : Env} {σ : Sg} {H : Hp} {Z : V → V → Hp → Prop} {Q : D → D → Prop} (r : R K F0 H0 F ρ σ H) (hw : wa ρ fun x => wb ρ fun y => Q x y)
    (k : ∀ v1 v2 d1 d2 F' H', Ext F H F' H' → Same F' H' → Res K F' H' n v1 d1 → Res K F' H' m v2 d2 → Q d1 d2 → Z v1 v2 H') :
    (tN K n wa) σ H fun x H1 => (tN K m wb) σ H1 fun y H2 => Z x y H2 := by
  refine ⟨F0, H0, F, ρ, _, r, hw, fun v1 F1 H1 d1 e1 s1 q1 hw1 => ⟨F0, H0, F1, ρ, _, r.go e1 s1, hw1, fun v2 F2 H2 d2 e2 s2 q2 hw2 => ?_⟩⟩
  exact k v1 v2 d1 d2 F2 H2 (e1.trans e2) s2 (q1.mono e2.f e2.h) q2 hw2
end

/-! ### list + list, list * int -/
section
open PySem.AutoListH
open AutoSeq1 (wpAny_loadPart')
theorem mulW (l : Addr) (items : Array Value) (n : Nat) (dd : Option Addr) (sl : Array (Option Value)) (x : Int) (u : Tok) (hc0 : ¬(!Builtin.List.listFitsIndex x) = true) (hc1 : ¬items.size * x.toNat > (2 ^ 63 - 1) / 8)
    (hc2 : ¬Builtin.List.listTooLong (items.size * x.toNat) = true) :
    Meets (Builtin.«list.__mul__» ⟨[.ref l, .int x u], []⟩) (fun _ R s => s.heap.get? l = some { cls := .type "list", dict := dd, data := .seq items n, slots := sl } ∧
      R (.ok (.ret (.ref s.heap.objs.size))) { s with heap := s.heap.push { cls := .type "list", data := .seq (List.foldl (fun x1 x2 => x1 ++ x2) #[] (List.replicate (if items.isEmpty = true then 0 else x.toNat) items)) }, toks := s.toks }) :=
  .of_wp fun prog w A R s h => by
    obtain ⟨hp, g, d, tk, os⟩ := s
    obtain ⟨hl, h⟩ := h
    have hsz := joined_fits hc2
    wp_walk using wpAny_loadPart' hl
    refine wpAny_ite_false (decide_eq_false (Nat.not_lt.mpr hsz)) ?_
    wp_walk using wpAny_loadPart' hl
    exact ⟨_, rfl, h⟩
theorem rmulW (a : Int) (t : Tok) (l : Addr) (items : Array Value) (n : Nat) (dd : Option Addr) (sl : Array (Option Value)) :
    Meets (Builtin.«int.__rmul__» ⟨[.int a t, .ref l], []⟩) (fun _ R s => s.heap.get? l = some { cls := .type "list", dict := dd, data := .seq items n, slots := sl } ∧ R (.ok (.ret .notImplemented)) s) :=
  .of_wp fun prog w A R s h => by
    obtain ⟨hp, g, d, tk, os⟩ := s
    obtain ⟨hl, h⟩ := h
    wp_walk using wpAny_loadPart' hl
    exact ⟨_, rfl, h⟩
end
section
variable {X : Cx} {pins : List (Addr × Obj)} {σ : Sg} {H : Hp} {s : Shared} {l : Addr} {xs : List V}
/-- its object -/
theorem objL (I : Inv X pins σ H s) (hH : SqL X.K H l xs) : xs.length ≤ sizeLine ∧ ∃ (its : List Value) (n : Nat) (sl : Array (Option Value)), Vals xs its ∧ xs.length = its.length ∧ s.heap.get? l = some ⟨.type "list", none, .seq its.toArray n, sl⟩ := by
  obtain ⟨its, rv, ⟨⟨c, dd, da, sl⟩, n, ho, hc, hd, hdt⟩, hz⟩ := I.list hH
  cases hc; cases hd; cases hdt
  exact ⟨hz, its, n, sl, rv, rv.length, ho⟩
def rCatR (K : PySem.W.Frag) : R2 := fun x y H Q => ∃ a b xs zs, x = .ref a ∧ y = .ref b ∧ SqL K H a xs ∧ SqL K H b zs ∧ xs.length + zs.length ≤ sizeLine ∧ ∀ p, H p = none → Q (.ref p) (upd H p (.lst (xs ++ zs)))
theorem op_catR : OpR X (binaryOp .Add) (rCatR X.K) := by
  intro pins s σ H x y v u Q I rx ry ⟨a, b, xs, zs, ex, ey, ha, hb, hz, q⟩
  subst ex ey
  cases rx; cases ry
  obtain ⟨_, its, n, sl, r, hl, e⟩ := objL I ha
  obtain ⟨_, its2, n2, sl2, r2, hl2, e2⟩ := objL I hb
  have hsz : its.toArray.size + its2.toArray.size ≤ sizeLine := by rw [List.size_toArray, List.size_toArray, ← hl, ← hl2]; exact hz
  have ea : its.toArray ++ its2.toArray = (its ++ its2).toArray := by simp
  refine concat_meets ⟨_, e, rfl⟩ ⟨_, e2, rfl⟩ noFill_list_add seq_list_add F.slot_list_add F.entry_list_add (F.args_list_add_2 _ _) (PyProof.Rows.list_addW a b its.toArray its2.toArray n n2 none none sl sl2 hsz) ⟨e, e2, ?_⟩
  rw [ea]
  refine ⟨.ref _, _, I.lnew (t' := s.toks) (r.append r2) ?_, rfl, q _ I.fresh⟩
  rw [List.length_append]; exact hz
theorem rep_flat (its : List Value) (k : Nat) : List.foldl (fun x1 x2 => x1 ++ x2) #[] (List.replicate (if its.toArray.isEmpty = true then 0 else k) its.toArray) = (List.replicate k its).flatten.toArray := by
  have f0 : ∀ m : Nat, List.foldl (fun x1 x2 => x1 ++ x2) #[] (List.replicate m its.toArray) = (List.replicate m its).flatten.toArray := fun m => by
    have q := foldl_rep its m []
    rw [List.nil_append] at q; exact q
  rw [f0]
  cases its with
  | nil => simp
  | cons a r => rw [if_neg (by simp)]
def rRepR (K : PySem.W.Frag) : R2 := fun x y H Q => ∃ a k xs, x = .ref a ∧ y = .int k ∧ SqL K H a xs ∧ (-(2 ^ 63) ≤ k ∧ k < 2 ^ 63 ∧ xs.length * k.toNat ≤ sizeLine) ∧ ∀ p, H p = none → Q (.ref p) (upd H p (.lst (List.replicate k.toNat xs).flatten))
theorem op_repR : OpR X (binaryOp .Mult) (rRepR X.K) := by
  intro pins s σ H x y v u Q I rx ry ⟨a, k, xs, ex, ey, ha, ⟨h1, h2, hz⟩, q⟩
  subst ex ey
  cases rx
  obtain ⟨t, rfl⟩ := ry
  obtain ⟨_, its, n, sl, r, hl, e⟩ := objL I ha
  have hlen : its.toArray.size * k.toNat ≤ sizeLine := by rw [List.size_toArray, ← hl]; exact hz
  have c0 : ¬ (!Builtin.List.listFitsIndex k) = true := by rw [fitsIndex_both h1 h2]; exact Bool.false_ne_true
  have c1 : ¬ its.toArray.size * k.toNat > (2 ^ 63 - 1) / 8 := by
    have q : (sizeLine : Nat) ≤ (2 ^ 63 - 1) / 8 := by decide
    omega
  have c2 : ¬ Builtin.List.listTooLong (its.toArray.size * k.toNat) = true := by rw [notLongL hlen]; exact Bool.false_ne_true
  have m1 := rmulW k t a its.toArray n none sl
  have m2 := mulW a its.toArray n none sl k t c0 c1 c2
  refine wpAny_binaryOp_repeat_ref (T := "list") (U := "int") (by decide) ⟨_, e, rfl⟩ (fun z => typeIs_int z k t) noFill_list_mul F.fills_int_mul F.slot_int_rmul repeat_list F.slot_int_index.lookup
    (call_meets F.slot_int_rmul (typeIs_int s k t) F.entry_int_rmul (F.args_int_rmul_2 _ _) m1 ⟨e, rfl, ⟨_, e, rfl⟩, call_meets F.slot_list_mul ⟨_, e, rfl⟩ F.entry_list_mul (F.args_list_mul_2 _ _) m2 ⟨e, ?_⟩⟩)
  rw [rep_flat]
  refine ⟨.ref _, _, I.lnew (t' := s.toks) (r.rep k.toNat) ?_, rfl, q _ I.fresh⟩
  rw [PyProof.Rows.lm_len_rep_flat, Nat.mul_comm]; exact hz
theorem op_mulM : OpR X (binaryOp .Mult) (rI IntMulOk fun i j => .int (i * j)) := opI fun _ _ _ _ _ _ _ hc q => mul_int q hc
end
end PD

set_option maxHeartbeats 1000000
namespace PD
open PySem PySem.Spec PyProof.Rows L2

section
variable {K : PySem.W.Frag} {F H F' H' : Hp} {v : V}
theorem sc_int {n : Nat} {i : Int} (h : Res K F H n v (.int i)) : v = .int i := by
  have := h.scal (by intro _ e; cases e)
  cases this; rfl
theorem sc_str {n : Nat} {i : Str} (h : Res K F H n v (.str i)) : v = .str i := by
  have := h.scal (by intro _ e; cases e)
  cases this; rfl
theorem sc_bl {n : Nat} {i : Bool} (h : Res K F H n v (.bool i)) : v = .bl i := by
  have := h.scal (by intro _ e; cases e)
  cases this; rfl
theorem sc_non {n : Nat} (h : Res K F H n v .none) : v = .non := by
  have := h.scal (by intro _ e; cases e)
  cases this; rfl
theorem sc_tup {n : Nat} {ds : List D} (h : Res K F H n v (.tuple ds)) : ∃ a xs, v = .ref a ∧ SqT K F a xs ∧ RpAll K F xs ds := by
  have := h.scal (by intro _ e; cases e)
  cases this with
  | tup h1 h2 => exact ⟨_, _, rfl, h1, h2⟩

/-- a result by scalars -/
theorem dy_sc {d : D} (s : Same F H) (q : Rp K F v d) (hn : ∀ ds, d ≠ .list ds) : ∃ F', Ext F H F' H ∧ Same F' H ∧ Dyn K H F' H v d := ⟨F, Ext.refl F H, s, .inr ⟨hn, q⟩⟩
theorem dy_lst {p : Addr} {xs : List V} {ds : List D} (s : Same F H) (hp : H p = none) (q : RpAll K F xs ds) : Ext F H F (upd H p (.lst xs)) ∧ Same F (upd H p (.lst xs)) ∧ Fre K H F (upd H p (.lst xs)) (.ref p) ds :=
  ⟨Ext.mkO hp, same_upd2 s (s.free hp), p, xs, rfl, hp, s.free hp, upd_same, q⟩
theorem dy_tup {p : Addr} {xs : List V} {ds : List D} (s : Same F H) (hp : H p = none) (q : RpAll K F xs ds) : Ext F H (upd F p (.tup xs)) (upd H p (.tup xs)) ∧ Same (upd F p (.tup xs)) (upd H p (.tup xs)) ∧ Rp K (upd F p (.tup xs)) (.ref p) (.tuple ds) :=
  ⟨Ext.lay s hp, same_both s, .tup (SqT.of upd_same) (da_m q (same_upd (s.free hp)))⟩
end

/-- what a two-place operation needs -/
def Op2 (K : PySem.W.Frag) (r : R2) (n m : Nat) (w : D → D → (D → Prop) → Prop) : Prop :=
  ∀ F H v1 v2 d1 d2 Q, Same F H → Res K F H n v1 d1 → Res K F H m v2 d2 → w d1 d2 Q → ∀ Z : VK, (∀ v F' H' d, Ext F H F' H' → Same F' H' → Dyn K H F' H' v d → Q d → Z v H') → r v1 v2 H Z

def rAny : R2 := fun _ _ _ _ => False
theorem op_any {X : Cx} {f : Value → Value → Sem Value} : OpR X f rAny := fun _ _ _ _ _ _ _ _ _ _ _ _ h => h.elim
def rAddA (K : PySem.W.Frag) : R2 := fun x y H Q => (rI0 (fun i j => .int (i + j)) x y H Q ∨ (∃ i j, x = .str i ∧ y = .str j ∧ i.length + j.length ≤ sizeLine ∧ Q (.str (i ++ j)) H)) ∨ (rCatR K x y H Q ∨ rCatA K x y H Q)
theorem op_addA {X : Cx} : OpR X (binaryOp .Add) (rAddA X.K) := (op_add.or op_add_str).or (op_catR.or op_catA)
theorem add_ok {K : PySem.W.Frag} : Op2 K (rAddA K) 1 1 (wBin .Add) := by
  intro F H v1 v2 d1 d2 Q s r1 r2 hw Z k
  match d1, d2, hw with
  | .int i, .int j, hw =>
    obtain rfl := sc_int r1
    obtain rfl := sc_int r2
    exact .inl (.inl ⟨i, j, rfl, rfl, k _ F H _ (Ext.refl F H) s (.inr ⟨(by intro _ e; cases e), Rp.int _⟩) hw⟩)
  | .str i, .str j, ⟨hz, hw⟩ =>
    obtain rfl := sc_str r1
    obtain rfl := sc_str r2
    exact .inl (.inr ⟨i, j, rfl, rfl, hz, k _ F H _ (Ext.refl F H) s (.inr ⟨(by intro _ e; cases e), Rp.str _⟩) hw⟩)
  | .list a, .list b, ⟨hz, hw⟩ =>
    obtain ⟨a1, xs, rfl, h1, p1⟩ := r1.list s
    obtain ⟨a2, ys, rfl, h2, p2⟩ := r2.list s
    refine .inr (.inl ⟨a1, a2, xs, ys, rfl, rfl, h1, h2, by rw [paired_len p1, paired_len p2]; exact hz, fun p hp => ?_⟩)
    obtain ⟨e, s', f⟩ := dy_lst (xs := xs ++ ys) (ds := a ++ b) s hp (da_app (ra_of p1) (ra_of p2))
    exact k _ F _ _ e s' (.inl ⟨_, rfl, f⟩) hw
  | .tuple a, .tuple b, ⟨hz, hw⟩ =>
    obtain ⟨a1, xs, rfl, h1, p1⟩ := sc_tup r1
    obtain ⟨a2, ys, rfl, h2, p2⟩ := sc_tup r2
    refine .inr (.inr ⟨a1, a2, xs, ys, rfl, rfl, sqT_mono s h1, sqT_mono s h2, by rw [da_len p1, da_len p2]; exact hz, fun e => ?_, fun _ e => ?_, fun _ _ p hp => ?_⟩)
    · subst e
      cases p1
      exact k _ F H _ (Ext.refl F H) s (.inr ⟨(by intro _ e; cases e), Rp.tup h2 p2⟩) hw
    · subst e
      cases p2
      rw [List.append_nil] at hw
      exact k _ F H _ (Ext.refl F H) s (.inr ⟨(by intro _ e; cases e), Rp.tup h1 p1⟩) hw
    · obtain ⟨e, s', f⟩ := dy_tup (xs := xs ++ ys) (ds := a ++ b) s hp (da_app p1 p2)
      exact k _ _ _ _ e s' (.inr ⟨(by intro _ e; cases e), f⟩) hw
theorem int_ok {K : PySem.W.Frag} {op : Operator} {C : Int → Int → Prop} {g : Int → Int → Int} (hw : ∀ d1 d2 Q, wBin op d1 d2 Q → ∃ i j, d1 = .int i ∧ d2 = .int j ∧ C i j ∧ Q (.int (g i j))) : Op2 K (rI C fun i j => .int (g i j)) 1 1 (wBin op) := by
  intro F H v1 v2 d1 d2 Q s r1 r2 h Z k
  obtain ⟨i, j, rfl, rfl, hc, hq⟩ := hw d1 d2 Q h
  obtain rfl := sc_int r1
  obtain rfl := sc_int r2
  exact ⟨i, j, rfl, rfl, hc, k _ F H _ (Ext.refl F H) s (.inr ⟨(by intro _ e; cases e), Rp.int _⟩) hq⟩
def rMulA (K : PySem.W.Frag) : R2 := fun x y H Q => (rI IntMulOk (fun i j => .int (i * j)) x y H Q ∨ rRepR K x y H Q) ∨ rRepA K x y H Q
theorem mul_ok {K : PySem.W.Frag} : Op2 K (rMulA K) 1 1 (wBin .Mult) := by
  intro F H v1 v2 d1 d2 Q s r1 r2 hw Z k
  match d1, d2, hw with
  | .int i, .int j, ⟨hc, hw⟩ =>
    obtain rfl := sc_int r1
    obtain rfl := sc_int r2
    exact .inl (.inl ⟨i, j, rfl, rfl, hc, k _ F H _ (Ext.refl F H) s (.inr ⟨(by intro _ e; cases e), Rp.int _⟩) hw⟩)
  | .tuple a, .int j, ⟨⟨h1, h2, h3⟩, hw⟩ =>
    obtain ⟨a1, xs, rfl, hr, p1⟩ := sc_tup r1
    obtain rfl := sc_int r2
    refine .inr ⟨a1, j, xs, rfl, rfl, sqT_mono s hr, h1, h2, by rw [da_len p1]; exact h3, fun e => ?_, fun _ _ p hp => ?_⟩
    · have e2 : (List.replicate j.toNat a).flatten = a := by
        rcases e with e | e
        · subst e
          cases p1
          rw [List.flatten_eq_nil_iff]
          intro l hl
          exact List.eq_of_mem_replicate hl
        · subst e
          show (List.replicate 1 a).flatten = a
          simp
      rw [e2] at hw
      exact k _ F H _ (Ext.refl F H) s (.inr ⟨(by intro _ e; cases e), Rp.tup hr p1⟩) hw
    · obtain ⟨e, s', f⟩ := dy_tup (xs := (List.replicate j.toNat xs).flatten) (ds := (List.replicate j.toNat a).flatten) s hp (da_rep p1 j.toNat)
      exact k _ _ _ _ e s' (.inr ⟨(by intro _ e; cases e), f⟩) hw
  | .list a, .int j, ⟨⟨h1, h2, h3⟩, hw⟩ =>
    obtain ⟨a1, xs, rfl, hr, p1⟩ := r1.list s
    obtain rfl := sc_int r2
    refine .inl (.inr ⟨a1, j, xs, rfl, rfl, hr, ⟨h1, h2, by rw [paired_len p1]; exact h3⟩, fun p hp => ?_⟩)
    obtain ⟨e, s', f⟩ := dy_lst (xs := (List.replicate j.toNat xs).flatten) (ds := (List.replicate j.toNat a).flatten) s hp (da_rep (ra_of p1) j.toNat)
    exact k _ F _ _ e s' (.inl ⟨_, rfl, f⟩) hw
/-- every operator -/
theorem bin_ok (X : Cx) (op : Operator) : ∃ r, OpR X (binaryOp op) r ∧ Op2 X.K r 1 1 (wBin op) := by
  have none_ok : (∀ d1 d2 Q, ¬ wBin op d1 d2 Q) → ∃ r, OpR X (binaryOp op) r ∧ Op2 X.K r 1 1 (wBin op) := fun h => ⟨rAny, op_any, fun F H v1 v2 d1 d2 Q s r1 r2 hw => (h _ _ _ hw).elim⟩
  cases op with
  | Add => exact ⟨_, op_addA, add_ok⟩
  | Sub => exact ⟨rI (fun _ _ => True) _, (opI fun _ _ _ _ _ _ _ _ q => sub_int q), int_ok fun d1 d2 Q h => by
      match d1, d2, h with
      | .int i, .int j, h => exact ⟨i, j, rfl, rfl, trivial, h⟩⟩
  | Mult => exact ⟨_, (op_mulM.or op_repR).or op_repA, mul_ok⟩
  | FloorDiv => exact ⟨_, op_fdivW, int_ok fun d1 d2 Q h => by
      match d1, d2, h with
      | .int i, .int j, h => exact ⟨i, j, rfl, rfl, h.1, h.2⟩⟩
  | Mod => exact ⟨_, op_mod, int_ok fun d1 d2 Q h => by
      match d1, d2, h with
      | .int i, .int j, h => exact ⟨i, j, rfl, rfl, h.1, h.2⟩⟩
  | Pow => exact ⟨_, op_pow, int_ok fun d1 d2 Q h => by
      match d1, d2, h with
      | .int i, .int j, h => exact ⟨i, j, rfl, rfl, h.1, h.2⟩⟩
  | LShift => exact ⟨_, op_shlW, int_ok fun d1 d2 Q h => by
      match d1, d2, h with
      | .int i, .int j, h => exact ⟨i, j, rfl, rfl, h.1, h.2⟩⟩
  | RShift => exact ⟨_, op_shr, int_ok fun d1 d2 Q h => by
      match d1, d2, h with
      | .int i, .int j, h => exact ⟨i, j, rfl, rfl, h.1, h.2⟩⟩
  | BitAnd => exact ⟨rI (fun _ _ => True) _, (opI fun _ _ _ _ _ _ _ _ q => and_int q), int_ok fun d1 d2 Q h => by
      match d1, d2, h with
      | .int i, .int j, h => exact ⟨i, j, rfl, rfl, trivial, h⟩⟩
  | BitOr => exact ⟨rI (fun _ _ => True) _, (opI fun _ _ _ _ _ _ _ _ q => or_int q), int_ok fun d1 d2 Q h => by
      match d1, d2, h with
      | .int i, .int j, h => exact ⟨i, j, rfl, rfl, trivial, h⟩⟩
  | BitXor => exact ⟨rI (fun _ _ => True) _, (opI fun _ _ _ _ _ _ _ _ q => xor_int q), int_ok fun d1 d2 Q h => by
      match d1, d2, h with
      | .int i, .int j, h => exact ⟨i, j, rfl, rfl, trivial, h⟩⟩
  | _ => exact none_ok fun d1 d2 Q h => by cases d1 <;> cases d2 <;> exact h

/-! ### comparisons -/
def Cm2 (K : PySem.W.Frag) (r : R2) (w : D → D → (Bool → Prop) → Prop) : Prop :=
  ∀ F H v1 v2 d1 d2 Q, Same F H → Res K F H 2 v1 d1 → Res K F H 2 v2 d2 → w d1 d2 Q → ∀ Z : VK, (∀ b, Q b → Z (.bl b) H) → r v1 v2 H Z
theorem scal_of {K : PySem.W.Frag} {F H : Hp} {n m : Nat} {v1 v2 : V} {d1 d2 : D} (r1 : Res K F H n v1 d1) (r2 : Res K F H m v2 d2) (h : scalD d1 d2 = true) : scal v1 v2 = true ∧ decide (v1 = v2) = eqS d1 d2 := by
  cases d1 <;> cases d2 <;> first
    | exact absurd (show false = true from h) Bool.false_ne_true
    | (first | obtain rfl := sc_int r1 | obtain rfl := sc_str r1 | obtain rfl := sc_bl r1 | obtain rfl := sc_non r1
       first | obtain rfl := sc_int r2 | obtain rfl := sc_str r2 | obtain rfl := sc_bl r2 | obtain rfl := sc_non r2
       simp [scal, eqS])
def rEqA (K : PySem.W.Frag) : R2 := fun x y H Q => rEq x y H Q ∨ rEqD K x y H Q
def rNeA (K : PySem.W.Frag) : R2 := fun x y H Q => rNe x y H Q ∨ rNeD K x y H Q
theorem eq_ok {K : PySem.W.Frag} : Cm2 K (rEqA K) (wCmp .Eq) := by
  intro F H v1 v2 d1 d2 Q s r1 r2 hw Z k
  have hw : wEq d1 d2 Q := hw
  unfold wEq at hw
  by_cases h : scalD d1 d2 = true
  · rw [if_pos h] at hw
    obtain ⟨h1, h2⟩ := scal_of r1 r2 h
    exact .inl ⟨h1, by rw [h2]; exact k _ hw⟩
  · rw [if_neg h] at hw
    exact .inr ⟨d1, d2, r1.dp s, r2.dp s, hw.1, hw.2.1, k _ hw.2.2⟩
theorem ne_ok {K : PySem.W.Frag} : Cm2 K (rNeA K) (wCmp .NotEq) := by
  intro F H v1 v2 d1 d2 Q s r1 r2 hw Z k
  have hw : wEq d1 d2 (fun b => Q (!b)) := hw
  unfold wEq at hw
  by_cases h : scalD d1 d2 = true
  · rw [if_pos h] at hw
    obtain ⟨h1, h2⟩ := scal_of r1 r2 h
    exact .inl ⟨h1, by rw [h2]; exact k _ hw⟩
  · rw [if_neg h] at hw
    exact .inr ⟨d1, d2, r1.dp s, r2.dp s, hw.1, hw.2.1, k _ hw.2.2⟩
theorem ord_ok {K : PySem.W.Frag} {op : CmpOp} {g : Int → Int → Bool} (hw : ∀ d1 d2 Q, wCmp op d1 d2 Q → ∃ i j, d1 = .int i ∧ d2 = .int j ∧ Q (g i j)) : Cm2 K (rI0 fun i j => .bl (g i j)) (wCmp op) := by
  intro F H v1 v2 d1 d2 Q s r1 r2 h Z k
  obtain ⟨i, j, rfl, rfl, hq⟩ := hw d1 d2 Q h
  obtain rfl := sc_int r1
  obtain rfl := sc_int r2
  exact ⟨i, j, rfl, rfl, k _ hq⟩
theorem flat_of {K : PySem.W.Frag} {F H : Hp} {n : Nat} {v : V} {d : D} (r : Res K F H n v d) (h : flatD d = true) : flatV v = true := by
  cases d <;> first
    | exact absurd (show false = true from h) Bool.false_ne_true
    | (first | obtain rfl := sc_int r | obtain rfl := sc_str r | obtain rfl := sc_bl r | obtain rfl := sc_non r
       rfl)
theorem eqV_of {K : PySem.W.Frag} {F H : Hp} {n m : Nat} {v1 v2 : V} {d1 d2 : D} (r1 : Res K F H n v1 d1) (r2 : Res K F H m v2 d2) (h1 : flatD d1 = true) (h2 : flatD d2 = true) : eqV v1 v2 = PyData.eqv d1 d2 := by
  cases d1 <;> cases d2 <;> first
    | exact absurd (show false = true from h1) Bool.false_ne_true
    | exact absurd (show false = true from h2) Bool.false_ne_true
    | (first | obtain rfl := sc_int r1 | obtain rfl := sc_str r1 | obtain rfl := sc_bl r1 | obtain rfl := sc_non r1
       first | obtain rfl := sc_int r2 | obtain rfl := sc_str r2 | obtain rfl := sc_bl r2 | obtain rfl := sc_non r2
       simp [eqV, PyData.eqv])
theorem inV_of {K : PySem.W.Frag} {F H : Hp} {n m : Nat} {v : V} {d : D} (r : Res K F H n v d) (h : flatD d = true) : ∀ {xs : List V} {ds : List D}, Paired (Res K F H m) xs ds → ds.all flatD = true → xs.all flatV = true ∧ inV v xs = ds.any fun z => PyData.eqv z d
  | _, _, .nil, _ => ⟨rfl, rfl⟩
  | _, _, .cons (a := x) (b := e) p t, hd => by
    rw [List.all_cons, Bool.and_eq_true] at hd
    obtain ⟨i1, i2⟩ := inV_of r h t hd.2
    refine ⟨by rw [List.all_cons, flat_of p hd.1, i1]; rfl, ?_⟩
    unfold inV at i2 ⊢
    rw [List.any_cons, List.any_cons, i2, eqV_of p r hd.1 h]
def rInA (K : PySem.W.Frag) : R2 := fun x y H Q => ((∃ (c : Nat) (z : Str), x = .str ⟨#[c]⟩ ∧ y = .str z ∧ Q (.bl (decide (c ∈ z.cps.toList))) H) ∨ (∃ i j, x = .str i ∧ y = .str j ∧ Q (.bl (!(Builtin.Str.occurrences j i 0 j.length 1).isEmpty)) H)) ∨ (rIn K false x y H Q ∨ rInD K x y H Q)
def rNotInA (K : PySem.W.Frag) : R2 := fun x y H Q => ((∃ (c : Nat) (z : Str), x = .str ⟨#[c]⟩ ∧ y = .str z ∧ Q (.bl (!decide (c ∈ z.cps.toList))) H) ∨ (∃ i j, x = .str i ∧ y = .str j ∧ Q (.bl (!(!(Builtin.Str.occurrences j i 0 j.length 1).isEmpty))) H)) ∨ (rIn K true x y H Q ∨ rNotInD K x y H Q)
theorem isStr1_some {s : Str} {c : Nat} (h : isStr1 s = some c) : s = ⟨#[c]⟩ := by
  unfold isStr1 at h
  split at h
  · cases h; rfl
  · cases h
theorem in_ok {K : PySem.W.Frag} {neg : Bool} : ∀ (F H : Hp) (v1 v2 : V) (d1 d2 : D) (Q : Bool → Prop), Same F H → Res K F H 2 v1 d1 → Res K F H 2 v2 d2 → wIn d1 d2 (fun b => Q (if neg then !b else b)) → ∀ Z : VK, (∀ b, Q b → Z (.bl b) H) → (if neg then rNotInA K else rInA K) v1 v2 H Z := by
  intro F H v1 v2 d1 d2 Q s r1 r2 hw Z k
  unfold wIn at hw
  cases d2 with
  | str z =>
    obtain rfl := sc_str r2
    cases d1 with
    | str t =>
      obtain rfl := sc_str r1
      dsimp only at hw
      cases e : isStr1 t with
      | some c =>
        rw [e] at hw
        rw [isStr1_some e]
        cases neg with
        | true => exact .inl (.inl ⟨c, z, rfl, rfl, k _ hw⟩)
        | false => exact .inl (.inl ⟨c, z, rfl, rfl, k _ hw⟩)
      | none =>
        rw [e] at hw
        cases neg with
        | true => exact .inl (.inr ⟨t, z, rfl, rfl, k _ hw⟩)
        | false => exact .inl (.inr ⟨t, z, rfl, rfl, k _ hw⟩)
    | _ => exact hw.elim
  | list ds =>
    dsimp only at hw
    have r2' := r2
    obtain ⟨a, xs, rfl, h1, p⟩ := r2.list s
    by_cases c : flatD d1 = true ∧ ds.all flatD = true
    · rw [if_pos c] at hw
      obtain ⟨i1, i2⟩ := inV_of r1 c.1 p c.2
      cases neg with
      | true => exact .inr (.inl ⟨a, xs, rfl, .inl h1, flat_of r1 c.1, i1, by rw [i2]; exact k _ hw⟩)
      | false => exact .inr (.inl ⟨a, xs, rfl, .inl h1, flat_of r1 c.1, i1, by rw [i2]; exact k _ hw⟩)
    · rw [if_neg c] at hw
      cases neg with
      | true => exact .inr (.inr ⟨d1, ds, r1.dp s, r2'.dp s, hw.1, hw.2.1, k _ hw.2.2⟩)
      | false => exact .inr (.inr ⟨d1, ds, r1.dp s, r2'.dp s, hw.1, hw.2.1, k _ hw.2.2⟩)
  | tuple ds =>
    dsimp only at hw
    obtain ⟨a, xs, rfl, h1, p⟩ := sc_tup r2
    obtain ⟨i1, i2⟩ := inV_of (m := 0) r1 hw.1 (paired_of p) hw.2.1
    cases neg with
    | true => exact .inr (.inl ⟨a, xs, rfl, .inr (sqT_mono s h1), flat_of r1 hw.1, i1, by rw [i2]; exact k _ hw.2.2⟩)
    | false => exact .inr (.inl ⟨a, xs, rfl, .inr (sqT_mono s h1), flat_of r1 hw.1, i1, by rw [i2]; exact k _ hw.2.2⟩)
  | _ => exact hw.elim
theorem cmp_ok (X : Cx) (hu : X.A.units + 65 < cLine) (op : CmpOp) : ∃ r, OpR X (compareOp op) r ∧ Cm2 X.K r (wCmp op) := by
  have hu' : X.A.units + 64 < cLine := by omega
  cases op with
  | Eq => exact ⟨_, op_eq.or (op_eqD hu'), eq_ok⟩
  | NotEq => exact ⟨_, op_ne.or (op_neD hu'), ne_ok⟩
  | Lt => exact ⟨_, op_lt, ord_ok fun d1 d2 Q h => by
      match d1, d2, h with
      | .int i, .int j, h => exact ⟨i, j, rfl, rfl, h⟩⟩
  | LtE => exact ⟨_, op_le, ord_ok fun d1 d2 Q h => by
      match d1, d2, h with
      | .int i, .int j, h => exact ⟨i, j, rfl, rfl, h⟩⟩
  | Gt => exact ⟨_, op_gt, ord_ok fun d1 d2 Q h => by
      match d1, d2, h with
      | .int i, .int j, h => exact ⟨i, j, rfl, rfl, h⟩⟩
  | GtE => exact ⟨_, op_ge, ord_ok fun d1 d2 Q h => by
      match d1, d2, h with
      | .int i, .int j, h => exact ⟨i, j, rfl, rfl, h⟩⟩
  | Is => exact ⟨_, op_isN, fun F H v1 v2 d1 d2 Q s r1 r2 h Z k => by
      match d2, h with
      | .none, h =>
        have e2 := sc_non r2
        refine ⟨e2, ?_⟩
        have rd := r1.dp s
        cases d1 with
        | none => cases rd; exact k _ h
        | bool _ => cases rd; exact k _ h
        | int _ => cases rd; exact k _ h
        | str _ => cases rd; exact k _ h
        | list _ => cases rd; exact k _ h
        | tuple _ => cases rd; exact k _ h
        | dict _ => cases rd⟩
  | IsNot => exact ⟨_, op_notN, fun F H v1 v2 d1 d2 Q s r1 r2 h Z k => by
      match d2, h with
      | .none, h =>
        have e2 := sc_non r2
        refine ⟨e2, ?_⟩
        have rd := r1.dp s
        cases d1 with
        | none => cases rd; exact k _ h
        | bool _ => cases rd; exact k _ h
        | int _ => cases rd; exact k _ h
        | str _ => cases rd; exact k _ h
        | list _ => cases rd; exact k _ h
        | tuple _ => cases rd; exact k _ h
        | dict _ => cases rd⟩
  | In => exact ⟨_, (op_in_sign.or op_in_str).or (op_in_seq.or (op_inD hu)), fun F H v1 v2 d1 d2 Q s r1 r2 h Z k => in_ok (neg := false) F H v1 v2 d1 d2 Q s r1 r2 h Z k⟩
  | NotIn => exact ⟨_, (op_notIn_sign.or op_notin_str).or (op_notIn_seq.or (op_notInD hu)), fun F H v1 v2 d1 d2 Q s r1 r2 h Z k => in_ok (neg := true) F H v1 v2 d1 d2 Q s r1 r2 h Z k⟩

/-! ### subscripts, slices -/
theorem atI_pair {α β : Type} {G : α → β → Prop} {xs : List α} {ys : List β} (p : Paired G xs ys) {i : Int} {y : β} (h : atI ys i = some y) : ∃ x, atI xs i = some x ∧ G x y := by
  unfold atI at h ⊢
  rw [paired_len p]
  cases e : ixN ys.length i with
  | none => rw [e] at h; cases h
  | some j =>
    rw [e] at h
    obtain ⟨x, h1, h2⟩ := paired_get p (show ys[j]? = some y from h)
    exact ⟨x, h1, h2⟩
theorem ix_ok {K : PySem.W.Frag} {n : Nat} : ∀ F H v1 v2 d1 d2 Q, Same F H → Res K F H (n + 1) v1 d1 → Res K F H 0 v2 d2 → wIx d1 d2 Q → ∀ Z : VK, (∀ v d, Res K F H n v d → Q d → Z v H) → rIx K v1 v2 H Z := by
  intro F H v1 v2 d1 d2 Q s r1 r2 hw Z k
  match d1, d2, hw with
  | .list ds, .int i, ⟨d, ha, hq⟩ =>
    obtain ⟨a, xs, rfl, h1, p⟩ := r1.list s
    obtain rfl := sc_int r2
    obtain ⟨x, hx, rx⟩ := atI_pair p ha
    exact .inl ⟨a, xs, i, x, rfl, rfl, h1, hx, k x d rx hq⟩
  | .tuple ds, .int i, ⟨d, ha, hq⟩ =>
    obtain ⟨a, xs, rfl, h1, p⟩ := sc_tup r1
    obtain rfl := sc_int r2
    obtain ⟨x, hx, rx⟩ := atI_pair (paired_of p) ha
    exact .inr (.inl ⟨a, xs, i, x, rfl, rfl, sqT_mono s h1, hx, k x d (Res.of rx) hq⟩)
  | .str z, .int i, ⟨hz, c, ha, hq⟩ =>
    obtain rfl := sc_str r1
    obtain rfl := sc_int r2
    exact .inr (.inr ⟨z, i, c, rfl, rfl, hz, ha, k _ _ (Res.of (.str _)) hq⟩)
def rSlX (K : PySem.W.Frag) : V → Option Int → Option Int → Hp → VK → Prop := fun x lo hi H Q => (rSlL K x lo hi H Q ∨ rSlS x lo hi H Q) ∨ rSlA K x lo hi H Q
theorem sl_X {X : Cx} : SlR X (rSlX X.K) := (sl_list.or sl_str).or sl_tupA
theorem cut_ra {K : PySem.W.Frag} {F : Hp} {xs : List V} {ds : List D} (h : RpAll K F xs ds) (lo hi : Option Int) : RpAll K F (cutV xs lo hi) (cutD ds lo hi) := by
  unfold cutV cutD
  rw [da_len h]
  exact da_take _ (da_drop _ h)
theorem sl_ok {K : PySem.W.Frag} : ∀ F H v1 d1 lo hi Q, Same F H → Res K F H 1 v1 d1 → wSl d1 lo hi Q → ∀ Z : VK, (∀ v F' H' d, Ext F H F' H' → Same F' H' → Dyn K H F' H' v d → Q d → Z v H') → rSlX K v1 lo hi H Z := by
  intro F H v1 d1 lo hi Q s r1 hw Z k
  match d1, hw with
  | .list ds, hw =>
    obtain ⟨a, xs, rfl, h1, p⟩ := r1.list s
    refine .inl (.inl ⟨a, xs, rfl, h1, fun p' hp => ?_⟩)
    obtain ⟨e, s', f⟩ := dy_lst (xs := cutV xs lo hi) (ds := cutD ds lo hi) s hp (cut_ra (ra_of p) lo hi)
    exact k _ F _ _ e s' (.inl ⟨_, rfl, f⟩) hw
  | .str z, ⟨hz, hw⟩ =>
    obtain rfl := sc_str r1
    exact .inl (.inr ⟨z, rfl, hz, k _ F H _ (Ext.refl F H) s (.inr ⟨(by intro _ e; cases e), Rp.str _⟩) hw⟩)
  | .tuple ds, hw =>
    obtain ⟨a, xs, rfl, h1, p⟩ := sc_tup r1
    refine .inr ⟨a, xs, rfl, sqT_mono s h1, fun hh => ?_, fun _ p' hp => ?_⟩
    · have e : cutD ds lo hi = ds := by
        unfold cutD
        rw [← da_len p, hh.1, hh.2, List.drop_zero, Nat.sub_zero, da_len p, List.take_length]
      have hw : Q (.tuple (cutD ds lo hi)) := hw
      rw [e] at hw
      exact k _ F H _ (Ext.refl F H) s (.inr ⟨(by intro _ e; cases e), Rp.tup h1 p⟩) hw
    · obtain ⟨e, s', f⟩ := dy_tup (xs := cutV xs lo hi) (ds := cutD ds lo hi) s hp (cut_ra p lo hi)
      exact k _ _ _ _ e s' (.inr ⟨(by intro _ e; cases e), f⟩) hw
end PD

set_option maxHeartbeats 1000000
namespace PD
open PySem PySem.Spec PyProof.Rows L2

/-! ### looking at the program's syntax -/
def plainE : Expr → Bool
  | .Starred .. => false
  | .Set .. => false
  | .Slice .. => false
  | _ => true
def noSup : Expr → Bool
  | .Call (.Name _ _) [] [] _ => false
  | _ => true
def asName : Expr → Option Str
  | .Name x _ => some x
  | _ => none
def asConst : Expr → Option Const
  | .Constant c _ _ => some c
  | _ => none
def asBin : Expr → Option (Expr × Operator × Expr)
  | .BinOp a op b _ => some (a, op, b)
  | _ => none
def asNeg : Expr → Option Expr
  | .UnaryOp .USub a _ => some a
  | _ => none
def asNot : Expr → Option Expr
  | .UnaryOp .Not a _ => some a
  | _ => none
def asCmp : Expr → Option (Expr × CmpOp × Expr)
  | .Compare a [op] [b] _ => some (a, op, b)
  | _ => none
def asBool : Expr → Option (BoolOp × List Expr)
  | .BoolOp op es _ => some (op, es)
  | _ => none
def asIfE : Expr → Option (Expr × Expr × Expr)
  | .IfExp c a b _ => some (c, a, b)
  | _ => none
def asSub : Expr → Option (Expr × Expr)
  | .Subscript a i _ => some (a, i)
  | _ => none
def asSl : Expr → Option (Option Expr × Option Expr)
  | .Slice lo hi none _ => some (lo, hi)
  | _ => none
def asCall : Expr → Option (Str × List Expr)
  | .Call (.Name x _) es [] _ => some (x, es)
  | _ => none
def asCallK : Expr → Option (Str × List Expr × List (Option Str) × List Expr)
  | .Call (.Name x _) es (k :: ks) _ => some (x, es, (k :: ks).map (·.arg), (k :: ks).map (·.value))
  | _ => none
def asMeth : Expr → Option (Expr × Str × List Expr × Bool)
  | .Call (.Attribute o m ap) es [] cp => some (o, m, es, ap.endLine == cp.line)
  | _ => none
def asTup : Expr → Option (List Expr)
  | .Tuple es _ _ => some es
  | _ => none
def asLst : Expr → Option (List Expr)
  | .List es _ => some es
  | _ => none
def asLC : Expr → Option (Expr × Expr × Expr × List Expr × Scope)
  | .ListComp elt [⟨tg, it, ifs, 0⟩] sc _ => some (elt, tg, it, ifs, sc)
  | _ => none
theorem asName_s {pe : Expr} {x} (h : asName pe = some x) : ∃ p, pe = .Name x p := by
  unfold asName at h; split at h <;> cases h; exact ⟨_, rfl⟩
theorem asConst_s {pe : Expr} {x} (h : asConst pe = some x) : ∃ j p, pe = .Constant x j p := by
  unfold asConst at h; split at h <;> cases h; exact ⟨_, _, rfl⟩
theorem asBin_s {pe : Expr} {a op b} (h : asBin pe = some (a, op, b)) : ∃ p, pe = .BinOp a op b p := by
  unfold asBin at h; split at h <;> cases h; exact ⟨_, rfl⟩
theorem asNeg_s {pe : Expr} {a} (h : asNeg pe = some a) : ∃ p, pe = .UnaryOp .USub a p := by
  unfold asNeg at h; split at h <;> cases h; exact ⟨_, rfl⟩
theorem asNot_s {pe : Expr} {a} (h : asNot pe = some a) : ∃ p, pe = .UnaryOp .Not a p := by
  unfold asNot at h; split at h <;> cases h; exact ⟨_, rfl⟩
theorem asCmp_s {pe : Expr} {a op b} (h : asCmp pe = some (a, op, b)) : ∃ p, pe = .Compare a [op] [b] p := by
  unfold asCmp at h; split at h <;> cases h; exact ⟨_, rfl⟩
theorem asBool_s {pe : Expr} {op es} (h : asBool pe = some (op, es)) : ∃ p, pe = .BoolOp op es p := by
  unfold asBool at h; split at h <;> cases h; exact ⟨_, rfl⟩
theorem asIfE_s {pe : Expr} {c a b} (h : asIfE pe = some (c, a, b)) : ∃ p, pe = .IfExp c a b p := by
  unfold asIfE at h; split at h <;> cases h; exact ⟨_, rfl⟩
theorem asSub_s {pe : Expr} {a i} (h : asSub pe = some (a, i)) : ∃ p, pe = .Subscript a i p := by
  unfold asSub at h; split at h <;> cases h; exact ⟨_, rfl⟩
theorem asSl_s {pe : Expr} {a i} (h : asSl pe = some (a, i)) : ∃ p, pe = .Slice a i none p := by
  unfold asSl at h; split at h <;> cases h; exact ⟨_, rfl⟩
theorem asCall_s {pe : Expr} {x es} (h : asCall pe = some (x, es)) : ∃ p q, pe = .Call (.Name x p) es [] q := by
  unfold asCall at h; split at h <;> cases h; exact ⟨_, _, rfl⟩
theorem asMeth_s {pe : Expr} {o m es b} (h : asMeth pe = some (o, m, es, b)) : ∃ ap cp, pe = .Call (.Attribute o m ap) es [] cp ∧ (ap.endLine == cp.line) = b := by
  unfold asMeth at h; split at h <;> cases h; exact ⟨_, _, rfl, rfl⟩
theorem asCallK_s {pe : Expr} {x es ns vs} (h : asCallK pe = some (x, es, ns, vs)) : ∃ p q kws, pe = .Call (.Name x p) es kws q ∧ ns = kws.map (·.arg) ∧ vs = kws.map (·.value) := by
  unfold asCallK at h; split at h <;> cases h; exact ⟨_, _, _, rfl, rfl, rfl⟩
theorem asTup_s {pe : Expr} {es} (h : asTup pe = some es) : ∃ k p, pe = .Tuple es k p := by
  unfold asTup at h; split at h <;> cases h; exact ⟨_, _, rfl⟩
theorem asLst_s {pe : Expr} {es} (h : asLst pe = some es) : ∃ p, pe = .List es p := by
  unfold asLst at h; split at h <;> cases h; exact ⟨_, rfl⟩
theorem asLC_s {pe : Expr} {elt tg it ifs sc} (h : asLC pe = some (elt, tg, it, ifs, sc)) : ∃ p, pe = .ListComp elt [⟨tg, it, ifs, 0⟩] sc p := by
  unfold asLC at h; split at h <;> cases h; exact ⟨_, rfl⟩

/-! ### the look: does the small syntax say what the program's says -/
def Bl.nm : Bl → Str
  | .len => "len" | .int => "int" | .str => "str" | .tuple => "tuple" | .list => "list" | .abs => "abs" | .max => "max" | .min => "min" | .sum => "sum"
def Mt.nm : Mt → Str
  | .join => "join" | .find3 => "find" | .rfind4 => "rfind" | .sindex => "index"
structure Ck where
  N : List Str
  fnN : Nat → Option Str
  ctN : Nat → Option Str
  fnK : Nat → Option (Str × Nat × List Str)
  bl : List Str
def visB (sc : Scope) (x : Str) : Bool := (decide (sc.names.lookup x = some .local) || decide (sc.names.lookup x = some .cell) || decide (sc.names.lookup x = some .free)) && !(x == ("__debug__" : Str)) && !(x == ("__classdict__" : Str))
def locB (sc : Scope) (x : Str) : Bool := decide (sc.names.lookup x = some .local) || decide (sc.names.lookup x = some .cell)
def glB (sc : Scope) (x : Str) : Bool := decide (sc.names.lookup x = some .globalImplicit) && !(x == ("__debug__" : Str))
def okTgs (C : Ck) (sc : Scope) : List Nat → List Expr → Bool
  | [], [] => true
  | i :: is, pe :: pes => (match asName pe with | some x => decide (C.N[i]? = some x) && locB sc x | none => false) && okTgs C sc is pes
  | _, _ => false
def okTg (C : Ck) (sc : Scope) : Tg → Expr → Bool
  | .nm i, pe => match asName pe with | some x => decide (C.N[i]? = some x) && locB sc x | none => false
  | .tp is, pe => match asTup pe with | some es => okTgs C sc is es | none => false
def tgNames : Expr → List Str
  | .Name x _ => [x]
  | .Tuple es _ _ => es.filterMap asName
  | _ => []
def Tg.slots : Tg → List Nat
  | .nm i => [i]
  | .tp is => is
def typB (C : Ck) (sc : Scope) (t : String) (pe : Expr) : Bool :=
  match asName pe with
  | some x => decide (x = Str.ofString t) && glB sc x && C.bl.contains x && ["int", "bool", "str", "list", "tuple"].contains t
  | none => false
def typsB (C : Ck) (sc : Scope) : List String → List Expr → Bool
  | [], [] => true
  | t :: ts, e :: es => typB C sc t e && typsB C sc ts es
  | _, _ => false
mutual
def okE (C : Ck) (sc : Scope) : E → Expr → Bool
  | .var i, pe => match asName pe with | some x => decide (C.N[i]? = some x) && visB sc x | none => false
  | .ct k, pe => match asName pe with | some x => decide (C.ctN k = some x) && glB sc x | none => false
  | .non, pe => match asConst pe with | some .none => true | _ => false
  | .bl b, pe => match asConst pe with | some (.bool c) => decide (b = c) | _ => false
  | .int i, pe => match asConst pe with | some (.int c) => decide (i = c) | _ => false
  | .str x, pe => match asConst pe with | some (.str c) => decide (c = ⟨x.toArray⟩) | _ => false
  | .bin op a b, pe => match asBin pe with | some (pa, o, pb) => decide (o = op) && okE C sc a pa && okE C sc b pb | none => false
  | .neg a, pe => match asNeg pe with | some pa => okE C sc a pa | none => false
  | .cmp op a b, pe => match asCmp pe with | some (pa, o, pb) => decide (o = op) && plainE pb && okE C sc a pa && okE C sc b pb | none => false
  | .bop conj es, pe => match asBool pe with | some (o, pes) => decide (o = if conj then .And else .Or) && !pes.isEmpty && okEs C sc es pes | none => false
  | .nt a, pe => match asNot pe with | some pa => okE C sc a pa | none => false
  | .ifx c a b, pe => match asIfE pe with | some (pc, pa, pb) => okE C sc c pc && okE C sc a pa && okE C sc b pb | none => false
  | .ix a i, pe => match asSub pe with | some (pa, pi) => plainE pi && okE C sc a pa && okE C sc i pi | none => false
  | .sl a lo hi, pe => match asSub pe with
    | some (pa, pi) => (match asSl pi with | some (pl, ph) => okE C sc a pa && okEo C sc lo pl && okEo C sc hi ph | none => false)
    | none => false
  | .call k es, pe => match asCall pe with | some (x, pes) => decide (C.fnN k = some x) && glB sc x && okEs C sc es pes | none => false
  | .callk k n es ks kes, pe => match asCallK pe with | some (x, pes, ns, vs) => decide (C.fnK k = some (x, n, ks)) && glB sc x && decide (ns = ks.map some) && !pes.isEmpty && okEs C sc es pes && okEs C sc kes vs | none => false
  | .blt b es, pe => match asCall pe with | some (x, pes) => decide (x = b.nm) && glB sc x && C.bl.contains x && !pes.isEmpty && okEs C sc es pes | none => false
  | .isi a ts, pe => match asCall pe with
    | some (x, [pa, pt]) => decide (x = "isinstance") && glB sc x && C.bl.contains x && plainE pa && plainE pt && okE C sc a pa && (match asTup pt with | some pts => typsB C sc ts pts && pts.all plainE && decide (ts.length ≤ 1000) | none => typsB C sc ts [pt])
    | _ => false
  | .mth m o es, pe => match asMeth pe with | some (po, x, pes, b) => decide (x = m.nm) && b && !pes.isEmpty && decide (pes.length < 20) && noSup po && okE C sc o po && okEs C sc es pes | none => false
  | .tup es, pe => match asTup pe with | some pes => okEs C sc es pes | none => false
  | .lst es, pe => match asLst pe with | some pes => okEs C sc es pes | none => false
  | .lc own elt tg it cs, pe => match asLC pe with
    | some (pelt, ptg, pit, pifs, scope) => blkC C.N sc scope own && okI C sc it pit && okTg C (relS scope sc) tg ptg && (tgNames ptg).all (fun x => decide (scope.names.lookup x = some .local) || decide (scope.names.lookup x = some .cell)) && plainE pit && tg.slots.all (fun i => (own.map (·.2)).contains i) && okE C (relS scope sc) elt pelt && okC C (relS scope sc) cs pifs
    | none => false
def okEo (C : Ck) (sc : Scope) : Eo → Option Expr → Bool
  | .no, none => true
  | .yes e, some pe => okE C sc e pe
  | _, _ => false
def okC (C : Ck) (sc : Scope) : Eo → List Expr → Bool
  | .no, pes => match pes with | [] => true | _ => false
  | .yes e, pes => match pes with | [pe] => okE C sc e pe | _ => false
def okEs (C : Ck) (sc : Scope) : Es → List Expr → Bool
  | .nil, pes => match pes with | [] => true | _ => false
  | .cons e es, pes => match pes with | pe :: pr => plainE pe && okE C sc e pe && okEs C sc es pr | _ => false
def okI (C : Ck) (sc : Scope) : I → Expr → Bool
  | .ls e, pe => plainE pe && okE C sc e pe
  | .r1 a, pe => match asCall pe with | some (x, [pa]) => decide (x = "range") && glB sc x && C.bl.contains x && plainE pa && okE C sc a pa | _ => false
  | .r2 a b, pe => match asCall pe with | some (x, [pa, pb]) => decide (x = "range") && glB sc x && C.bl.contains x && plainE pa && plainE pb && okE C sc a pa && okE C sc b pb | _ => false
  | .rv e, pe => match asCall pe with | some (x, [pa]) => decide (x = "reversed") && glB sc x && C.bl.contains x && plainE pa && okE C sc e pa | _ => false
  | .rr1 a, pe => match asCall pe with
    | some (x, [pr]) => decide (x = "reversed") && glB sc x && C.bl.contains x && plainE pr && (match asCall pr with | some (y, [pa]) => decide (y = "range") && glB sc y && C.bl.contains y && plainE pa && okE C sc a pa | _ => false)
    | _ => false
  | .rr2 a b, pe => match asCall pe with
    | some (x, [pr]) => decide (x = "reversed") && glB sc x && C.bl.contains x && plainE pr && (match asCall pr with | some (y, [pa, pb]) => decide (y = "range") && glB sc y && C.bl.contains y && plainE pa && plainE pb && okE C sc a pa && okE C sc b pb | _ => false)
    | _ => false
end

/-! ### what the context gives -/
/-- a def's promise, by data -/
def spD (K : PySem.W.Frag) (f : FnS) : Sp := fun vs H Q _ => ∃ F ds, Same F H ∧ RpAll K F vs ds ∧ f.pre ds ∧ ∀ d v F' H', f.post ds d → Ext F H F' H' → Same F' H' → Rp K F' v d → Q v H'
/-- f is f0 with the values dd behind what is given -/
def Sh (f f0 : FnS) (dd : List D) : Prop := ∀ xs, f.pre xs → f0.pre (xs ++ dd) ∧ ∀ d, f0.post (xs ++ dd) d → f.post xs d
theorem Sh.self (f : FnS) : Sh f f [] := fun xs h => by rw [List.append_nil]; exact ⟨h, fun _ h => h⟩
structure FnIn (X : Cx) (x : Str) (f : FnS) : Prop where
  ex : ∃ (a : Addr) (fd : FuncData) (ps : List Str) (j : Nat) (ds : List Value) (dvs : List V) (dd : List D) (f0 : FnS), X.mg x = some (.ref a) ∧ PySem.W.keepIn X.K (.ref a) = true ∧ Binds X.K fd ps ds ∧ Vals dvs ds ∧ (∀ F, RpAll X.K F dvs dd) ∧
    FnOk X.prog X.w X.K X.mg X.base CX0 j a fd ps (spD X.K f0) ∧ Room j X.A ∧ Sh f f0 dd
/-- .. with keywords -/
structure FnInK (X : Cx) (x : Str) (n : Nat) (ks : List Str) (f : FnS) : Prop where
  ex : ∃ (a : Addr) (fd : FuncData) (ps : List Str) (j : Nat), X.mg x = some (.ref a) ∧ PySem.W.keepIn X.K (.ref a) = true ∧ KBn X.K fd ps n ks (fun us ws => us ++ ws) (fun vs zs => vs ++ zs) ∧
    FnOk X.prog X.w X.K X.mg X.base CX0 j a fd ps (spD X.K f) ∧ Room j X.A
structure DX (X : Cx) (C : Ck) (G : Gb) (sc : Scope) : Prop where
  N : X.N = C.N
  nd : C.N.Nodup
  sc : X.env.scope = sc
  calm : X.calm = true
  room : Room 1 X.A
  bl : ∀ x, C.bl.contains x = true → X.mg x = none
  fn : ∀ k x, C.fnN k = some x → FnIn X x (G.fn k)
  fk : ∀ k x n ks, C.fnK k = some (x, n, ks) → FnInK X x n ks (G.fn k)
  ct : ∀ k x, C.ctN k = some x → ∃ u v, X.mg x = some u ∧ RelV v u ∧ ∀ F, Rp X.K F v (G.ct k)
section
variable {X : Cx} {C : Ck} {G : Gb} {sc : Scope} {x : Str} {pe : Expr}
theorem DX.gl (d : DX X C G sc) (h : glB sc x = true) : Gl X x ∧ (x == ("__debug__" : Str)) = false := by
  unfold glB at h
  simp only [Bool.and_eq_true, decide_eq_true_eq, Bool.not_eq_true'] at h
  refine ⟨?_, h.2⟩
  show X.env.scope.names.lookup x = _
  rw [d.sc]; exact h.1
theorem DX.vis (d : DX X C G sc) (h : visB sc x = true) : Vis X.env.scope x ∧ (x == ("__debug__" : Str)) = false ∧ (x == ("__classdict__" : Str)) = false := by
  unfold visB at h
  simp only [Bool.and_eq_true, Bool.or_eq_true, decide_eq_true_eq, Bool.not_eq_true'] at h
  obtain ⟨⟨h1, h2⟩, h3⟩ := h
  refine ⟨?_, h2, h3⟩
  rw [d.sc]
  rcases h1 with (h1 | h1) | h1
  · exact .inl h1
  · exact .inr (.inl h1)
  · exact .inr (.inr h1)
theorem DX.loc (d : DX X C G sc) (h : locB sc x = true) : Loc X.env.scope x := by
  unfold locB at h
  simp only [Bool.or_eq_true, decide_eq_true_eq] at h
  rw [d.sc]; exact h
theorem star_cons {e : Expr} {es : List Expr} {env : PySem.Env} (h : plainE e = true) : starEach (e :: es) env = (false, eval e env) :: starEach es env := by
  cases e <;> first | rfl | exact absurd (show false = true from h) Bool.false_ne_true
theorem star_map {env : PySem.Env} : ∀ {es : List Expr}, es.all plainE = true → (starEach es env).map (·.1) = es.map fun _ => false
  | [], _ => rfl
  | e :: es, h => by
    rw [List.all_cons, Bool.and_eq_true] at h
    rw [star_cons h.1, List.map_cons, List.map_cons, star_map h.2]
theorem back_map (pos : Pos) (l : List (Bool × Sem Value)) : (backTo pos l).map (·.1) = l.map (·.1) := by
  unfold backTo
  rw [List.map_map]
  rfl
theorem any_map (l : List (Bool × Sem Value)) : l.any (·.1) = (l.map (·.1)).any id := by rw [List.any_map]; rfl
theorem star_any {env : PySem.Env} {pos : Pos} {es : List Expr} (h : es.all plainE = true) : (backTo pos (starEach es env)).any (·.1) = false := by
  rw [any_map, back_map, star_map h, List.any_map]
  exact List.any_eq_false.mpr fun _ _ => by simp
theorem star_few {env : PySem.Env} {pos : Pos} {es : List Expr} (h : es.all plainE = true) : (backTo pos (starEach es env)).all (fun x => !x.1) = true := by
  rw [List.all_eq_true]
  intro y hy
  have : (backTo pos (starEach es env)).any (·.1) = false := star_any h
  rw [List.any_eq_false] at this
  have := this y hy
  simpa using this
theorem plain_sub {b : Expr} (h : plainE b = true) : PlainIx b := by
  intro o i
  cases b <;> first | rfl | exact absurd (show false = true from h) Bool.false_ne_true
theorem plain_mark {b : Expr} {op : CmpOp} (h : plainE b = true) : behindInMarks op b = false := by
  cases b <;> first | rfl | exact absurd (show false = true from h) Bool.false_ne_true
theorem plain_fold {b : Expr} {env : PySem.Env} (h : plainE b = true) : ∀ x, foldedSetIterable b env x = pure x := by
  intro x
  cases b <;> first | rfl | exact absurd (show false = true from h) Bool.false_ne_true
theorem okEs_all : ∀ {es : Es} {pes : List Expr}, okEs C sc es pes = true → pes.all plainE = true
  | .nil, [], _ => rfl
  | .nil, _ :: _, h => by simp [okEs] at h
  | .cons e es, [], h => by simp [okEs] at h
  | .cons e es, pe :: pr, h => by
    simp only [okEs, Bool.and_eq_true] at h
    rw [List.all_cons, h.1.1, okEs_all h.2]; rfl
end
end PD

set_option maxHeartbeats 2000000
namespace PD
open PySem PySem.Spec PyProof.Rows L2

section
variable {X : Cx} {C : Ck} {G : Gb} {sc : Scope}

theorem slot_of {K : PySem.W.Frag} {F0 H0 F : Hp} {ρ : Env} {σ : Sg} {H : Hp} (r : R K F0 H0 F ρ σ H) (i : Nat) : ∃ os, SlRep K F H (gt ρ i) (gt σ i) os := by
  obtain ⟨O, o⟩ := r.own
  exact ⟨_, o.rep i⟩
theorem own2_pair {K : PySem.W.Frag} {F H : Hp} : ∀ {bs : List Addr} {dss : List (List D)}, Own2 K F H bs dss → Paired (Res K F H 1) (bs.map V.ref) (dss.map PyData.list)
  | [], [], _ => .nil
  | b :: bs, ds :: dss, ⟨⟨xs, e, q⟩, t⟩ => .cons (.inr ⟨b, xs, ds, rfl, rfl, e, paired_imp (fun _ _ z => z) (paired_of q)⟩) (own2_pair t)
  | [], _ :: _, h => h.elim
  | _ :: _, [], h => h.elim
theorem own2_len {K : PySem.W.Frag} {F H : Hp} : ∀ {bs : List Addr} {dss : List (List D)}, Own2 K F H bs dss → bs.length = dss.length
  | [], [], _ => rfl
  | b :: bs, ds :: dss, ⟨_, t⟩ => by rw [List.length_cons, List.length_cons, own2_len t]
  | [], _ :: _, h => h.elim
  | _ :: _, [], h => h.elim
theorem res1_list {K : PySem.W.Frag} {F H : Hp} {a : Addr} {xs : List V} {ds : List D} {n : Nat} (e : H a = some (.lst xs)) (q : RpAll K F xs ds) : Res K F H (n + 1) (.ref a) (.list ds) :=
  .inr ⟨a, xs, ds, rfl, rfl, e, paired_imp (fun _ _ z => Res.of z) (paired_of q)⟩
theorem res_up {K : PySem.W.Frag} {F H : Hp} : ∀ {n m : Nat} {v : V} {d : D}, n ≤ m → Res K F H n v d → Res K F H m v d
  | 0, _, _, _, _, h => Res.of h
  | n + 1, 0, _, _, hl, _ => absurd hl (Nat.not_succ_le_zero n)
  | n + 1, m + 1, v, d, hl, h => by
    rcases h with h | ⟨a, xs, ds, e1, e2, e3, p⟩
    · exact .inl h
    · exact .inr ⟨a, xs, ds, e1, e2, e3, paired_imp (fun _ _ q => res_up (Nat.le_of_succ_le_succ hl) q) p⟩

theorem snd_var {i : Nat} {pe : Expr} (dx : DX X C G sc) (h : okE C sc (.var i) pe = true) : Snd X pe (fun md => wE G md (.var i)) := by
  unfold okE at h
  cases e : asName pe with
  | none => rw [e] at h; cases h
  | some x =>
    rw [e] at h
    obtain ⟨p, rfl⟩ := asName_s e
    simp only [Bool.and_eq_true, decide_eq_true_eq] at h
    obtain ⟨h1, h2⟩ := h
    obtain ⟨v1, v2, v3⟩ := dx.vis h2
    have pv : PE X (.Name x p) (tVar i) := pe_var (by rw [dx.N]; exact h1) v1 v2 v3
    refine ⟨fun n => pe_w pv fun σ H Z ⟨F0, H0, F, ρ, Q, r, hw, k⟩ => ?_, pe_w pv fun σ H Z ⟨F0, H0, F, ρ, Q, r, hw, k⟩ => ?_, pt_w (pt_truth pv fun _ => rfl) fun σ H Z ⟨F0, H0, F, ρ, Q, r, hw, k⟩ => ?_⟩
    · obtain ⟨os, q⟩ := slot_of r i
      have hw : (match gt ρ i with | some (.fz d) => fin (.t n) Q d | some (.ow ds) => (match (Md.t n) with | .t (_ + 1) => Q (.list ds) | .tst => Q (.bool (!ds.isEmpty)) | _ => False) | some (.ow2 dss) => (match (Md.t n) with | .t (_ + 2) => Q (.list (dss.map .list)) | .tst => Q (.bool (!dss.isEmpty)) | _ => False) | none => False : Prop) := hw
      cases eg : gt ρ i with
      | none => rw [eg] at hw; exact hw.elim
      | some s =>
        rw [eg] at hw q
        cases s with
        | fz d =>
          obtain ⟨_, y, e1, q⟩ := q
          exact ⟨y, gt_some e1, k y F H d (Ext.refl F H) r.sub (Res.of q) hw⟩
        | ow ds =>
          obtain ⟨a, xs, e1, _, e2, q⟩ := q
          cases n with
          | zero => exact hw.elim
          | succ n => exact ⟨_, gt_some e1, k _ F H _ (Ext.refl F H) r.sub (res1_list e2 q) hw⟩
        | ow2 dss =>
          obtain ⟨a, bs, e1, _, e2, q⟩ := q
          cases n with
          | zero => exact hw.elim
          | succ n =>
            cases n with
            | zero => exact hw.elim
            | succ n => exact ⟨_, gt_some e1, k _ F H _ (Ext.refl F H) r.sub (.inr ⟨a, _, _, rfl, rfl, e2, paired_imp (fun _ _ z => res_up (by omega) z) (own2_pair q)⟩) hw⟩
    · obtain ⟨os, q⟩ := slot_of r i
      have hw : (match gt ρ i with | some (.fz d) => fin .fr Q d | some (.ow ds) => False | some (.ow2 dss) => False | none => False : Prop) := hw
      cases eg : gt ρ i with
      | none => rw [eg] at hw; exact hw.elim
      | some s => rw [eg] at hw; cases s <;> exact (show False from hw).elim
    · obtain ⟨os, q⟩ := slot_of r i
      have hw : (match gt ρ i with | some (.fz d) => fin .tst Q d | some (.ow ds) => Q (.bool (!ds.isEmpty)) | some (.ow2 dss) => Q (.bool (!dss.isEmpty)) | none => False : Prop) := hw
      cases eg : gt ρ i with
      | none => rw [eg] at hw; exact hw.elim
      | some s =>
        rw [eg] at hw q
        cases s with
        | fz d =>
          obtain ⟨_, y, e1, q⟩ := q
          obtain ⟨b, h1, h2⟩ := tru_of (n := 0) (Q := fun b => Q (.bool b)) r.sub q hw
          exact ⟨y, gt_some e1, b, h1, k b F H (Ext.refl F H) r.sub h2⟩
        | ow ds =>
          obtain ⟨a, xs, e1, _, e2, q⟩ := q
          refine ⟨_, gt_some e1, _, .inl ⟨xs, SqL.of e2, rfl⟩, k _ F H (Ext.refl F H) r.sub ?_⟩
          cases q <;> exact hw
        | ow2 dss =>
          obtain ⟨a, bs, e1, _, e2, q⟩ := q
          refine ⟨_, gt_some e1, _, .inl ⟨_, SqL.of e2, rfl⟩, k _ F H (Ext.refl F H) r.sub ?_⟩
          have hl := own2_len q
          cases bs <;> cases dss <;> first | exact hw | cases hl

/-- a value that is known -/
theorem pe_known {pe : Expr} {v : V} {d : D} (h : PE X pe (tC v)) (hr : ∀ F, Rp X.K F v d) : PE X pe (tN X.K 0 (fun _ Q => Q d)) :=
  pe_w h fun σ H Z ⟨F0, H0, F, ρ, Q, r, hw, k⟩ => k v F H d (Ext.refl F H) r.sub (hr F) hw
theorem snd_const {e : E} {pe : Expr} (d : D) (hw : ∀ md ρ Q, wE G md e ρ Q = fin md Q d) {v : V} (h : PE X pe (tC v)) (hr : ∀ F, Rp X.K F v d) (hp : PlainT X pe) : Snd X pe (fun md => wE G md e) := by
  have m := mkPure (pe_known h hr) hp
  have e : (fun md => wE G md e) = fun md ρ Q => (fun (_ : Env) (Q : D → Prop) => Q d) ρ (fin md Q) := by
    funext md ρ Q
    exact hw md ρ Q
  rw [e]
  exact m
theorem snd_ct {i : Nat} {pe : Expr} (dx : DX X C G sc) (h : okE C sc (.ct i) pe = true) : Snd X pe (fun md => wE G md (.ct i)) := by
  unfold okE at h
  cases e : asName pe with
  | none => rw [e] at h; cases h
  | some x =>
    rw [e] at h
    obtain ⟨p, rfl⟩ := asName_s e
    simp only [Bool.and_eq_true, decide_eq_true_eq] at h
    obtain ⟨g1, g2⟩ := dx.gl h.2
    obtain ⟨u, v, m1, m2, m3⟩ := dx.ct i x h.1
    exact snd_const (G.ct i) (fun _ _ _ => rfl) (pe_glob g1 m1 m2 g2) m3 (fun _ => rfl)
theorem snd_non {pe : Expr} (h : okE C sc .non pe = true) : Snd X pe (fun md => wE G md .non) := by
  unfold okE at h
  split at h
  · rename_i e
    obtain ⟨j, p, rfl⟩ := asConst_s e
    exact snd_const .none (fun _ _ _ => rfl) pe_non (fun _ => .non) (fun _ => rfl)
  · cases h
theorem snd_bl {b : Bool} {pe : Expr} (h : okE C sc (.bl b) pe = true) : Snd X pe (fun md => wE G md (.bl b)) := by
  unfold okE at h
  split at h
  · rename_i e
    obtain ⟨j, p, rfl⟩ := asConst_s e
    obtain rfl := of_decide_eq_true h
    exact snd_const (.bool b) (fun _ _ _ => rfl) pe_bl (fun _ => .bl b) (fun _ => rfl)
  · cases h
theorem snd_int {b : Int} {pe : Expr} (h : okE C sc (.int b) pe = true) : Snd X pe (fun md => wE G md (.int b)) := by
  unfold okE at h
  split at h
  · rename_i e
    obtain ⟨j, p, rfl⟩ := asConst_s e
    obtain rfl := of_decide_eq_true h
    exact snd_const (.int b) (fun _ _ _ => rfl) pe_int (fun _ => .int b) (fun _ => rfl)
  · cases h
theorem snd_str {b : List Nat} {pe : Expr} (h : okE C sc (.str b) pe = true) : Snd X pe (fun md => wE G md (.str b)) := by
  unfold okE at h
  split at h
  · rename_i e
    obtain ⟨j, p, rfl⟩ := asConst_s e
    obtain rfl := of_decide_eq_true h
    exact snd_const (.str ⟨b.toArray⟩) (fun _ _ _ => rfl) pe_str (fun _ => .str _) (fun _ => rfl)
  · cases h

theorem snd_bin {op : Operator} {a b : E} {pa pb : Expr} {p : Pos} (ha : Snd X pa (fun md => wE G md a)) (hb : Snd X pb (fun md => wE G md b)) : Snd X (.BinOp pa op pb p) (fun md => wE G md (.bin op a b)) := by
  obtain ⟨r, h1, h2⟩ := bin_ok X op
  refine mkDyn (w0 := fun ρ Q => wE G (.t 1) a ρ fun x => wE G (.t 1) b ρ fun y => wBin op x y Q) (pe_w (pe_op h1 (ha.n 1) (hb.n 1)) fun σ H Z ⟨F0, H0, F, ρ, Q, rr, hw, k⟩ => ?_) (fun _ => rfl)
  exact two rr hw fun v1 v2 d1 d2 F' H' e s q1 q2 hq => h2 F' H' v1 v2 d1 d2 Q s q1 q2 hq Z fun v F'' H'' d e2 s2 q hd => k v F'' H'' d (e.trans e2) s2 (by
    rcases q with ⟨ds, rfl, a', xs, rfl, g1, g2, g3, g4⟩ | q
    · refine .inl ⟨ds, rfl, a', xs, rfl, ?_, g2, g3, g4⟩
      exact Same.free e.h g1
    · exact .inr q) hd
theorem snd_neg {a : E} {pa : Expr} {p : Pos} (ha : Snd X pa (fun md => wE G md a)) : Snd X (.UnaryOp .USub pa p) (fun md => wE G md (.neg a)) := by
  refine mkPure (w0 := fun ρ Q => wE G (.t 0) a ρ fun x => ∃ i, x = .int i ∧ Q (.int (-i))) (pe_w (pe_un un_neg (ha.n 0)) fun σ H Z ⟨F0, H0, F, ρ, Q, rr, hw, k⟩ => ?_) (fun _ => rfl)
  refine ⟨F0, H0, F, ρ, _, rr, hw, fun v F' H' d e s q ⟨i, hd, hq⟩ => ?_⟩
  subst hd
  obtain rfl := sc_int q
  exact ⟨i, rfl, k _ F' H' _ e s (.int _) hq⟩
theorem snd_cmp {op : CmpOp} {a b : E} {pa pb : Expr} {p : Pos} (dx : DX X C G sc) (hpb : plainE pb = true) (ha : Snd X pa (fun md => wE G md a)) (hb : Snd X pb (fun md => wE G md b)) : Snd X (.Compare pa [op] [pb] p) (fun md => wE G md (.cmp op a b)) := by
  have hu : X.A.units + 65 < cLine := by have := dx.room.un; omega
  obtain ⟨r, h1, h2⟩ := cmp_ok X hu op
  have base : PE X (.Compare pa [op] [pb] p) (tN X.K 0 (fun ρ Q => wE G (.t 2) a ρ fun x => wE G (.t 2) b ρ fun y => wCmp op x y fun c => Q (.bool c))) :=
    pe_w (pe_cmpR h1 (ha.n 2) (hb.n 2) (plain_mark hpb)) fun σ H Z ⟨F0, H0, F, ρ, Q, rr, hw, k⟩ =>
      two rr hw fun v1 v2 d1 d2 F' H' e s q1 q2 hq => h2 F' H' v1 v2 d1 d2 _ s q1 q2 hq Z fun b hb => k _ F' H' _ e s (.bl b) hb
  refine ⟨fun n => pe_w base fun σ H Z ⟨F0, H0, F, ρ, Q, r, hw, k⟩ => ⟨F0, H0, F, ρ, Q, r, hw, fun v F' H' d e s q hq => k v F' H' d e s (Res.of q) hq⟩, ?_, ?_⟩
  · refine pe_w base fun σ H Z ⟨F0, H0, F, ρ, Q, r, hw, k⟩ => ⟨F0, H0, F, ρ, fun _ => False, r, ?_, fun v F' H' d e s q hq => hq.elim⟩
    exact hw
  · exact pt_w (pt_cmpR h1 (ha.n 2) (hb.n 2) (plain_mark hpb)) fun σ H Z ⟨F0, H0, F, ρ, Q, rr, hw, k⟩ =>
      two (Z := fun x y H2 => r x y H2 fun x H' => ∃ k, x = .bl k ∧ Z k H') rr hw fun v1 v2 d1 d2 F' H' e s q1 q2 hq => h2 F' H' v1 v2 d1 d2 _ s q1 q2 hq _ fun b hb => ⟨b, rfl, k b F' H' e s hb⟩

/-! ### and, or, not, if -/
theorem snd_not {a : E} {pa : Expr} {p : Pos} (ha : Snd X pa (fun md => wE G md a)) : Snd X (.UnaryOp .Not pa p) (fun md => wE G md (.nt a)) := by
  have base : PE X (.UnaryOp .Not pa p) (tN X.K 0 (wE G (.t 0) (.nt a))) := pe_w (pe_not (ha.n 0)) fun σ H Z ⟨F0, H0, F, ρ, Q, rr, hw, k⟩ => by
    have hw : wE G (.t 0) a ρ fun x => ∃ c, x = .bool c ∧ Q (.bool (!c)) := hw
    refine ⟨F0, H0, F, ρ, _, rr, hw, fun v F' H' d e s q ⟨c, hd, hq⟩ => ?_⟩
    subst hd
    obtain rfl := sc_bl q
    exact ⟨c, rfl, k _ F' H' _ e s (.bl _) hq⟩
  refine ⟨fun n => pe_w base fun σ H Z ⟨F0, H0, F, ρ, Q, r, hw, k⟩ => ⟨F0, H0, F, ρ, Q, r, hw, fun v F' H' d e s q hq => k v F' H' d e s (Res.of q) hq⟩,
    pe_w base fun σ H Z ⟨F0, H0, F, ρ, Q, r, hw, k⟩ => (show False from hw).elim, pt_w (pt_not ha.t) fun σ H Z ⟨F0, H0, F, ρ, Q, rr, hw, k⟩ => ?_⟩
  have hw : wE G .tst a ρ fun x => ∃ c, x = .bool c ∧ Q (.bool (!c)) := hw
  exact ⟨F0, H0, F, ρ, _, rr, hw, fun b F' H' e s ⟨c, hd, hq⟩ => by cases hd; exact k _ F' H' e s hq⟩
theorem pt_ifx {c a b : Expr} {tc ta tb : TT} {p : Pos} (hc : PT X c tc) (ha : PT X a ta) (hb : PT X b tb) : PT X (.IfExp c a b p) (fun σ H Q => tc σ H fun k H1 => if k = true then ta σ H1 Q else tb σ H1 Q) := by
  refine ⟨fun pins s σ H Q I h => ?_⟩
  show wpAny _ _ (do if ← isTrue c X.env (eval c X.env) then isTrue a X.env (eval a X.env) else isTrue b X.env (eval b X.env)) _ _ _
  refine wpAny_bind (thn (hc.run pins s σ H _ I h) fun d s1 ⟨H1, I1, q1⟩ => ?_)
  cases d with
  | true => exact ha.run pins s1 σ H1 Q I1 q1
  | false => exact hb.run pins s1 σ H1 Q I1 q1
theorem snd_ifx {c a b : E} {pc pa pb : Expr} {p : Pos} (hc : Snd X pc (fun md => wE G md c)) (ha : Snd X pa (fun md => wE G md a)) (hb : Snd X pb (fun md => wE G md b)) : Snd X (.IfExp pc pa pb p) (fun md => wE G md (.ifx c a b)) := by
  have go : ∀ (md : Md) {F0 H0 F : Hp} {ρ : Env} {σ : Sg} {H : Hp} {Q : D → Prop} {Z1 Z2 : Hp → Prop}, R X.K F0 H0 F ρ σ H → wE G md (.ifx c a b) ρ Q →
      (∀ F' H', Ext F H F' H' → Same F' H' → R X.K F0 H0 F' ρ σ H' → wE G md a ρ Q → Z1 H') → (∀ F' H', Ext F H F' H' → Same F' H' → R X.K F0 H0 F' ρ σ H' → wE G md b ρ Q → Z2 H') →
      (tTs X.K (wE G .tst c)) σ H fun k H1 => if k = true then Z1 H1 else Z2 H1 := by
    intro md F0 H0 F ρ σ H Q Z1 Z2 rr hw k1 k2
    have hw : wE G .tst c ρ fun x => ∃ k, x = .bool k ∧ (if k = true then wE G md a ρ Q else wE G md b ρ Q) := hw
    refine ⟨F0, H0, F, ρ, _, rr, hw, fun k F' H' e s ⟨k', hk, hq⟩ => ?_⟩
    cases hk
    cases k with
    | true => exact k1 F' H' e s (rr.go e s) hq
    | false => exact k2 F' H' e s (rr.go e s) hq
  refine ⟨fun n => pe_w (pe_ifExp hc.t (ha.n n) (hb.n n)) fun σ H Z ⟨F0, H0, F, ρ, Q, rr, hw, k⟩ => ?_, pe_w (pe_ifExp hc.t ha.f hb.f) fun σ H Z ⟨F0, H0, F, ρ, Q, rr, hw, k⟩ => ?_, pt_w (pt_ifx hc.t ha.t hb.t) fun σ H Z ⟨F0, H0, F, ρ, Q, rr, hw, k⟩ => ?_⟩
  · exact go _ rr hw (fun F' H' e s r2 h2 => ⟨F0, H0, F', ρ, Q, r2, h2, fun v F'' H'' d e2 s2 q hq => k v F'' H'' d (e.trans e2) s2 q hq⟩) (fun F' H' e s r2 h2 => ⟨F0, H0, F', ρ, Q, r2, h2, fun v F'' H'' d e2 s2 q hq => k v F'' H'' d (e.trans e2) s2 q hq⟩)
  · exact go _ rr hw (fun F' H' e s r2 h2 => ⟨F0, H0, F', ρ, Q, r2, h2, fun v F'' H'' d e2 s2 ⟨ds, hd, a', xs, ha', g1, g2⟩ hq => k v F'' H'' d (e.trans e2) s2 ⟨ds, hd, a', xs, ha', Same.free e.h g1, g2⟩ hq⟩)
      (fun F' H' e s r2 h2 => ⟨F0, H0, F', ρ, Q, r2, h2, fun v F'' H'' d e2 s2 ⟨ds, hd, a', xs, ha', g1, g2⟩ hq => k v F'' H'' d (e.trans e2) s2 ⟨ds, hd, a', xs, ha', Same.free e.h g1, g2⟩ hq⟩)
  · exact go _ rr hw (fun F' H' e s r2 h2 => ⟨F0, H0, F', ρ, Q, r2, h2, fun b F'' H'' e2 s2 hq => k b F'' H'' (e.trans e2) s2 hq⟩) (fun F' H' e s r2 h2 => ⟨F0, H0, F', ρ, Q, r2, h2, fun b F'' H'' e2 s2 hq => k b F'' H'' (e.trans e2) s2 hq⟩)

def bop (conj : Bool) : BoolOp := if conj then .And else .Or
theorem snd_ts1 {conj : Bool} {e : E} {pe : Expr} {p : Pos} (h : Snd X pe (fun md => wE G md e)) : PW X (.BoolOp (bop conj) [pe] p) (tTs X.K (wTs G conj (.cons e .nil))) := by
  cases conj with
  | true => exact pw_and1 h.t
  | false => exact pw_or1 h.t
theorem snd_ts2 {conj : Bool} {e e2 : E} {es2 : Es} {pe pe2 : Expr} {pr : List Expr} {p : Pos} (h : Snd X pe (fun md => wE G md e)) (hr : PW X (.BoolOp (bop conj) (pe2 :: pr) p) (tTs X.K (wTs G conj (.cons e2 es2)))) :
    PW X (.BoolOp (bop conj) (pe :: pe2 :: pr) p) (tTs X.K (wTs G conj (.cons e (.cons e2 es2)))) := by
  cases conj with
  | true =>
    refine pw_w (pw_and h.t hr) fun σ H Z ⟨F0, H0, F, ρ, Q, rr, hw, k⟩ => ?_
    have hw : wE G .tst e ρ fun x => ∃ c, x = .bool c ∧ (if c = true then wTs G true (.cons e2 es2) ρ Q else Q (.bool (!true))) := hw
    refine ⟨F0, H0, F, ρ, _, rr, hw, fun b F' H' e s ⟨c, hd, hq⟩ => ?_⟩
    cases hd
    cases b with
    | true => exact ⟨F0, H0, F', ρ, Q, rr.go e s, hq, fun b F'' H'' e2 s2 hq => k b F'' H'' (e.trans e2) s2 hq⟩
    | false => exact k _ F' H' e s hq
  | false =>
    refine pw_w (pw_or h.t hr) fun σ H Z ⟨F0, H0, F, ρ, Q, rr, hw, k⟩ => ?_
    have hw : wE G .tst e ρ fun x => ∃ c, x = .bool c ∧ (if c = false then wTs G false (.cons e2 es2) ρ Q else Q (.bool (!false))) := hw
    refine ⟨F0, H0, F, ρ, _, rr, hw, fun b F' H' e s ⟨c, hd, hq⟩ => ?_⟩
    cases hd
    cases b with
    | false => exact ⟨F0, H0, F', ρ, Q, rr.go e s, hq, fun b F'' H'' e2 s2 hq => k b F'' H'' (e.trans e2) s2 hq⟩
    | true => exact k _ F' H' e s hq
theorem snd_bs1 {conj : Bool} {e : E} {pe : Expr} {p : Pos} (h : Snd X pe (fun md => wE G md e)) : PE X (.BoolOp (bop conj) [pe] p) (tN X.K 0 (wBs G conj (.cons e .nil))) := pe_one (h.n 0)
theorem snd_bs2 {conj : Bool} {e e2 : E} {es2 : Es} {pe pe2 : Expr} {pr : List Expr} {p : Pos} (h : Snd X pe (fun md => wE G md e)) (hr : PE X (.BoolOp (bop conj) (pe2 :: pr) p) (tN X.K 0 (wBs G conj (.cons e2 es2)))) :
    PE X (.BoolOp (bop conj) (pe :: pe2 :: pr) p) (tN X.K 0 (wBs G conj (.cons e (.cons e2 es2)))) := by
  cases conj with
  | true =>
    refine pe_w (pe_and (h.n 0) hr) fun σ H Z ⟨F0, H0, F, ρ, Q, rr, hw, k⟩ => ?_
    have hw : wE G (.t 0) e ρ fun x => ∃ c, x = .bool c ∧ (if c = true then wBs G true (.cons e2 es2) ρ Q else Q (.bool (!true))) := hw
    refine ⟨F0, H0, F, ρ, _, rr, hw, fun v F' H' d e s q ⟨c, hd, hq⟩ => ?_⟩
    subst hd
    obtain rfl := sc_bl q
    refine ⟨c, rfl, ?_⟩
    cases c with
    | true => exact ⟨F0, H0, F', ρ, Q, rr.go e s, hq, fun v F'' H'' d e2 s2 q hq => k v F'' H'' d (e.trans e2) s2 q hq⟩
    | false => exact k _ F' H' _ e s (.bl _) hq
  | false =>
    refine pe_w (pe_or (h.n 0) hr) fun σ H Z ⟨F0, H0, F, ρ, Q, rr, hw, k⟩ => ?_
    have hw : wE G (.t 0) e ρ fun x => ∃ c, x = .bool c ∧ (if c = false then wBs G false (.cons e2 es2) ρ Q else Q (.bool (!false))) := hw
    refine ⟨F0, H0, F, ρ, _, rr, hw, fun v F' H' d e s q ⟨c, hd, hq⟩ => ?_⟩
    subst hd
    obtain rfl := sc_bl q
    refine ⟨c, rfl, ?_⟩
    cases c with
    | false => exact ⟨F0, H0, F', ρ, Q, rr.go e s, hq, fun v F'' H'' d e2 s2 q hq => k v F'' H'' d (e.trans e2) s2 q hq⟩
    | true => exact k _ F' H' _ e s (.bl _) hq
theorem snd_bop {conj : Bool} {es : Es} {pes : List Expr} {p : Pos} (ht : PW X (.BoolOp (bop conj) pes p) (tTs X.K (wTs G conj es))) (hv : PE X (.BoolOp (bop conj) pes p) (tN X.K 0 (wBs G conj es))) :
    Snd X (.BoolOp (bop conj) pes p) (fun md => wE G md (.bop conj es)) := by
  refine ⟨fun n => pe_w hv fun σ H Z ⟨F0, H0, F, ρ, Q, r, hw, k⟩ => ⟨F0, H0, F, ρ, Q, r, hw, fun v F' H' d e s q hq => k v F' H' d e s (Res.of q) hq⟩,
    pe_w hv fun σ H Z ⟨F0, H0, F, ρ, Q, r, hw, k⟩ => (show False from hw).elim, ht.pt⟩

/-! ### subscripts and slices -/
theorem snd_ix {a i : E} {pa pi : Expr} {p : Pos} (hp : plainE pi = true) (ha : Snd X pa (fun md => wE G md a)) (hi : Snd X pi (fun md => wE G md i)) : Snd X (.Subscript pa pi p) (fun md => wE G md (.ix a i)) := by
  have base : ∀ n, PE X (.Subscript pa pi p) (tN X.K n (wE G (.t n) (.ix a i))) := fun n => pe_w (pe_ix ix_seq (ha.n (n + 1)) (hi.n 0) (plain_sub hp)) fun σ H Z ⟨F0, H0, F, ρ, Q, rr, hw, k⟩ => by
    have hw : wE G (.t (n + 1)) a ρ fun x => wE G (.t 0) i ρ fun y => wIx x y Q := hw
    exact two rr hw fun v1 v2 d1 d2 F' H' e s q1 q2 hq => ix_ok F' H' v1 v2 d1 d2 Q s q1 q2 hq Z fun v d q hd => k v F' H' d e s q hd
  refine ⟨base, pe_w (base 0) fun σ H Z ⟨F0, H0, F, ρ, Q, r, hw, k⟩ => (show False from hw).elim, ?_⟩
  refine pt_w (pt_truth (base 0) fun _ => rfl) fun σ H Z ⟨F0, H0, F, ρ, Q, r, hw, k⟩ => ?_
  refine ⟨F0, H0, F, ρ, _, r, hw, fun v F' H' d e s q hq => ?_⟩
  obtain ⟨b, h1, h2⟩ := tru_of s q hq
  exact ⟨b, h1, k b F' H' e s h2⟩
theorem snd_sl {a : E} {lo hi : Eo} {pa : Expr} {pl ph : Option Expr} {p p2 : Pos} (ha : Snd X pa (fun md => wE G md a)) (hl : PO X pl (tOs X.K (wEo G lo))) (hh : PO X ph (tOs X.K (wEo G hi))) : Snd X (.Subscript pa (.Slice pl ph none p2) p) (fun md => wE G md (.sl a lo hi)) := by
  refine mkDyn (w0 := fun ρ Q => wE G (.t 1) a ρ fun x => wEo G lo ρ fun l => wEo G hi ρ fun h => wSl x l h Q)
    (pe_w (pe_slice sl_X (ha.n 1) hl hh) fun σ H Z ⟨F0, H0, F, ρ, Q, rr, hw, k⟩ => ?_) (fun _ => rfl)
  refine ⟨F0, H0, F, ρ, _, rr, hw, fun v F1 H1 d e1 s1 q1 h1 => ⟨F0, H0, F1, ρ, _, rr.go e1 s1, h1, fun o2 F2 H2 e2 s2 h2 => ⟨F0, H0, F2, ρ, _, (rr.go e1 s1).go e2 s2, h2, fun o3 F3 H3 e3 s3 h3 => ?_⟩⟩⟩
  have e13 : Ext F1 H1 F3 H3 := e2.trans e3
  refine sl_ok F3 H3 v d o2 o3 Q s3 (q1.mono e13.f e13.h) h3 Z fun v' F'' H'' d' e4 s4 q hd => k v' F'' H'' d' ((e1.trans e13).trans e4) s4 ?_ hd
  rcases q with ⟨ds, rfl, a', xs, rfl, g1, g2, g3, g4⟩ | q
  · exact .inl ⟨ds, rfl, a', xs, rfl, Same.free (e1.trans e13).h g1, g2, g3, g4⟩
  · exact .inr q
theorem po_no : PO X none (tOs X.K (wEo G .no)) := po_w po_none fun σ H Z ⟨F0, H0, F, ρ, Q, rr, hw, k⟩ => k none F H (Ext.refl F H) rr.sub hw
theorem po_yes {e : E} {pe : Expr} (h : Snd X pe (fun md => wE G md e)) : PO X (some pe) (tOs X.K (wEo G (.yes e))) :=
  po_w (po_some (h.n 0)) fun σ H Z ⟨F0, H0, F, ρ, Q, rr, hw, k⟩ => ⟨F0, H0, F, ρ, _, rr, hw, fun v F' H' d e s q ⟨i, hd, hq⟩ => by
    subst hd
    obtain rfl := sc_int q
    exact ⟨i, rfl, k _ F' H' e s hq⟩⟩
end
end PD

set_option maxHeartbeats 2000000
namespace PD
open PySem PySem.Spec PyProof.Rows L2

section
variable {X : Cx} {C : Ck} {G : Gb} {sc : Scope}

/-! ### argument lists, displays, calls -/
theorem pas_nil {n : Nat} : PA X [] (tAs X.K n (wEs G n .nil)) := pa_w pa_nil fun σ H Z ⟨F0, H0, F, ρ, Q, rr, hw, k⟩ => k [] F H [] (Ext.refl F H) rr.sub .nil hw
theorem pas_cons {n : Nat} {e : E} {es : Es} {pe : Expr} {pes : List Expr} (hp : plainE pe = true) (h : Snd X pe (fun md => wE G md e)) (hr : PA X pes (tAs X.K n (wEs G n es))) : PA X (pe :: pes) (tAs X.K n (wEs G n (.cons e es))) :=
  pa_w (pa_cons (h.n n) hr (star_cons hp)) fun σ H Z ⟨F0, H0, F, ρ, Q, rr, hw, k⟩ => by
    have hw : wE G (.t n) e ρ fun d => wEs G n es ρ fun ds => Q (d :: ds) := hw
    exact ⟨F0, H0, F, ρ, _, rr, hw, fun v F1 H1 d e1 s1 q1 h1 => ⟨F0, H0, F1, ρ, _, rr.go e1 s1, h1, fun vs F2 H2 ds e2 s2 p2 h2 => k (v :: vs) F2 H2 (d :: ds) (e1.trans e2) s2 (.cons (q1.mono e2.f e2.h) p2) h2⟩⟩
theorem snd_tup {es : Es} {pes : List Expr} {j : Nat} {p : Pos} (h : PA X pes (tAs X.K 0 (wEs G 0 es))) : Snd X (.Tuple pes j p) (fun md => wE G md (.tup es)) := by
  refine mkPure (w0 := fun ρ Q => wEs G 0 es ρ fun ds => ds.length ≤ sizeLine ∧ Q (.tuple ds)) (pe_w (pe_tup h) fun σ H Z ⟨F0, H0, F, ρ, Q, rr, hw, k⟩ => ?_) (fun _ => rfl)
  refine ⟨F0, H0, F, ρ, _, rr, hw, fun vs F' H' ds e s p ⟨hz, hq⟩ => ⟨by rw [paired_len p]; exact hz, fun q hq' => ?_⟩⟩
  obtain ⟨e2, s2, q2⟩ := dy_tup (xs := vs) (ds := ds) s hq' (ra_of p)
  exact k _ _ _ _ (e.trans e2) s2 q2 hq
theorem snd_lst {es : Es} {pes : List Expr} {p : Pos} (h : PA X pes (tAs X.K 0 (wEs G 0 es))) : Snd X (.List pes p) (fun md => wE G md (.lst es)) := by
  refine mkList (wl := fun ρ Q => wEs G 0 es ρ fun ds => ds.length ≤ sizeLine ∧ Q ds) (pe_w (pe_lst h) fun σ H Z ⟨F0, H0, F, ρ, Q, rr, hw, k⟩ => ?_) (fun _ => rfl)
  refine ⟨F0, H0, F, ρ, _, rr, hw, fun vs F' H' ds e s p ⟨hz, hq⟩ => ⟨by rw [paired_len p]; exact hz, fun q hq' => ?_⟩⟩
  obtain ⟨e2, s2, a, xs, e3, g1, g2⟩ := dy_lst (xs := vs) (ds := ds) s hq' (ra_of p)
  exact k _ _ _ _ (e.trans e2) s2 ⟨ds, rfl, a, xs, e3, Same.free e.h g1, g2⟩ hq
theorem snd_call {j : Nat} {es : Es} {x : Str} {pes : List Expr} {p q : Pos} (dx : DX X C G sc) (hf : C.fnN j = some x) (hg : glB sc x = true) (ho : okEs C sc es pes = true) (h : PA X pes (tAs X.K 0 (wEs G 0 es))) :
    Snd X (.Call (.Name x p) pes [] q) (fun md => wE G md (.call j es)) := by
  have hp := okEs_all ho
  obtain ⟨a, fd, ps, lv, dvl, dvs, dd, f0, m1, m2, m3, mv, md, m4, m5, sh⟩ := (dx.fn j x hf).ex
  obtain ⟨g1, g2⟩ := dx.gl hg
  refine mkPure (w0 := fun ρ Q => wEs G 0 es ρ fun ds => (G.fn j).pre ds ∧ ∀ d, (G.fn j).post ds d → Q d) ?_ (fun _ => rfl)
  have go : ∀ (vs : List V) (F' H' : Hp) (ds : List D) (Z : VK) {F H : Hp} {Q : D → Prop}, Ext F H F' H' → Same F' H' → Paired (Res X.K F' H' 0) vs ds → ((G.fn j).pre ds ∧ ∀ d, (G.fn j).post ds d → Q d) →
      (∀ v F' H' d, Ext F H F' H' → Same F' H' → Rp X.K F' v d → Q d → Z v H') → spD X.K f0 (vs ++ dvs) H' Z E0 := by
    intro vs F' H' ds Z F H Q e s p ⟨h1, h2⟩ k
    obtain ⟨h3, h4⟩ := sh ds h1
    exact ⟨F', ds ++ dd, s, da_app (ra_of p) (md F'), h3, fun d v F'' H'' hd e2 s2 q2 => k v F'' H'' d (e.trans e2) s2 q2 (h2 d (h4 d hd))⟩
  cases pes with
  | nil =>
    refine pe_w (pe_call0 m4 m5 g1 m1 m2 m3 mv pass0 g2) fun σ H Z ⟨F0, H0, F, ρ, Q, rr, hw, k⟩ => ?_
    cases es with
    | nil =>
      have hw : (G.fn j).pre [] ∧ ∀ d, (G.fn j).post [] d → Q d := hw
      exact go [] F H [] Z (Ext.refl F H) rr.sub .nil hw k
    | cons e es => simp [okEs] at ho
  | cons pe pr =>
    rw [List.all_cons, Bool.and_eq_true] at hp
    refine pe_w (pe_call m4 m5 g1 m1 m2 m3 mv pass0 h g2 (star_cons hp.1) (star_any hp.2)) fun σ H Z ⟨F0, H0, F, ρ, Q, rr, hw, k⟩ => ?_
    exact ⟨F0, H0, F, ρ, _, rr, hw, fun vs F' H' ds e s p hq => go vs F' H' ds Z e s p hq k⟩
/-- the keywords' values -/
theorem pk_nil0 {n : Nat} : PK X [] (tAs X.K n (wEs G n .nil)) := ⟨fun pos pins s σ H Q I ⟨F0, H0, F, ρ, Q2, rr, hw, k⟩ => pk_nil.run pos pins s σ H Q I (k [] F H [] (Ext.refl F H) rr.sub .nil hw)⟩
theorem pk_cons0 {n : Nat} {e : E} {es : Es} {nm : Option Str} {pe : Expr} {kp : Pos} {kws : List Keyword} (h : Snd X pe (fun md => wE G md e)) (hr : PK X kws (tAs X.K n (wEs G n es))) : PK X (⟨nm, pe, kp⟩ :: kws) (tAs X.K n (wEs G n (.cons e es))) :=
  ⟨fun pos pins s σ H Z I ⟨F0, H0, F, ρ, Q, rr, hw, k⟩ => (pk_cons (h.n n) hr).run pos pins s σ H Z I (by
    have hw : wE G (.t n) e ρ fun d => wEs G n es ρ fun ds => Q (d :: ds) := hw
    exact ⟨F0, H0, F, ρ, _, rr, hw, fun v F1 H1 d e1 s1 q1 h1 => ⟨F0, H0, F1, ρ, _, rr.go e1 s1, h1, fun vs F2 H2 ds e2 s2 p2 h2 => k (v :: vs) F2 H2 (d :: ds) (e1.trans e2) s2 (.cons (q1.mono e2.f e2.h) p2) h2⟩⟩)⟩
theorem kw_map {env : PySem.Env} {pos : Pos} {kws : List Keyword} : (backToKw pos (keywordEach kws env)).map (·.1) = kws.map (·.arg) := by
  induction kws with
  | nil => rfl
  | cons k kws ih =>
    cases k with
    | mk a v p =>
      show a :: (backToKw pos (keywordEach kws env)).map (·.1) = _
      rw [ih]; rfl
theorem snd_callk {j n : Nat} {es kes : Es} {ks : List Str} {x : Str} {pes : List Expr} {kws : List Keyword} {p q : Pos} (dx : DX X C G sc) (hf : C.fnK j = some (x, n, ks)) (hg : glB sc x = true) (hn : kws.map (·.arg) = ks.map some) (he : pes ≠ [])
    (ho : okEs C sc es pes = true) (h : PA X pes (tAs X.K 0 (wEs G 0 es))) (hz : PK X kws (tAs X.K 0 (wEs G 0 kes))) :
    Snd X (.Call (.Name x p) pes kws q) (fun md => wE G md (.callk j n es ks kes)) := by
  have hp := okEs_all ho
  obtain ⟨a, fd, ps, lv, m1, m2, m3, m4, m5⟩ := (dx.fk j x n ks hf).ex
  obtain ⟨g1, g2⟩ := dx.gl hg
  refine mkPure (w0 := fun ρ Q => wEs G 0 es ρ fun ds => wEs G 0 kes ρ fun zs => (ds.length = n ∧ zs.length = ks.length) ∧ (G.fn j).pre (ds ++ zs) ∧ ∀ d, (G.fn j).post (ds ++ zs) d → Q d) ?_ (fun _ => rfl)
  cases pes with
  | nil => exact absurd rfl he
  | cons pe pr =>
    rw [List.all_cons, Bool.and_eq_true] at hp
    have a1 : (backToKw q (keywordEach kws X.env)).filterMap (·.1) = ks := by
      have : ∀ (l : List (Option Str × Sem Value)) (ks : List Str), l.map (·.1) = ks.map some → l.filterMap (·.1) = ks := by
        intro l
        induction l with
        | nil => intro ks e; cases ks with | nil => rfl | cons _ _ => cases e
        | cons y l ih =>
          intro ks e
          cases ks with
          | nil => cases e
          | cons k ks =>
            rw [List.map_cons, List.map_cons] at e
            have e1 := (List.cons.inj e).1
            rw [List.filterMap_cons, e1]
            show k :: _ = _
            rw [ih ks (List.cons.inj e).2]
      exact this _ _ (kw_map.trans hn)
    have a2 : (backToKw q (keywordEach kws X.env)).all (·.1.isSome) = true := by
      have : ∀ (l : List (Option Str × Sem Value)) (ks : List Str), l.map (·.1) = ks.map some → l.all (·.1.isSome) = true := by
        intro l
        induction l with
        | nil => intro ks e; rfl
        | cons y l ih =>
          intro ks e
          cases ks with
          | nil => cases e
          | cons k ks =>
            rw [List.map_cons, List.map_cons] at e
            have e1 := (List.cons.inj e).1
            rw [List.all_cons, e1, ih ks (List.cons.inj e).2]; rfl
      exact this _ _ (kw_map.trans hn)
    have a3 : (backToKw q (keywordEach kws X.env)).any (·.1.isNone) = false := by
      rw [List.any_eq_false]
      intro y hy
      have := List.all_eq_true.mp a2 y hy
      cases e : y.1 with
      | none => rw [e] at this; cases this
      | some _ => simp
    have a4 : ((backTo q (starEach (pe :: pr) X.env)).any (·.1) || (backToKw q (keywordEach kws X.env)).any (·.1.isNone)) = false := by
      rw [a3, star_any (by rw [List.all_cons, hp.1, hp.2]; rfl)]; rfl
    refine pe_w (pe_callN m4 m5 g1 m1 m2 m3 pass0 h hz a2 a1 g2 (star_cons hp.1) a4) fun σ H Z ⟨F0, H0, F, ρ, Q, rr, hw, k⟩ => ?_
    refine ⟨F0, H0, F, ρ, _, rr, hw, fun vs F1 H1 ds e1 s1 p1 h1 => ⟨F0, H0, F1, ρ, _, rr.go e1 s1, h1, fun zs F2 H2 es2 e2 s2 p2 ⟨⟨l1, l2⟩, h2, h3⟩ => ?_⟩⟩
    have p1' : Paired (Res X.K F2 H2 0) vs ds := paired_imp (fun _ _ q => q.mono e2.f e2.h) p1
    exact ⟨(paired_len p1).trans l1, (paired_len p2).trans l2, F2, ds ++ es2, s2, da_app (ra_of p1') (ra_of p2), h2, fun d v F3 H3 hd e3 s3 q3 => k v F3 H3 d ((e1.trans e2).trans e3) s3 q3 (h3 d hd)⟩

/-! ### built-in functions and types -/
theorem pair_ints {K : PySem.W.Frag} {F H : Hp} {n : Nat} : ∀ {xs : List V} {ns : List Int}, Paired (Res K F H n) xs (ns.map PyData.int) → xs = ns.map V.int
  | _, [], .nil => rfl
  | _, m :: ns, .cons (a := x) h t => by
    obtain rfl := sc_int h
    rw [pair_ints t]; rfl
theorem pair_strs {K : PySem.W.Frag} {F H : Hp} {n : Nat} : ∀ {xs : List V} {ns : List Str}, Paired (Res K F H n) xs (ns.map PyData.str) → xs = ns.map V.str
  | _, [], .nil => rfl
  | _, m :: ns, .cons (a := x) h t => by
    obtain rfl := sc_str h
    rw [pair_strs t]; rfl
theorem pair1 {K : PySem.W.Frag} {F H : Hp} {n : Nat} {vs : List V} {d : D} (p : Paired (Res K F H n) vs [d]) : ∃ v, vs = [v] ∧ Res K F H n v d := by
  cases p with
  | cons h t => cases t; exact ⟨_, rfl, h⟩
theorem pair2 {K : PySem.W.Frag} {F H : Hp} {n : Nat} {vs : List V} {d e : D} (p : Paired (Res K F H n) vs [d, e]) : ∃ v w, vs = [v, w] ∧ Res K F H n v d ∧ Res K F H n w e := by
  cases p with
  | cons h t =>
    cases t with
    | cons h2 t => cases t; exact ⟨_, _, rfl, h, h2⟩
theorem pair3 {K : PySem.W.Frag} {F H : Hp} {n : Nat} {vs : List V} {d e f : D} (p : Paired (Res K F H n) vs [d, e, f]) : ∃ v w x, vs = [v, w, x] ∧ Res K F H n v d ∧ Res K F H n w e ∧ Res K F H n x f := by
  cases p with
  | cons h t =>
    cases t with
    | cons h2 t =>
      cases t with
      | cons h3 t => cases t; exact ⟨_, _, _, rfl, h, h2, h3⟩
/-- what a call by values needs -/
def Cl1 (K : PySem.W.Frag) (n : Nat) (r : List V → Hp → VK → Prop) (w : List D → (D → Prop) → Prop) : Prop :=
  ∀ F H vs ds Q, Same F H → Paired (Res K F H n) vs ds → w ds Q → ∀ Z : VK, (∀ v F' H' d, Ext F H F' H' → Same F' H' → Dyn K H F' H' v d → Q d → Z v H') → r vs H Z
theorem cl_len {K : PySem.W.Frag} : Cl1 K 2 (fun xs H Q => ∃ x n, xs = [x] ∧ LenV K x H n ∧ Q (.int n) H) (wBl .len) := by
  intro F H vs ds Q s p hw Z k
  have fin : ∀ n : Nat, Q (.int n) → Z (.int n) H := fun n hq => k _ F H _ (Ext.refl F H) s (.inr ⟨(by intro _ e; cases e), Rp.int _⟩) hq
  match ds, hw with
  | [.list xs], hw =>
    obtain ⟨v, rfl, r⟩ := pair1 p
    obtain ⟨a, ys, rfl, h1, p1⟩ := r.list s
    exact ⟨_, ys.length, rfl, .inl ⟨ys, h1, rfl⟩, by rw [paired_len p1]; exact fin _ hw⟩
  | [.tuple xs], hw =>
    obtain ⟨v, rfl, r⟩ := pair1 p
    obtain ⟨a, ys, rfl, h1, p1⟩ := sc_tup r
    exact ⟨_, ys.length, rfl, .inr ⟨ys, sqT_mono s h1, rfl⟩, by rw [da_len p1]; exact fin _ hw⟩
  | [.str x], hw =>
    obtain ⟨v, rfl, r⟩ := pair1 p
    obtain rfl := sc_str r
    exact ⟨_, x.length, rfl, ⟨hw.1, rfl⟩, fin _ hw.2⟩
theorem cl_int {K : PySem.W.Frag} : Cl1 K 1 (fun xs H Q => (∃ i, xs = [.int i] ∧ Q (.int i) H) ∨ ∃ k, xs = [.bl k] ∧ Q (.int (if k then 1 else 0)) H) (wBl .int) := by
  intro F H vs ds Q s p hw Z k
  have fin : ∀ n : Int, Q (.int n) → Z (.int n) H := fun n hq => k _ F H _ (Ext.refl F H) s (.inr ⟨(by intro _ e; cases e), Rp.int _⟩) hq
  match ds, hw with
  | [.int i], hw =>
    obtain ⟨v, rfl, r⟩ := pair1 p
    obtain rfl := sc_int r
    exact .inl ⟨i, rfl, fin _ hw⟩
  | [.bool i], hw =>
    obtain ⟨v, rfl, r⟩ := pair1 p
    obtain rfl := sc_bl r
    exact .inr ⟨i, rfl, fin _ hw⟩
theorem cl_str {K : PySem.W.Frag} : Cl1 K 1 (fun xs H Q => ∃ i, xs = [.int i] ∧ i.natAbs.log2 < 1920 ∧ Q (.str (toString i)) H) (wBl .str) := by
  intro F H vs ds Q s p hw Z k
  match ds, hw with
  | [.int i], hw =>
    obtain ⟨v, rfl, r⟩ := pair1 p
    obtain rfl := sc_int r
    exact ⟨i, rfl, hw.1, k _ F H _ (Ext.refl F H) s (.inr ⟨(by intro _ e; cases e), Rp.str _⟩) hw.2⟩
theorem cl_abs {K : PySem.W.Frag} : Cl1 K 1 (fun xs H Q => ∃ i, xs = [.int i] ∧ Q (.int (if i < 0 then -i else i)) H) (wBl .abs) := by
  intro F H vs ds Q s p hw Z k
  match ds, hw with
  | [.int i], hw =>
    obtain ⟨v, rfl, r⟩ := pair1 p
    obtain rfl := sc_int r
    exact ⟨i, rfl, k _ F H _ (Ext.refl F H) s (.inr ⟨(by intro _ e; cases e), Rp.int _⟩) hw⟩
theorem cl_max {K : PySem.W.Frag} : Cl1 K 1 (fun xs H Q => ∃ i j, xs = [.int i, .int j] ∧ Q (.int (if j > i then j else i)) H) (wBl .max) := by
  intro F H vs ds Q s p hw Z k
  match ds, hw with
  | [.int i, .int j], hw =>
    obtain ⟨v, w, rfl, r, r2⟩ := pair2 p
    obtain rfl := sc_int r
    obtain rfl := sc_int r2
    exact ⟨i, j, rfl, k _ F H _ (Ext.refl F H) s (.inr ⟨(by intro _ e; cases e), Rp.int _⟩) hw⟩
theorem cl_min {K : PySem.W.Frag} : Cl1 K 1 (fun xs H Q => ∃ i j, xs = [.int i, .int j] ∧ Q (.int (if j < i then j else i)) H) (wBl .min) := by
  intro F H vs ds Q s p hw Z k
  match ds, hw with
  | [.int i, .int j], hw =>
    obtain ⟨v, w, rfl, r, r2⟩ := pair2 p
    obtain rfl := sc_int r
    obtain rfl := sc_int r2
    exact ⟨i, j, rfl, k _ F H _ (Ext.refl F H) s (.inr ⟨(by intro _ e; cases e), Rp.int _⟩) hw⟩
theorem cl_sum {K : PySem.W.Frag} : Cl1 K 1 (rSum K) (wBl .sum) := by
  intro F H vs ds Q s p hw Z k
  match ds, hw with
  | [.list xs], hw =>
    obtain ⟨ns, e0, hw⟩ := hw
    subst e0
    obtain ⟨v, rfl, r⟩ := pair1 p
    obtain ⟨a, ys, rfl, h1, p1⟩ := r.list s
    have e := pair_ints p1
    subst e
    exact ⟨a, ns, rfl, h1, k _ F H _ (Ext.refl F H) s (.inr ⟨(by intro _ e; cases e), Rp.int _⟩) hw⟩
theorem cl_tuple {K : PySem.W.Frag} : Cl1 K 1 (fun xs H Q => ∃ p ys, xs = [.ref p] ∧ ((SqL K H p ys ∧ ∀ l, H l = none → Q (.ref l) (upd H l (.tup ys))) ∨ (SqT K H p ys ∧ Q (.ref p) H))) (wBl .tuple) := by
  intro F H vs ds Q s p hw Z k
  match ds, hw with
  | [.list xs], hw =>
    obtain ⟨v, rfl, r⟩ := pair1 p
    obtain ⟨a, ys, rfl, h1, p1⟩ := r.list s
    refine ⟨a, ys, rfl, .inl ⟨h1, fun l hl => ?_⟩⟩
    obtain ⟨e2, s2, q2⟩ := dy_tup (xs := ys) (ds := xs) s hl (ra_of p1)
    exact k _ _ _ _ e2 s2 (.inr ⟨(by intro _ e; cases e), q2⟩) hw
  | [.tuple xs], hw =>
    obtain ⟨v, rfl, r⟩ := pair1 p
    obtain ⟨a, ys, rfl, h1, p1⟩ := sc_tup r
    exact ⟨a, ys, rfl, .inr ⟨sqT_mono s h1, k _ F H _ (Ext.refl F H) s (.inr ⟨(by intro _ e; cases e), Rp.tup h1 p1⟩) hw⟩⟩
theorem cl_list {K : PySem.W.Frag} : Cl1 K 1 (fun xs H Q => ∃ p ys, xs = [.ref p] ∧ (SqL K H p ys ∨ SqT K H p ys) ∧ ∀ l, H l = none → Q (.ref l) (upd H l (.lst ys))) (wBl .list) := by
  intro F H vs ds Q s p hw Z k
  match ds, hw with
  | [.list xs], hw =>
    obtain ⟨v, rfl, r⟩ := pair1 p
    obtain ⟨a, ys, rfl, h1, p1⟩ := r.list s
    refine ⟨a, ys, rfl, .inl h1, fun l hl => ?_⟩
    obtain ⟨e2, s2, f⟩ := dy_lst (xs := ys) (ds := xs) s hl (ra_of p1)
    exact k _ _ _ _ e2 s2 (.inl ⟨_, rfl, f⟩) hw
  | [.tuple xs], hw =>
    obtain ⟨v, rfl, r⟩ := pair1 p
    obtain ⟨a, ys, rfl, h1, p1⟩ := sc_tup r
    refine ⟨a, ys, rfl, .inr (sqT_mono s h1), fun l hl => ?_⟩
    obtain ⟨e2, s2, f⟩ := dy_lst (xs := ys) (ds := xs) s hl p1
    exact k _ _ _ _ e2 s2 (.inl ⟨_, rfl, f⟩) hw
theorem dyn_ext {K : PySem.W.Frag} {F H F1 H1 F' H' : Hp} {v : V} {d : D} (e : Ext F H F1 H1) (q : Dyn K H1 F' H' v d) : Dyn K H F' H' v d := by
  rcases q with ⟨ds, rfl, a', xs, rfl, g1, g2⟩ | q
  · exact .inl ⟨ds, rfl, a', xs, rfl, Same.free e.h g1, g2⟩
  · exact .inr q
theorem snd_blt {b : Bl} {es : Es} {pes : List Expr} {p q : Pos} (dx : DX X C G sc) (hg : glB sc b.nm = true) (hm : C.bl.contains b.nm = true) (hn : pes ≠ []) (ho : okEs C sc es pes = true) (h : PA X pes (tAs X.K (bLv b + 1) (wEs G (bLv b + 1) es))) :
    Snd X (.Call (.Name b.nm p) pes [] q) (fun md => wE G md (.blt b es)) := by
  have hp := okEs_all ho
  obtain ⟨g1, g2⟩ := dx.gl hg
  have hmg := dx.bl _ hm
  cases pes with
  | nil => exact absurd rfl hn
  | cons pe pr =>
    rw [List.all_cons, Bool.and_eq_true] at hp
    have go : ∀ (r : List V → Hp → VK → Prop), Cl1 X.K (bLv b + 1) r (wBl b) → PE X (.Call (.Name b.nm p) (pe :: pr) [] q) (tCB r (tAs X.K (bLv b + 1) (wEs G (bLv b + 1) es))) → Snd X (.Call (.Name b.nm p) (pe :: pr) [] q) (fun md => wE G md (.blt b es)) := fun r hr hpe =>
      mkDyn (w0 := fun ρ Q => wEs G (bLv b + 1) es ρ fun ds => wBl b ds Q) (pe_w hpe fun σ H Z ⟨F0, H0, F, ρ, Q, rr, hw, k⟩ =>
        ⟨F0, H0, F, ρ, _, rr, hw, fun vs F' H' ds e s pp hq => hr F' H' vs ds Q s pp hq Z fun v F'' H'' d e2 s2 q2 hd => k v F'' H'' d (e.trans e2) s2 (dyn_ext e q2) hd⟩) (fun _ => rfl)
    have B : ∀ {id : String} {r : List V → Hp → VK → Prop}, CallR X (.builtin id) r → bootBuiltins b.nm = some (.builtin id) → b.nm ≠ "__name__" → PE X (.Call (.Name b.nm p) (pe :: pr) [] q) (tCB r (tAs X.K (bLv b + 1) (wEs G (bLv b + 1) es))) := fun hc hv h3 =>
      pe_callB hc g1 hmg hv h h3 g2 (star_cons hp.1) (star_any hp.2)
    have T : ∀ {id : String} {r : List V → Hp → VK → Prop}, CallR X (.type id) r → bootBuiltins b.nm = some (.type id) → b.nm ≠ "__name__" → PE X (.Call (.Name b.nm p) (pe :: pr) [] q) (tCB r (tAs X.K (bLv b + 1) (wEs G (bLv b + 1) es))) := fun hc hv h3 =>
      pe_callTy hc g1 hmg hv h h3 g2 (star_cons hp.1) (star_any hp.2)
    cases b with
    | len => exact go _ cl_len (B call_len (by decide +kernel) (by decide +kernel))
    | int => exact go _ cl_int (T call_int1 (by decide +kernel) (by decide +kernel))
    | str => exact go _ cl_str (T call_str_int (by decide +kernel) (by decide +kernel))
    | tuple => exact go _ cl_tuple (T call_tuple_of (by decide +kernel) (by decide +kernel))
    | list => exact go _ cl_list (T call_list_of (by decide +kernel) (by decide +kernel))
    | abs => exact go _ cl_abs (B call_abs (by decide +kernel) (by decide +kernel))
    | max => exact go _ cl_max (B (call_max2 dx.calm) (by decide +kernel) (by decide +kernel))
    | min => exact go _ cl_min (B (call_min2 dx.calm) (by decide +kernel) (by decide +kernel))
    | sum => exact go _ cl_sum (B (cr_sum dx.calm) (by decide +kernel) (by decide +kernel))

/-! ### isinstance -/
theorem ty_of {K : PySem.W.Frag} {F H : Hp} (s : Same F H) {n : Nat} {v : V} {d : D} (r : Res K F H n v d) : TyX K H v (.type (tyN d)) := by
  cases d with
  | none => obtain rfl := sc_non r; exact .base .non
  | bool b => obtain rfl := sc_bl r; exact .base (.bl b)
  | int b => obtain rfl := sc_int r; exact .base (.int b)
  | str b => obtain rfl := sc_str r; exact .base (.str b)
  | list ds =>
    obtain ⟨a, xs, rfl, h, _⟩ := (res_up (Nat.le_succ n) r).list s
    rcases h with (h | ⟨o, h⟩) | ⟨o, its, m, h1, h2, _⟩
    · exact .base (.lst h)
    · exact .base (.frz h)
    · exact .kList h1 h2
  | tuple ds =>
    obtain ⟨a, xs, rfl, h, _⟩ := sc_tup r
    rcases sqT_mono s h with (h | ⟨o, h⟩) | ⟨o, its, m, h1, h2, _⟩
    · exact .base (.tup h)
    · exact .fTuple h
    · exact .kTuple h1 h2
  | dict kvs =>
    have := r.scal (by intro _ e; cases e)
    cases this
theorem kit_all (d : D) (t : String) (h : ["int", "bool", "str", "list", "tuple"].contains t = true) (hd : tyN d ≠ "dict") : kitB (tyN d) t = some (isOne d t) := by
  have ht : t = "int" ∨ t = "bool" ∨ t = "str" ∨ t = "list" ∨ t = "tuple" := by
    simp only [List.contains_cons, Bool.or_eq_true, beq_iff_eq, List.contains_nil, Bool.false_eq_true, or_false] at h
    exact h
  have hn : tyN d = "NoneType" ∨ tyN d = "bool" ∨ tyN d = "int" ∨ tyN d = "str" ∨ tyN d = "list" ∨ tyN d = "tuple" := by
    cases d <;> first | exact absurd rfl hd | (simp [tyN])
  unfold isOne
  generalize tyN d = n at hn
  rcases ht with rfl | rfl | rfl | rfl | rfl <;> rcases hn with rfl | rfl | rfl | rfl | rfl | rfl <;> decide +kernel
theorem typ_s {t : String} {pe : Expr} (dx : DX X C G sc) (h : typB C sc t pe = true) : PE X pe (tC (.ty t)) ∧ ["int", "bool", "str", "list", "tuple"].contains t = true := by
  unfold typB at h
  split at h
  · rename_i x e
    obtain ⟨p, rfl⟩ := asName_s e
    simp only [Bool.and_eq_true, decide_eq_true_eq] at h
    obtain ⟨⟨⟨rfl, h2⟩, h3⟩, h4⟩ := h
    obtain ⟨g1, g2⟩ := dx.gl h2
    have hm := dx.bl _ h3
    refine ⟨?_, h4⟩
    have ht : t = "int" ∨ t = "bool" ∨ t = "str" ∨ t = "list" ∨ t = "tuple" := by
      simp only [List.contains_cons, Bool.or_eq_true, beq_iff_eq, List.contains_nil, Bool.false_eq_true, or_false] at h4
      exact h4
    rcases ht with rfl | rfl | rfl | rfl | rfl
    all_goals exact pe_bltn (u := .type _) g1 hm (by decide +kernel) rfl (by decide +kernel) g2
  · cases h
theorem typs_s (dx : DX X C G sc) : ∀ {ts : List String} {pes : List Expr}, typsB C sc ts pes = true → pes.all plainE = true → PA X pes (fun σ H Z => Z (ts.map V.ty) H) ∧ ts.all (fun t => ["int", "bool", "str", "list", "tuple"].contains t) = true
  | [], [], _, _ => ⟨pa_nil, rfl⟩
  | t :: ts, pe :: pes, h, hp => by
    simp only [typsB, Bool.and_eq_true] at h
    rw [List.all_cons, Bool.and_eq_true] at hp
    obtain ⟨a1, a2⟩ := typ_s dx h.1
    obtain ⟨b1, b2⟩ := typs_s dx h.2 hp.2
    exact ⟨pa_w (pa_cons a1 b1 (star_cons hp.1)) fun σ H Z h => h, by rw [List.all_cons, a2, b2]; rfl⟩
  | [], _ :: _, h, _ => by simp [typsB] at h
  | _ :: _, [], h, _ => by simp [typsB] at h
theorem kits_all {K : PySem.W.Frag} (d : D) (hd : tyN d ≠ "dict") : ∀ ts : List String, ts.all (fun t => ["int", "bool", "str", "list", "tuple"].contains t) = true → PySem.W.kitAny K (.type (tyN d)) (ts.map Value.type) = some (ts.any (isOne d))
  | [], _ => kitAny_nil
  | t :: ts, h => by
    rw [List.all_cons, Bool.and_eq_true] at h
    have e1 := kit_ty (K := K) (kit_all d t h.1 hd)
    have e2 := kits_all (K := K) d hd ts h.2
    rw [List.map_cons, List.any_cons]
    refine kitAny_cons e1 (fun e => ?_) (fun e => ?_)
    · rw [e, Bool.false_or]; exact e2
    · rw [e, Bool.true_or]
theorem tys_pair : ∀ ts : List String, Paired ClsV (ts.map V.ty) (ts.map Value.type)
  | [] => .nil
  | t :: ts => .cons (.ty t) (tys_pair ts)
theorem res_nodict {K : PySem.W.Frag} {F H : Hp} {n : Nat} {v : V} {d : D} (r : Res K F H n v d) : tyN d ≠ "dict" := by
  cases d with
  | dict kvs =>
    have := r.scal (by intro _ e; cases e)
    cases this
  | _ => simp [tyN]
theorem snd_isi {a : E} {ts : List String} {pa pt : Expr} {p q : Pos} (dx : DX X C G sc) (hg : glB sc "isinstance" = true) (hm : C.bl.contains "isinstance" = true) (hpa : plainE pa = true) (hpt : plainE pt = true) (ha : Snd X pa (fun md => wE G md a))
    (h : (match asTup pt with | some pts => typsB C sc ts pts && pts.all plainE && decide (ts.length ≤ 1000) | none => typsB C sc ts [pt]) = true) : Snd X (.Call (.Name "isinstance" p) [pa, pt] [] q) (fun md => wE G md (.isi a ts)) := by
  obtain ⟨g1, g2⟩ := dx.gl hg
  have hmg := dx.bl _ hm
  refine mkPure (w0 := fun ρ Q => wE G (.t 2) a ρ fun x => Q (.bool (ts.any (isOne x)))) ?_ (fun _ => rfl)
  have hst : starEach [pa, pt] X.env = (false, eval pa X.env) :: starEach [pt] X.env := star_cons hpa
  have hpl : (backTo q (starEach [pt] X.env)).any (·.1) = false := star_any (by rw [List.all_cons, hpt]; rfl)
  have hboot : bootBuiltins "isinstance" = some (.builtin "isinstance") := by decide +kernel
  cases e : asTup pt with
  | some pts =>
    rw [e] at h
    obtain ⟨j, p2, rfl⟩ := asTup_s e
    simp only [Bool.and_eq_true, decide_eq_true_eq] at h
    obtain ⟨b1, b2⟩ := typs_s dx h.1.1 h.1.2
    refine pe_w (pe_callB call_isiT g1 hmg hboot (pa_cons (ha.n 2) (pa_cons (pe_tup b1) pa_nil (star_cons hpt)) hst) (by decide) g2 hst hpl) fun σ H Z ⟨F0, H0, F, ρ, Q, rr, hw, k⟩ => ?_
    refine ⟨F0, H0, F, ρ, _, rr, hw, fun v F' H' d e s r hq => ⟨by rw [List.length_map]; exact Nat.le_of_lt (small1000 h.2), fun tp htp => ?_⟩⟩
    have e2 : Ext F' H' F' (upd H' tp (.tup (ts.map V.ty))) := Ext.mkO htp
    have s2 : Same F' (upd H' tp (.tup (ts.map V.ty))) := same_upd2 s (s.free htp)
    exact ⟨v, tp, ts.map V.ty, _, ts.map Value.type, _, rfl, upd_same, tys_pair ts, ty_of s2 (r.mono e2.f e2.h), kits_all d (res_nodict r) ts b2, k _ F' _ _ (e.trans e2) s2 (.bl _) hq⟩
  | none =>
    rw [e] at h
    have h : typsB C sc ts [pt] = true := h
    cases ts with
    | nil => simp [typsB] at h
    | cons t ts =>
      cases ts with
      | cons _ _ => simp [typsB] at h
      | nil =>
        simp only [typsB, Bool.and_true] at h
        obtain ⟨a1, a2⟩ := typ_s dx h
        refine pe_w (pe_callB call_isi g1 hmg hboot (pa_cons (ha.n 2) (pa_cons a1 pa_nil (star_cons hpt)) hst) (by decide) g2 hst hpl) fun σ H Z ⟨F0, H0, F, ρ, Q, rr, hw, k⟩ => ?_
        refine ⟨F0, H0, F, ρ, _, rr, hw, fun v F' H' d e s r hq => ?_⟩
        have hq : Q (.bool ([t].any (isOne d))) := hq
        rw [show [t].any (isOne d) = isOne d t by simp] at hq
        exact ⟨v, .ty t, _, .type t, _, rfl, .ty t, ty_of s r, kit_ty (kit_all d t a2 (res_nodict r)), k _ F' H' _ e s (.bl _) hq⟩

/-! ### methods -/
def Mth1 (K : PySem.W.Frag) (T : String) (r : V → List V → Hp → VK → Prop) (w : D → List D → (D → Prop) → Prop) : Prop :=
  ∀ F H v d vs ds Q, Same F H → Res K F H 1 v d → Paired (Res K F H 1) vs ds → w d ds Q → ∀ Z : VK, (∀ v F' H' d, Ext F H F' H' → Same F' H' → Dyn K H F' H' v d → Q d → Z v H') → r v vs H Z
theorem base_id {o : Expr} {x : Str} {env : PySem.Env} {w : Sem Value} (h : noSup o = true) : attributeBase o x env w = w := by
  unfold attributeBase
  split
  · exact absurd (show false = true from h) Bool.false_ne_true
  · rfl
theorem dy_fin {K : PySem.W.Frag} {F H : Hp} {Q : D → Prop} {Z : VK} {v : V} {d : D} (s : Same F H) (k : ∀ v F' H' d, Ext F H F' H' → Same F' H' → Dyn K H F' H' v d → Q d → Z v H') (h : Rp K F v d) (hn : ∀ ds, d ≠ .list ds) (hq : Q d) : Z v H :=
  k v F H d (Ext.refl F H) s (.inr ⟨hn, h⟩) hq
theorem tyV_of {K : PySem.W.Frag} {F H : Hp} (s : Same F H) {n : Nat} {v : V} {d : D} {T : String} (r : Res K F H n v d) (h : tyN d = T) (hT : T = "str" ∨ T = "list" ∨ T = "int" := by first | exact .inl rfl | exact .inr (.inl rfl) | exact .inr (.inr rfl)) : tyV K T v H := by
  subst h
  cases d with
  | str x => obtain rfl := sc_str r; rfl
  | int x => obtain rfl := sc_int r; rfl
  | list ds =>
    obtain ⟨a, xs, rfl, h, _⟩ := (res_up (Nat.le_succ n) r).list s
    exact .inl ⟨rfl, xs, h⟩
  | none => simp [tyN] at hT
  | bool _ => simp [tyN] at hT
  | tuple _ => simp [tyN] at hT
  | dict _ => simp [tyN] at hT
theorem mth_join {K : PySem.W.Frag} : Mth1 K "str" (fun x xs H Q => ∃ a p, ∃ ys : List Str, x = .str a ∧ xs = [.ref p] ∧ (SqL K H p (ys.map V.str) ∨ SqT K H p (ys.map V.str)) ∧
    (ys.map (·.length)).sum + ys.length * a.length ≤ 16777216 ∧ Q (.str (Txt.join a ys)) H) (wMt .join) := by
  intro F H v d vs ds Q s r p hw Z k
  match d, ds, hw with
  | .str a, [.list xs], hw =>
    obtain ⟨ys, e, hz, hq⟩ := hw
    subst e
    obtain rfl := sc_str r
    obtain ⟨u, rfl, r2⟩ := pair1 p
    obtain ⟨b, zs, rfl, h1, p1⟩ := r2.list s
    have e := pair_strs p1
    subst e
    exact ⟨a, b, ys, rfl, rfl, .inl h1, hz, dy_fin s k (.str _) (by intro _ e; cases e) hq⟩
theorem mth_find3 {K : PySem.W.Frag} : Mth1 K "str" (fun x xs H Q => ∃ (a b : Str) (i : Int), x = .str a ∧ xs = [.str b, .int i] ∧ Q (.int (Txt.find3 a b i)) H) (wMt .find3) := by
  intro F H v d vs ds Q s r p hw Z k
  match d, ds, hw with
  | .str a, [.str b, .int i], hw =>
    obtain rfl := sc_str r
    obtain ⟨u, w, rfl, r2, r3⟩ := pair2 p
    obtain rfl := sc_str r2
    obtain rfl := sc_int r3
    exact ⟨a, b, i, rfl, rfl, dy_fin s k (.int _) (by intro _ e; cases e) hw⟩
theorem mth_rfind4 {K : PySem.W.Frag} : Mth1 K "str" (fun x xs H Q => ∃ (a b : Str) (i j : Int), x = .str a ∧ xs = [.str b, .int i, .int j] ∧ Q (.int (Txt.rfindIn a b i j)) H) (wMt .rfind4) := by
  intro F H v d vs ds Q s r p hw Z k
  match d, ds, hw with
  | .str a, [.str b, .int i, .int j], hw =>
    obtain rfl := sc_str r
    obtain ⟨u, w, x, rfl, r2, r3, r4⟩ := pair3 p
    obtain rfl := sc_str r2
    obtain rfl := sc_int r3
    obtain rfl := sc_int r4
    exact ⟨a, b, i, j, rfl, rfl, dy_fin s k (.int _) (by intro _ e; cases e) hw⟩
theorem mth_sindex {K : PySem.W.Frag} : Mth1 K "str" (fun x xs H Q => ∃ a b i rest, x = .str a ∧ xs = [.str b] ∧ Builtin.Str.occurrences a b 0 a.length 1 = i :: rest ∧ Q (.int (i : Nat)) H) (wMt .sindex) := by
  intro F H v d vs ds Q s r p hw Z k
  match d, ds, hw with
  | .str a, [.str b], ⟨i, rest, e, hq⟩ =>
    obtain rfl := sc_str r
    obtain ⟨u, rfl, r2⟩ := pair1 p
    obtain rfl := sc_str r2
    exact ⟨a, b, i, rest, rfl, rfl, e, dy_fin s k (.int _) (by intro _ e; cases e) hq⟩
theorem snd_mth {m : Mt} {o : E} {es : Es} {po : Expr} {pes : List Expr} {ap cp : Pos} (hl : (ap.endLine == cp.line) = true) (hn : pes ≠ []) (hc : pes.length < 20) (hs : noSup po = true) (hp : pes.all plainE = true)
    (hO : Snd X po (fun md => wE G md o)) (h : PA X pes (tAs X.K 1 (wEs G 1 es))) : Snd X (.Call (.Attribute po m.nm ap) pes [] cp) (fun md => wE G md (.mth m o es)) := by
  cases pes with
  | nil => exact absurd rfl hn
  | cons pe pr =>
    have hp' := hp
    rw [List.all_cons, Bool.and_eq_true] at hp'
    have few : ((backTo cp (starEach (pe :: pr) X.env)).all (fun x => !x.1) && (backToKw cp (keywordEach [] X.env)).all (fun x => x.1.isSome)
      && decide ((pe :: pr).length + ([] : List Keyword).length + (if ([] : List Keyword).isEmpty then 0 else 1) < 30)) = true := by
      rw [star_few hp, Bool.true_and]
      show (true && decide _) = true
      rw [Bool.true_and, decide_eq_true_eq]
      show (pe :: pr).length + 0 + 0 < 30
      omega
    have go : ∀ {T id : String} {r : V → List V → Hp → VK → Prop}, T = mtTy m → Mth1 X.K T r (wMt m) → PE X (.Call (.Attribute po m.nm ap) (pe :: pr) [] cp) (tBM X.K T r (tN X.K 1 (wE G (.t 1) o)) (tAs X.K 1 (wEs G 1 es))) → Snd X (.Call (.Attribute po m.nm ap) (pe :: pr) [] cp) (fun md => wE G md (.mth m o es)) := fun {T id r} hT hr hpe => by
      refine mkDyn (w0 := fun ρ Q => wE G (.t 1) o ρ fun x => tyN x = mtTy m ∧ wEs G 1 es ρ fun ds => wMt m x ds Q) (pe_w hpe fun σ H Z ⟨F0, H0, F, ρ, Q, rr, hw, k⟩ => ?_) (fun _ => rfl)
      refine ⟨F0, H0, F, ρ, _, rr, hw, fun v F1 H1 d e1 s1 q1 ⟨ht, h1⟩ => ?_⟩
      exact ⟨tyV_of s1 q1 (ht.trans hT.symm) (by rw [hT]; cases m <;> simp [mtTy]), F0, H0, F1, ρ, _, rr.go e1 s1, h1, fun vs F2 H2 ds e2 s2 pp hq => hr F2 H2 v d vs ds Q s2 (q1.mono e2.f e2.h) pp hq Z fun v F'' H'' d e3 s3 q3 hd => k v F'' H'' d ((e1.trans e2).trans e3) s3 (dyn_ext (e1.trans e2) q3) hd⟩
    cases m with
    | join => exact go (id := "str.join") rfl mth_join (pe_bm F.plainAttrs_str F.slot_str_join F.type_str_join mt_join (hO.n 1) h (base_id hs) few hl (star_cons hp'.1) (star_any hp'.2))
    | find3 => exact go (id := "str.find") rfl mth_find3 (pe_bm F.plainAttrs_str F.slot_str_find F.type_str_find mt_find3 (hO.n 1) h (base_id hs) few hl (star_cons hp'.1) (star_any hp'.2))
    | rfind4 => exact go (id := "str.rfind") rfl mth_rfind4 (pe_bm F.plainAttrs_str F.slot_str_rfind F.type_str_rfind mt_rfind4 (hO.n 1) h (base_id hs) few hl (star_cons hp'.1) (star_any hp'.2))
    | sindex => exact go (id := "str.index") rfl mth_sindex (pe_bm F.plainAttrs_str F.slot_str_index F.type_str_index mt_sindex (hO.n 1) h (base_id hs) few hl (star_cons hp'.1) (star_any hp'.2))
end
end PD

set_option maxHeartbeats 2000000
namespace PD
open PySem PySem.Spec PyProof.Rows L2

/-! ### what is walked -/
/-- J yields the data ds, one after another; fz: whatever is written meanwhile (but what never changes) -/
structure Srv (K : PySem.W.Frag) (fz : Bool) (F H : Hp) (ds : List D) (J : It) : Prop where
  turn : ∀ i F' H', Same F F' → (fz = false → Same H H') → Same F' H' → ∀ d, ds[i]? = some d → J.go i H' ∧ ∀ x H'', J.yld i H' x H'' → ∃ F'', Ext F' H' F'' H'' ∧ Same F'' H'' ∧ Rp K F'' x d
  stop : ∀ i F' H', Same F F' → (fz = false → Same H H') → Same F' H' → ds.length ≤ i → J.stop i H'
def tIs (K : PySem.W.Frag) (fz : Bool) (w : Env → (List D → Prop) → Prop) : TI := fun σ H Z =>
  ∃ F0 H0 F ρ Q, R K F0 H0 F ρ σ H ∧ w ρ Q ∧ ∀ J F' H' ds, Ext F H F' H' → Same F' H' → Srv K fz F' H' ds J → Q ds → Z J H'
theorem pi_w {X : Cx} {tg e : Expr} {t t' : TI} (h : PI X tg e t) (k : ∀ σ H Q, t' σ H Q → t σ H Q) : PI X tg e t' := ⟨fun pins s σ H Q I hw => h.run pins s σ H Q I (k σ H Q hw)⟩
def iSeq (K : PySem.W.Frag) (tl : TE) : TI := fun σ H Z => tl σ H fun x H1 => (∃ a, x = .ref a ∧ (∃ xs, SqL K H1 a xs) ∧ Z (Itl K a) H1) ∨ (∃ a, x = .ref a ∧ (∃ xs, SqT K H1 a xs) ∧ Z (Itt K a) H1) ∨ (∃ y, x = .str y ∧ Z (Its y) H1)
theorem pi_seq {X : Cx} {tg l : Expr} {tl : TE} (hl : PE X l tl) : PI X tg l (iSeq X.K tl) := by
  refine ⟨fun pins s σ H R I h => ?_⟩
  refine thn (hl.run pins s σ H _ I h) fun v s1 ⟨x, H1, I1, r1, q1⟩ => ?_
  rcases q1 with ⟨a, e, ⟨xs, hq⟩, q⟩ | ⟨a, e, ⟨xs, hq⟩, q⟩ | ⟨y, ex, q⟩
  · subst e
    cases r1
    obtain ⟨its, rv, p, hz⟩ := I1.list hq
    refine wpAny_pyIter_list p.isList ?_
    refine ⟨s1.heap.objs.size, [s1.heap.objs.size], _, _, H1, rfl, I1.kept (t' := s1.toks) fun b o e => Heap.get?_push_of_some _ e, turn_list a _, ⟨_, Heap.get?_push_size _ rfl, rfl, rfl⟩, fun b hb => ?_, q⟩
    have e : b = s1.heap.objs.size := by simpa using hb
    subst e
    exact I1.fpOk (Nat.le_refl _) (I1.hok.fresh (Nat.le_refl _))
  · subst e
    cases r1
    obtain ⟨its, rv, p, hz⟩ := I1.tuple hq
    refine wpAny_pyIter_tuple (show s1.heap.IsTuple a its.toArray from p) ?_
    refine ⟨s1.heap.objs.size, [s1.heap.objs.size], _, _, H1, rfl, I1.kept (t' := s1.toks) fun b o e => Heap.get?_push_of_some _ e, turn_tuple a _, ⟨_, Heap.get?_push_size _ rfl, rfl, rfl⟩, fun b hb => ?_, q⟩
    have e : b = s1.heap.objs.size := by simpa using hb
    subst e
    exact I1.fpOk (Nat.le_refl _) (I1.hok.fresh (Nat.le_refl _))
  · subst ex
    obtain ⟨t, rfl⟩ := r1
    cases ha : y.cps.all (· < 128)
    · exact wpAny_pyIter_wide ha (pi_one (tk := s1.toks) I1 _ (turn_str _ y t "str_iterator" (.inr rfl)) ⟨_, Heap.get?_push_size _ rfl, rfl, rfl⟩ q)
    · exact wpAny_pyIter_ascii ha (pi_one (tk := s1.toks) I1 _ (turn_str _ y t "str_ascii_iterator" (.inl rfl)) ⟨_, Heap.get?_push_size _ rfl, rfl, rfl⟩ q)
section
variable {K : PySem.W.Frag} {F H : Hp}
theorem srv_list {fz : Bool} {a : Addr} {xs : List V} {ds : List D} (h : ∀ F' H', Same F F' → (fz = false → Same H H') → Same F' H' → SqL K H' a xs) (p : RpAll K F xs ds) : Srv K fz F H ds (Itl K a) := by
  refine ⟨fun i F' H' f g s d hd => ?_, fun i F' H' f g s hi => ⟨xs, h F' H' f g s, by rw [da_len p]; exact hi⟩⟩
  obtain ⟨v, hv, rv⟩ := da_get p hd
  refine ⟨⟨xs, v, h F' H' f g s, hv⟩, fun x H'' ⟨e, y⟩ => ?_⟩
  subst e
  have := (y xs (h F' H'' f g s)).symm.trans hv
  cases this
  exact ⟨F', Ext.refl F' _, s, dp_m rv f⟩
theorem srv_tup {fz : Bool} {a : Addr} {xs : List V} {ds : List D} (h : SqT K F a xs) (p : RpAll K F xs ds) : Srv K fz F H ds (Itt K a) := by
  refine ⟨fun i F' H' f g s d hd => ?_, fun i F' H' f g s hi => ⟨xs, sqT_mono s (sqT_mono f h), by rw [da_len p]; exact hi⟩⟩
  obtain ⟨v, hv, rv⟩ := da_get p hd
  refine ⟨⟨xs, v, sqT_mono s (sqT_mono f h), hv⟩, fun x H'' ⟨e, y⟩ => ?_⟩
  subst e
  have := (y xs (sqT_mono s (sqT_mono f h))).symm.trans hv
  cases this
  exact ⟨F', Ext.refl F' _, s, dp_m rv f⟩
theorem srv_str {fz : Bool} {z : Str} : Srv K fz F H (z.cps.toList.map fun c => PyData.str ⟨#[c]⟩) (Its z) := by
  refine ⟨fun i F' H' f g s d hd => ?_, fun i F' H' f g s hi => by
    show z.cps.size ≤ i
    rw [List.length_map, Array.length_toList] at hi; exact hi⟩
  rw [List.getElem?_map] at hd
  cases e : z.cps.toList[i]? with
  | none => rw [e] at hd; cases hd
  | some c =>
    rw [e] at hd
    cases hd
    have hi := (List.getElem?_eq_some_iff.mp e).1
    refine ⟨by show i < z.cps.size; rw [Array.length_toList] at hi; exact hi, fun x H'' ⟨e1, c', e2, e3⟩ => ?_⟩
    subst e1 e3
    have : c = c' := by
      rw [Array.getElem?_toList] at e
      exact Option.some.inj (e.symm.trans e2)
    subst this
    exact ⟨F', Ext.refl F' _, s, .str _⟩
theorem srv_rng {fz : Bool} {lo : Int} {n : Nat} : Srv K fz F H ((List.range n).map fun (k : Nat) => PyData.int (lo + k)) (Itr lo n) := by
  refine ⟨fun i F' H' f g s d hd => ?_, fun i F' H' f g s hi => by
    show n ≤ i
    rw [List.length_map, List.length_range] at hi; exact hi⟩
  rw [List.getElem?_map] at hd
  by_cases hi : i < n
  · rw [List.getElem?_range hi] at hd
    cases hd
    refine ⟨hi, fun x H'' ⟨e1, e2⟩ => ?_⟩
    subst e1 e2
    exact ⟨F', Ext.refl F' _, s, .int _⟩
  · rw [List.getElem?_eq_none (by simpa using hi)] at hd
    cases hd
end
section
variable {X : Cx} {C : Ck} {G : Gb} {sc : Scope}
/-- n = 0 : nothing that may change is walked -/
theorem snd_ls {n : Nat} (hn : n ≤ 1) {tg : Expr} {e : E} {pe : Expr} (h : Snd X pe (fun md => wE G md e)) : PI X tg pe (tIs X.K (n == 0) (wI G n (.ls e))) := by
  refine pi_w (pi_seq (h.n n)) fun σ H Z ⟨F0, H0, F, ρ, Q, rr, hw, k⟩ => ?_
  have hw : wE G (.t n) e ρ fun d => ∃ ds, seqOf d = some ds ∧ Q ds := hw
  refine ⟨F0, H0, F, ρ, _, rr, hw, fun v F' H' d e s q ⟨ds, hd, hq⟩ => ?_⟩
  cases d with
  | list xs =>
    cases hd
    cases n with
    | zero =>
      cases q with
      | lst hr ha => exact .inl ⟨_, rfl, ⟨_, sqL_mono s hr⟩, k _ F' H' _ e s (srv_list (fun F'' H'' f g s2 => sqL_mono s2 (sqL_mono f hr)) ha) hq⟩
    | succ n =>
      have : n = 0 := by omega
      subst this
      obtain ⟨a, ys, rfl, h1, p⟩ := q.list s
      exact .inl ⟨a, rfl, ⟨ys, h1⟩, k _ F' H' _ e s (srv_list (fun F'' H'' f g s2 => sqL_mono (g rfl) h1) (ra_of p)) hq⟩
  | tuple xs =>
    cases hd
    obtain ⟨a, ys, rfl, h1, p⟩ := sc_tup q
    exact .inr (.inl ⟨a, rfl, ⟨ys, sqT_mono s h1⟩, k _ F' H' _ e s (srv_tup h1 p) hq⟩)
  | str z =>
    cases hd
    obtain rfl := sc_str q
    exact .inr (.inr ⟨z, rfl, k _ F' H' _ e s srv_str hq⟩)
  | _ => cases hd
theorem snd_r1 {n : Nat} {tg : Expr} {a : E} {pa : Expr} {p q : Pos} (dx : DX X C G sc) (hg : glB sc "range" = true) (hm : C.bl.contains "range" = true) (hp : plainE pa = true) (h : Snd X pa (fun md => wE G md a)) :
    PI X tg (.Call (.Name "range" p) [pa] [] q) (tIs X.K (n == 0) (wI G n (.r1 a))) := by
  obtain ⟨g1, g2⟩ := dx.gl hg
  refine pi_w (pi_range1 g1 (dx.bl _ hm) (pa_cons (h.n 0) pa_nil (star_cons hp)) (star_cons hp)) fun σ H Z ⟨F0, H0, F, ρ, Q, rr, hw, k⟩ => ?_
  have hw : wE G (.t 0) a ρ fun d => ∃ j, d = .int j ∧ (-(2 ^ 62) ≤ j ∧ j < 2 ^ 62) ∧ Q ((List.range j.toNat).map fun (k : Nat) => .int k) := hw
  refine ⟨F0, H0, F, ρ, _, rr, hw, fun v F' H' d e s r ⟨j, hd, ⟨h1, h2⟩, hq⟩ => ?_⟩
  subst hd
  obtain rfl := sc_int r
  refine ⟨j, rfl, h1, h2, k _ F' H' _ e s (srv_rng (lo := 0)) ?_⟩
  simp only [Int.zero_add]
  exact hq
theorem snd_r2 {n : Nat} {tg : Expr} {a b : E} {pa pb : Expr} {p q : Pos} (dx : DX X C G sc) (hg : glB sc "range" = true) (hm : C.bl.contains "range" = true) (hp : plainE pa = true) (hpb : plainE pb = true) (h : Snd X pa (fun md => wE G md a)) (hb : Snd X pb (fun md => wE G md b)) :
    PI X tg (.Call (.Name "range" p) [pa, pb] [] q) (tIs X.K (n == 0) (wI G n (.r2 a b))) := by
  obtain ⟨g1, g2⟩ := dx.gl hg
  have e1 : starEach [pa, pb] X.env = [(false, eval pa X.env), (false, eval pb X.env)] := by rw [star_cons hp, star_cons hpb]; rfl
  refine pi_w (pi_range2 g1 (dx.bl _ hm) (pa_cons (h.n 0) (pa_cons (hb.n 0) pa_nil (star_cons hpb)) (star_cons hp)) e1 (star_cons hpb)) fun σ H Z ⟨F0, H0, F, ρ, Q, rr, hw, k⟩ => ?_
  have hw : wE G (.t 0) a ρ fun d => wE G (.t 0) b ρ fun e => ∃ i j, d = .int i ∧ e = .int j ∧ (-(2 ^ 62) ≤ i ∧ i < 2 ^ 62 ∧ -(2 ^ 62) ≤ j ∧ j < 2 ^ 62) ∧ Q ((List.range (j - i).toNat).map fun (k : Nat) => .int (i + k)) := hw
  refine ⟨F0, H0, F, ρ, _, rr, hw, fun v F1 H1 d e1 s1 r1 h1 => ⟨F0, H0, F1, ρ, _, rr.go e1 s1, h1, fun v2 F2 H2 d2 e2 s2 r2 ⟨i, j, hd, hd2, hb, hq⟩ => ?_⟩⟩
  subst hd hd2
  obtain rfl := sc_int r1
  obtain rfl := sc_int r2
  exact ⟨i, j, rfl, hb, k _ F2 H2 _ (e1.trans e2) s2 srv_rng hq⟩

theorem rev_get {α : Type} {xs : List α} {i : Nat} {x : α} (h : xs.reverse[i]? = some x) : xs[xs.length - 1 - i]? = some x ∧ i < xs.length := by
  have hi := (List.getElem?_eq_some_iff.mp h).1
  rw [List.length_reverse] at hi
  rw [List.getElem?_reverse hi] at h
  exact ⟨h, hi⟩
theorem srv_rev {K : PySem.W.Frag} {F H : Hp} {fz : Bool} {a : Addr} {xs : List V} {ds : List D} (h : ∀ F' H', Same F F' → (fz = false → Same H H') → Same F' H' → SqL K H' a xs) (p : RpAll K F xs ds) : Srv K fz F H ds.reverse (Itv K a xs.length) := by
  refine ⟨fun i F' H' f g s d hd => ?_, fun i F' H' f g s hi => by rw [List.length_reverse, ← da_len p] at hi; exact hi⟩
  obtain ⟨hd, hi⟩ := rev_get hd
  obtain ⟨v, hv, rv⟩ := da_get p hd
  rw [← da_len p] at hv hi
  refine ⟨⟨hi, xs, v, h F' H' f g s, hv⟩, fun x H'' ⟨e, y⟩ => ?_⟩
  subst e
  have := (y xs (h F' H'' f g s)).symm.trans hv
  cases this
  exact ⟨F', Ext.refl F' _, s, dp_m rv f⟩
theorem srv_revT {K : PySem.W.Frag} {F H : Hp} {fz : Bool} {a : Addr} {xs : List V} {ds : List D} (h : SqT K F a xs) (p : RpAll K F xs ds) : Srv K fz F H ds.reverse (RT.ItvT K a xs.length) := by
  refine ⟨fun i F' H' f g s d hd => ?_, fun i F' H' f g s hi => by rw [List.length_reverse, ← da_len p] at hi; exact hi⟩
  obtain ⟨hd, hi⟩ := rev_get hd
  obtain ⟨v, hv, rv⟩ := da_get p hd
  rw [← da_len p] at hv hi
  refine ⟨⟨hi, xs, v, sqT_mono s (sqT_mono f h), hv⟩, fun x H'' ⟨e, y⟩ => ?_⟩
  subst e
  have := (y xs (sqT_mono s (sqT_mono f h))).symm.trans hv
  cases this
  exact ⟨F', Ext.refl F' _, s, dp_m rv f⟩
theorem srv_down {K : PySem.W.Frag} {F H : Hp} {fz : Bool} {lo : Int} {n : Nat} : Srv K fz F H ((List.range n).map fun (k : Nat) => PyData.int (lo + k)).reverse (Itc (lo + ((n : Nat) : Int) - 1) (-1) n) := by
  refine ⟨fun i F' H' f g s d hd => ?_, fun i F' H' f g s hi => by
    show n ≤ i
    rw [List.length_reverse, List.length_map, List.length_range] at hi; exact hi⟩
  obtain ⟨hd, hi⟩ := rev_get hd
  rw [List.length_map, List.length_range] at hd hi
  rw [List.getElem?_map, List.getElem?_range (by omega)] at hd
  cases hd
  refine ⟨hi, fun x H'' ⟨e1, e2⟩ => ?_⟩
  subst e1 e2
  refine ⟨F', Ext.refl F' _, s, ?_⟩
  rw [show lo + (n : Int) - 1 + (i : Int) * -1 = lo + ((n - 1 - i : Nat) : Int) by omega]
  exact .int _
theorem snd_rv {n : Nat} (hn : n ≤ 1) {tg : Expr} {e : E} {pe : Expr} {p q : Pos} (dx : DX X C G sc) (hg : glB sc "reversed" = true) (hm : C.bl.contains "reversed" = true) (hp : plainE pe = true) (h : Snd X pe (fun md => wE G md e)) :
    PI X tg (.Call (.Name "reversed" p) [pe] [] q) (tIs X.K (n == 0) (wI G n (.rv e))) := by
  obtain ⟨g1, g2⟩ := dx.gl hg
  refine pi_w (RT.pi_revA g1 (dx.bl _ hm) (h.n n) (star_cons hp)) fun σ H Z ⟨F0, H0, F, ρ, Q, rr, hw, k⟩ => ?_
  have hw : wE G (.t n) e ρ fun d => ∃ ds, lsOf d = some ds ∧ Q ds.reverse := hw
  refine ⟨F0, H0, F, ρ, _, rr, hw, fun v F' H' d e s q ⟨ds, hd, hq⟩ => ?_⟩
  cases d with
  | list xs =>
    cases hd
    cases n with
    | zero =>
      cases q with
      | lst hr ha => exact ⟨_, _, rfl, .inl ⟨sqL_mono s hr, k _ F' H' _ e s (srv_rev (fun F'' H'' f g s2 => sqL_mono s2 (sqL_mono f hr)) ha) hq⟩⟩
    | succ n =>
      have : n = 0 := by omega
      subst this
      obtain ⟨a, ys, rfl, h1, p⟩ := q.list s
      exact ⟨a, ys, rfl, .inl ⟨h1, k _ F' H' _ e s (srv_rev (fun F'' H'' f g s2 => sqL_mono (g rfl) h1) (ra_of p)) hq⟩⟩
  | tuple xs =>
    cases hd
    obtain ⟨a, ys, rfl, h1, p⟩ := sc_tup q
    exact ⟨a, ys, rfl, .inr ⟨sqT_mono s h1, k _ F' H' _ e s (srv_revT h1 p) hq⟩⟩
  | _ => cases hd
theorem snd_rr1 {n : Nat} {tg : Expr} {a : E} {pa : Expr} {p q p2 q2 : Pos} (dx : DX X C G sc) (hg : glB sc "range" = true) (hm : C.bl.contains "range" = true) (hg2 : glB sc "reversed" = true) (hm2 : C.bl.contains "reversed" = true) (hp : plainE pa = true) (h : Snd X pa (fun md => wE G md a)) :
    PI X tg (.Call (.Name "reversed" p2) [.Call (.Name "range" p) [pa] [] q] [] q2) (tIs X.K (n == 0) (wI G n (.rr1 a))) := by
  obtain ⟨g1, g2⟩ := dx.gl hg
  obtain ⟨g3, g4⟩ := dx.gl hg2
  refine pi_w (pi_revR g3 (dx.bl _ hm2) (prg_1 g1 (dx.bl _ hm) (h.n 0) (star_cons hp))) fun σ H Z ⟨F0, H0, F, ρ, Q, rr, hw, k⟩ => ?_
  have hw : wE G (.t 0) a ρ fun d => ∃ j, d = .int j ∧ (-(2 ^ 62) ≤ j ∧ j < 2 ^ 62) ∧ Q ((List.range j.toNat).map fun (k : Nat) => .int k).reverse := hw
  refine ⟨F0, H0, F, ρ, _, rr, hw, fun v F' H' d e s r ⟨j, hd, ⟨h1, h2⟩, hq⟩ => ?_⟩
  subst hd
  obtain rfl := sc_int r
  refine ⟨j, rfl, by decide, by decide, h1, h2, ?_⟩
  rw [Int.sub_zero]
  refine k _ F' H' _ e s (srv_down (lo := 0)) ?_
  simp only [Int.zero_add]
  exact hq
theorem snd_rr2 {n : Nat} {tg : Expr} {a b : E} {pa pb : Expr} {p q p2 q2 : Pos} (dx : DX X C G sc) (hg : glB sc "range" = true) (hm : C.bl.contains "range" = true) (hg2 : glB sc "reversed" = true) (hm2 : C.bl.contains "reversed" = true) (hp : plainE pa = true) (hpb : plainE pb = true) (h : Snd X pa (fun md => wE G md a)) (hb : Snd X pb (fun md => wE G md b)) :
    PI X tg (.Call (.Name "reversed" p2) [.Call (.Name "range" p) [pa, pb] [] q] [] q2) (tIs X.K (n == 0) (wI G n (.rr2 a b))) := by
  obtain ⟨g1, g2⟩ := dx.gl hg
  obtain ⟨g3, g4⟩ := dx.gl hg2
  refine pi_w (pi_revR g3 (dx.bl _ hm2) (prg_2 g1 (dx.bl _ hm) (h.n 0) (hb.n 0) (star_cons hp) (star_cons hpb) (star_any (by rw [List.all_cons, hpb]; rfl)))) fun σ H Z ⟨F0, H0, F, ρ, Q, rr, hw, k⟩ => ?_
  have hw : wE G (.t 0) a ρ fun d => wE G (.t 0) b ρ fun e => ∃ i j, d = .int i ∧ e = .int j ∧ (-(2 ^ 62) ≤ i ∧ i < 2 ^ 62 ∧ -(2 ^ 62) ≤ j ∧ j < 2 ^ 62) ∧ Q ((List.range (j - i).toNat).map fun (k : Nat) => .int (i + k)).reverse := hw
  refine ⟨F0, H0, F, ρ, _, rr, hw, fun v F1 H1 d e1 s1 r1 h1 => ⟨F0, H0, F1, ρ, _, rr.go e1 s1, h1, fun v2 F2 H2 d2 e2 s2 r2 ⟨i, j, hd, hd2, ⟨b1, b2, b3, b4⟩, hq⟩ => ?_⟩⟩
  subst hd hd2
  obtain rfl := sc_int r1
  obtain rfl := sc_int r2
  exact ⟨i, j, rfl, rfl, b1, b2, b3, b4, k _ F2 H2 _ (e1.trans e2) s2 srv_down hq⟩

/-! ### targets -/
def gDs (K : PySem.W.Frag) (sl : List Nat) (w : D → Env → (Env → Prop) → Prop) : TG := fun v σ H Z =>
  ∃ F0 H0 F ρ d Q, R K F0 H0 F ρ σ H ∧ Rp K F v d ∧ w d ρ Q ∧ ∀ ρ' σ', R K F0 H0 F ρ' σ' H → σ'.length = σ.length → (∀ j, j ∉ sl → σ'[j]? = σ[j]?) → Q ρ' → Z σ' H
theorem pg_w {X : Cx} {e : Expr} {t t' : TG} (h : PG X e t) (k : ∀ v σ H Q, t' v σ H Q → t v σ H Q) : PG X e t' := ⟨fun pins s σ H v u Q I r hw => h.run pins s σ H v u Q I r (k v σ H Q hw)⟩
theorem pgs_w {X : Cx} {e : List Expr} {t t' : TGs} (h : PGs X e t) (k : ∀ v σ H Q, t' v σ H Q → t v σ H Q) : PGs X e t' := ⟨fun pins s σ H v u Q I r hw => h.run pins s σ H v u Q I r (k v σ H Q hw)⟩
theorem tg_plain {es : List Expr} {is : List Nat} {env : PySem.Env} (h : okTgs C sc is es = true) : (assignEach es env).map (·.2) = es.map (fun e => assign e env) ∧ (assignEach es env).length = es.length ∧ (assignEach es env).findIdx? (·.1) = none := by
  induction es generalizing is with
  | nil => exact ⟨rfl, rfl, rfl⟩
  | cons e es ih =>
    cases is with
    | nil => simp [okTgs] at h
    | cons i is =>
      simp only [okTgs, Bool.and_eq_true] at h
      obtain ⟨h1, h2⟩ := h
      cases e1 : asName e with
      | none => rw [e1] at h1; cases h1
      | some x =>
        obtain ⟨p, rfl⟩ := asName_s e1
        obtain ⟨a, b, c⟩ := ih h2
        refine ⟨?_, ?_, ?_⟩
        · show assign _ env :: (assignEach es env).map (·.2) = _
          rw [a]; rfl
        · show (assignEach es env).length + 1 = _
          rw [b]; rfl
        · show ((false, assign (.Name x p) env) :: assignEach es env).findIdx? (·.1) = none
          rw [List.findIdx?_cons, c]; rfl
theorem snd_nm (X : Cx) (hN : X.N = C.N) (nd : C.N.Nodup) (hs : X.env.scope = sc) {i : Nat} {pe : Expr} (h : okTg C sc (.nm i) pe = true) (hf : ∀ x ∈ tgNames pe, X.fn x = true ∨ X.env.scope.names.lookup x = some .local) :
    PG X pe (gDs X.K [i] (wG (.nm i))) := by
  replace h : (match asName pe with | some x => decide (C.N[i]? = some x) && locB sc x | none => false) = true := h
  cases e : asName pe with
  | none => rw [e] at h; cases h
  | some x =>
    rw [e] at h
    obtain ⟨p, rfl⟩ := asName_s e
    simp only [Bool.and_eq_true, decide_eq_true_eq] at h
    have hl : Loc X.env.scope x := by
      have := h.2
      unfold locB at this
      simp only [Bool.or_eq_true, decide_eq_true_eq] at this
      rw [hs]; exact this
    refine pg_w (pg_name (i := i) (by rw [hN]; exact nd) (by rw [hN]; exact h.1) hl (hf x (by simp [tgNames]))) fun v σ H Z ⟨F0, H0, F, ρ, d, Q, rr, q, hw, k⟩ => ?_
    obtain ⟨hi, hq⟩ : i < ρ.length ∧ Q (ρ.set i (some (.fz d))) := hw
    refine k _ _ (rr.setF hi q) (List.length_set ..) (fun j hj => ?_) hq
    have : i ≠ j := fun z => hj (by rw [z]; simp)
    rw [List.getElem?_set_ne this]
theorem snd_nms (X : Cx) (hN : X.N = C.N) (nd : C.N.Nodup) (hs : X.env.scope = sc)   : ∀ {is : List Nat} {es : List Expr}, okTgs C sc is es = true → (∀ x ∈ es.filterMap asName, X.fn x = true ∨ X.env.scope.names.lookup x = some .local) →
    PGs X es (fun vs σ H Z => ∃ (F0 H0 F : Hp) (ρ : Env) (ds : List D) (Q : Env → Prop), R X.K F0 H0 F ρ σ H ∧ RpAll X.K F vs ds ∧ (∃ ρ', setAll is ds ρ = some ρ' ∧ Q ρ') ∧ ∀ ρ' σ', R X.K F0 H0 F ρ' σ' H → σ'.length = σ.length → (∀ j, j ∉ is → σ'[j]? = σ[j]?) → Q ρ' → Z σ' H)
  | [], [], h, _ => pgs_w pgs_nil fun vs σ H Z ⟨F0, H0, F, ρ, ds, Q, rr, q, ⟨ρ', h1, hq⟩, k⟩ => by
    cases ds with
    | nil =>
      cases q
      cases h1
      exact ⟨rfl, k ρ σ rr rfl (fun _ _ => rfl) hq⟩
    | cons _ _ => cases h1
  | i :: is, e :: es, h, hf => by
    have h0 := h
    simp only [okTgs, Bool.and_eq_true] at h
    obtain ⟨h1, h2⟩ := h
    have hn := snd_nm X hN nd hs (i := i) (pe := e) h1 (fun x hx => hf x (by
      cases e1 : asName e with
      | none => rw [e1] at h1; cases h1
      | some y =>
        obtain ⟨p, rfl⟩ := asName_s e1
        rw [List.filterMap_cons, e1]
        have : x = y := by simpa [tgNames] using hx
        rw [this]; exact List.mem_cons_self))
    have ih := snd_nms X hN nd hs h2 (fun x hx => hf x (by
      rw [List.filterMap_cons]
      split
      · exact hx
      · exact List.mem_cons_of_mem _ hx))
    refine pgs_w (pgs_cons hn ih ?_) fun vs σ H Z ⟨F0, H0, F, ρ, ds, Q, rr, q, ⟨ρ', h1, hq⟩, k⟩ => ?_
    · have a := (tg_plain (env := X.env) h0).1
      have b := (tg_plain (env := X.env) h2).1
      rw [a, b]; rfl
    · cases ds with
      | nil => cases h1
      | cons d ds =>
        cases q with
        | cons q1 q2 =>
          unfold setAll at h1
          split at h1
          · rename_i hi
            refine ⟨_, _, rfl, F0, H0, F, ρ, d, fun ρ1 => ρ1 = ρ.set i (some (.fz d)), rr, q1, ⟨hi, rfl⟩, fun ρ1 σ1 r1 l1 e1 eq => ?_⟩
            subst eq
            refine ⟨F0, H0, F, _, ds, Q, r1, q2, ⟨ρ', h1, hq⟩, fun ρ2 σ2 r2 l2 e2 hq2 => k ρ2 σ2 r2 (l2.trans l1) (fun j hj => ?_) hq2⟩
            simp only [List.mem_cons, not_or] at hj
            exact (e2 j hj.2).trans (e1 j (by simpa using hj.1))
          · cases h1
  | [], _ :: _, h, _ => by simp [okTgs] at h
  | _ :: _, [], h, _ => by simp [okTgs] at h
theorem snd_tg (X : Cx) (hc : X.calm = true) (hN : X.N = C.N) (nd : C.N.Nodup) (hs : X.env.scope = sc) {tg : Tg} {pe : Expr} (h : okTg C sc tg pe = true) (hf : ∀ x ∈ tgNames pe, X.fn x = true ∨ X.env.scope.names.lookup x = some .local) :
    PG X pe (gDs X.K tg.slots (wG tg)) := by
  cases tg with
  | nm i => exact snd_nm X hN nd hs h hf
  | tp is =>
    replace h : (match asTup pe with | some es => okTgs C sc is es | none => false) = true := h
    cases e : asTup pe with
    | none => rw [e] at h; cases h
    | some es =>
      rw [e] at h
      obtain ⟨j, p, rfl⟩ := asTup_s e
      obtain ⟨a, b, c⟩ := tg_plain (env := X.env) h
      refine pg_w (pg_tup hc (snd_nms X hN nd hs h hf) b c) fun v σ H Z ⟨F0, H0, F, ρ, d, Q, rr, q, hw, k⟩ => ?_
      cases d with
      | tuple ds =>
        obtain ⟨ρ', h1, hq⟩ : ∃ ρ', setAll is ds ρ = some ρ' ∧ Q ρ' := hw
        cases q with
        | tup hs ha =>
          refine ⟨_, _, rfl, sqT_mono rr.sub hs, ?_, F0, H0, F, ρ, ds, Q, rr, ha, ⟨ρ', h1, hq⟩, k⟩
          rw [da_len ha]
          have l1 : ∀ (is : List Nat) (ds : List D) (ρ ρ' : Env), setAll is ds ρ = some ρ' → is.length = ds.length := by
            intro is
            induction is with
            | nil => intro ds ρ ρ' h; cases ds with
              | nil => rfl
              | cons _ _ => cases h
            | cons i is ih => intro ds ρ ρ' h; cases ds with
              | nil => cases h
              | cons d ds =>
                unfold setAll at h
                split at h
                · rw [List.length_cons, List.length_cons, ih _ _ _ h]
                · cases h
          have l2 : ∀ (is : List Nat) (es : List Expr), okTgs C sc is es = true → is.length = es.length := by
            intro is
            induction is with
            | nil => intro es h; cases es with
              | nil => rfl
              | cons _ _ => simp [okTgs] at h
            | cons i is ih => intro es h; cases es with
              | nil => simp [okTgs] at h
              | cons e es =>
                simp only [okTgs, Bool.and_eq_true] at h
                rw [List.length_cons, List.length_cons, ih _ h.2]
          rw [← l1 _ _ _ _ h1, l2 _ _ h]
      | _ => exact (show False from hw).elim
end
end PD

set_option maxHeartbeats 2000000
namespace PD
open PySem PySem.Spec PyProof.Rows L2

section
variable {K : PySem.W.Frag} {F0 H0 F H : Hp}
theorem R.wipe {ρ : Env} {σ : Sg} (r : R K F0 H0 F ρ σ H) : ∀ vs : List Nat, R K F0 H0 F (wipeE ρ vs) (wipe σ vs) H
  | [] => r
  | v :: vs => R.wipe1 (R.wipe r vs)
theorem wipe_at (σ : Sg) : ∀ (vs : List Nat) (j : Nat), j ∈ vs → (wipe σ vs)[j]? = none ∨ (wipe σ vs)[j]? = some none
  | [], j, h => by simp at h
  | v :: vs, j, h => by
    unfold L2.wipe
    by_cases e : j = v
    · subst e
      by_cases hl : j < (L2.wipe σ vs).length
      · exact .inr (List.getElem?_set_self hl)
      · exact .inl (List.getElem?_eq_none (by rw [List.length_set]; omega))
    · rw [List.getElem?_set_ne (Ne.symm e)]
      exact wipe_at σ vs j (by simpa [e] using h)
theorem wipe_same {σ σ2 : Sg} {vs sl : List Nat} (hs : ∀ i ∈ sl, i ∈ vs) (hl : σ2.length = (L2.wipe σ vs).length) (he : ∀ j, j ∉ sl → σ2[j]? = (L2.wipe σ vs)[j]?) : L2.wipe σ2 vs = L2.wipe σ vs := by
  apply List.ext_getElem?
  intro j
  by_cases hj : j ∈ vs
  · have hlen : (L2.wipe σ2 vs).length = (L2.wipe σ vs).length := by rw [wipe_length, hl]
    by_cases hb : j < (L2.wipe σ vs).length
    · rcases wipe_at σ2 vs j hj with a | a
      · exact absurd (List.getElem?_eq_none_iff.mp a) (by omega)
      · rcases wipe_at σ vs j hj with b | b
        · exact absurd (List.getElem?_eq_none_iff.mp b) (by omega)
        · rw [a, b]
    · rw [List.getElem?_eq_none (by omega), List.getElem?_eq_none (by omega)]
  · rw [wipe_out hj]
    exact he j fun h => hj (hs j h)
end
def tCs (K : PySem.W.Frag) (w : Env → (Bool → Prop) → Prop) : TT := fun σ H Z =>
  ∃ F0 H0 F ρ Q, R K F0 H0 F ρ σ H ∧ w ρ Q ∧ ∀ b F' H', Ext F H F' H' → Same F' H' → Q b → Z b H'
theorem pts_w {X : Cx} {e : List Expr} {t t' : TT} (h : PTs X e t) (k : ∀ σ H Q, t' σ H Q → t σ H Q) : PTs X e t' := ⟨fun pins s σ H Q I hw => h.run pins s σ H Q I (k σ H Q hw)⟩
def wLc (G : Gb) (own : List (Str × Nat)) (elt : E) (tg : Tg) (it : I) (cs : Eo) : Env → (List D → Prop) → Prop := fun ρ Q => wI G 1 it ρ fun ds => ds.length ≤ sizeLine ∧
  wMap (fun d K => wG tg d (wipeE ρ (own.map (·.2))) fun ρ' => wC G cs ρ' fun k => if k = true then wE G (.t 0) elt ρ' fun y => K (some y) else K none) ds [] Q
theorem lc_rd {K : PySem.W.Frag} {G : Gb} {own : List (Str × Nat)} {elt : E} {tg : Tg} {it : I} {cs : Eo} (hs : ∀ i ∈ tg.slots, i ∈ own.map (·.2)) {σ : Sg} {H : Hp} {Z : VK}
    (h : tX K (rF K) (fun ρ Q => wLc G own elt tg it cs ρ fun ds => Q (.list ds)) σ H Z) :
    tLc (tIs K false (wI G 1 it)) (gDs K tg.slots (wG tg)) (tCs K (wC G cs)) (tN K 0 (wE G (.t 0) elt)) (own.map (·.2)) σ H Z := by
  obtain ⟨F0, H0, F, ρ, Q, rr, hw, k⟩ := h
  refine ⟨F0, H0, F, ρ, _, rr, hw, fun J F1 H1 ds e1 s1 srv ⟨hz, hm⟩ L hD => ?_⟩
  generalize hf : (fun (d : D) (K : Option PyData → Prop) => wG tg d (wipeE ρ (own.map (·.2))) fun ρ' => wC G cs ρ' fun k => if k = true then wE G (.t 0) elt ρ' fun y => K (some y) else K none) = f at hm
  refine ⟨fun i m Hc => m = ds.length - i ∧ i ≤ ds.length ∧ ∃ F' acc dacc, Ext F1 H1 F' Hc ∧ Same F' Hc ∧ F' L = none ∧ Hc L = some (.lst acc) ∧ RpAll K F' acc dacc ∧ acc.length ≤ i ∧ wMap f (ds.drop i) dacc fun ds => Q (.list ds),
    ⟨ds.length, by simp, Nat.zero_le _, F1, [], [], Ext.mkO hD, same_upd2 s1 (s1.free hD), s1.free hD, upd_same, .nil, Nat.zero_le _, hm⟩, ?_⟩
  rintro i m Hc ⟨rfl, hi, F', acc, dacc, e2, s2, hF, hL, hacc, hal, hm⟩
  by_cases hlt : i < ds.length
  · have hd : ds[i]? = some ds[i] := List.getElem?_eq_getElem hlt
    obtain ⟨go, yl⟩ := srv.turn i F' Hc e2.f (fun _ => e2.h) s2 _ hd
    refine .inr ⟨go, fun H' => (fun i m Hc => m = ds.length - i ∧ i ≤ ds.length ∧ ∃ F' acc dacc, Ext F1 H1 F' Hc ∧ Same F' Hc ∧ F' L = none ∧ Hc L = some (.lst acc) ∧ RpAll K F' acc dacc ∧ acc.length ≤ i ∧ wMap f (ds.drop i) dacc fun ds => Q (.list ds)) (i + 1) (ds.length - (i + 1)) H',
      fun H' w => ⟨ds.length - (i + 1), by omega, w⟩, fun x H2 hy => ?_⟩
    obtain ⟨F2, e3, s3, rx⟩ := yl x H2 hy
    rw [List.drop_eq_getElem_cons hlt] at hm
    have hm : f ds[i] fun o => match o with | some y => wMap f (ds.drop (i + 1)) (dacc ++ [y]) (fun ds => Q (.list ds)) | none => wMap f (ds.drop (i + 1)) dacc (fun ds => Q (.list ds)) := hm
    rw [← hf] at hm
    have eAll : Ext F H F2 H2 := (e1.trans e2).trans e3
    have hne : ∀ {Fx Hx : Hp}, Ext F' Hc Fx Hx → Fx L = none ∧ Hx L = some (.lst acc) := fun e => ⟨(e.new L (some_ne hL)).trans hF, e.h L _ hL⟩
    refine ⟨F0, H0, F2, wipeE ρ (own.map (·.2)), ds[i], _, R.wipe (rr.go eAll s3) _, rx, hm, fun ρ2 σ2 r2 l2 q2 hq => ⟨wipe_same hs l2 q2, ?_⟩⟩
    refine ⟨F0, H0, F2, ρ2, _, r2, hq, fun b F3 H3 e4 s4 hb => ?_⟩
    cases b with
    | true =>
      show (tN K 0 (wE G (.t 0) elt)) σ2 H3 _
      rw [if_pos rfl] at hb
      refine ⟨F0, H0, F3, ρ2, _, r2.go e4 s4, hb, fun y F4 H4 dy e5 s5 qy hy => ?_⟩
      have eT : Ext F' Hc F4 H4 := (e3.trans e4).trans e5
      obtain ⟨n1, n2⟩ := hne eT
      refine ⟨acc, n2, by omega, rfl, hlt, F4, acc ++ [y], dacc ++ [dy], ?_, same_upd2 s5 n1, n1, upd_same, da_snoc (da_m hacc eT.f) qy, by rw [List.length_append]; simp; omega, ?_⟩
      · have eX := e2.trans eT
        exact ⟨eX.f, fun b o q => by rw [upd_ne (ne_of_none q hD)]; exact eX.h b o q, eX.new⟩
      · rw [hf] at *
        exact hy
    | false =>
      show _ ∧ _
      rw [if_neg Bool.false_ne_true] at hb
      have eT : Ext F' Hc F3 H3 := e3.trans e4
      obtain ⟨n1, n2⟩ := hne eT
      exact ⟨rfl, hlt, F3, acc, dacc, e2.trans eT, s4, n1, n2, da_m hacc eT.f, by omega, by rw [hf] at *; exact hb⟩
  · have : i = ds.length := by omega
    subst this
    refine .inl ⟨srv.stop _ F' Hc e2.f (fun _ => e2.h) s2 (Nat.le_refl _), ?_⟩
    rw [List.drop_length] at hm
    exact k _ F' Hc _ (e1.trans e2) s2 ⟨dacc, rfl, L, acc, rfl, Same.free e1.h hD, hF, hL, hacc⟩ hm
section
variable {X : Cx} {C : Ck} {G : Gb} {sc : Scope}
theorem DX.blk (dx : DX X C G sc) {scope : Scope} {s : Shared} {H : Hp} {Cc : Addr} {cl : List (Str × Addr)} {fp : List Addr} : DX (X.blk s H scope (compEnvC scope cl Cc X.env) fp) C G (relS scope sc) :=
  ⟨dx.N, dx.nd, by
    show relS scope X.env.scope = _
    rw [dx.sc], dx.calm, dx.room, dx.bl, fun k x h => ⟨(dx.fn k x h).ex⟩, fun k x n ks h => ⟨(dx.fk k x n ks h).ex⟩, dx.ct⟩
theorem relS_local {scope sc : Scope} {x : Str} (h : scope.names.lookup x = some .local) : (relS scope sc).names.lookup x = some .local :=
  lookup_relS_keep (by decide) h
/-- what a comprehension's parts must be -/
structure LcIn (X : Cx) (C : Ck) (G : Gb) (sc : Scope) (own : List (Str × Nat)) (elt : E) (tg : Tg) (it : I) (cs : Eo) (pelt ptg pit : Expr) (pifs : List Expr) (scope : Scope) : Prop where
  ok : BlkOk X.N X.env.scope scope own
  hs : ∀ i ∈ tg.slots, i ∈ own.map (·.2)
  pl : plainE pit = true
  it : PI X ptg pit (tIs X.K false (wI G 1 it))
  tg : ∀ (s : Shared) (H : Hp) (Cc : Addr) (cl : List (Str × Addr)) (fp : List Addr), PG (X.blk s H scope (compEnvC scope cl Cc X.env) fp) ptg (gDs X.K tg.slots (wG tg))
  cs : ∀ (s : Shared) (H : Hp) (Cc : Addr) (cl : List (Str × Addr)) (fp : List Addr), PTs (X.blk s H scope (compEnvC scope cl Cc X.env) fp) pifs (tCs X.K (wC G cs))
  elt : ∀ (s : Shared) (H : Hp) (Cc : Addr) (cl : List (Str × Addr)) (fp : List Addr), PE (X.blk s H scope (compEnvC scope cl Cc X.env) fp) pelt (tN X.K 0 (wE G (.t 0) elt))
theorem LcIn.pe {own : List (Str × Nat)} {elt : E} {tg : Tg} {it : I} {cs : Eo} {pelt ptg pit : Expr} {pifs : List Expr} {scope : Scope} {p : Pos} (dx : DX X C G sc) (l : LcIn X C G sc own elt tg it cs pelt ptg pit pifs scope) :
    PE X (.ListComp pelt [⟨ptg, pit, pifs, 0⟩] scope p) (tX X.K (rF X.K) (fun ρ Q => wLc G own elt tg it cs ρ fun ds => Q (.list ds))) :=
  pe_w (pe_lc dx.calm (by rw [dx.N]; exact dx.nd) l.it l.ok l.tg l.cs l.elt (plain_fold l.pl)) fun σ H Z h => lc_rd l.hs h
theorem snd_lc {own : List (Str × Nat)} {elt : E} {tg : Tg} {it : I} {cs : Eo} {pelt ptg pit : Expr} {pifs : List Expr} {scope : Scope} {p : Pos} (dx : DX X C G sc) (l : LcIn X C G sc own elt tg it cs pelt ptg pit pifs scope) :
    Snd X (.ListComp pelt [⟨ptg, pit, pifs, 0⟩] scope p) (fun md => wE G md (.lc own elt tg it cs)) :=
  mkList (wl := wLc G own elt tg it cs) (l.pe dx) (fun _ => rfl)
theorem tg_in {own : List (Str × Nat)} {tg : Tg} {ptg : Expr} {scope : Scope} (dx : DX X C G sc) (h1 : okTg C (relS scope sc) tg ptg = true) (h2 : (tgNames ptg).all (fun x => decide (scope.names.lookup x = some .local) || decide (scope.names.lookup x = some .cell)) = true)
    (s : Shared) (H : Hp) (Cc : Addr) (cl : List (Str × Addr)) (fp : List Addr) : PG (X.blk s H scope (compEnvC scope cl Cc X.env) fp) ptg (gDs X.K tg.slots (wG tg)) := by
  have d := dx.blk (scope := scope) (s := s) (H := H) (Cc := Cc) (cl := cl) (fp := fp)
  refine snd_tg (X.blk s H scope (compEnvC scope cl Cc X.env) fp) d.calm d.N d.nd d.sc h1 fun x hx => ?_
  have := List.all_eq_true.mp h2 x hx
  simp only [Bool.or_eq_true, decide_eq_true_eq] at this
  rcases this with e | e
  · exact .inr (relS_local e)
  · left
    show (scope.names.lookup x == some .cell) = true
    rw [e]; rfl
theorem pts_no : PTs X [] (tCs X.K (wC G .no)) := pts_w pts_nil fun σ H Z ⟨F0, H0, F, ρ, Q, rr, hw, k⟩ => k true F H (Ext.refl F H) rr.sub hw
theorem pts_yes {e : E} {pe : Expr} (h : Snd X pe (fun md => wE G md e)) : PTs X [pe] (tCs X.K (wC G (.yes e))) :=
  pts_w (pts_one h.t) fun σ H Z ⟨F0, H0, F, ρ, Q, rr, hw, k⟩ => ⟨F0, H0, F, ρ, _, rr, hw, fun b F' H' e s ⟨b', hb, hq⟩ => by cases hb; exact k b F' H' e s hq⟩
end

/-! ### all expressions -/
mutual
theorem sE {C : Ck} {G : Gb} : ∀ (e : E) (X : Cx) (sc : Scope) (pe : Expr), DX X C G sc → okE C sc e pe = true → Snd X pe (fun md => wE G md e)
  | .var i, X, sc, pe, dx, h => snd_var dx h
  | .ct i, X, sc, pe, dx, h => snd_ct dx h
  | .non, X, sc, pe, dx, h => snd_non h
  | .bl b, X, sc, pe, dx, h => snd_bl h
  | .int b, X, sc, pe, dx, h => snd_int h
  | .str b, X, sc, pe, dx, h => snd_str h
  | .bin op a b, X, sc, pe, dx, h => by
    unfold okE at h
    split at h
    · rename_i pa o pb e
      obtain ⟨p, rfl⟩ := asBin_s e
      simp only [Bool.and_eq_true, decide_eq_true_eq] at h
      obtain ⟨⟨rfl, h1⟩, h2⟩ := h
      exact snd_bin (sE a X sc pa dx h1) (sE b X sc pb dx h2)
    · cases h
  | .neg a, X, sc, pe, dx, h => by
    unfold okE at h
    split at h
    · rename_i pa e
      obtain ⟨p, rfl⟩ := asNeg_s e
      exact snd_neg (sE a X sc pa dx h)
    · cases h
  | .cmp op a b, X, sc, pe, dx, h => by
    unfold okE at h
    split at h
    · rename_i pa o pb e
      obtain ⟨p, rfl⟩ := asCmp_s e
      simp only [Bool.and_eq_true, decide_eq_true_eq] at h
      obtain ⟨⟨⟨rfl, h0⟩, h1⟩, h2⟩ := h
      exact snd_cmp dx h0 (sE a X sc pa dx h1) (sE b X sc pb dx h2)
    · cases h
  | .bop conj es, X, sc, pe, dx, h => by
    unfold okE at h
    split at h
    · rename_i o pes e
      obtain ⟨p, rfl⟩ := asBool_s e
      simp only [Bool.and_eq_true, decide_eq_true_eq, Bool.not_eq_true'] at h
      obtain ⟨⟨rfl, h1⟩, h2⟩ := h
      have hn : pes ≠ [] := fun z => by rw [z] at h1; cases h1
      obtain ⟨a, b⟩ := sB es X sc pes dx h2 hn conj p
      exact snd_bop a b
    · cases h
  | .nt a, X, sc, pe, dx, h => by
    unfold okE at h
    split at h
    · rename_i pa e
      obtain ⟨p, rfl⟩ := asNot_s e
      exact snd_not (sE a X sc pa dx h)
    · cases h
  | .ifx c a b, X, sc, pe, dx, h => by
    unfold okE at h
    split at h
    · rename_i pc pa pb e
      obtain ⟨p, rfl⟩ := asIfE_s e
      simp only [Bool.and_eq_true] at h
      exact snd_ifx (sE c X sc pc dx h.1.1) (sE a X sc pa dx h.1.2) (sE b X sc pb dx h.2)
    · cases h
  | .ix a i, X, sc, pe, dx, h => by
    unfold okE at h
    split at h
    · rename_i pa pi e
      obtain ⟨p, rfl⟩ := asSub_s e
      simp only [Bool.and_eq_true] at h
      exact snd_ix h.1.1 (sE a X sc pa dx h.1.2) (sE i X sc pi dx h.2)
    · cases h
  | .sl a lo hi, X, sc, pe, dx, h => by
    unfold okE at h
    split at h
    · rename_i pa pi e
      obtain ⟨p, rfl⟩ := asSub_s e
      split at h
      · rename_i pl ph e2
        obtain ⟨p2, rfl⟩ := asSl_s e2
        simp only [Bool.and_eq_true] at h
        exact snd_sl (sE a X sc pa dx h.1.1) (sO lo X sc pl dx h.1.2) (sO hi X sc ph dx h.2)
      · cases h
    · cases h
  | .call k es, X, sc, pe, dx, h => by
    unfold okE at h
    split at h
    · rename_i x pes e
      obtain ⟨p, q, rfl⟩ := asCall_s e
      simp only [Bool.and_eq_true, decide_eq_true_eq] at h
      exact snd_call dx h.1.1 h.1.2 h.2 (sA es X sc pes dx h.2 0)
    · cases h
  | .callk k n es ks kes, X, sc, pe, dx, h => by
    unfold okE at h
    split at h
    · rename_i x pes ns vs e
      obtain ⟨p, q, kws, rfl, rfl, rfl⟩ := asCallK_s e
      simp only [Bool.and_eq_true, decide_eq_true_eq, Bool.not_eq_true'] at h
      obtain ⟨⟨⟨⟨⟨h1, h2⟩, h3⟩, h4⟩, h5⟩, h6⟩ := h
      have hn : pes ≠ [] := fun z => by rw [z] at h4; cases h4
      exact snd_callk dx h1 h2 h3 hn h5 (sA es X sc pes dx h5 0) (sK kes X sc kws dx h6)
    · cases h
  | .blt b es, X, sc, pe, dx, h => by
    unfold okE at h
    split at h
    · rename_i x pes e
      obtain ⟨p, q, rfl⟩ := asCall_s e
      simp only [Bool.and_eq_true, decide_eq_true_eq, Bool.not_eq_true'] at h
      obtain ⟨⟨⟨⟨rfl, h1⟩, h2⟩, h3⟩, h4⟩ := h
      have hn : pes ≠ [] := fun z => by rw [z] at h3; cases h3
      exact snd_blt dx h1 h2 hn h4 (sA es X sc pes dx h4 (bLv b + 1))
    · cases h
  | .isi a ts, X, sc, pe, dx, h => by
    unfold okE at h
    split at h
    · rename_i x pa pt e
      obtain ⟨p, q, rfl⟩ := asCall_s e
      simp only [Bool.and_eq_true, decide_eq_true_eq] at h
      obtain ⟨⟨⟨⟨⟨⟨rfl, h1⟩, h2⟩, h3⟩, h4⟩, h5⟩, h6⟩ := h
      refine snd_isi dx h1 h2 h3 h4 (sE a X sc pa dx h5) ?_
      cases e6 : asTup pt with
      | some pts => rw [e6] at h6; simpa using h6
      | none => rw [e6] at h6; exact h6
    · cases h
  | .mth m o es, X, sc, pe, dx, h => by
    unfold okE at h
    split at h
    · rename_i po x pes b e
      obtain ⟨ap, cp, rfl, hb⟩ := asMeth_s e
      simp only [Bool.and_eq_true, decide_eq_true_eq, Bool.not_eq_true'] at h
      obtain ⟨⟨⟨⟨⟨⟨rfl, h1⟩, h2⟩, h3⟩, h4⟩, h5⟩, h6⟩ := h
      have hn : pes ≠ [] := fun z => by rw [z] at h2; cases h2
      exact snd_mth (hb.trans h1) hn h3 h4 (okEs_all h6) (sE o X sc po dx h5) (sA es X sc pes dx h6 1)
    · cases h
  | .tup es, X, sc, pe, dx, h => by
    unfold okE at h
    split at h
    · rename_i pes e
      obtain ⟨j, p, rfl⟩ := asTup_s e
      exact snd_tup (sA es X sc pes dx h 0)
    · cases h
  | .lst es, X, sc, pe, dx, h => by
    unfold okE at h
    split at h
    · rename_i pes e
      obtain ⟨p, rfl⟩ := asLst_s e
      exact snd_lst (sA es X sc pes dx h 0)
    · cases h
  | .lc own elt tg it cs, X, sc, pe, dx, h => by
    unfold okE at h
    split at h
    · rename_i pelt ptg pit pifs scope e
      obtain ⟨p, rfl⟩ := asLC_s e
      simp only [Bool.and_eq_true] at h
      obtain ⟨⟨⟨⟨⟨⟨⟨h1, h2⟩, h3⟩, h4⟩, h5⟩, h6⟩, h7⟩, h8⟩ := h
      exact snd_lc dx ⟨by rw [dx.N, dx.sc]; exact blkOk_by h1, fun i hi => by simpa using List.all_eq_true.mp h6 i hi, h5, sI it X sc pit ptg 1 (by decide) dx h2, tg_in (own := own) dx h3 (by rw [List.all_eq_true]; exact fun x hx => by simpa using List.all_eq_true.mp h4 x hx),
        fun s H Cc cl fp => sC cs (X.blk s H scope (compEnvC scope cl Cc X.env) fp) (relS scope sc) pifs dx.blk h8,
        fun s H Cc cl fp => (sE elt (X.blk s H scope (compEnvC scope cl Cc X.env) fp) (relS scope sc) pelt dx.blk h7).n 0⟩
    · cases h
theorem sO {C : Ck} {G : Gb} : ∀ (o : Eo) (X : Cx) (sc : Scope) (po : Option Expr), DX X C G sc → okEo C sc o po = true → PO X po (tOs X.K (wEo G o))
  | .no, X, sc, none, dx, h => po_no
  | .yes e, X, sc, some pe, dx, h => po_yes (sE e X sc pe dx (by unfold okEo at h; exact h))
  | .no, X, sc, some pe, dx, h => by simp [okEo] at h
  | .yes e, X, sc, none, dx, h => by simp [okEo] at h
theorem sC {C : Ck} {G : Gb} : ∀ (o : Eo) (X : Cx) (sc : Scope) (po : List Expr), DX X C G sc → okC C sc o po = true → PTs X po (tCs X.K (wC G o))
  | .no, X, sc, [], dx, h => pts_no
  | .no, X, sc, _ :: _, dx, h => by simp [okC] at h
  | .yes e, X, sc, [pe], dx, h => pts_yes (sE e X sc pe dx (by unfold okC at h; exact h))
  | .yes e, X, sc, [], dx, h => by simp [okC] at h
  | .yes e, X, sc, _ :: _ :: _, dx, h => by simp [okC] at h
theorem sA {C : Ck} {G : Gb} : ∀ (es : Es) (X : Cx) (sc : Scope) (pes : List Expr), DX X C G sc → okEs C sc es pes = true → ∀ n, PA X pes (tAs X.K n (wEs G n es))
  | .nil, X, sc, [], dx, h, n => pas_nil
  | .nil, X, sc, _ :: _, dx, h, n => by simp [okEs] at h
  | .cons e es, X, sc, [], dx, h, n => by simp [okEs] at h
  | .cons e es, X, sc, pe :: pr, dx, h, n => by
    simp only [okEs, Bool.and_eq_true] at h
    exact pas_cons h.1.1 (sE e X sc pe dx h.1.2) (sA es X sc pr dx h.2 n)
theorem sK {C : Ck} {G : Gb} : ∀ (es : Es) (X : Cx) (sc : Scope) (kws : List Keyword), DX X C G sc → okEs C sc es (kws.map (·.value)) = true → PK X kws (tAs X.K 0 (wEs G 0 es))
  | .nil, X, sc, [], dx, h => pk_nil0
  | .nil, X, sc, ⟨_, _, _⟩ :: _, dx, h => by simp [okEs] at h
  | .cons e es, X, sc, [], dx, h => by simp [okEs] at h
  | .cons e es, X, sc, ⟨nm, pe, kp⟩ :: kws, dx, h => by
    rw [List.map_cons] at h
    simp only [okEs, Bool.and_eq_true] at h
    exact pk_cons0 (sE e X sc pe dx h.1.2) (sK es X sc kws dx h.2)
theorem sB {C : Ck} {G : Gb} : ∀ (es : Es) (X : Cx) (sc : Scope) (pes : List Expr), DX X C G sc → okEs C sc es pes = true → pes ≠ [] → ∀ (conj : Bool) (p : Pos),
    PW X (.BoolOp (bop conj) pes p) (tTs X.K (wTs G conj es)) ∧ PE X (.BoolOp (bop conj) pes p) (tN X.K 0 (wBs G conj es))
  | .nil, X, sc, [], dx, h, hn, conj, p => absurd rfl hn
  | .nil, X, sc, _ :: _, dx, h, hn, conj, p => by simp [okEs] at h
  | .cons e es, X, sc, [], dx, h, hn, conj, p => absurd rfl hn
  | .cons e .nil, X, sc, [pe], dx, h, hn, conj, p => by
    simp only [okEs, Bool.and_eq_true] at h
    have := sE e X sc pe dx h.1.2
    exact ⟨snd_ts1 this, snd_bs1 this⟩
  | .cons e .nil, X, sc, pe :: pe2 :: pr, dx, h, hn, conj, p => by simp [okEs] at h
  | .cons e (.cons e2 es2), X, sc, [pe], dx, h, hn, conj, p => by simp [okEs] at h
  | .cons e (.cons e2 es2), X, sc, pe :: pe2 :: pr, dx, h, hn, conj, p => by
    have h0 := h
    rw [okEs, Bool.and_eq_true, Bool.and_eq_true] at h0
    have := sE e X sc pe dx h0.1.2
    obtain ⟨a, b⟩ := sB (.cons e2 es2) X sc (pe2 :: pr) dx h0.2 (by simp) conj p
    exact ⟨snd_ts2 this a, snd_bs2 this b⟩
theorem sI {C : Ck} {G : Gb} : ∀ (it : I) (X : Cx) (sc : Scope) (pe tg : Expr) (n : Nat), n ≤ 1 → DX X C G sc → okI C sc it pe = true → PI X tg pe (tIs X.K (n == 0) (wI G n it))
  | .ls e, X, sc, pe, tg, n, hn, dx, h => by
    simp only [okI, Bool.and_eq_true] at h
    exact snd_ls hn (sE e X sc pe dx h.2)
  | .r1 a, X, sc, pe, tg, n, hn, dx, h => by
    unfold okI at h
    split at h
    · rename_i x pa e
      obtain ⟨p, q, rfl⟩ := asCall_s e
      simp only [Bool.and_eq_true, decide_eq_true_eq] at h
      obtain ⟨⟨⟨⟨rfl, h1⟩, h2⟩, h3⟩, h4⟩ := h
      exact snd_r1 dx h1 h2 h3 (sE a X sc pa dx h4)
    · cases h
  | .r2 a b, X, sc, pe, tg, n, hn, dx, h => by
    unfold okI at h
    split at h
    · rename_i x pa pb e
      obtain ⟨p, q, rfl⟩ := asCall_s e
      simp only [Bool.and_eq_true, decide_eq_true_eq] at h
      obtain ⟨⟨⟨⟨⟨⟨rfl, h1⟩, h2⟩, h3⟩, h4⟩, h5⟩, h6⟩ := h
      exact snd_r2 dx h1 h2 h3 h4 (sE a X sc pa dx h5) (sE b X sc pb dx h6)
    · cases h
  | .rv e, X, sc, pe, tg, n, hn, dx, h => by
    unfold okI at h
    split at h
    · rename_i x pa e1
      obtain ⟨p, q, rfl⟩ := asCall_s e1
      simp only [Bool.and_eq_true, decide_eq_true_eq] at h
      obtain ⟨⟨⟨⟨rfl, h1⟩, h2⟩, h3⟩, h4⟩ := h
      exact snd_rv hn dx h1 h2 h3 (sE e X sc pa dx h4)
    · cases h
  | .rr1 a, X, sc, pe, tg, n, hn, dx, h => by
    unfold okI at h
    split at h
    · rename_i x pr e1
      obtain ⟨p, q, rfl⟩ := asCall_s e1
      simp only [Bool.and_eq_true, decide_eq_true_eq] at h
      obtain ⟨⟨⟨⟨rfl, h1⟩, h2⟩, h3⟩, h4⟩ := h
      split at h4
      · rename_i y pa e2
        obtain ⟨p', q', rfl⟩ := asCall_s e2
        simp only [Bool.and_eq_true, decide_eq_true_eq] at h4
        obtain ⟨⟨⟨⟨rfl, h5⟩, h6⟩, h7⟩, h8⟩ := h4
        exact snd_rr1 dx h5 h6 h1 h2 h7 (sE a X sc pa dx h8)
      · cases h4
    · cases h
  | .rr2 a b, X, sc, pe, tg, n, hn, dx, h => by
    unfold okI at h
    split at h
    · rename_i x pr e1
      obtain ⟨p, q, rfl⟩ := asCall_s e1
      simp only [Bool.and_eq_true, decide_eq_true_eq] at h
      obtain ⟨⟨⟨⟨rfl, h1⟩, h2⟩, h3⟩, h4⟩ := h
      split at h4
      · rename_i y pa pb e2
        obtain ⟨p', q', rfl⟩ := asCall_s e2
        simp only [Bool.and_eq_true, decide_eq_true_eq] at h4
        obtain ⟨⟨⟨⟨⟨⟨rfl, h5⟩, h6⟩, h7⟩, h8⟩, h9⟩, h10⟩ := h4
        exact snd_rr2 dx h5 h6 h1 h2 h7 h8 (sE a X sc pa dx h9) (sE b X sc pb dx h10)
      · cases h4
    · cases h
end
end PD

set_option maxHeartbeats 2000000
namespace PD
open PySem PySem.Spec PyProof.Rows L2

/-! ### the slots change -/
section
variable {K : PySem.W.Frag} {F0 H0 F H F' H' : Hp} {ρ : Env} {σ : Sg}
/-- what slot i owns never changes from now on -/
theorem R.freeze {i : Nat} {O : Nat → List Addr} {d : D} (r : R K F0 H0 F ρ σ H) (o : Owns K H0 F ρ σ H O) (hi : i < ρ.length)
    (q : ∀ F', Same F F' → (∀ b ∈ O i, F' b = H b) → ∃ x, gt σ i = some x ∧ Rp K F' x d) : ∃ F', Same F F' ∧ R K F0 H0 F' (ρ.set i (some (.fz d))) σ H := by
  have fn : ∀ b, b ∈ O i → F b = none := fun b hb => (o.no i b hb).1
  have e1 : Same F (fun b => if b ∈ O i then H b else F b) := fun b x hb => by
    have : b ∉ O i := fun h => by rw [fn b h] at hb; cases hb
    show (if b ∈ O i then H b else F b) = some x
    rw [if_neg this]; exact hb
  refine ⟨fun b => if b ∈ O i then H b else F b, e1, ⟨⟨r.ext.f.trans e1, r.ext.h, fun b hb => ?_⟩, fun b x hb => ?_, by rw [List.length_set]; exact r.len, fun j => if j = i then [] else O j, ⟨fun j => ?_, fun j k a h1 h2 => ?_, fun j a h1 => ?_, fun j => ?_⟩⟩⟩
  · have : b ∉ O i := fun h => hb (o.no i b h).2
    show (if b ∈ O i then H b else F b) = _
    rw [if_neg this]; exact r.ext.new b hb
  · by_cases h : b ∈ O i
    · rw [if_pos h] at hb; exact hb
    · rw [if_neg h] at hb; exact r.sub b x hb
  · split
    · exact List.nodup_nil
    · exact o.nd j
  · by_cases ej : j = i
    · rw [if_pos ej] at h1; simp at h1
    · rw [if_neg ej] at h1
      by_cases ek : k = i
      · rw [if_pos ek] at h2; simp at h2
      · rw [if_neg ek] at h2; exact o.dj j k a h1 h2
  · by_cases ej : j = i
    · rw [if_pos ej] at h1; simp at h1
    · rw [if_neg ej] at h1
      have : a ∉ O i := fun h => ej (o.dj j i a h1 h)
      refine ⟨?_, (o.no j a h1).2⟩
      show (if a ∈ O i then H a else F a) = none
      rw [if_neg this]; exact (o.no j a h1).1
  · rw [gt_set hi]
    by_cases ej : j = i
    · rw [if_pos ej, if_pos ej]
      subst ej
      obtain ⟨x, h1, h2⟩ := q _ e1 (fun b hb => if_pos hb)
      exact ⟨rfl, x, h1, h2⟩
    · rw [if_neg ej, if_neg ej]
      exact (o.rep j).mono e1 fun b _ x h => h
/-- what slot i owns is written -/
theorem R.write {i : Nat} {O : Nat → List Addr} {s : Sl} {os : List Addr} (r : R K F0 H0 F ρ σ H) (o : Owns K H0 F ρ σ H O) (hi : i < ρ.length) (nd : os.Nodup) (no : ∀ b ∈ os, F b = none ∧ H0 b = none)
    (ap : ∀ j, j ≠ i → ∀ b ∈ os, b ∉ O j) (he : ∀ b, b ∉ os → H' b = H b) (q : SlRep K F H' (some s) (gt σ i) os) : R K F0 H0 F (ρ.set i (some s)) σ H' := by
  refine ⟨⟨r.ext.f, fun b x hb => ?_, r.ext.new⟩, fun b x hb => ?_, by rw [List.length_set]; exact r.len, fun j => if j = i then os else O j, ⟨fun j => ?_, fun j k a h1 h2 => ?_, fun j a h1 => ?_, fun j => ?_⟩⟩
  · have : b ∉ os := fun h => by rw [(no b h).2] at hb; cases hb
    rw [he b this]; exact r.ext.h b x hb
  · have : b ∉ os := fun h => by rw [(no b h).1] at hb; cases hb
    rw [he b this]; exact r.sub b x hb
  · split
    · exact nd
    · exact o.nd j
  · by_cases ej : j = i
    · rw [if_pos ej] at h1
      by_cases ek : k = i
      · rw [ej, ek]
      · rw [if_neg ek] at h2; exact absurd h2 (ap k ek a h1)
    · rw [if_neg ej] at h1
      by_cases ek : k = i
      · rw [if_pos ek] at h2; exact absurd h1 (ap j ej a h2)
      · rw [if_neg ek] at h2; exact o.dj j k a h1 h2
  · by_cases ej : j = i
    · rw [if_pos ej] at h1; exact no a h1
    · rw [if_neg ej] at h1; exact o.no j a h1
  · rw [gt_set hi]
    by_cases ej : j = i
    · rw [if_pos ej, if_pos ej, ej]; exact q
    · rw [if_neg ej, if_neg ej]
      refine (o.rep j).mono (Same.refl F) fun b hb x h => ?_
      have : b ∉ os := fun h' => ap j ej b h' hb
      rw [he b this]; exact h
theorem R.lt {i : Nat} {s : Sl} (h : gt ρ i = some s) : i < ρ.length := gt_lt h
/-- slot i is set to a new list, which it owns -/
theorem R.new {i : Nat} {v : V} {ds : List D} (r : R K F0 H0 F ρ σ H) (hi : i < ρ.length) (e : Ext F H F' H') (s : Same F' H') (f : Fre K H F' H' v ds) : R K F0 H0 F' (ρ.set i (some (.ow ds))) (σ.set i (some v)) H' := by
  obtain ⟨O, o⟩ := r.own
  obtain ⟨a, xs, rfl, h1, h2, h3, h4⟩ := f
  have r' := r.go e s
  have hi' : i < σ.length := by rw [r.len]; exact hi
  have hO : ∀ j, a ∉ O j := fun j h => (o.rep j).there a h h1
  refine ⟨r'.ext, r'.sub, by rw [List.length_set, List.length_set]; exact r.len, fun j => if j = i then [a] else O j, ⟨fun j => ?_, fun j k b g1 g2 => ?_, fun j b g1 => ?_, fun j => ?_⟩⟩
  · split
    · simp
    · exact o.nd j
  · by_cases ej : j = i
    · rw [if_pos ej] at g1
      have : b = a := by simpa using g1
      subst this
      by_cases ek : k = i
      · rw [ej, ek]
      · rw [if_neg ek] at g2; exact absurd g2 (hO k)
    · rw [if_neg ej] at g1
      by_cases ek : k = i
      · rw [if_pos ek] at g2
        have : b = a := by simpa using g2
        subst this
        exact absurd g1 (hO j)
      · rw [if_neg ek] at g2; exact o.dj j k b g1 g2
  · by_cases ej : j = i
    · rw [if_pos ej] at g1
      have : b = a := by simpa using g1
      subst this
      exact ⟨h2, Same.free r.ext.h h1⟩
    · rw [if_neg ej] at g1
      refine ⟨?_, (o.no j b g1).2⟩
      rw [e.new b ((o.rep j).there b g1)]; exact (o.no j b g1).1
  · rw [gt_set hi, gt_set hi']
    by_cases ej : j = i
    · rw [if_pos ej, if_pos ej, if_pos ej]
      exact ⟨a, xs, rfl, rfl, h3, h4⟩
    · rw [if_neg ej, if_neg ej, if_neg ej]
      exact (o.rep j).mono e.f fun b _ x h => e.h b x h
/-- .. to a new empty list of lists -/
theorem R.new2 {i : Nat} {p : Addr} (r : R K F0 H0 F ρ σ H) (hi : i < ρ.length) (hp : H p = none) : R K F0 H0 F (ρ.set i (some (.ow2 []))) (σ.set i (some (.ref p))) (upd H p (.lst [])) := by
  obtain ⟨O, o⟩ := r.own
  have e : Ext F H F (upd H p (.lst [])) := Ext.mkO hp
  have s : Same F (upd H p (.lst [])) := same_upd2 r.sub (r.sub.free hp)
  have r' := r.go e s
  have hi' : i < σ.length := by rw [r.len]; exact hi
  have hO : ∀ j, p ∉ O j := fun j h => (o.rep j).there p h hp
  refine ⟨r'.ext, r'.sub, by rw [List.length_set, List.length_set]; exact r.len, fun j => if j = i then [p] else O j, ⟨fun j => ?_, fun j k b g1 g2 => ?_, fun j b g1 => ?_, fun j => ?_⟩⟩
  · split
    · simp
    · exact o.nd j
  · by_cases ej : j = i
    · rw [if_pos ej] at g1
      have : b = p := by simpa using g1
      subst this
      by_cases ek : k = i
      · rw [ej, ek]
      · rw [if_neg ek] at g2; exact absurd g2 (hO k)
    · rw [if_neg ej] at g1
      by_cases ek : k = i
      · rw [if_pos ek] at g2
        have : b = p := by simpa using g2
        subst this
        exact absurd g1 (hO j)
      · rw [if_neg ek] at g2; exact o.dj j k b g1 g2
  · by_cases ej : j = i
    · rw [if_pos ej] at g1
      have : b = p := by simpa using g1
      subst this
      exact ⟨r.sub.free hp, Same.free r.ext.h hp⟩
    · rw [if_neg ej] at g1
      exact o.no j b g1
  · rw [gt_set hi, gt_set hi']
    by_cases ej : j = i
    · rw [if_pos ej, if_pos ej, if_pos ej]
      exact ⟨p, [], rfl, rfl, upd_same, True.intro⟩
    · rw [if_neg ej, if_neg ej, if_neg ej]
      exact (o.rep j).mono e.f fun b _ x h => e.h b x h
theorem own2_get : ∀ {bs : List Addr} {dss : List (List D)} {n : Nat} {ds : List D}, Own2 K F H bs dss → dss[n]? = some ds → ∃ b xs, bs[n]? = some b ∧ H b = some (.lst xs) ∧ RpAll K F xs ds
  | [], [], _, _, _, e => by simp at e
  | b :: bs, d :: dss, 0, ds, ⟨⟨xs, h1, h2⟩, _⟩, e => by
    have : d = ds := by simpa using e
    subst this
    exact ⟨b, xs, rfl, h1, h2⟩
  | b :: bs, d :: dss, n + 1, ds, ⟨_, t⟩, e => by
    obtain ⟨b', xs, h1, h2⟩ := own2_get t (show dss[n]? = some ds by simpa using e)
    exact ⟨b', xs, by simpa using h1, h2⟩
  | [], _ :: _, _, _, h, _ => h.elim
  | _ :: _, [], _, _, h, _ => h.elim
theorem own2_set {xs' : List V} {ds' : List D} (q : RpAll K F xs' ds') : ∀ {bs : List Addr} {dss : List (List D)} {n : Nat} {b : Addr}, bs.Nodup → Own2 K F H bs dss → bs[n]? = some b → Own2 K F (upd H b (.lst xs')) bs (dss.set n ds')
  | [], [], _, _, _, _, e => by simp at e
  | c :: bs, d :: dss, 0, b, nd, ⟨_, t⟩, e => by
    have : c = b := by simpa using e
    subst this
    refine ⟨⟨xs', upd_same, q⟩, Own2.mono (Same.refl F) (fun b' hb o h => ?_) t⟩
    have : b' ≠ c := fun z => (List.nodup_cons.mp nd).1 (z ▸ hb)
    rw [upd_ne this]; exact h
  | c :: bs, d :: dss, n + 1, b, nd, ⟨⟨xs, h1, h2⟩, t⟩, e => by
    have e' : bs[n]? = some b := by simpa using e
    have : c ≠ b := fun z => (List.nodup_cons.mp nd).1 (z ▸ List.mem_of_getElem? e')
    exact ⟨⟨xs, by rw [upd_ne this]; exact h1, h2⟩, own2_set q (List.nodup_cons.mp nd).2 t e'⟩
  | [], _ :: _, _, _, _, h, _ => h.elim
  | _ :: _, [], _, _, _, h, _ => h.elim
theorem own2_snoc {b : Addr} {xs : List V} {ds : List D} (h1 : H b = some (.lst xs)) (h2 : RpAll K F xs ds) : ∀ {bs : List Addr} {dss : List (List D)}, Own2 K F H bs dss → Own2 K F H (bs ++ [b]) (dss ++ [ds])
  | [], [], _ => ⟨⟨xs, h1, h2⟩, True.intro⟩
  | c :: bs, d :: dss, ⟨q, t⟩ => ⟨q, own2_snoc h1 h2 t⟩
  | [], _ :: _, h => h.elim
  | _ :: _, [], h => h.elim
theorem own2_rp : ∀ {bs : List Addr} {dss : List (List D)}, Own2 K F H bs dss → ∀ {F' : Hp}, Same F F' → (∀ b ∈ bs, F' b = H b) → RpAll K F' (bs.map V.ref) (dss.map PyData.list)
  | [], [], _, _, _, _ => .nil
  | b :: bs, ds :: dss, ⟨⟨xs, h1, h2⟩, t⟩, F', f, he => .cons (.lst (SqL.of (by rw [he b List.mem_cons_self]; exact h1)) (da_m h2 f)) (own2_rp t f fun c hc => he c (List.mem_cons_of_mem _ hc))
  | [], _ :: _, h, _, _, _ => h.elim
  | _ :: _, [], h, _, _, _ => h.elim
end

/-! ### the readings of statements, by data -/
structure Lift (K : PySem.W.Frag) (F0 H0 Fm : Hp) (P : DP) (Dn : Ends) : Prop where
  nx : ∀ F ρ σ H, R K F0 H0 F ρ σ H → Same Fm F → P.nx ρ → Dn.nx σ H
  bk : ∀ F ρ σ H, R K F0 H0 F ρ σ H → Same Fm F → P.bk ρ → Dn.bk σ H
  ct : ∀ F ρ σ H, R K F0 H0 F ρ σ H → Same Fm F → P.ct ρ → Dn.ct σ H
  rt : ∀ v F H d, Ext F0 H0 F H → Same F H → Rp K F v d → P.rt d → Dn.rt v H
def tSs (K : PySem.W.Frag) (w : DP → Env → Prop) : TS := fun Dn σ H => ∃ F0 H0 Fm F ρ P, R K F0 H0 F ρ σ H ∧ Same Fm F ∧ w P ρ ∧ Lift K F0 H0 Fm P Dn
theorem ps_w {X : Cx} {st : Stmt} {t t' : TS} (h : PS X st t) (k : ∀ D σ H, t' D σ H → t D σ H) : PS X st t' := ⟨fun pins s σ H D I hw => h.run pins s σ H D I (k D σ H hw)⟩
theorem pss_w {X : Cx} {st : List Stmt} {t t' : TS} (h : PSs X st t) (k : ∀ D σ H, t' D σ H → t D σ H) : PSs X st t' := ⟨fun pins s σ H D I hw => h.run pins s σ H D I (k D σ H hw)⟩

section
variable {X : Cx} {C : Ck} {G : Gb} {sc : Scope}
theorem ss_nil : PSs X [] (tSs X.K (wSs G .nil)) := pss_w pss_nil fun D σ H ⟨F0, H0, Fm, F, ρ, P, rr, sm, hw, L⟩ => L.nx F ρ σ H rr sm hw
theorem ss_cons {s : S} {ss : Ss} {st : Stmt} {sts : List Stmt} (h : PS X st (tSs X.K (wS G s))) (hr : PSs X sts (tSs X.K (wSs G ss))) : PSs X (st :: sts) (tSs X.K (wSs G (.cons s ss))) :=
  pss_w (pss_cons h hr) fun D σ H ⟨F0, H0, Fm, F, ρ, P, rr, sm, hw, L⟩ =>
    ⟨F0, H0, Fm, F, ρ, { P with nx := wSs G ss P }, rr, sm, hw, ⟨fun F' ρ' σ' H' r' s' h' => ⟨F0, H0, Fm, F', ρ', P, r', s', h', L⟩, L.bk, L.ct, L.rt⟩⟩
theorem ss_frz {i : Nat} {ss : Ss} {sts : List Stmt} (hr : PSs X sts (tSs X.K (wSs G ss))) : PSs X sts (tSs X.K (wSs G (.cons (.frz i) ss))) :=
  pss_w hr fun D σ H ⟨F0, H0, Fm, F, ρ, P, rr, sm, hw, L⟩ => by
    have hw : (match gt ρ i with | some (.fz _) => wSs G ss P ρ | some (.ow ds) => wSs G ss P (ρ.set i (some (.fz (.list ds)))) | some (.ow2 dss) => wSs G ss P (ρ.set i (some (.fz (.list (dss.map .list))))) | none => wSs G ss P ρ : Prop) := hw
    obtain ⟨O, o⟩ := rr.own
    have q := o.rep i
    cases e : gt ρ i with
    | none => rw [e] at hw; exact ⟨F0, H0, Fm, F, ρ, P, rr, sm, hw, L⟩
    | some s =>
      rw [e] at hw q
      cases s with
      | fz d => exact ⟨F0, H0, Fm, F, ρ, P, rr, sm, hw, L⟩
      | ow ds =>
        obtain ⟨a, xs, e1, e2, e3, q⟩ := q
        obtain ⟨F', f, r'⟩ := rr.freeze (d := .list ds) o (gt_lt e) fun F' f he => ⟨_, e1, .lst (SqL.of (by rw [he a (by rw [e2]; simp)]; exact e3)) (da_m q f)⟩
        exact ⟨F0, H0, Fm, F', _, P, r', sm.trans f, hw, L⟩
      | ow2 dss =>
        obtain ⟨a, bs, e1, e2, e3, q⟩ := q
        obtain ⟨F', f, r'⟩ := rr.freeze (d := .list (dss.map .list)) o (gt_lt e) fun F' f he => ⟨_, e1, .lst (SqL.of (by rw [he a (by rw [e2]; simp)]; exact e3)) (own2_rp q f fun b hb => he b (by rw [e2]; exact List.mem_cons_of_mem _ hb))⟩
        exact ⟨F0, H0, Fm, F', _, P, r', sm.trans f, hw, L⟩

/-! ### assignments -/
def notComp : Expr → Bool
  | .ListComp .. => false
  | .SetComp .. => false
  | .DictComp .. => false
  | _ => true
theorem nc_swap {pe : Expr} {tg : Option Expr} {l : Nat} {env : PySem.Env} (h : notComp pe = true) : swapsWith pe tg l env = pure false := by
  cases pe <;> first | rfl | exact absurd (show false = true from h) Bool.false_ne_true
theorem asg_pe {i : Nat} {x : Str} {py pos : Pos} {pe : Expr} {te : TE} (dx : DX X C G sc) (h1 : C.N[i]? = some x) (h2 : locB sc x = true) (hf : ∀ x, X.fn x = true) (hc : notComp pe = true) (h : PE X pe te) : PS X (.Assign [.Name x py] pe pos) (tAsg te (gName i)) :=
  ps_set (by rw [dx.N]; exact dx.nd) (by rw [dx.N]; exact h1) (dx.loc h2) h (nc_swap hc) (.inl (hf x))
def swB (sc : Scope) (x : Str) (py : Pos) (scope : Scope) (pos : Pos) : Bool :=
  decide (sc.names.lookup x = some .local) && (py.line == pos.line) && !(scope.names.any fun (n, k) => n == x && (k == .local || k == .cell))
theorem asg_lc {i : Nat} {x : Str} {py pos p : Pos} {own : List (Str × Nat)} {elt : E} {tg : Tg} {it : I} {cs : Eo} {pelt ptg pit : Expr} {pifs : List Expr} {scope : Scope} (dx : DX X C G sc) (hk : sc.kind = .function) (h1 : C.N[i]? = some x) (h2 : locB sc x = true) (hf : ∀ x, X.fn x = true)
    (l : LcIn X C G sc own elt tg it cs pelt ptg pit pifs scope) :
    PS X (.Assign [.Name x py] (.ListComp pelt [⟨ptg, pit, pifs, 0⟩] scope p) pos) (tAsg (tX X.K (rF X.K) (fun ρ Q => wLc G own elt tg it cs ρ fun ds => Q (.list ds))) (gName i)) := by
  have hk' : X.env.scope.kind = .function := by rw [dx.sc]; exact hk
  cases e : swB sc x py scope p with
  | true =>
    unfold swB at e
    simp only [Bool.and_eq_true, decide_eq_true_eq, Bool.not_eq_true'] at e
    obtain ⟨⟨e1, e2⟩, e3⟩ := e
    have hl : X.env.scope.names.lookup x = some .local := by rw [dx.sc]; exact e1
    exact ps_w (ps_setLc dx.calm (by rw [dx.N]; exact dx.nd) (by rw [dx.N]; exact h1) hl (sw_true hk' hl e2 e3) l.it l.ok l.tg l.cs l.elt (plain_fold l.pl)) fun D σ H h => lc_rd l.hs h
  | false =>
    refine ps_set (by rw [dx.N]; exact dx.nd) (by rw [dx.N]; exact h1) (dx.loc h2) (l.pe dx) ?_ (.inl (hf x))
    unfold swapsWith
    dsimp only
    have hb : X.env.blockKind = .function := by unfold Env.blockKind; rw [hk']; rfl
    rw [hb]
    refine congrArg (pure : Bool → Sem Bool) ?_
    have hkk : (X.env.kindOf x == some NameKind.local) = decide (sc.names.lookup x = some .local) := by
      show (X.env.scope.names.lookup x == some NameKind.local) = _
      rw [dx.sc]
      cases h : decide (sc.names.lookup x = some .local) with
      | true => rw [of_decide_eq_true h]; rfl
      | false =>
        have h' := of_decide_eq_false h
        cases h2 : (sc.names.lookup x == some NameKind.local) with
        | false => rfl
        | true =>
          exfalso; apply h'
          cases h3 : sc.names.lookup x with
          | none => rw [h3] at h2; cases h2
          | some k => rw [h3] at h2; cases k <;> first | rfl | cases h2
    rw [hkk]
    unfold swB at e
    exact e
end
end PD

set_option maxHeartbeats 2000000
namespace PD
open PySem PySem.Spec PyProof.Rows L2

/-! ### looking at statements -/
def notTup : Expr → Bool
  | .Tuple .. => false
  | _ => true
def asAsg : Stmt → Option (Expr × Expr)
  | .Assign [t] e _ => some (t, e)
  | _ => none
def asExpr : Stmt → Option Expr
  | .Expr e _ => some e
  | _ => none
def asIfS : Stmt → Option (Expr × List Stmt × List Stmt)
  | .If c a b _ => some (c, a, b)
  | _ => none
def asWhl : Stmt → Option (Expr × List Stmt)
  | .While c b [] _ => some (c, b)
  | _ => none
def asFor : Stmt → Option (Expr × Expr × List Stmt)
  | .For t i b [] _ => some (t, i, b)
  | _ => none
def asRet : Stmt → Option (Option Expr)
  | .Return e _ => some e
  | _ => none
theorem asAsg_s {st : Stmt} {t e} (h : asAsg st = some (t, e)) : ∃ p, st = .Assign [t] e p := by
  unfold asAsg at h; split at h <;> cases h; exact ⟨_, rfl⟩
theorem asExpr_s {st : Stmt} {e} (h : asExpr st = some e) : ∃ p, st = .Expr e p := by
  unfold asExpr at h; split at h <;> cases h; exact ⟨_, rfl⟩
theorem asIfS_s {st : Stmt} {c a b} (h : asIfS st = some (c, a, b)) : ∃ p, st = .If c a b p := by
  unfold asIfS at h; split at h <;> cases h; exact ⟨_, rfl⟩
theorem asWhl_s {st : Stmt} {c b} (h : asWhl st = some (c, b)) : ∃ p, st = .While c b [] p := by
  unfold asWhl at h; split at h <;> cases h; exact ⟨_, rfl⟩
theorem asFor_s {st : Stmt} {t i b} (h : asFor st = some (t, i, b)) : ∃ p, st = .For t i b [] p := by
  unfold asFor at h; split at h <;> cases h; exact ⟨_, rfl⟩
theorem asRet_s {st : Stmt} {e} (h : asRet st = some e) : ∃ p, st = .Return e p := by
  unfold asRet at h; split at h <;> cases h; exact ⟨_, rfl⟩
def isLC : E → Bool
  | .lc .. => true
  | _ => false
def nmB (C : Ck) (sc : Scope) (i : Nat) (pe : Expr) : Bool := match asName pe with | some x => decide (C.N[i]? = some x) && visB sc x | none => false
def isFrz : S → Option Nat
  | .frz i => some i
  | _ => none
mutual
def okS (C : Ck) (sc : Scope) : S → Stmt → Bool
  | .asg tg e, st => match asAsg st with
    | some (pt, pe) => okTg C sc tg pt && okE C sc e pe && (match tg with | .nm _ => isLC e || notComp pe | .tp _ => notTup pe && notComp pe)
    | none => false
  | .own i e, st => match asAsg st with | some (pt, pe) => okTg C sc (.nm i) pt && okE C sc e pe && (isLC e || notComp pe) | none => false
  | .own2 i, st => match asAsg st with | some (pt, pe) => okTg C sc (.nm i) pt && (match asLst pe with | some [] => true | _ => false) | none => false
  | .frz _, _ => false
  | .app i e, st => match asExpr st with
    | some pe => (match asMeth pe with | some (po, m, [pa], b) => nmB C sc i po && decide (m = "append") && b && plainE pa && okE C sc e pa | _ => false)
    | none => false
  | .app2 i e, st => match asExpr st with
    | some pe => (match asMeth pe with | some (po, m, [pa], b) => nmB C sc i po && decide (m = "append") && b && plainE pa && okE C sc e pa | _ => false)
    | none => false
  | .appI i j e, st => match asExpr st with
    | some pe => (match asMeth pe with
      | some (po, m, [pa], b) => (match asSub po with | some (px, pj) => nmB C sc i px && plainE pj && okE C sc j pj && decide (m = "append") && b && plainE pa && okE C sc e pa | none => false)
      | _ => false)
    | none => false
  | .seti i j e, st => match asAsg st with
    | some (pt, pe) => (match asSub pt with | some (px, pj) => nmB C sc i px && plainE pj && okE C sc j pj && notComp pe && okE C sc e pe | none => false)
    | none => false
  | .set2 i j k e, st => match asAsg st with
    | some (pt, pe) => (match asSub pt with
      | some (px, pk) => (match asSub px with | some (py, pj) => nmB C sc i py && plainE pj && okE C sc j pj && plainE pk && okE C sc k pk && notComp pe && okE C sc e pe | none => false)
      | none => false)
    | none => false
  | .drop e, st => match asExpr st with | some pe => notComp pe && okE C sc e pe | none => false
  | .ifs c a b, st => match asIfS st with | some (pc, pa, pb) => okE C sc c pc && okSs C sc a pa && okSs C sc b pb | none => false
  | .whl c b, st => match asWhl st with | some (pc, pb) => okE C sc c pc && okSs C sc b pb | none => false
  | .fr tg it b, st => match asFor st with | some (pt, pi, pb) => okTg C sc tg pt && plainE pi && okI C sc it pi && okSs C sc b pb | none => false
  | .ret e, st => match asRet st with | some (some pe) => okE C sc e pe | _ => false
  | .retN, st => match asRet st with | some none => true | _ => false
  | .pass, st => match st with | .Pass _ => true | _ => false
  | .brk, st => match st with | .Break _ => true | _ => false
  | .cont, st => match st with | .Continue _ => true | _ => false
  | .never, _ => true
def okSs (C : Ck) (sc : Scope) : Ss → List Stmt → Bool
  | .nil, sts => match sts with | [] => true | _ => false
  | .cons s ss, sts => match isFrz s with
    | some _ => okSs C sc ss sts
    | none => match sts with | st :: sr => okS C sc s st && okSs C sc ss sr | [] => false
end

/-- a def's body -/
structure DB (X : Cx) (C : Ck) (G : Gb) (sc : Scope) : Prop where
  dx : DX X C G sc
  kd : sc.kind = .function
  hf : ∀ x, X.fn x = true
  own : PassesOwn (model X.prog X.w) X.A X.env X.xe
section
variable {X : Cx} {C : Ck} {G : Gb} {sc : Scope}
theorem nm_s {i : Nat} {pe : Expr} (dx : DX X C G sc) (h : nmB C sc i pe = true) : PE X pe (tVar i) := by
  unfold nmB at h
  cases e : asName pe with
  | none => rw [e] at h; cases h
  | some x =>
    rw [e] at h
    obtain ⟨p, rfl⟩ := asName_s e
    simp only [Bool.and_eq_true, decide_eq_true_eq] at h
    obtain ⟨v1, v2, v3⟩ := dx.vis h.2
    exact pe_var (by rw [dx.N]; exact h.1) v1 v2 v3
theorem tg_s {i : Nat} {pe : Expr} (h : okTg C sc (.nm i) pe = true) : ∃ x p, pe = .Name x p ∧ C.N[i]? = some x ∧ locB sc x = true := by
  replace h : (match asName pe with | some x => decide (C.N[i]? = some x) && locB sc x | none => false) = true := h
  cases e : asName pe with
  | none => rw [e] at h; cases h
  | some x =>
    rw [e] at h
    obtain ⟨p, rfl⟩ := asName_s e
    simp only [Bool.and_eq_true, decide_eq_true_eq] at h
    exact ⟨x, p, rfl, h.1, h.2⟩
/-- a comprehension's parts, from the look -/
theorem lc_in {own : List (Str × Nat)} {elt : E} {tg : Tg} {it : I} {cs : Eo} {pe : Expr} (dx : DX X C G sc) (h : okE C sc (.lc own elt tg it cs) pe = true) :
    ∃ pelt ptg pit pifs scope p, pe = .ListComp pelt [⟨ptg, pit, pifs, 0⟩] scope p ∧ LcIn X C G sc own elt tg it cs pelt ptg pit pifs scope := by
  unfold okE at h
  split at h
  · rename_i pelt ptg pit pifs scope e
    obtain ⟨p, rfl⟩ := asLC_s e
    simp only [Bool.and_eq_true] at h
    obtain ⟨⟨⟨⟨⟨⟨⟨h1, h2⟩, h3⟩, h4⟩, h5⟩, h6⟩, h7⟩, h8⟩ := h
    exact ⟨pelt, ptg, pit, pifs, scope, p, rfl, ⟨by rw [dx.N, dx.sc]; exact blkOk_by h1, fun i hi => by simpa using List.all_eq_true.mp h6 i hi, h5, sI it X sc pit ptg 1 (by decide) dx h2, tg_in (own := own) dx h3 (by rw [List.all_eq_true]; exact fun x hx => by simpa using List.all_eq_true.mp h4 x hx),
      fun s H Cc cl fp => sC cs (X.blk s H scope (compEnvC scope cl Cc X.env) fp) (relS scope sc) pifs dx.blk h8,
      fun s H Cc cl fp => (sE elt (X.blk s H scope (compEnvC scope cl Cc X.env) fp) (relS scope sc) pelt dx.blk h7).n 0⟩⟩
  · cases h
/-- name = e -/
theorem st_nm {i : Nat} {e : E} {pt pe : Expr} {p : Pos} (ds : DB X C G sc) (ht : okTg C sc (.nm i) pt = true) (he : okE C sc e pe = true) (hc : (isLC e || notComp pe) = true) : PS X (.Assign [pt] pe p) (tSs X.K (wS G (.asg (.nm i) e))) := by
  have dx := ds.dx
  obtain ⟨x, py, rfl, h1, h2⟩ := tg_s ht
  by_cases hn : notComp pe = true
  · refine ps_w (asg_pe dx h1 h2 ds.hf hn ((sE e X sc pe dx he).n 0)) fun D σ H ⟨F0, H0, Fm, F, ρ, P, rr, sm, hw, L⟩ => ?_
    have hw : wE G (.t 0) e ρ fun d => i < ρ.length ∧ P.nx (ρ.set i (some (.fz d))) := hw
    exact ⟨F0, H0, F, ρ, _, rr, hw, fun v F' H' d e s q ⟨hi, hq⟩ => L.nx F' _ _ H' ((rr.go e s).setF hi q) (sm.trans e.f) hq⟩
  · have hl : isLC e = true := by
      cases h3 : isLC e with
      | true => rfl
      | false => rw [h3] at hc; exact absurd hc hn
    cases e with
    | lc own elt tg it cs =>
      obtain ⟨pelt, ptg, pit, pifs, scope, q, rfl, l⟩ := lc_in dx he
      refine ps_w (asg_lc (py := py) (pos := p) (p := q) dx ds.kd h1 h2 ds.hf l) fun D σ H ⟨F0, H0, Fm, F, ρ, P, rr, sm, hw, L⟩ => ?_
      have hw : wLc G own elt tg it cs ρ fun ds => i < ρ.length ∧ P.nx (ρ.set i (some (.fz (.list ds)))) := hw
      refine ⟨F0, H0, F, ρ, fun d => match d with | .list ds => i < ρ.length ∧ P.nx (ρ.set i (some (.fz (.list ds)))) | _ => False, rr, hw, fun v F' H' d e s ⟨ds, hd, f⟩ hq => ?_⟩
      subst hd
      obtain ⟨F'', e2, s2, q2⟩ := f.freeze s e
      exact L.nx F'' _ _ H' ((rr.go e2 s2).setF hq.1 q2) (sm.trans e2.f) hq.2
    | _ => cases hl
/-- name = e, a new list of its own -/
theorem st_own {i : Nat} {e : E} {pt pe : Expr} {p : Pos} (ds : DB X C G sc) (ht : okTg C sc (.nm i) pt = true) (he : okE C sc e pe = true) (hc : (isLC e || notComp pe) = true) : PS X (.Assign [pt] pe p) (tSs X.K (wS G (.own i e))) := by
  have dx := ds.dx
  obtain ⟨x, py, rfl, h1, h2⟩ := tg_s ht
  by_cases hn : notComp pe = true
  · refine ps_w (asg_pe dx h1 h2 ds.hf hn (sE e X sc pe dx he).f) fun D σ H ⟨F0, H0, Fm, F, ρ, P, rr, sm, hw, L⟩ => ?_
    have hw : wE G .fr e ρ fun d => ∃ ds, d = .list ds ∧ i < ρ.length ∧ P.nx (ρ.set i (some (.ow ds))) := hw
    refine ⟨F0, H0, F, ρ, _, rr, hw, fun v F' H' d e s ⟨ds, hd, f⟩ ⟨ds', hd', hi, hq⟩ => ?_⟩
    subst hd
    cases hd'
    exact L.nx F' _ _ H' (rr.new hi e s f) (sm.trans e.f) hq
  · have hl : isLC e = true := by
      cases h3 : isLC e with
      | true => rfl
      | false => rw [h3] at hc; exact absurd hc hn
    cases e with
    | lc own elt tg it cs =>
      obtain ⟨pelt, ptg, pit, pifs, scope, q, rfl, l⟩ := lc_in dx he
      refine ps_w (asg_lc (py := py) (pos := p) (p := q) dx ds.kd h1 h2 ds.hf l) fun D σ H ⟨F0, H0, Fm, F, ρ, P, rr, sm, hw, L⟩ => ?_
      have hw : wLc G own elt tg it cs ρ fun ds => ∃ ds', PyData.list ds = .list ds' ∧ i < ρ.length ∧ P.nx (ρ.set i (some (.ow ds'))) := hw
      refine ⟨F0, H0, F, ρ, fun d => match d with | .list ds => ∃ ds', PyData.list ds = .list ds' ∧ i < ρ.length ∧ P.nx (ρ.set i (some (.ow ds'))) | _ => False, rr, hw, fun v F' H' d e s ⟨ds, hd, f⟩ hq => ?_⟩
      subst hd
      obtain ⟨ds', h3, hi, hq⟩ := hq
      cases h3
      exact L.nx F' _ _ H' (rr.new hi e s f) (sm.trans e.f) hq
    | _ => cases hl
theorem st_own2 {i : Nat} {pt : Expr} {p q : Pos} (ds : DB X C G sc) (ht : okTg C sc (.nm i) pt = true) : PS X (.Assign [pt] (.List [] q) p) (tSs X.K (wS G (.own2 i))) := by
  obtain ⟨x, py, rfl, h1, h2⟩ := tg_s ht
  refine ps_w (asg_pe ds.dx h1 h2 ds.hf rfl (pe_lst pa_nil)) fun D σ H ⟨F0, H0, Fm, F, ρ, P, rr, sm, hw, L⟩ => ?_
  obtain ⟨hi, hw⟩ : i < ρ.length ∧ P.nx (ρ.set i (some (.ow2 []))) := hw
  exact ⟨Nat.zero_le _, fun o ho => L.nx F _ _ _ (rr.new2 hi ho) sm hw⟩
theorem pure_none {t e : Expr} {env : PySem.Env} (h : notTup e = true) : swappedStores [t] e env = pure none := by
  cases t <;> cases e <;> first | rfl | exact absurd (show false = true from h) Bool.false_ne_true
theorem st_tp {is : List Nat} {e : E} {pt pe : Expr} {p : Pos} (ds : DB X C G sc) (ht : okTg C sc (.tp is) pt = true) (he : okE C sc e pe = true) (h1 : notTup pe = true) (h2 : notComp pe = true) : PS X (.Assign [pt] pe p) (tSs X.K (wS G (.asg (.tp is) e))) := by
  have dx := ds.dx
  have hg := snd_tg X dx.calm dx.N dx.nd dx.sc ht (fun x _ => .inl (ds.hf x))
  have hpt : ∃ es j q, pt = .Tuple es j q := by
    replace ht : (match asTup pt with | some es => okTgs C sc is es | none => false) = true := ht
    cases e : asTup pt with
    | none => rw [e] at ht; cases ht
    | some es => obtain ⟨j, q, rfl⟩ := asTup_s e; exact ⟨es, j, q, rfl⟩
  obtain ⟨es, j, q, rfl⟩ := hpt
  refine ps_w (ps_asg ((sE e X sc pe dx he).n 0) hg (by show swapsWith pe (some (.Tuple es j q)) p.line X.env = _; exact nc_swap h2) (pure_none h1) rfl) fun D σ H ⟨F0, H0, Fm, F, ρ, P, rr, sm, hw, L⟩ => ?_
  have hw : wE G (.t 0) e ρ fun d => wG (.tp is) d ρ P.nx := hw
  exact ⟨F0, H0, F, ρ, _, rr, hw, fun v F' H' d e s q hq => ⟨F0, H0, F', ρ, d, _, rr.go e s, q, hq, fun ρ' σ' r' _ _ hn => L.nx F' ρ' σ' H' r' (sm.trans e.f) hn⟩⟩

/-! ### lists are written -/
theorem own_at {K : PySem.W.Frag} {F0 H0 F H : Hp} {ρ : Env} {σ : Sg} {i : Nat} {ds : List D} (r : R K F0 H0 F ρ σ H) (h : gt ρ i = some (.ow ds)) : ∃ a xs, σ[i]? = some (some (.ref a)) ∧ H a = some (.lst xs) ∧ RpAll K F xs ds ∧
    ∀ (xs' : List V) (ds' : List D), RpAll K F xs' ds' → R K F0 H0 F (ρ.set i (some (.ow ds'))) σ (upd H a (.lst xs')) := by
  obtain ⟨O, o⟩ := r.own
  have q := o.rep i
  rw [h] at q
  obtain ⟨a, xs, e1, e2, e3, q⟩ := q
  refine ⟨a, xs, gt_some e1, e3, q, fun xs' ds' q' => r.write o (gt_lt h) (os := [a]) (by simp) (fun b hb => ?_) (fun j hj b hb hb' => ?_) (fun b hb => upd_ne (by simpa using hb)) ⟨a, xs', e1, rfl, upd_same, q'⟩⟩
  · exact o.no i b (by rw [e2]; exact hb)
  · exact hj (o.dj j i b hb' (by rw [e2]; exact hb))
theorem own2_at {K : PySem.W.Frag} {F0 H0 F H : Hp} {ρ : Env} {σ : Sg} {i : Nat} {dss : List (List D)} (r : R K F0 H0 F ρ σ H) (h : gt ρ i = some (.ow2 dss)) : ∃ a bs, σ[i]? = some (some (.ref a)) ∧ H a = some (.lst (bs.map V.ref)) ∧ Own2 K F H bs dss ∧
    (∀ (b : Addr) (xs : List V) (ds : List D), (∀ O, Owns K H0 F ρ σ H O → ∀ j, b ∉ O j) → F b = none → H0 b = none → H b = some (.lst xs) → RpAll K F xs ds → R K F0 H0 F (ρ.set i (some (.ow2 (dss ++ [ds])))) σ (upd H a (.lst ((bs ++ [b]).map V.ref)))) ∧
    (∀ (n : Nat) (b : Addr) (xs' : List V) (ds' : List D), bs[n]? = some b → RpAll K F xs' ds' → R K F0 H0 F (ρ.set i (some (.ow2 (dss.set n ds')))) σ (upd H b (.lst xs'))) := by
  obtain ⟨O, o⟩ := r.own
  have q := o.rep i
  rw [h] at q
  obtain ⟨a, bs, e1, e2, e3, q⟩ := q
  have nd := o.nd i
  rw [e2, List.nodup_cons] at nd
  refine ⟨a, bs, gt_some e1, e3, q, fun b xs ds hb hF hH hb2 hr => ?_, fun n b xs' ds' hn hr => ?_⟩
  · have hb := hb O o
    have nb : b ≠ a := fun z => hb i (by rw [e2, z]; simp)
    have nbs : b ∉ bs := fun z => hb i (by rw [e2]; exact List.mem_cons_of_mem _ z)
    have inO : ∀ c, c ∈ a :: (bs ++ [b]) → c = b ∨ c ∈ O i := fun c hc => by
      rw [e2]
      simp only [List.mem_cons, List.mem_append, List.mem_singleton] at hc ⊢
      rcases hc with hc | hc | hc | hc
      · exact .inr (.inl hc)
      · exact .inr (.inr hc)
      · exact .inl hc
      · cases hc
    refine r.write o (gt_lt h) (os := a :: (bs ++ [b])) ?_ (fun c hc => ?_) (fun j hj c hc hc' => ?_) (fun c hc => upd_ne (fun z => hc (by rw [z]; simp))) ⟨a, bs ++ [b], e1, rfl, upd_same, ?_⟩
    · rw [List.nodup_cons, List.nodup_append]
      refine ⟨by simp only [List.mem_append, List.mem_singleton, not_or]; exact ⟨nd.1, fun z => nb z.symm⟩, nd.2, by simp, fun c hc d hd z => ?_⟩
      have : d = b := by simpa using hd
      subst this
      subst z
      exact nbs hc
    · rcases inO c hc with rfl | hc
      · exact ⟨hF, hH⟩
      · exact o.no i c hc
    · rcases inO c hc with rfl | hc
      · exact hb j hc'
      · exact hj (o.dj j i c hc' hc)
    · refine own2_snoc (xs := xs) (by rw [upd_ne nb]; exact hb2) hr (q.mono (Same.refl F) fun c hc x hx => ?_)
      have : c ≠ a := fun z => nd.1 (z ▸ hc)
      rw [upd_ne this]; exact hx
  · have hb : b ∈ bs := List.mem_of_getElem? hn
    have nb : a ≠ b := fun z => nd.1 (z ▸ hb)
    refine r.write o (gt_lt h) (os := a :: bs) (by rw [List.nodup_cons]; exact nd) (fun c hc => o.no i c (by rw [e2]; exact hc)) (fun j hj c hc hc' => hj (o.dj j i c hc' (by rw [e2]; exact hc))) (fun c hc => upd_ne (fun z => hc (by rw [z]; exact List.mem_cons_of_mem _ hb)))
      ⟨a, bs, e1, rfl, by rw [upd_ne nb]; exact e3, own2_set hr nd.2 q hn⟩
theorem few1 {pa : Expr} {cp : Pos} (h : plainE pa = true) : ((backTo cp (starEach [pa] X.env)).all (fun x => !x.1) && (backToKw cp (keywordEach [] X.env)).all (fun x => x.1.isSome)
      && decide ([pa].length + ([] : List Keyword).length + (if ([] : List Keyword).isEmpty then 0 else 1) < 30)) = true := by
  rw [star_few (by rw [List.all_cons, h]; rfl), Bool.true_and]; rfl
/-- o.append(e), by the readings of o and e -/
theorem pe_app {po pa : Expr} {ap cp : Pos} {to te : TE} (hp : plainE pa = true) (hs : noSup po = true) (hl : (ap.endLine == cp.line) = true) (ho : PE X po to) (he : PE X pa te) :
    PE X (.Call (.Attribute po "append" ap) [pa] [] cp) (tBM X.K "list" rAppend to (tCons te tNil)) :=
  pe_bm F.plainAttrs_list F.slot_list_append F.type_list_append mt_append ho (pa_cons he pa_nil (star_cons hp)) (base_id hs) (few1 hp) hl (star_cons hp) rfl
theorem nm_sup {i : Nat} {pe : Expr} (h : nmB C sc i pe = true) : noSup pe = true := by
  unfold nmB at h
  cases e : asName pe with
  | none => rw [e] at h; cases h
  | some x => obtain ⟨p, rfl⟩ := asName_s e; rfl
theorem st_app {i : Nat} {e : E} {po pa : Expr} {ap cp p : Pos} (ds : DB X C G sc) (h1 : nmB C sc i po = true) (hl : (ap.endLine == cp.line) = true) (hp : plainE pa = true) (he : okE C sc e pa = true) :
    PS X (.Expr (.Call (.Attribute po "append" ap) [pa] [] cp) p) (tSs X.K (wS G (.app i e))) := by
  refine ps_w (ps_expr (pe_app hp (nm_sup h1) hl (nm_s ds.dx h1) ((sE e X sc pa ds.dx he).n 0)) rfl) fun D σ H ⟨F0, H0, Fm, F, ρ, P, rr, sm, hw, L⟩ => ?_
  obtain ⟨xs, hi, hw⟩ : ∃ xs, gt ρ i = some (.ow xs) ∧ wE G (.t 0) e ρ fun d => xs.length < sizeLine ∧ P.nx (ρ.set i (some (.ow (xs ++ [d])))) := hw
  obtain ⟨a, vs, g1, g2, g3, _⟩ := own_at rr hi
  refine ⟨_, g1, .inl ⟨rfl, vs, SqL.of g2⟩, F0, H0, F, ρ, _, rr, hw, fun v F' H' d e s q ⟨hz, hq⟩ => ?_⟩
  obtain ⟨a', vs', k1, k2, k3, k4⟩ := own_at (rr.go e s) hi
  have ea : a = a' := by
    have z := g1.symm.trans k1
    cases z; rfl
  subst ea
  exact ⟨a, vs', v, rfl, rfl, k2, by rw [da_len k3]; exact hz, L.nx F' _ _ _ (k4 _ _ (da_snoc k3 q)) (sm.trans e.f) hq⟩
theorem refs_inj {xs ys : List Addr} (h : some (HO.lst (xs.map V.ref)) = some (HO.lst (ys.map V.ref))) : xs = ys := by
  have z := Option.some.inj h
  injection z with z
  exact (List.map_inj_right (fun x y h => by cases h; rfl)).mp z
theorem st_app2 {i : Nat} {e : E} {po pa : Expr} {ap cp p : Pos} (ds : DB X C G sc) (h1 : nmB C sc i po = true) (hl : (ap.endLine == cp.line) = true) (hp : plainE pa = true) (he : okE C sc e pa = true) :
    PS X (.Expr (.Call (.Attribute po "append" ap) [pa] [] cp) p) (tSs X.K (wS G (.app2 i e))) := by
  refine ps_w (ps_expr (pe_app hp (nm_sup h1) hl (nm_s ds.dx h1) (sE e X sc pa ds.dx he).f) rfl) fun D σ H ⟨F0, H0, Fm, F, ρ, P, rr, sm, hw, L⟩ => ?_
  obtain ⟨dss, hi, hw⟩ : ∃ dss, gt ρ i = some (.ow2 dss) ∧ wE G .fr e ρ fun d => ∃ ds, d = .list ds ∧ dss.length < sizeLine ∧ P.nx (ρ.set i (some (.ow2 (dss ++ [ds])))) := hw
  obtain ⟨a, bs, g1, g2, g3, _, _⟩ := own2_at rr hi
  refine ⟨_, g1, .inl ⟨rfl, _, SqL.of g2⟩, F0, H0, F, ρ, _, rr, hw, fun v F' H' d e s ⟨ds, hd, f⟩ ⟨ds', hd', hz, hq⟩ => ?_⟩
  subst hd
  cases hd'
  obtain ⟨a', bs', k1, k2, k3, k4, _⟩ := own2_at (rr.go e s) hi
  have ea : a = a' := by
    have z := g1.symm.trans k1
    cases z; rfl
  subst ea
  obtain ⟨b, xs, rfl, f1, f2, f3, f4⟩ := f
  have fr : ∀ O, Owns X.K H0 F' ρ σ H' O → ∀ j, b ∉ O j := by
    intro O o j hb
    obtain ⟨O1, o1⟩ := rr.own
    have q1 := o1.rep j
    have q2 := o.rep j
    -- the slot's own addresses stood before
    cases e1 : gt ρ j with
    | none => rw [e1] at q2; rw [q2] at hb; simp at hb
    | some s1 =>
      rw [e1] at q1 q2
      cases s1 with
      | fz d => rw [q2.1] at hb; simp at hb
      | ow ys =>
        obtain ⟨c, zs, u1, u2, u3, _⟩ := q1
        obtain ⟨c', zs', w1, w2, w3, _⟩ := q2
        have : c = c' := by
          have z := u1.symm.trans w1
          cases z; rfl
        subst this
        rw [w2] at hb
        have : b = c := by simpa using hb
        rw [this, u3] at f1; cases f1
      | ow2 yss =>
        obtain ⟨c, cs, u1, u2, u3, u4⟩ := q1
        obtain ⟨c', cs', w1, w2, w3, w4⟩ := q2
        have : c = c' := by
          have z := u1.symm.trans w1
          cases z; rfl
        subst this
        have e3 := e.h _ _ u3
        rw [w3] at e3
        obtain rfl := refs_inj e3
        rw [w2] at hb
        rcases List.mem_cons.mp hb with z | z
        · rw [z, u3] at f1; cases f1
        · exact u4.there b z f1
  refine ⟨a, _, .ref b, rfl, rfl, k2, by rw [List.length_map, own2_len k3]; exact hz, ?_⟩
  rw [show bs'.map V.ref ++ [V.ref b] = (bs' ++ [b]).map V.ref by simp]
  exact L.nx F' _ _ _ (k4 b xs ds fr f2 (Same.free rr.ext.h f1) f3 f4) (sm.trans e.f) hq
theorem atI_of_ix {α : Type} {xs : List α} {k : Int} {n : Nat} {x : α} (h : ixN xs.length k = some n) (h2 : xs[n]? = some x) : atI xs k = some x := by
  unfold atI
  rw [h]; exact h2
/-- x[j], a list of a slot's own -/
theorem pe_in {i : Nat} {j : E} {px pj : Expr} {q : Pos} (ds : DB X C G sc) (h1 : nmB C sc i px = true) (hpj : plainE pj = true) (hj : okE C sc j pj = true) : PE X (.Subscript px pj q) (tOp (rIx X.K) (tVar i) (tN X.K 0 (wE G (.t 0) j))) :=
  pe_ix ix_seq (nm_s ds.dx h1) ((sE j X sc pj ds.dx hj).n 0) (plain_sub hpj)
theorem st_appI {i : Nat} {j e : E} {px pj pa : Expr} {q ap cp p : Pos} (ds : DB X C G sc) (h1 : nmB C sc i px = true) (hpj : plainE pj = true) (hj : okE C sc j pj = true) (hl : (ap.endLine == cp.line) = true) (hp : plainE pa = true) (he : okE C sc e pa = true) :
    PS X (.Expr (.Call (.Attribute (.Subscript px pj q) "append" ap) [pa] [] cp) p) (tSs X.K (wS G (.appI i j e))) := by
  refine ps_w (ps_expr (pe_app hp rfl hl (pe_in ds h1 hpj hj) ((sE e X sc pa ds.dx he).n 0)) rfl) fun D σ H ⟨F0, H0, Fm, F, ρ, P, rr, sm, hw, L⟩ => ?_
  obtain ⟨dss, hi, hw⟩ : ∃ dss, gt ρ i = some (.ow2 dss) ∧ wE G (.t 0) j ρ fun y => ∃ k n ds, y = .int k ∧ ixN dss.length k = some n ∧ dss[n]? = some ds ∧ wE G (.t 0) e ρ fun d => ds.length < sizeLine ∧ P.nx (ρ.set i (some (.ow2 (dss.set n (ds ++ [d]))))) := hw
  obtain ⟨a, bs, g1, g2, g3, _, _⟩ := own2_at rr hi
  refine ⟨_, g1, F0, H0, F, ρ, _, rr, hw, fun y F1 H1 d1 e1 s1 q1 ⟨k, n, ds1, hy, hk, hn, hw1⟩ => ?_⟩
  subst hy
  obtain rfl := sc_int q1
  obtain ⟨a1, bs1, k1, k2, k3, _, _⟩ := own2_at (rr.go e1 s1) hi
  have ea : a = a1 := by
    have z := g1.symm.trans k1
    cases z; rfl
  subst ea
  obtain ⟨b, xs, b1, b2, b3⟩ := own2_get k3 hn
  refine .inl ⟨a, _, k, .ref b, rfl, rfl, SqL.of k2, atI_of_ix (n := n) (by rw [List.length_map, own2_len k3]; exact hk) (by rw [List.getElem?_map, b1]; rfl), ?_⟩
  refine ⟨.inl ⟨rfl, xs, SqL.of b2⟩, F0, H0, F1, ρ, _, rr.go e1 s1, hw1, fun v F2 H2 d e2 s2 q2 ⟨hz, hq⟩ => ?_⟩
  obtain ⟨a2, bs2, m1, m2, m3, _, m5⟩ := own2_at ((rr.go e1 s1).go e2 s2) hi
  have ea : a = a2 := by
    have z := g1.symm.trans m1
    cases z; rfl
  subst ea
  obtain rfl := refs_inj (m2.symm.trans (e2.h _ _ k2))
  exact ⟨b, xs, v, rfl, rfl, e2.h _ _ b2, by rw [da_len b3]; exact hz, L.nx F2 _ _ _ (m5 n b _ _ b1 (da_snoc (da_m b3 e2.f) q2)) (sm.trans (e1.trans e2).f) hq⟩
theorem plain_asg {o i : Expr} {pos : Pos} {env : PySem.Env} (h : plainE i = true) : ∀ v, assign (.Subscript o i pos) env v = (do
      let ov ← holding [v] (eval o env)
      let iv ← holding [v, ov] (eval i env)
      standAt pos
      holding [v, ov, iv] (setItem ov iv v)
      release [v, ov, iv] []) := by
  intro v
  cases i <;> first | rfl | exact absurd (show false = true from h) Bool.false_ne_true
theorem st_seti {i : Nat} {j e : E} {px pj pe : Expr} {q p : Pos} (ds : DB X C G sc) (h1 : nmB C sc i px = true) (hpj : plainE pj = true) (hj : okE C sc j pj = true) (hc : notComp pe = true) (he : okE C sc e pe = true) :
    PS X (.Assign [.Subscript px pj q] pe p) (tSs X.K (wS G (.seti i j e))) := by
  refine ps_w (ps_asg ((sE e X sc pe ds.dx he).n 0) (pg_sub (nm_s ds.dx h1) ((sE j X sc pj ds.dx hj).n 0) set_list (plain_asg hpj)) (by show swapsWith pe (some (.Subscript px pj q)) p.line X.env = _; exact nc_swap hc) (by cases pe <;> rfl) rfl)
    fun Dn σ H ⟨F0, H0, Fm, F, ρ, P, rr, sm, hw, L⟩ => ?_
  obtain ⟨xs, hi, hw⟩ : ∃ xs, gt ρ i = some (.ow xs) ∧ wE G (.t 0) e ρ fun d => wE G (.t 0) j ρ fun y => ∃ k n, y = .int k ∧ ixN xs.length k = some n ∧ P.nx (ρ.set i (some (.ow (xs.set n d)))) := hw
  obtain ⟨a, vs, g1, g2, g3, _⟩ := own_at rr hi
  refine ⟨F0, H0, F, ρ, _, rr, hw, fun v F1 H1 d e1 s1 q1 hw1 => ⟨_, g1, F0, H0, F1, ρ, _, rr.go e1 s1, hw1, fun y F2 H2 d2 e2 s2 q2 ⟨k, n, hy, hk, hq⟩ => ?_⟩⟩
  subst hy
  obtain rfl := sc_int q2
  obtain ⟨a', vs', k1, k2, k3, k4⟩ := own_at ((rr.go e1 s1).go e2 s2) hi
  have ea : a = a' := by
    have z := g1.symm.trans k1
    cases z; rfl
  subst ea
  exact ⟨a, vs', k, n, rfl, rfl, k2, by rw [da_len k3]; exact hk, L.nx F2 _ _ _ (k4 _ _ (da_set (dp_m q1 e2.f) n k3)) (sm.trans (e1.trans e2).f) hq⟩
theorem st_set2 {i : Nat} {j k e : E} {px pj pk pe : Expr} {q q2 p : Pos} (ds : DB X C G sc) (h1 : nmB C sc i px = true) (hpj : plainE pj = true) (hj : okE C sc j pj = true) (hpk : plainE pk = true) (hk : okE C sc k pk = true) (hc : notComp pe = true) (he : okE C sc e pe = true) :
    PS X (.Assign [.Subscript (.Subscript px pj q) pk q2] pe p) (tSs X.K (wS G (.set2 i j k e))) := by
  refine ps_w (ps_asg ((sE e X sc pe ds.dx he).n 0) (pg_sub (pe_in ds h1 hpj hj) ((sE k X sc pk ds.dx hk).n 0) set_list (plain_asg hpk)) (by show swapsWith pe (some (.Subscript (.Subscript px pj q) pk q2)) p.line X.env = _; exact nc_swap hc) (by cases pe <;> rfl) rfl)
    fun Dn σ H ⟨F0, H0, Fm, F, ρ, P, rr, sm, hw, L⟩ => ?_
  obtain ⟨dss, hi, hw⟩ : ∃ dss, gt ρ i = some (.ow2 dss) ∧ wE G (.t 0) e ρ fun d => wE G (.t 0) j ρ fun y => ∃ k1 n1 ds, y = .int k1 ∧ ixN dss.length k1 = some n1 ∧ dss[n1]? = some ds ∧
      wE G (.t 0) k ρ fun z => ∃ k2 n2, z = .int k2 ∧ ixN ds.length k2 = some n2 ∧ P.nx (ρ.set i (some (.ow2 (dss.set n1 (ds.set n2 d))))) := hw
  obtain ⟨a, bs, g1, g2, g3, _, _⟩ := own2_at rr hi
  refine ⟨F0, H0, F, ρ, _, rr, hw, fun v F1 H1 d e1 s1 q1 hw1 => ⟨_, g1, F0, H0, F1, ρ, _, rr.go e1 s1, hw1, fun y F2 H2 d2 e2 s2 qy ⟨k1, n1, ds1, hy, hk1, hn1, hw2⟩ => ?_⟩⟩
  subst hy
  obtain rfl := sc_int qy
  obtain ⟨a1, bs1, m1, m2, m3, _, _⟩ := own2_at ((rr.go e1 s1).go e2 s2) hi
  have ea : a = a1 := by
    have z := g1.symm.trans m1
    cases z; rfl
  subst ea
  obtain ⟨b, xs, b1, b2, b3⟩ := own2_get m3 hn1
  refine .inl ⟨a, _, k1, .ref b, rfl, rfl, SqL.of m2, atI_of_ix (n := n1) (by rw [List.length_map, own2_len m3]; exact hk1) (by rw [List.getElem?_map, b1]; rfl), ?_⟩
  refine ⟨F0, H0, F2, ρ, _, (rr.go e1 s1).go e2 s2, hw2, fun z F3 H3 d3 e3 s3 qz ⟨k2, n2, hz, hk2, hq⟩ => ?_⟩
  subst hz
  obtain rfl := sc_int qz
  obtain ⟨a2, bs2, l1, l2, l3, _, l5⟩ := own2_at (((rr.go e1 s1).go e2 s2).go e3 s3) hi
  have ea : a = a2 := by
    have z := g1.symm.trans l1
    cases z; rfl
  subst ea
  obtain rfl := refs_inj (l2.symm.trans (e3.h _ _ m2))
  have e23 := e2.trans e3
  exact ⟨b, xs, k2, n2, rfl, rfl, e3.h _ _ b2, by rw [da_len b3]; exact hk2, L.nx F3 _ _ _ (l5 n1 b _ _ b1 (da_set (dp_m q1 e23.f) n2 (da_m b3 e3.f))) (sm.trans (e1.trans e23).f) hq⟩
theorem st_drop {e : E} {pe : Expr} {p : Pos} (ds : DB X C G sc) (hc : notComp pe = true) (he : okE C sc e pe = true) : PS X (.Expr pe p) (tSs X.K (wS G (.drop e))) :=
  ps_w (ps_expr ((sE e X sc pe ds.dx he).n 0) (nc_swap hc)) fun Dn σ H ⟨F0, H0, Fm, F, ρ, P, rr, sm, hw, L⟩ =>
    ⟨F0, H0, F, ρ, _, rr, hw, fun v F' H' d e s q hq => L.nx F' ρ σ H' (rr.go e s) (sm.trans e.f) hq⟩
theorem st_ret {e : E} {pe : Expr} {p : Pos} (ds : DB X C G sc) (he : okE C sc e pe = true) : PS X (.Return (some pe) p) (tSs X.K (wS G (.ret e))) :=
  ps_w (ps_ret ((sE e X sc pe ds.dx he).n 0)) fun Dn σ H ⟨F0, H0, Fm, F, ρ, P, rr, sm, hw, L⟩ =>
    ⟨F0, H0, F, ρ, _, rr, hw, fun v F' H' d e s q hq => L.rt v F' H' d (rr.ext.trans e) s q hq⟩
theorem st_retN {p : Pos} : PS X (.Return none p) (tSs X.K (wS G .retN)) :=
  ps_w ps_retN fun Dn σ H ⟨F0, H0, Fm, F, ρ, P, rr, sm, hw, L⟩ => L.rt .non F H .none rr.ext rr.sub .non hw
theorem st_if {c : E} {a b : Ss} {pc : Expr} {pa pb : List Stmt} {p : Pos} (ds : DB X C G sc) (hc : okE C sc c pc = true) (ha : PSs X pa (tSs X.K (wSs G a))) (hb : PSs X pb (tSs X.K (wSs G b))) : PS X (.If pc pa pb p) (tSs X.K (wS G (.ifs c a b))) := by
  refine ps_w (ps_if (sE c X sc pc ds.dx hc).t ha hb) fun Dn σ H ⟨F0, H0, Fm, F, ρ, P, rr, sm, hw, L⟩ => ?_
  have hw : wE G .tst c ρ fun x => ∃ k, x = .bool k ∧ (if k = true then wSs G a P ρ else wSs G b P ρ) := hw
  refine ⟨F0, H0, F, ρ, _, rr, hw, fun k F' H' e s ⟨k', hk, hq⟩ => ?_⟩
  cases hk
  cases k with
  | true => exact ⟨F0, H0, Fm, F', ρ, P, rr.go e s, sm.trans e.f, hq, L⟩
  | false => exact ⟨F0, H0, Fm, F', ρ, P, rr.go e s, sm.trans e.f, hq, L⟩
theorem st_whl {c : E} {b : Ss} {pc : Expr} {pb : List Stmt} {p : Pos} (ds : DB X C G sc) (hc : okE C sc c pc = true) (hb : PSs X pb (tSs X.K (wSs G b))) : PS X (.While pc pb [] p) (tSs X.K (wS G (.whl c b))) := by
  refine ps_w (ps_while ds.own (sE c X sc pc ds.dx hc).t hb) fun Dn σ H ⟨F0, H0, Fm, F, ρ, P, rr, sm, hw, L⟩ => ?_
  obtain ⟨W, ⟨m0, w0⟩, step⟩ : wWhl (fun ρ Q => wE G .tst c ρ fun x => ∃ k, x = .bool k ∧ Q k) (wSs G b) P ρ := hw
  refine ⟨fun m σ H => ∃ F' ρ', R X.K F0 H0 F' ρ' σ H ∧ Same Fm F' ∧ W m ρ', ⟨m0, F, ρ, rr, sm, w0⟩, ?_⟩
  rintro m σ1 H1 ⟨F1, ρ1, r1, sm1, w1⟩
  have st := step m ρ1 w1
  refine ⟨F0, H0, F1, ρ1, _, r1, st, fun k F2 H2 e s ⟨k', hk, hq⟩ => ?_⟩
  cases hk
  cases k with
  | true =>
    refine ⟨fun σ' H' => ∃ m', m' < m ∧ ∃ F' ρ', R X.K F0 H0 F' ρ' σ' H' ∧ Same Fm F' ∧ W m' ρ', fun σ' H' h => h, F0, H0, Fm, F2, ρ1, _, r1.go e s, sm1.trans e.f, hq, ?_⟩
    exact ⟨fun F' ρ' σ' H' r' s' ⟨m', hm, hw'⟩ => ⟨m', hm, F', ρ', r', s', hw'⟩, fun F' ρ' σ' H' r' s' h => L.nx F' ρ' σ' H' r' s' h, fun F' ρ' σ' H' r' s' ⟨m', hm, hw'⟩ => ⟨m', hm, F', ρ', r', s', hw'⟩, L.rt⟩
  | false => exact L.nx F2 ρ1 σ1 H2 (r1.go e s) (sm1.trans e.f) hq
theorem st_for {tg : Tg} {it : I} {b : Ss} {pt pi : Expr} {pb : List Stmt} {p : Pos} (ds : DB X C G sc) (ht : okTg C sc tg pt = true) (hp : plainE pi = true) (hi : okI C sc it pi = true) (hb : PSs X pb (tSs X.K (wSs G b))) : PS X (.For pt pi pb [] p) (tSs X.K (wS G (.fr tg it b))) := by
  have dx := ds.dx
  refine ps_w (ps_for ds.own dx.calm (sI it X sc pi pt 0 (by decide) dx hi) (snd_tg X dx.calm dx.N dx.nd dx.sc ht (fun x _ => .inl (ds.hf x))) hb (plain_fold hp)) fun Dn σ H ⟨F0, H0, Fm, F, ρ, P, rr, sm, hw, L⟩ => ?_
  have hw : wI G 0 it ρ fun xs => wFor (wG tg) (wSs G b) P xs ρ := hw
  refine ⟨F0, H0, F, ρ, _, rr, hw, fun J F1 H1 xs e1 s1 srv hq => ?_⟩
  refine ⟨fun i m σ H => m = xs.length - i ∧ i ≤ xs.length ∧ ∃ F' ρ', R X.K F0 H0 F' ρ' σ H ∧ Same Fm F' ∧ Same F1 F' ∧ wFor (wG tg) (wSs G b) P (xs.drop i) ρ', ⟨xs.length, by simp, Nat.zero_le _, F1, ρ, rr.go e1 s1, sm.trans e1.f, Same.refl F1, hq⟩, ?_⟩
  rintro i m σ2 H2 ⟨rfl, hle, F2, ρ2, r2, sm2, f2, hq2⟩
  by_cases hlt : i < xs.length
  · obtain ⟨go, yl⟩ := srv.turn i F2 H2 f2 (fun z => by cases z) r2.sub _ (List.getElem?_eq_getElem hlt)
    refine .inr ⟨go, fun σ' H' => ∃ F' ρ', R X.K F0 H0 F' ρ' σ' H' ∧ Same Fm F' ∧ Same F1 F' ∧ wFor (wG tg) (wSs G b) P (xs.drop (i + 1)) ρ', fun σ' H' h => ⟨xs.length - (i + 1), by omega, rfl, hlt, h⟩, fun x H3 hy => ?_⟩
    obtain ⟨F3, e3, s3, rx⟩ := yl x H3 hy
    rw [List.drop_eq_getElem_cons hlt] at hq2
    refine ⟨F0, H0, F3, ρ2, xs[i], _, r2.go e3 s3, rx, hq2, fun ρ4 σ4 r4 _ _ hq4 => ?_⟩
    refine ⟨F0, H0, F3, F3, ρ4, _, r4, Same.refl F3, hq4, ?_⟩
    have b3 : Same Fm F3 := sm2.trans e3.f
    have c3 : Same F1 F3 := f2.trans e3.f
    exact ⟨fun F' ρ' σ' H' r' s' h => ⟨F', ρ', r', b3.trans s', c3.trans s', h⟩, fun F' ρ' σ' H' r' s' h => L.nx F' ρ' σ' H' r' (b3.trans s') h, fun F' ρ' σ' H' r' s' h => ⟨F', ρ', r', b3.trans s', c3.trans s', h⟩, L.rt⟩
  · have : i = xs.length := by omega
    subst this
    rw [List.drop_length] at hq2
    exact .inl ⟨srv.stop _ F2 H2 f2 (fun z => by cases z) r2.sub (Nat.le_refl _), L.nx F2 ρ2 σ2 H2 r2 sm2 hq2⟩
end

/-! ### all statements -/
mutual
theorem sS {X : Cx} {C : Ck} {G : Gb} {sc : Scope} (db : DB X C G sc) : ∀ (s : S) (st : Stmt), okS C sc s st = true → PS X st (tSs X.K (wS G s))
  | .asg (.nm i) e, st, h => by
    unfold okS at h
    split at h
    · rename_i pt pe e1
      obtain ⟨p, rfl⟩ := asAsg_s e1
      simp only [Bool.and_eq_true] at h
      exact st_nm db h.1.1 h.1.2 h.2
    · cases h
  | .asg (.tp is) e, st, h => by
    unfold okS at h
    split at h
    · rename_i pt pe e1
      obtain ⟨p, rfl⟩ := asAsg_s e1
      simp only [Bool.and_eq_true] at h
      exact st_tp db h.1.1 h.1.2 h.2.1 h.2.2
    · cases h
  | .own i e, st, h => by
    unfold okS at h
    split at h
    · rename_i pt pe e1
      obtain ⟨p, rfl⟩ := asAsg_s e1
      simp only [Bool.and_eq_true] at h
      exact st_own db h.1.1 h.1.2 h.2
    · cases h
  | .own2 i, st, h => by
    unfold okS at h
    split at h
    · rename_i pt pe e1
      obtain ⟨p, rfl⟩ := asAsg_s e1
      simp only [Bool.and_eq_true] at h
      obtain ⟨h1, h2⟩ := h
      split at h2
      · rename_i e2
        obtain ⟨q, rfl⟩ := asLst_s e2
        exact st_own2 db h1
      · cases h2
    · cases h
  | .frz i, st, h => by simp [okS] at h
  | .app i e, st, h => by
    unfold okS at h
    split at h
    · rename_i pe e1
      obtain ⟨p, rfl⟩ := asExpr_s e1
      split at h
      · rename_i po m pa b e2
        obtain ⟨ap, cp, rfl, hb⟩ := asMeth_s e2
        simp only [Bool.and_eq_true, decide_eq_true_eq] at h
        obtain ⟨⟨⟨⟨h1, rfl⟩, h3⟩, h4⟩, h5⟩ := h
        exact st_app db h1 (hb.trans h3) h4 h5
      · cases h
    · cases h
  | .app2 i e, st, h => by
    unfold okS at h
    split at h
    · rename_i pe e1
      obtain ⟨p, rfl⟩ := asExpr_s e1
      split at h
      · rename_i po m pa b e2
        obtain ⟨ap, cp, rfl, hb⟩ := asMeth_s e2
        simp only [Bool.and_eq_true, decide_eq_true_eq] at h
        obtain ⟨⟨⟨⟨h1, rfl⟩, h3⟩, h4⟩, h5⟩ := h
        exact st_app2 db h1 (hb.trans h3) h4 h5
      · cases h
    · cases h
  | .appI i j e, st, h => by
    unfold okS at h
    split at h
    · rename_i pe e1
      obtain ⟨p, rfl⟩ := asExpr_s e1
      split at h
      · rename_i po m pa b e2
        obtain ⟨ap, cp, rfl, hb⟩ := asMeth_s e2
        split at h
        · rename_i px pj e3
          obtain ⟨q, rfl⟩ := asSub_s e3
          simp only [Bool.and_eq_true, decide_eq_true_eq] at h
          obtain ⟨⟨⟨⟨⟨⟨h1, h2⟩, h3⟩, rfl⟩, h5⟩, h6⟩, h7⟩ := h
          exact st_appI db h1 h2 h3 (hb.trans h5) h6 h7
        · cases h
      · cases h
    · cases h
  | .seti i j e, st, h => by
    unfold okS at h
    split at h
    · rename_i pt pe e1
      obtain ⟨p, rfl⟩ := asAsg_s e1
      split at h
      · rename_i px pj e2
        obtain ⟨q, rfl⟩ := asSub_s e2
        simp only [Bool.and_eq_true] at h
        obtain ⟨⟨⟨⟨h1, h2⟩, h3⟩, h4⟩, h5⟩ := h
        exact st_seti db h1 h2 h3 h4 h5
      · cases h
    · cases h
  | .set2 i j k e, st, h => by
    unfold okS at h
    split at h
    · rename_i pt pe e1
      obtain ⟨p, rfl⟩ := asAsg_s e1
      split at h
      · rename_i px pk e2
        obtain ⟨q2, rfl⟩ := asSub_s e2
        split at h
        · rename_i py pj e3
          obtain ⟨q, rfl⟩ := asSub_s e3
          simp only [Bool.and_eq_true] at h
          obtain ⟨⟨⟨⟨⟨⟨h1, h2⟩, h3⟩, h4⟩, h5⟩, h6⟩, h7⟩ := h
          exact st_set2 db h1 h2 h3 h4 h5 h6 h7
        · cases h
      · cases h
    · cases h
  | .drop e, st, h => by
    unfold okS at h
    split at h
    · rename_i pe e1
      obtain ⟨p, rfl⟩ := asExpr_s e1
      simp only [Bool.and_eq_true] at h
      exact st_drop db h.1 h.2
    · cases h
  | .ifs c a b, st, h => by
    unfold okS at h
    split at h
    · rename_i pc pa pb e1
      obtain ⟨p, rfl⟩ := asIfS_s e1
      simp only [Bool.and_eq_true] at h
      exact st_if db h.1.1 (sSs db a pa h.1.2) (sSs db b pb h.2)
    · cases h
  | .whl c b, st, h => by
    unfold okS at h
    split at h
    · rename_i pc pb e1
      obtain ⟨p, rfl⟩ := asWhl_s e1
      simp only [Bool.and_eq_true] at h
      exact st_whl db h.1 (sSs db b pb h.2)
    · cases h
  | .fr tg it b, st, h => by
    unfold okS at h
    split at h
    · rename_i pt pi pb e1
      obtain ⟨p, rfl⟩ := asFor_s e1
      simp only [Bool.and_eq_true] at h
      exact st_for db h.1.1.1 h.1.1.2 h.1.2 (sSs db b pb h.2)
    · cases h
  | .ret e, st, h => by
    unfold okS at h
    split at h
    · rename_i pe e1
      obtain ⟨p, rfl⟩ := asRet_s e1
      exact st_ret db h
    · cases h
  | .retN, st, h => by
    unfold okS at h
    split at h
    · rename_i e1
      obtain ⟨p, rfl⟩ := asRet_s e1
      exact st_retN
    · cases h
  | .pass, st, h => by
    unfold okS at h
    split at h
    · exact ps_w ps_pass fun Dn σ H ⟨F0, H0, Fm, F, ρ, P, rr, sm, hw, L⟩ => L.nx F ρ σ H rr sm hw
    · cases h
  | .brk, st, h => by
    unfold okS at h
    split at h
    · exact ps_w ps_break fun Dn σ H ⟨F0, H0, Fm, F, ρ, P, rr, sm, hw, L⟩ => L.bk F ρ σ H rr sm hw
    · cases h
  | .cont, st, h => by
    unfold okS at h
    split at h
    · exact ps_w ps_continue fun Dn σ H ⟨F0, H0, Fm, F, ρ, P, rr, sm, hw, L⟩ => L.ct F ρ σ H rr sm hw
    · cases h
  | .never, st, h => ps_w ps_never fun Dn σ H ⟨F0, H0, Fm, F, ρ, P, rr, sm, hw, L⟩ => hw.elim
theorem sSs {X : Cx} {C : Ck} {G : Gb} {sc : Scope} (db : DB X C G sc) : ∀ (ss : Ss) (sts : List Stmt), okSs C sc ss sts = true → PSs X sts (tSs X.K (wSs G ss))
  | .nil, [], h => ss_nil
  | .nil, _ :: _, h => by simp [okSs] at h
  | .cons s ss, sts, h => by
    unfold okSs at h
    split at h
    · rename_i i e
      have : s = .frz i := by
        unfold isFrz at e; split at e <;> cases e; rfl
      subst this
      exact ss_frz (sSs db ss sts h)
    · split at h
      · rename_i st sr
        simp only [Bool.and_eq_true] at h
        exact ss_cons (sS db s st h.1) (sSs db ss sr h.2)
      · cases h
end
end PD

set_option maxHeartbeats 2000000
namespace PD
open PySem PySem.Spec PyProof.Rows L2

/-! ### defs -/
def env0 (n : Nat) (ds : List D) : Env := ds.map (fun d => some (Sl.fz d)) ++ List.replicate (n - ds.length) none
/-- a def of the module, called by its name, means f -/
structure FnB (P : Program) (w : World) (K : PySem.W.Frag) (mg : Str → Option Value) (base : Heap) (k : Nat) (y : Str) (f : FnS) : Prop where
  ex : ∃ (a : Addr) (fd : FuncData) (ps : List Str) (ds : List Value) (dvs : List V) (dd : List D) (f0 : FnS), mg y = some (.ref a) ∧ PySem.W.keepIn K (.ref a) = true ∧ Binds K fd ps ds ∧ Vals dvs ds ∧ (∀ F, RpAll K F dvs dd) ∧
    FnOk P w K mg base CX0 k a fd ps (spD K f0) ∧ Sh f f0 dd
/-- .. with keywords -/
structure FnBK (P : Program) (w : World) (K : PySem.W.Frag) (mg : Str → Option Value) (base : Heap) (k : Nat) (y : Str) (n : Nat) (ks : List Str) (f : FnS) : Prop where
  ex : ∃ (a : Addr) (fd : FuncData) (ps : List Str), mg y = some (.ref a) ∧ PySem.W.keepIn K (.ref a) = true ∧ KBn K fd ps n ks (fun us ws => us ++ ws) (fun vs zs => vs ++ zs) ∧ FnOk P w K mg base CX0 k a fd ps (spD K f)
def endOf (p : D → Prop) : DP := { nx := fun _ => p .none, rt := p, bk := fun _ => False, ct := fun _ => False }
/-- what is known where a def's body begins -/
structure Known (P : Program) (w : World) (K : PySem.W.Frag) (mg : Str → Option Value) (base : Heap) (C : Ck) (G : Gb) (k : Nat) : Prop where
  bl : ∀ x, C.bl.contains x = true → mg x = none
  fn : ∀ j y, C.fnN j = some y → FnB P w K mg base k y (G.fn j)
  fk : ∀ j y n ks, C.fnK j = some (y, n, ks) → FnBK P w K mg base k y n ks (G.fn j)
  ct : ∀ j y, C.ctN j = some y → ∃ u v, mg y = some u ∧ RelV v u ∧ ∀ F, Rp K F v (G.ct j)
theorem gt_app {α : Type} {l r : List (Option α)} {i : Nat} (h : i < l.length) : gt (l ++ r) i = gt l i := by
  unfold gt
  rw [List.getD_eq_getElem?_getD, List.getD_eq_getElem?_getD, List.getElem?_append_left h]
theorem gt_none {α : Type} {l : List (Option α)} {n i : Nat} (h : l.length ≤ i) : gt (l ++ List.replicate n none) i = none := by
  unfold gt
  rw [List.getD_eq_getElem?_getD, List.getElem?_append_right h, List.getElem?_replicate]
  split <;> rfl
theorem start_R {K : PySem.W.Frag} {F H : Hp} {N : List Str} {vs : List V} {ds : List D} (s : Same F H) (q : RpAll K F vs ds) : R K F H F (env0 N.length ds) (L2.start N vs) H := by
  have hl := da_len q
  refine ⟨Ext.refl F H, s, by simp [L2.start, env0, hl], fun _ => [], fun _ => List.nodup_nil, fun i j a h => by simp at h, fun i a h => by simp at h, fun i => ?_⟩
  unfold env0 L2.start
  by_cases hi : i < ds.length
  · rw [gt_app (by rw [List.length_map]; exact hi), gt_app (by rw [List.length_map, hl]; exact hi)]
    obtain ⟨v, hv, rv⟩ := da_get q (List.getElem?_eq_getElem hi)
    have e1 : gt (ds.map fun d => some (Sl.fz d)) i = some (.fz ds[i]) := by
      unfold gt
      rw [List.getD_eq_getElem?_getD, List.getElem?_map, List.getElem?_eq_getElem hi]; rfl
    have e2 : gt (vs.map some) i = some v := by
      unfold gt
      rw [List.getD_eq_getElem?_getD, List.getElem?_map, hv]; rfl
    rw [e1, e2]
    exact ⟨rfl, v, rfl, rv⟩
  · rw [gt_none (by rw [List.length_map]; omega), gt_none (by rw [List.length_map, hl]; omega)]
    exact rfl
theorem fn_ok {P : Program} {w : World} {K : PySem.W.Frag} {mg : Str → Option Value} {base : Heap} {x : Str} {st : Stmt} {f : Addr} {fd : FuncData} {ps : List Str} {C : Ck} {G : Gb} {ss : Ss} {fs : FnS} {k : Nat}
    (kn : Known P w K mg base C G k) (F : Fun K x x st f fd) (S : FnScope C.N ps (defScope st)) (hok : okSs C (defScope st) ss (defBody st) = true) (hk : 1 ≤ k) (har : ∀ ds, fs.pre ds → ds.length = ps.length)
    (hw : ∀ ds, fs.pre ds → wSs G ss (endOf (fs.post ds)) (env0 C.N.length ds)) : FnOk P w K mg base CX0 (k + 1) f fd ps (spD K fs) := by
  refine F.ok S (fun vs H Q E ⟨F0, ds, s, q, h, _⟩ => by rw [da_len q]; exact har ds h) (fun cdv A outer s H vs Q E hr ⟨F0, ds, sm, q, h, kq⟩ => ?_)
  have db : DB (cxOf CX0 P w K mg base C.N x (defScope st) f cdv A outer s H E).nox C G (defScope st) :=
    ⟨⟨rfl, S.nd, rfl, rfl, hr.mono hk, kn.bl, fun j y hy => ⟨let ⟨a, fd, ps, ds, dvs, dd, f0, h1, h2, h3, h4, h5, h6, h7⟩ := (kn.fn j y hy).ex; ⟨a, fd, ps, k, ds, dvs, dd, f0, h1, h2, h3, h4, h5, h6, hr, h7⟩⟩,
      fun j y n ks hy => ⟨let ⟨a, fd, ps, h1, h2, h3, h4⟩ := (kn.fk j y n ks hy).ex; ⟨a, fd, ps, k, h1, h2, h3, h4, hr⟩⟩, kn.ct⟩, S.kind, fun _ => rfl, PassesOwn.never⟩
  refine ⟨_, sSs db ss (defBody st) hok, ?_⟩
  exact ⟨F0, H, F0, F0, _, endOf (fs.post ds), start_R sm q, Same.refl F0, hw ds h, ⟨fun F' ρ σ H' r _ hd => kq .none .non F' H' hd r.ext r.sub .non, fun _ _ _ _ _ _ hb => hb.elim, fun _ _ _ _ _ _ hb => hb.elim, fun v F' H' d' e s' rv hd => kq d' v F' H' hd e s' rv⟩⟩
theorem fnB_of {P : Program} {w : World} {K : PySem.W.Frag} {mg : Str → Option Value} {base : Heap} {x : Str} {st : Stmt} {f : Addr} {fd : FuncData} {ps : List Str} {C : Ck} {G : Gb} {ss : Ss} {fs : FnS} {k : Nat}
    (kn : Known P w K mg base C G k) (F : Fun K x x st f fd) (S : FnScope C.N ps (defScope st)) (hok : okSs C (defScope st) ss (defBody st) = true) (hk : 1 ≤ k) (har : ∀ ds, fs.pre ds → ds.length = ps.length)
    (hw : ∀ ds, fs.pre ds → wSs G ss (endOf (fs.post ds)) (env0 C.N.length ds)) (hm : mg x = some (.ref f)) (hb : Binds K fd ps []) : FnB P w K mg base (k + 1) x fs :=
  ⟨f, fd, ps, [], [], [], fs, hm, F.kp, hb, .nil, fun _ => .nil, fn_ok kn F S hok hk har hw, Sh.self fs⟩
theorem FnB.mono {P : Program} {w : World} {K : PySem.W.Frag} {mg : Str → Option Value} {base : Heap} {j k : Nat} {y : Str} {f : FnS} (b : FnB P w K mg base j y f) (h : j ≤ k) : FnB P w K mg base k y f :=
  let ⟨a, fd, ps, ds, dvs, dd, f0, h1, h2, h3, h4, h5, h6, h7⟩ := b.ex
  ⟨a, fd, ps, ds, dvs, dd, f0, h1, h2, h3, h4, h5, h6.mono h, h7⟩
theorem FnBK.mono {P : Program} {w : World} {K : PySem.W.Frag} {mg : Str → Option Value} {base : Heap} {j k n : Nat} {ks : List Str} {y : Str} {f : FnS} (b : FnBK P w K mg base j y n ks f) (h : j ≤ k) : FnBK P w K mg base k y n ks f :=
  let ⟨a, fd, ps, h1, h2, h3, h4⟩ := b.ex
  ⟨a, fd, ps, h1, h2, h3, h4.mono h⟩
/-- a def under its name, as the head leaves it -/
structure Dn (K : PySem.W.Frag) (mg : Str → Option Value) (x : Str) (st : Stmt) (ps : List Str) : Prop where
  ex : ∃ (f : Addr) (fd : FuncData), Fun K x x st f fd ∧ mg x = some (.ref f) ∧ ∀ us : List Value, us.length = ps.length → bindArgs fd ⟨us, []⟩ = pure (ps.zip us)
theorem Dn.fnB {P : Program} {w : World} {K : PySem.W.Frag} {mg : Str → Option Value} {base : Heap} {x : Str} {st : Stmt} {ps : List Str} (d : Dn K mg x st ps) {C : Ck} {G : Gb} {ss : Ss} {fs : FnS} {k : Nat}
    (kn : Known P w K mg base C G k) (S : FnScope C.N ps (defScope st)) (hok : okSs C (defScope st) ss (defBody st) = true) (hk : 1 ≤ k) (har : ∀ ds, fs.pre ds → ds.length = ps.length)
    (hw : ∀ ds, fs.pre ds → wSs G ss (endOf (fs.post ds)) (env0 C.N.length ds)) : FnB P w K mg base (k + 1) x fs :=
  let ⟨_, _, F, hm, hb⟩ := d.ex
  fnB_of kn F S hok hk har hw hm (Binds.all hb)
/-- the law's promise -/
def scriptOf (ns : List Int) : List D := [.list (ns.map .int)]
def lawS (ok : List Int → Prop) : FnS := ⟨fun ds => ∃ ns, ok ns ∧ ds = scriptOf ns, fun _ d => d = .bool true⟩
theorem ra_ints {K : PySem.W.Frag} {H : Hp} : ∀ ns : List Int, RpAll K H (ns.map V.int) (ns.map PyData.int)
  | [] => .nil
  | n :: ns => .cons (.int n) (ra_ints ns)
theorem law_sp {K : PySem.W.Frag} {ok : List Int → Prop} {H : Hp} {a : Addr} {ns : List Int} (h : ok ns) (hS : SqL K H a (ns.map V.int)) : spD K (lawS ok) [.ref a] H (fun v _ => v = .bl true) fun _ _ _ => False :=
  ⟨H, scriptOf ns, Same.refl H, .cons (.lst hS (ra_ints ns)) .nil, ⟨ns, h, rfl⟩, fun d v F' H' hd _ _ r => by
    have hd : d = .bool true := hd
    subst hd
    cases r; rfl⟩
end PD
namespace PD
open PySem PySem.Spec PyProof.Rows L2
/-! ### lists of what is known -/
abbrev mkCk (N : List Str) (fns cts : List (Nat × Str)) (fks : List (Nat × (Str × Nat × List Str))) (bl : List Str) : Ck := ⟨N, fun k => fns.lookup k, fun k => cts.lookup k, fun k => fks.lookup k, bl⟩
section
variable {P : Program} {w : World} {K : PySem.W.Frag} {mg : Str → Option Value} {base : Heap} {G : Gb} {k : Nat}
inductive AllF (P : Program) (w : World) (K : PySem.W.Frag) (mg : Str → Option Value) (base : Heap) (G : Gb) (k : Nat) : List (Nat × Str) → Prop
  | nil : AllF P w K mg base G k []
  | cons {j : Nat} {y : Str} {l : List (Nat × Str)} : FnB P w K mg base k y (G.fn j) → AllF P w K mg base G k l → AllF P w K mg base G k ((j, y) :: l)
inductive AllK (P : Program) (w : World) (K : PySem.W.Frag) (mg : Str → Option Value) (base : Heap) (G : Gb) (k : Nat) : List (Nat × (Str × Nat × List Str)) → Prop
  | nil : AllK P w K mg base G k []
  | cons {j : Nat} {y : Str} {n : Nat} {ks : List Str} {l : List (Nat × (Str × Nat × List Str))} : FnBK P w K mg base k y n ks (G.fn j) → AllK P w K mg base G k l → AllK P w K mg base G k ((j, y, n, ks) :: l)
inductive AllN (mg : Str → Option Value) : List Str → Prop
  | nil : AllN mg []
  | cons {y : Str} {l : List Str} : mg y = none → AllN mg l → AllN mg (y :: l)
def CtB (K : PySem.W.Frag) (mg : Str → Option Value) (y : Str) (d : D) : Prop := ∃ u v, mg y = some u ∧ RelV v u ∧ ∀ F, Rp K F v d
inductive AllC (K : PySem.W.Frag) (mg : Str → Option Value) (G : Gb) : List (Nat × Str) → Prop
  | nil : AllC K mg G []
  | cons {j : Nat} {y : Str} {l : List (Nat × Str)} : CtB K mg y (G.ct j) → AllC K mg G l → AllC K mg G ((j, y) :: l)
theorem AllF.at {l : List (Nat × Str)} (h : AllF P w K mg base G k l) : ∀ j y, l.lookup j = some y → FnB P w K mg base k y (G.fn j) := by
  induction h with
  | nil => intro j y e; cases e
  | @cons i x l b t ih =>
    intro j y e
    rw [List.lookup_cons] at e
    split at e
    · rename_i c
      cases e
      rw [beq_iff_eq.mp c]; exact b
    · exact ih j y e
theorem AllK.at {l : List (Nat × (Str × Nat × List Str))} (h : AllK P w K mg base G k l) : ∀ j y n ks, l.lookup j = some (y, n, ks) → FnBK P w K mg base k y n ks (G.fn j) := by
  induction h with
  | nil => intro j y n ks e; cases e
  | @cons i x m zs l b t ih =>
    intro j y n ks e
    rw [List.lookup_cons] at e
    split at e
    · rename_i c
      cases e
      rw [beq_iff_eq.mp c]; exact b
    · exact ih j y n ks e
theorem AllC.at {l : List (Nat × Str)} (h : AllC K mg G l) : ∀ j y, l.lookup j = some y → CtB K mg y (G.ct j) := by
  induction h with
  | nil => intro j y e; cases e
  | @cons i x l b t ih =>
    intro j y e
    rw [List.lookup_cons] at e
    split at e
    · rename_i c
      cases e
      rw [beq_iff_eq.mp c]; exact b
    · exact ih j y e
theorem AllN.at {l : List Str} (h : AllN mg l) : ∀ x, l.contains x = true → mg x = none := by
  induction h with
  | nil => intro x e; cases e
  | @cons y l b t ih =>
    intro x e
    rw [List.contains_cons, Bool.or_eq_true, beq_iff_eq] at e
    rcases e with rfl | e
    · exact b
    · exact ih x e
theorem known {N : List Str} {fns cts : List (Nat × Str)} {fks : List (Nat × (Str × Nat × List Str))} {bl : List Str} (h1 : AllN mg bl) (h2 : AllF P w K mg base G k fns) (h3 : AllC K mg G cts) (h4 : AllK P w K mg base G k fks := by exact .nil) : Known P w K mg base (mkCk N fns cts fks bl) G k :=
  ⟨h1.at, h2.at, h4.at, h3.at⟩
theorem ct_int {y : Str} {i : Int} {t : Tok} (h : mg y = some (.int i t)) : CtB K mg y (.int i) := ⟨_, .int i, h, ⟨t, rfl⟩, fun _ => .int i⟩
theorem ct_str {y : Str} {s : Str} {t : Tok} (h : mg y = some (.str s t)) : CtB K mg y (.str s) := ⟨_, .str s, h, ⟨t, rfl⟩, fun _ => .str s⟩
theorem ra_strs {F : Hp} : ∀ ss : List Str, RpAll K F (ss.map V.str) (ss.map PyData.str)
  | [] => .nil
  | s :: ss => .cons (.str s) (ra_strs ss)
theorem ct_tupS {y : Str} {ss : List Str} {a : Addr} {o : Obj} {its : Array Value} {n : Nat} (h : mg y = some (.ref a)) (h1 : K.lookup a = some o) (h2 : o.cls = .type "tuple") (h3 : o.data = .seq its n) (h4 : its.size ≤ sizeLine) (h5 : Vals (ss.map V.str) its.toList) : CtB K mg y (.tuple (ss.map .str)) :=
  ⟨_, .ref a, h, rfl, fun F => .tup (.inr ⟨o, its, n, h1, h2, h3, h4, h5⟩) (ra_strs ss)⟩
/-- a def, from the head's facts -/
theorem dn_of {h : Heap} {x : Str} {st : Stmt} {ps : List Str} {f : Addr} {od an : Option Addr} {sl : Array (Option Value)} {oc kV dc pm cd ct : Value} (X : K.In h) (G : h.Ns mainGlobals mg)
    (a : PySem.W.nsIn K mainGlobals x = some (some (.ref f))) (l : K.lookup f = some ⟨oc, od, .func (PySem.W.fnOf x x (defArgs st) (defBody st) (defScope st) .none kV dc pm an cd ct), sl⟩) (c : PySem.W.codeIn K cd x = true) (k : PySem.W.keepIn K (.ref f) = true)
    (hb : ∀ (kV doc pm : Value) (an : Option Addr) (cdv ct : Value) (us : List Value), us.length = ps.length → bindArgs (PySem.W.fnOf x x (defArgs st) (defBody st) (defScope st) .none kV doc pm an cdv ct) ⟨us, []⟩ = pure (ps.zip us)) : Dn K mg x st ps :=
  have F := fun_mk (st := st) l c k
  ⟨f, _, F, PySem.W.mg_of X G a, fun us hl => hb kV dc pm an cd ct us hl⟩
/-- keyword-only parameters' values, as the head leaves them -/
inductive KwF (K : PySem.W.Frag) (A : Addr) : List (Str × V) → Prop
  | nil : KwF K A []
  | cons {x : Str} {v : V} {u : Value} {l : List (Str × V)} : PySem.W.nsIn K A x = some (some u) → RelV v u → KwF K A l → KwF K A ((x, v) :: l)
theorem KwF.at {A : Addr} {l : List (Str × V)} (h : KwF K A l) : ∀ q ∈ l, ∃ u, PySem.W.nsIn K A q.1 = some (some u) ∧ RelV q.2 u := by
  induction h with
  | nil => intro q hq; cases hq
  | cons a b t ih =>
    intro q hq
    rcases List.mem_cons.mp hq with rfl | hq
    · exact ⟨_, a, b⟩
    · exact ih q hq
/-- a def with keyword-only parameters (names ks, values dd where they lack) behind n others -/
structure DnK (K : PySem.W.Frag) (mg : Str → Option Value) (x : Str) (st : Stmt) (ps : List Str) (n : Nat) (ks : List Str) (dd : List D) : Prop where
  ex : ∃ (f : Addr) (fd : FuncData) (ds : List Value) (dvs : List V), Fun K x x st f fd ∧ mg x = some (.ref f) ∧ Binds K fd ps ds ∧ Vals dvs ds ∧ (∀ F, RpAll K F dvs dd) ∧ KBn K fd ps n ks (fun us ws => us ++ ws) (fun vs zs => vs ++ zs)
theorem dnk_of {h : Heap} {x : Str} {st : Stmt} {ps : List Str} {f A : Addr} {od an : Option Addr} {sl : Array (Option Value)} {oc dc pm cd ct : Value} {n : Nat} {kws : List (Str × V)} {dd : List D} (X : K.In h) (G : h.Ns mainGlobals mg)
    (a : PySem.W.nsIn K mainGlobals x = some (some (.ref f))) (l : K.lookup f = some ⟨oc, od, .func (PySem.W.fnOf x x (defArgs st) (defBody st) (defScope st) .none (.ref A) dc pm an cd ct), sl⟩) (c : PySem.W.codeIn K cd x = true) (k : PySem.W.keepIn K (.ref f) = true)
    (q : KwF K A kws) (hd : ∀ F, RpAll K F (kws.map (·.2)) dd) (hn : n + kws.length = ps.length)
    (hb : ∀ (doc pm : Value) (an : Option Addr) (cdv ct : Value) (us ks : List Value), us.length = n → ks.length = kws.length → KwChain A ((kws.map (·.1)).zip ks) (bindArgs (PySem.W.fnOf x x (defArgs st) (defBody st) (defScope st) .none (.ref A) doc pm an cdv ct) ⟨us, []⟩) (ps.zip (us ++ ks)))
    (hk : ∀ (doc pm : Value) (an : Option Addr) (cdv ct : Value) (us ws : List Value), us.length = n → ws.length = kws.length → bindArgs (PySem.W.fnOf x x (defArgs st) (defBody st) (defScope st) .none (.ref A) doc pm an cdv ct) ⟨us, (kws.map (·.1)).zip ws⟩ = pure (ps.zip (us ++ ws))) :
    DnK K mg x st ps n (kws.map (·.1)) dd := by
  obtain ⟨ks, hl, rk, hks⟩ := kwd_vals q.at
  refine ⟨f, _, ks, _, fun_mk (st := st) l c k, PySem.W.mg_of X G a, fun s us XI hlen => ?_, rk, hd, ⟨fun s us ws XI l1 l2 => .of_eq (hk dc pm an cd ct us ws l1 (by rw [l2, List.length_map])), fun r1 r2 => r1.append r2⟩⟩
  have l2 : us.length = n := by
    rw [List.length_append, hl] at hlen
    omega
  exact BindsTo.of_looks fun M => KwChain.looks XI hks (hb dc pm an cd ct us ks l2 hl)
theorem DnK.fnB {x : Str} {st : Stmt} {ps : List Str} {n : Nat} {ks : List Str} {dd : List D} (d : DnK K mg x st ps n ks dd) {C : Ck} {ss : Ss} {fs f : FnS}
    (kn : Known P w K mg base C G k) (S : FnScope C.N ps (defScope st)) (hok : okSs C (defScope st) ss (defBody st) = true) (hk : 1 ≤ k) (har : ∀ ds, fs.pre ds → ds.length = ps.length)
    (hw : ∀ ds, fs.pre ds → wSs G ss (endOf (fs.post ds)) (env0 C.N.length ds)) (sh : Sh f fs dd) : FnB P w K mg base (k + 1) x f ∧ FnBK P w K mg base (k + 1) x n ks fs :=
  let ⟨a, fd, ds, dvs, F, hm, hb, hv, hd, hkb⟩ := d.ex
  ⟨⟨a, fd, ps, ds, dvs, dd, fs, hm, F.kp, hb, hv, hd, fn_ok kn F S hok hk har hw, sh⟩, ⟨a, fd, ps, hm, F.kp, hkb, fn_ok kn F S hok hk har hw⟩⟩
/-- a promise of nothing -/
theorem fnok_bot {a : Addr} {fd : FuncData} {ps : List Str} {f : FnS} (hf : ∀ ds, ¬ f.pre ds) : FnOk P w K mg base CX0 k a fd ps (spD K f) :=
  ⟨fun _ _ _ _ ⟨_, ds, _, _, h, _⟩ => (hf ds h).elim, fun _ _ _ _ _ _ _ _ _ _ _ _ _ ⟨_, ds, _, _, h, _⟩ => (hf ds h).elim⟩
theorem Dn.bot {x : Str} {st : Stmt} {ps : List Str} (d : Dn K mg x st ps) {f : FnS} (hf : ∀ ds, ¬ f.pre ds) : FnB P w K mg base k x f :=
  let ⟨a, fd, F, hm, hb⟩ := d.ex
  ⟨a, fd, ps, [], [], [], f, hm, F.kp, Binds.all hb, .nil, fun _ => .nil, fnok_bot hf, Sh.self f⟩
theorem DnK.bot {x : Str} {st : Stmt} {ps : List Str} {n : Nat} {ks : List Str} {dd : List D} (d : DnK K mg x st ps n ks dd) {f : FnS} (hf : ∀ ds, ¬ f.pre ds) : FnBK P w K mg base k x n ks f :=
  let ⟨a, fd, ds, dvs, F, hm, hb, hv, hd, hkb⟩ := d.ex
  ⟨a, fd, ps, hm, F.kp, hkb, fnok_bot hf⟩
/-- the law, for the end -/
theorem law_fin {x p : Str} {st : Stmt} {fa : Addr} (d : Dn K mg x st [p]) (hm : mg x = some (.ref fa)) {C : Ck} {ss : Ss} {fs : FnS} {Q : Heap → Prop}
    (kn : ∀ base, Q base → Known P w K mg base C G k) (S : FnScope C.N [p] (defScope st)) (hok : okSs C (defScope st) ss (defBody st) = true) (hk : 1 ≤ k) (har : ∀ ds, fs.pre ds → ds.length = [p].length)
    (hw : ∀ ds, fs.pre ds → wSs G ss (endOf (fs.post ds)) (env0 C.N.length ds)) :
    ∃ fd : FuncData, (∀ (s : Shared) (u : Value), BindsTo s fd ⟨[u], []⟩ [(p, u)]) ∧ ∀ base : Heap, Q base → FnOk P w K mg base CX0 (k + 1) fa fd [p] (spD K fs) := by
  obtain ⟨f, fd, F, h1, hb⟩ := d.ex
  cases hm.symm.trans h1
  exact ⟨fd, fun s u => .of_eq (hb [u] rfl), fun base hq => fn_ok (kn base hq) F S hok hk har hw⟩
end
end PD

namespace PD
open PySem PySem.Spec PyProof.Rows L2

/-! ### the meanings, step by step: loops and comprehensions stay folded -/
def wWhlE (G : Gb) (c : E) (b : Ss) (P : DP) (ρ : Env) : Prop := wWhl (fun ρ Q => wE G .tst c ρ fun x => ∃ k, x = .bool k ∧ Q k) (wSs G b) P ρ
def wForE (G : Gb) (tg : Tg) (b : Ss) (P : DP) (ds : List D) (ρ : Env) : Prop := wFor (wG tg) (wSs G b) P ds ρ
def wMapE (G : Gb) (own : List (Str × Nat)) (elt : E) (tg : Tg) (cs : Eo) (ρ : Env) (ds acc : List D) (Q : List D → Prop) : Prop :=
  wMap (fun d K => wG tg d (wipeE ρ (own.map (·.2))) fun ρ' => wC G cs ρ' fun k => if k = true then wE G (.t 0) elt ρ' fun y => K (some y) else K none) ds acc Q
def wVar (md : Md) (s : Option Sl) (Q : D → Prop) : Prop := match s with
    | some (.fz d) => fin md Q d
    | some (.ow ds) => (match md with
      | .t (_ + 1) => Q (.list ds)
      | .tst => Q (.bool (!ds.isEmpty))
      | _ => False)
    | some (.ow2 dss) => (match md with
      | .t (_ + 2) => Q (.list (dss.map .list))
      | .tst => Q (.bool (!dss.isEmpty))
      | _ => False)
    | none => False
def wFrz (ss : Env → Prop) (i : Nat) (ρ : Env) (s : Option Sl) : Prop := match s with
    | some (.fz _) => ss ρ
    | some (.ow ds) => ss (ρ.set i (some (.fz (.list ds))))
    | some (.ow2 dss) => ss (ρ.set i (some (.fz (.list (dss.map .list)))))
    | none => ss ρ
section
variable {G : Gb} {md : Md} {ρ : Env} {Q : D → Prop} {P : DP} {n : Nat} {i : Nat} {a b c e j k : E} {es : Es} {ss t u : Ss} {s : S} {d : D} {x : Option Sl} {l : Env}
theorem x_var : wE G md (.var i) ρ Q = wVar md (gt ρ i) Q := rfl
theorem x_v0 {ds : List D} : wVar md (some (.fz d)) Q = fin md Q d := rfl
theorem x_v1 {ds : List D} : wVar (.t (n + 1)) (some (.ow ds)) Q = Q (.list ds) := rfl
theorem x_v11 {ds : List D} : wVar (.t 1) (some (.ow ds)) Q = Q (.list ds) := rfl
theorem x_v12 {ds : List D} : wVar (.t 2) (some (.ow ds)) Q = Q (.list ds) := rfl
theorem x_v13 {ds : List D} : wVar (.t 3) (some (.ow ds)) Q = Q (.list ds) := rfl
theorem x_v23 {dss : List (List D)} : wVar (.t 3) (some (.ow2 dss)) Q = Q (.list (dss.map .list)) := rfl
theorem x_v2t {dss : List (List D)} : wVar .tst (some (.ow2 dss)) Q = Q (.bool (!dss.isEmpty)) := rfl
theorem x_v1t {ds : List D} : wVar .tst (some (.ow ds)) Q = Q (.bool (!ds.isEmpty)) := rfl
theorem x_v22 {dss : List (List D)} : wVar (.t 2) (some (.ow2 dss)) Q = Q (.list (dss.map .list)) := rfl
theorem x_ct {k : Nat} : wE G md (.ct k) ρ Q = fin md Q (G.ct k) := rfl
theorem x_non : wE G md .non ρ Q = fin md Q .none := rfl
theorem x_bl {b : Bool} : wE G md (.bl b) ρ Q = fin md Q (.bool b) := rfl
theorem x_int {i : Int} : wE G md (.int i) ρ Q = fin md Q (.int i) := rfl
theorem x_str {x : List Nat} : wE G md (.str x) ρ Q = fin md Q (.str ⟨x.toArray⟩) := rfl
theorem x_bin {op : Operator} : wE G md (.bin op a b) ρ Q = wE G (.t 1) a ρ fun x => wE G (.t 1) b ρ fun y => wBin op x y (finB md Q) := rfl
theorem x_neg : wE G md (.neg a) ρ Q = wE G (.t 0) a ρ fun x => ∃ i, x = .int i ∧ fin md Q (.int (-i)) := rfl
theorem x_cmp {op : CmpOp} : wE G md (.cmp op a b) ρ Q = wE G (.t 2) a ρ fun x => wE G (.t 2) b ρ fun y => wCmp op x y fun c => fin md Q (.bool c) := rfl
theorem x_bopt {cj : Bool} : wE G .tst (.bop cj es) ρ Q = wTs G cj es ρ Q := rfl
theorem x_bopv {cj : Bool} : wE G (.t n) (.bop cj es) ρ Q = wBs G cj es ρ Q := rfl
theorem x_nt : wE G .tst (.nt a) ρ Q = wE G .tst a ρ fun x => ∃ c, x = .bool c ∧ Q (.bool (!c)) := rfl
theorem x_ntv : wE G (.t n) (.nt a) ρ Q = wE G (.t 0) a ρ fun x => ∃ c, x = .bool c ∧ Q (.bool (!c)) := rfl
theorem x_ifx : wE G md (.ifx c a b) ρ Q = wE G .tst c ρ fun x => ∃ k, x = .bool k ∧ (if k = true then wE G md a ρ Q else wE G md b ρ Q) := rfl
theorem x_ix {i : E} : wE G (.t n) (.ix a i) ρ Q = wE G (.t (n + 1)) a ρ fun x => wE G (.t 0) i ρ fun y => wIx x y Q := rfl
theorem x_ixt {i : E} : wE G .tst (.ix a i) ρ Q = wE G (.t 1) a ρ fun x => wE G (.t 0) i ρ fun y => wIx x y fun z => wTr z fun b => Q (.bool b) := rfl
theorem x_sl {lo hi : Eo} : wE G md (.sl a lo hi) ρ Q = wE G (.t 1) a ρ fun x => wEo G lo ρ fun l => wEo G hi ρ fun h => wSl x l h (finB md Q) := rfl
theorem x_call {k : Nat} : wE G md (.call k es) ρ Q = wEs G 0 es ρ fun ds => (G.fn k).pre ds ∧ ∀ d, (G.fn k).post ds d → fin md Q d := rfl
theorem x_callk {k n : Nat} {ks : List Str} {kes : Es} : wE G md (.callk k n es ks kes) ρ Q = wEs G 0 es ρ fun ds => wEs G 0 kes ρ fun zs => (ds.length = n ∧ zs.length = ks.length) ∧ (G.fn k).pre (ds ++ zs) ∧ ∀ d, (G.fn k).post (ds ++ zs) d → fin md Q d := rfl
theorem x_blt {b : Bl} : wE G md (.blt b es) ρ Q = wEs G (bLv b + 1) es ρ fun ds => wBl b ds (finB md Q) := rfl
theorem x_isi {ts : List String} : wE G md (.isi a ts) ρ Q = wE G (.t 2) a ρ fun x => fin md Q (.bool (ts.any (isOne x))) := rfl
theorem x_mth {m : Mt} : wE G md (.mth m a es) ρ Q = wE G (.t 1) a ρ fun x => tyN x = mtTy m ∧ wEs G 1 es ρ fun ds => wMt m x ds (finB md Q) := rfl
theorem x_tup : wE G md (.tup es) ρ Q = wEs G 0 es ρ fun ds => ds.length ≤ sizeLine ∧ fin md Q (.tuple ds) := rfl
theorem x_lst : wE G md (.lst es) ρ Q = wEs G 0 es ρ fun ds => ds.length ≤ sizeLine ∧ finL md Q ds := rfl
theorem x_lc {own : List (Str × Nat)} {tg : Tg} {it : I} {cs : Eo} : wE G md (.lc own e tg it cs) ρ Q = wI G 1 it ρ fun ds => ds.length ≤ sizeLine ∧ wMapE G own e tg cs ρ ds [] (finL md Q) := rfl
theorem x_ts0 {cj : Bool} : wTs G cj (.cons e .nil) ρ Q = wE G .tst e ρ Q := rfl
theorem x_ts1 {cj : Bool} {e2 : E} {es2 : Es} : wTs G cj (.cons e (.cons e2 es2)) ρ Q = wE G .tst e ρ fun x => ∃ c, x = .bool c ∧ (if c = cj then wTs G cj (.cons e2 es2) ρ Q else Q (.bool (!cj))) := rfl
theorem x_bs0 {cj : Bool} : wBs G cj (.cons e .nil) ρ Q = wE G (.t 0) e ρ Q := rfl
theorem x_bs1 {cj : Bool} {e2 : E} {es2 : Es} : wBs G cj (.cons e (.cons e2 es2)) ρ Q = wE G (.t 0) e ρ fun x => ∃ c, x = .bool c ∧ (if c = cj then wBs G cj (.cons e2 es2) ρ Q else Q (.bool (!cj))) := rfl
theorem x_c0 {q : Bool → Prop} : wC G .no ρ q = q true := rfl
theorem x_c1 {q : Bool → Prop} : wC G (.yes e) ρ q = wE G .tst e ρ fun x => ∃ b, x = .bool b ∧ q b := rfl
theorem x_eo0 {q : Option Int → Prop} : wEo G .no ρ q = q none := rfl
theorem x_eo1 {q : Option Int → Prop} : wEo G (.yes e) ρ q = wE G (.t 0) e ρ fun d => ∃ i, d = .int i ∧ q (some i) := rfl
theorem x_es0 {q : List D → Prop} : wEs G n .nil ρ q = q [] := rfl
theorem x_es1 {q : List D → Prop} : wEs G n (.cons e es) ρ q = wE G (.t n) e ρ fun d => wEs G n es ρ fun ds => q (d :: ds) := rfl
theorem x_ls {q : List D → Prop} : wI G n (.ls e) ρ q = wE G (.t n) e ρ fun d => ∃ ds, seqOf d = some ds ∧ q ds := rfl
theorem x_r1 {q : List D → Prop} : wI G n (.r1 a) ρ q = wE G (.t 0) a ρ fun d => ∃ j, d = .int j ∧ (-(2 ^ 62) ≤ j ∧ j < 2 ^ 62) ∧ q ((List.range j.toNat).map fun (k : Nat) => .int k) := rfl
theorem x_r2 {q : List D → Prop} : wI G n (.r2 a b) ρ q = wE G (.t 0) a ρ fun d => wE G (.t 0) b ρ fun e => ∃ i j, d = .int i ∧ e = .int j ∧ (-(2 ^ 62) ≤ i ∧ i < 2 ^ 62 ∧ -(2 ^ 62) ≤ j ∧ j < 2 ^ 62) ∧ q ((List.range (j - i).toNat).map fun (k : Nat) => .int (i + k)) := rfl
theorem x_ft : fin (.t n) Q d = Q d := rfl
theorem x_ftst : fin .tst Q d = wTr d fun b => Q (.bool b) := rfl
theorem x_fLt {ds : List D} : finL (.t n) Q ds = Q (.list ds) := rfl
theorem x_fLf {ds : List D} : finL .fr Q ds = Q (.list ds) := rfl
theorem x_fBl {ds : List D} : finB md Q (.list ds) = finL md Q ds := rfl
theorem x_fBi {i : Int} : finB md Q (.int i) = fin md Q (.int i) := rfl
theorem x_fBs {i : Str} : finB md Q (.str i) = fin md Q (.str i) := rfl
theorem x_fBb {i : Bool} : finB md Q (.bool i) = fin md Q (.bool i) := rfl
theorem x_fBt {i : List D} : finB md Q (.tuple i) = fin md Q (.tuple i) := rfl
theorem x_trb {b : Bool} {q : Bool → Prop} : wTr (.bool b) q = q b := rfl
theorem x_tri {b : Int} {q : Bool → Prop} : wTr (.int b) q = q (b != 0) := rfl
theorem x_rv {q : List D → Prop} : wI G n (.rv e) ρ q = wE G (.t n) e ρ fun d => ∃ ds, lsOf d = some ds ∧ q ds.reverse := rfl
theorem x_rr1 {q : List D → Prop} : wI G n (.rr1 a) ρ q = wE G (.t 0) a ρ fun d => ∃ j, d = .int j ∧ (-(2 ^ 62) ≤ j ∧ j < 2 ^ 62) ∧ q ((List.range j.toNat).map fun (k : Nat) => .int k).reverse := rfl
theorem x_rr2 {q : List D → Prop} : wI G n (.rr2 a b) ρ q = wE G (.t 0) a ρ fun d => wE G (.t 0) b ρ fun e => ∃ i j, d = .int i ∧ e = .int j ∧ (-(2 ^ 62) ≤ i ∧ i < 2 ^ 62 ∧ -(2 ^ 62) ≤ j ∧ j < 2 ^ 62) ∧ q ((List.range (j - i).toNat).map fun (k : Nat) => .int (i + k)).reverse := rfl
theorem o_ls {s : List D} : lsOf (.list s) = some s := rfl
theorem o_tp {s : List D} : lsOf (.tuple s) = some s := rfl
-- statements
theorem x_nil : wSs G .nil P ρ = P.nx ρ := rfl
theorem x_cons : wSs G (.cons s ss) P ρ = wS G s { P with nx := wSs G ss P } ρ := rfl
theorem x_asg {tg : Tg} : wS G (.asg tg e) P ρ = wE G (.t 0) e ρ fun d => wG tg d ρ P.nx := rfl
theorem x_own : wS G (.own i e) P ρ = wE G .fr e ρ fun d => ∃ ds, d = .list ds ∧ i < ρ.length ∧ P.nx (ρ.set i (some (.ow ds))) := rfl
theorem x_own2 : wS G (.own2 i) P ρ = (i < ρ.length ∧ P.nx (ρ.set i (some (.ow2 [])))) := rfl
theorem x_frz : wS G (.frz i) P ρ = wFrz P.nx i ρ (gt ρ i) := rfl
theorem x_app : wS G (.app i e) P ρ = ∃ ds, gt ρ i = some (.ow ds) ∧ wE G (.t 0) e ρ fun d => ds.length < sizeLine ∧ P.nx (ρ.set i (some (.ow (ds ++ [d])))) := rfl
theorem x_app2 : wS G (.app2 i e) P ρ = ∃ dss, gt ρ i = some (.ow2 dss) ∧ wE G .fr e ρ fun d => ∃ ds, d = .list ds ∧ dss.length < sizeLine ∧ P.nx (ρ.set i (some (.ow2 (dss ++ [ds])))) := rfl
theorem x_appI : wS G (.appI i j e) P ρ = ∃ dss, gt ρ i = some (.ow2 dss) ∧ wE G (.t 0) j ρ fun y => ∃ k n ds, y = .int k ∧ ixN dss.length k = some n ∧ dss[n]? = some ds ∧ wE G (.t 0) e ρ fun d => ds.length < sizeLine ∧ P.nx (ρ.set i (some (.ow2 (dss.set n (ds ++ [d]))))) := rfl
theorem x_seti : wS G (.seti i j e) P ρ = ∃ ds, gt ρ i = some (.ow ds) ∧ wE G (.t 0) e ρ fun d => wE G (.t 0) j ρ fun y => ∃ k n, y = .int k ∧ ixN ds.length k = some n ∧ P.nx (ρ.set i (some (.ow (ds.set n d)))) := rfl
theorem x_set2 : wS G (.set2 i j k e) P ρ = ∃ dss, gt ρ i = some (.ow2 dss) ∧ wE G (.t 0) e ρ fun d => wE G (.t 0) j ρ fun y => ∃ k1 n1 ds, y = .int k1 ∧ ixN dss.length k1 = some n1 ∧ dss[n1]? = some ds ∧
      wE G (.t 0) k ρ fun z => ∃ k2 n2, z = .int k2 ∧ ixN ds.length k2 = some n2 ∧ P.nx (ρ.set i (some (.ow2 (dss.set n1 (ds.set n2 d))))) := rfl
theorem x_drop : wS G (.drop e) P ρ = wE G (.t 0) e ρ fun _ => P.nx ρ := rfl
theorem x_ifs : wS G (.ifs c t u) P ρ = wE G .tst c ρ fun x => ∃ k, x = .bool k ∧ (if k = true then wSs G t P ρ else wSs G u P ρ) := rfl
theorem x_whl : wS G (.whl c t) P ρ = wWhlE G c t P ρ := rfl
theorem x_fr {tg : Tg} {it : I} : wS G (.fr tg it t) P ρ = wI G 0 it ρ fun ds => wForE G tg t P ds ρ := rfl
theorem x_ret : wS G (.ret e) P ρ = wE G (.t 0) e ρ P.rt := rfl
theorem x_retN : wS G .retN P ρ = P.rt .none := rfl
theorem x_pass : wS G .pass P ρ = P.nx ρ := rfl
theorem x_brk : wS G .brk P ρ = P.bk ρ := rfl
theorem x_cont : wS G .cont P ρ = P.ct ρ := rfl
theorem x_gnm {q : Env → Prop} : wG (.nm i) d ρ q = (i < ρ.length ∧ q (ρ.set i (some (.fz d)))) := rfl
theorem x_gtp {is : List Nat} {ds : List D} {q : Env → Prop} : wG (.tp is) (.tuple ds) ρ q = ∃ ρ', setAll is ds ρ = some ρ' ∧ q ρ' := rfl
theorem x_g0 : gt (x :: l) 0 = x := rfl
theorem x_gs : gt (x :: l) (i + 1) = gt l i := rfl
theorem x_rt {p : D → Prop} : (endOf p).rt = p := rfl
theorem x_nx {p : D → Prop} : (endOf p).nx = fun _ => p .none := rfl
theorem o_int {i : Int} {t : String} : isOne (.int i) t = isT "int" t := rfl
theorem o_bl {i : Bool} {t : String} : isOne (.bool i) t = isT "bool" t := rfl
theorem o_str {i : Str} {t : String} : isOne (.str i) t = isT "str" t := rfl
theorem o_lst {i : List D} {t : String} : isOne (.list i) t = isT "list" t := rfl
theorem o_tup {i : List D} {t : String} : isOne (.tuple i) t = isT "tuple" t := rfl
theorem o_non {t : String} : isOne .none t = isT "NoneType" t := rfl
theorem t_str {s : Str} : tyN (.str s) = "str" := rfl
theorem t_lst {s : List D} : tyN (.list s) = "list" := rfl
theorem s_lst {s : List D} : seqOf (.list s) = some s := rfl
theorem s_tup {s : List D} : seqOf (.tuple s) = some s := rfl

/-! operations at the shapes that come up -/
section
variable {i j : Int} {a b : Str} {x y : List D} {p q : Bool} {Q : D → Prop} {N : Bool → Prop}
theorem b_addI : wBin .Add (.int i) (.int j) Q = Q (.int (i + j)) := rfl
theorem b_addS : wBin .Add (.str a) (.str b) Q = (a.length + b.length ≤ sizeLine ∧ Q (.str (a ++ b))) := rfl
theorem b_addL : wBin .Add (.list x) (.list y) Q = (x.length + y.length ≤ sizeLine ∧ Q (.list (x ++ y))) := rfl
theorem b_addT : wBin .Add (.tuple x) (.tuple y) Q = (x.length + y.length ≤ sizeLine ∧ Q (.tuple (x ++ y))) := rfl
theorem b_sub : wBin .Sub (.int i) (.int j) Q = Q (.int (i - j)) := rfl
theorem b_mul : wBin .Mult (.int i) (.int j) Q = (IntMulOk i j ∧ Q (.int (i * j))) := rfl
theorem b_mulL : wBin .Mult (.list x) (.int j) Q = ((-(2 ^ 63) ≤ j ∧ j < 2 ^ 63 ∧ x.length * j.toNat ≤ sizeLine) ∧ Q (.list (List.replicate j.toNat x).flatten)) := rfl
theorem b_mulT : wBin .Mult (.tuple x) (.int j) Q = ((-(2 ^ 63) ≤ j ∧ j ≤ 1000 ∧ x.length ≤ 1000) ∧ Q (.tuple (List.replicate j.toNat x).flatten)) := rfl
theorem b_and : wBin .BitAnd (.int i) (.int j) Q = Q (.int (Builtin.bitAnd i j)) := rfl
theorem b_or : wBin .BitOr (.int i) (.int j) Q = Q (.int (Builtin.bitOr i j)) := rfl
theorem b_xor : wBin .BitXor (.int i) (.int j) Q = Q (.int (Builtin.bitXor i j)) := rfl
theorem b_div : wBin .FloorDiv (.int i) (.int j) Q = (CDivW i j ∧ Q (.int (i / j))) := rfl
theorem b_mod : wBin .Mod (.int i) (.int j) Q = (0 < j ∧ Q (.int (i % j))) := rfl
theorem b_pow : wBin .Pow (.int i) (.int j) Q = (CPow i j ∧ Q (.int (i ^ j.toNat))) := rfl
theorem b_shl : wBin .LShift (.int i) (.int j) Q = (CShl i j ∧ Q (.int (i * 2 ^ j.toNat))) := rfl
theorem b_shr : wBin .RShift (.int i) (.int j) Q = (0 ≤ j ∧ Q (.int (i / 2 ^ j.toNat))) := rfl
theorem e_ii : wEq (.int i) (.int j) N = N (decide (i = j)) := rfl
theorem e_ss : wEq (.str a) (.str b) N = N (decide (a = b)) := rfl
theorem e_bb : wEq (.bool p) (.bool q) N = N (decide (p = q)) := rfl
theorem e_nn : wEq .none .none N = N true := rfl
theorem e_ni : wEq .none (.int j) N = N false := rfl
theorem e_in : wEq (.int j) .none N = N false := rfl
theorem e_ns : wEq .none (.str a) N = N false := rfl
theorem e_sn : wEq (.str a) .none N = N false := rfl
theorem e_is : wEq (.int j) (.str a) N = N false := rfl
theorem e_si : wEq (.str a) (.int j) N = N false := rfl
theorem e_nb : wEq .none (.bool p) N = N false := rfl
theorem e_bn : wEq (.bool p) .none N = N false := rfl
theorem c_eq {x y : D} : wCmp .Eq x y N = wEq x y N := rfl
theorem c_ne {x y : D} : wCmp .NotEq x y N = wEq x y fun b => N (!b) := rfl
theorem c_lt : wCmp .Lt (.int i) (.int j) N = N (decide (i < j)) := rfl
theorem c_le : wCmp .LtE (.int i) (.int j) N = N (decide (i ≤ j)) := rfl
theorem c_gt : wCmp .Gt (.int i) (.int j) N = N (decide (j < i)) := rfl
theorem c_ge : wCmp .GtE (.int i) (.int j) N = N (decide (j ≤ i)) := rfl
theorem c_in {x y : D} : wCmp .In x y N = wIn x y N := rfl
theorem c_ni {x y : D} : wCmp .NotIn x y N = wIn x y fun b => N (!b) := rfl
theorem c_is {x : D} : wCmp .Is x .none N = N (match x with | .none => true | _ => false) := rfl
theorem c_isn {x : D} : wCmp .IsNot x .none N = N (match x with | .none => false | _ => true) := rfl
theorem i_l : wIx (.list x) (.int i) Q = ∃ d, atI x i = some d ∧ Q d := rfl
theorem i_t : wIx (.tuple x) (.int i) Q = ∃ d, atI x i = some d ∧ Q d := rfl
theorem i_s : wIx (.str a) (.int i) Q = (a.length ≤ sizeLine ∧ ∃ c, atI a.cps.toList i = some c ∧ Q (.str ⟨#[c]⟩)) := rfl
theorem l_l {l h : Option Int} : wSl (.list x) l h Q = Q (.list (cutD x l h)) := rfl
theorem l_t {l h : Option Int} : wSl (.tuple x) l h Q = Q (.tuple (cutD x l h)) := rfl
theorem l_s {l h : Option Int} : wSl (.str a) l h Q = (a.length ≤ sizeLine ∧ Q (.str (cutS a l h))) := rfl
theorem f_lenL : wBl .len [.list x] Q = Q (.int x.length) := rfl
theorem f_lenT : wBl .len [.tuple x] Q = Q (.int x.length) := rfl
theorem f_lenS : wBl .len [.str a] Q = (a.length ≤ sizeLine ∧ Q (.int a.length)) := rfl
theorem f_intI : wBl .int [.int i] Q = Q (.int i) := rfl
theorem f_intB : wBl .int [.bool p] Q = Q (.int (if p then 1 else 0)) := rfl
theorem f_str : wBl .str [.int i] Q = (i.natAbs.log2 < 1920 ∧ Q (.str (toString i))) := rfl
theorem f_tupL : wBl .tuple [.list x] Q = Q (.tuple x) := rfl
theorem f_tupT : wBl .tuple [.tuple x] Q = Q (.tuple x) := rfl
theorem f_lstL : wBl .list [.list x] Q = Q (.list x) := rfl
theorem f_lstT : wBl .list [.tuple x] Q = Q (.list x) := rfl
theorem f_abs : wBl .abs [.int i] Q = Q (.int (if i < 0 then -i else i)) := rfl
theorem f_max : wBl .max [.int i, .int j] Q = Q (.int (if j > i then j else i)) := rfl
theorem f_min : wBl .min [.int i, .int j] Q = Q (.int (if j < i then j else i)) := rfl
theorem f_sum : wBl .sum [.list x] Q = ∃ ns : List Int, x = ns.map .int ∧ Q (.int ns.sum) := rfl
theorem m_join : wMt .join (.str a) [.list x] Q = ∃ ys : List Str, x = ys.map .str ∧ (ys.map (·.length)).sum + ys.length * a.length ≤ 16777216 ∧ Q (.str (Txt.join a ys)) := rfl
theorem m_find3 : wMt .find3 (.str a) [.str b, .int i] Q = Q (.int (Txt.find3 a b i)) := rfl
theorem m_sindex : wMt .sindex (.str a) [.str b] Q = ∃ i rest, Builtin.Str.occurrences a b 0 a.length 1 = i :: rest ∧ Q (.int (i : Nat)) := rfl
theorem m_rfind4 : wMt .rfind4 (.str a) [.str b, .int i, .int j] Q = Q (.int (Txt.rfindIn a b i j)) := rfl
end
/-! ### loops -/
theorem for_of {tg : Tg} {ds : List D} (I : Nat → Env → Prop) (h0 : I 0 ρ)
    (hs : ∀ (i : Nat) (d : D) (ρ' : Env) (N : Env → Prop), ds[i]? = some d → I i ρ' → (∀ ρ'', I (i + 1) ρ'' → N ρ'') → wG tg d ρ' fun ρ'' => wSs G t { P with nx := N, ct := N, bk := P.nx } ρ'')
    (hd : ∀ ρ', I ds.length ρ' → P.nx ρ') : wForE G tg t P ds ρ := by
  unfold wForE
  have go : ∀ (k : Nat) (ρ' : Env), k ≤ ds.length → I (ds.length - k) ρ' → wFor (wG tg) (wSs G t) P (ds.drop (ds.length - k)) ρ' := by
    intro k
    induction k with
    | zero =>
      intro ρ' _ hI
      rw [Nat.sub_zero, List.drop_length]
      exact hd ρ' hI
    | succ k ih =>
      intro ρ' hk hI
      have hl : ds.length - (k + 1) < ds.length := by omega
      rw [List.drop_eq_getElem_cons hl]
      show wG tg ds[ds.length - (k + 1)] ρ' fun ρ'' => _
      refine hs _ _ ρ' _ (List.getElem?_eq_getElem hl) hI fun ρ'' h => ?_
      have e : ds.length - (k + 1) + 1 = ds.length - k := by omega
      rw [e] at h ⊢
      exact ih ρ'' (by omega) h
  have := go ds.length ρ (Nat.le_refl _)
  rw [Nat.sub_self] at this
  exact this h0
/-- a while by an invariant and a number that falls -/
theorem whl_of (I : Nat → Env → Prop) (m : Nat) (h0 : I m ρ)
    (hs : ∀ (m : Nat) (ρ' : Env), I m ρ' → wE G .tst c ρ' fun x => ∃ k, x = .bool k ∧ (if k = true then wSs G t { P with nx := fun ρ'' => ∃ m', m' < m ∧ I m' ρ'', ct := fun ρ'' => ∃ m', m' < m ∧ I m' ρ'', bk := P.nx } ρ' else P.nx ρ')) : wWhlE G c t P ρ :=
  ⟨I, ⟨m, h0⟩, hs⟩
theorem map_of {own : List (Str × Nat)} {tg : Tg} {cs : Eo} {ds acc : List D} {q : List D → Prop} (g : D → D)
    (h : ∀ d ∈ ds, ∀ K : Option D → Prop, K (some (g d)) → wG tg d (wipeE ρ (own.map (·.2))) fun ρ' => wC G cs ρ' fun k => if k = true then wE G (.t 0) e ρ' fun y => K (some y) else K none)
    (hq : q (acc ++ ds.map g)) : wMapE G own e tg cs ρ ds acc q := by
  unfold wMapE
  revert acc
  induction ds with
  | nil =>
    intro acc hq
    rw [List.map_nil, List.append_nil] at hq
    exact hq
  | cons d ds ih =>
    intro acc hq
    generalize hf : (fun (d : D) (K : Option PyData → Prop) => wG tg d (wipeE ρ (own.map (·.2))) fun ρ' => wC G cs ρ' fun k => if k = true then wE G (.t 0) e ρ' fun y => K (some y) else K none) = f at ih ⊢
    have hh : ∀ K : Option D → Prop, K (some (g d)) → f d K := by
      rw [← hf]; exact h d List.mem_cons_self
    show f d _
    refine hh _ ?_
    refine ih (fun d' hd => h d' (List.mem_cons_of_mem _ hd)) ?_
    rw [List.append_assoc]
    exact hq
/-- a comprehension whose rows are only known to be of a kind -/
theorem map_any {own : List (Str × Nat)} {tg : Tg} {cs : Eo} {ds acc : List D} {q : List D → Prop} (p : D → Prop)
    (h : ∀ d ∈ ds, ∀ K : Option D → Prop, (∀ y, p y → K (some y)) → wG tg d (wipeE ρ (own.map (·.2))) fun ρ' => wC G cs ρ' fun k => if k = true then wE G (.t 0) e ρ' fun y => K (some y) else K none)
    (hq : ∀ ys, (∀ y ∈ ys, p y) → ys.length = ds.length → q (acc ++ ys)) : wMapE G own e tg cs ρ ds acc q := by
  unfold wMapE
  revert acc
  induction ds with
  | nil =>
    intro acc hq
    have := hq [] (fun _ h => by cases h) rfl
    rw [List.append_nil] at this
    exact this
  | cons d ds ih =>
    intro acc hq
    generalize hf : (fun (d : D) (K : Option PyData → Prop) => wG tg d (wipeE ρ (own.map (·.2))) fun ρ' => wC G cs ρ' fun k => if k = true then wE G (.t 0) e ρ' fun y => K (some y) else K none) = f at ih ⊢
    have hh : ∀ K : Option D → Prop, (∀ y, p y → K (some y)) → f d K := by
      rw [← hf]; exact h d List.mem_cons_self
    show f d _
    refine hh _ fun y hy => ?_
    refine ih (fun d' hd => h d' (List.mem_cons_of_mem _ hd)) fun ys h1 h2 => ?_
    rw [List.append_assoc]
    refine hq (y :: ys) (fun z hz => ?_) (by rw [List.length_cons, List.length_cons, h2])
    rcases List.mem_cons.mp hz with rfl | hz
    · exact hy
    · exact h1 z hz
end
end PD

namespace PL
open PySem PySem.Spec PyProof.Rows L2 PD
local macro_rules | `(tactic| walk_at "x") => `(tactic| simp (config := { decide := false }) only [x_var, x_v0, x_v1, x_v11, x_v12, x_v13, x_v1t, x_v22, x_v23, x_v2t, bLv, x_ct, x_non, x_bl, x_int, x_str, x_bin, x_neg, x_cmp, x_bopt, x_bopv, x_nt, x_ntv, x_ifx, x_ix, x_ixt, x_sl, x_call, x_callk, x_blt, x_isi, x_mth, x_tup, x_lst, x_lc, x_ts0, x_ts1, x_bs0, x_bs1, x_c0, x_c1,
    x_eo0, x_eo1, x_es0, x_es1, x_ls, x_r1, x_r2, x_rv, x_rr1, x_rr2, o_ls, o_tp, x_ft, x_ftst, x_fLt, x_fLf, x_fBl, x_fBi, x_fBs, x_fBb, x_fBt, x_trb, x_tri, x_nil, x_cons, x_asg, x_own, x_own2, x_frz, x_app, x_app2, x_appI, x_seti, x_set2, x_drop, x_ifs, x_whl, x_fr, x_ret, x_retN, x_pass, x_brk, x_cont, x_gnm, x_gtp, x_g0, x_gs, x_rt, x_nx,
    b_addI, b_addS, b_addL, b_addT, b_sub, b_mul, b_mulL, b_mulT, b_and, b_or, b_xor, b_div, b_mod, b_pow, b_shl, b_shr, e_ii, e_ss, e_bb, e_nn, e_ni, e_in, e_ns, e_sn, e_is, e_si, e_nb, e_bn, c_eq, c_ne, c_lt, c_le, c_gt, c_ge, c_in, c_ni, c_is, c_isn, i_l, i_t, i_s, l_l, l_t, l_s,
    f_lenL, f_lenT, f_lenS, f_intI, f_intB, f_str, f_tupL, f_tupT, f_lstL, f_lstT, f_abs, f_max, f_min, f_sum, m_join, m_find3, m_rfind4, m_sindex, s_lst, s_tup, wFrz, setAll, wipeE, t_str, t_lst, mtTy, o_int, o_bl, o_str, o_lst, o_tup, o_non, isT, String.reduceBEq, String.reduceEq, beq_self_eq_true, Nat.reduceAdd, Nat.reduceLT, Nat.reduceSub,
    List.map_cons, List.map_nil, List.length_cons, List.length_nil, List.set_cons_zero, List.set_cons_succ, List.any_cons, List.any_nil,
    PyData.bool.injEq, PyData.int.injEq, PyData.str.injEq, PyData.list.injEq, PyData.tuple.injEq, Option.some.injEq, Sl.fz.injEq, Sl.ow.injEq, Sl.ow2.injEq,
    exists_eq_left, exists_eq_left', exists_and_left, exists_and_right, and_assoc, true_and, and_true, if_true, if_false, ite_true, ite_false, decide_eq_true_eq, Bool.true_eq_false, Bool.false_eq_true, Bool.not_true, Bool.not_false, Bool.or_true, Bool.true_or, Bool.or_false, Bool.false_or, Bool.and_true, Bool.true_and, Bool.and_false, Bool.false_and, Nat.zero_lt_succ, reduceCtorEq])
/-! ### helpers that many laws have -/
def B_whole : Ss := (.cons (.ret (.bop true (.cons (.isi (.var 0) ["int"]) (.cons (.nt (.isi (.var 0) ["bool"])) .nil))))
  .nil)

def B_cell : Ss := (.cons (.ifs (.cmp .Lt (.var 1) (.blt .len (.cons (.var 0) .nil))) (.cons (.ret (.ix (.var 0) (.var 1)))
  .nil) .nil)
  (.cons (.asg (.nm 2) (.int 17))
  (.cons (.fr (.nm 3) (.ls (.var 0)) (.cons (.asg (.nm 2) (.bin .Mod (.blt .int (.cons (.bin .Add (.bin .Mult (.var 2) (.int 31)) (.bin .Mod (.blt .int (.cons (.var 3) .nil)) (.int 1000003))) .nil)) (.int 1000003)))
  .nil))
  (.cons (.ret (.bin .Mod (.blt .int (.cons (.bin .Mult (.bin .Mult (.bin .Add (.var 2) (.int 7)) (.bin .Add (.var 1) (.int 3))) (.int 69621)) .nil)) (.int 2147483647)))
  .nil))))

def B_digits : Ss := (.cons (.own 2 (.lst .nil))
  (.cons (.asg (.nm 3) (.blt .int (.cons (.var 0) .nil)))
  (.cons (.ifs (.cmp .GtE (.var 3) (.bin .Pow (.int 10) (.int 18))) (.cons (.asg (.nm 3) (.bin .Sub (.var 3) (.bin .Pow (.int 10) (.int 18))))
  (.cons (.fr (.nm 6) (.ls (.var 1)) (.cons (.app 2 (.bin .Mod (.blt .int (.cons (.var 3) .nil)) (.var 6)))
  (.cons (.asg (.nm 3) (.bin .FloorDiv (.blt .int (.cons (.var 3) .nil)) (.var 6)))
  .nil)))
  (.cons (.frz 2)
  (.cons (.ret (.var 2))
  .nil)))) .nil)
  (.cons (.asg (.nm 4) (.bin .Mod (.blt .int (.cons (.var 3) .nil)) (.int 2147483629)))
  (.cons (.fr (.nm 5) (.r1 (.blt .len (.cons (.var 1) .nil))) (.cons (.asg (.nm 4) (.bin .Mod (.blt .int (.cons (.bin .Add (.bin .Add (.bin .Mult (.var 4) (.int 48271)) (.bin .Mult (.int 974711) (.var 5))) (.int 12345)) .nil)) (.int 2147483647)))
  (.cons (.asg (.nm 7) (.bin .Mod (.blt .int (.cons (.bin .Mult (.var 4) (.bin .Add (.bin .FloorDiv (.var 4) (.int 65537)) (.int 3))) .nil)) (.int 2147483629)))
  (.cons (.app 2 (.bin .Mod (.bin .FloorDiv (.var 7) (.int 19)) (.ix (.var 1) (.var 5))))
  .nil))))
  (.cons (.frz 2)
  (.cons (.ret (.var 2))
  .nil)))))))

def eqF (p : List D → Prop) (f : List D → D) : FnS := ⟨p, fun ds d => d = f ds⟩
theorem x_in1 {c : Nat} {z : Str} {Q : Bool → Prop} : wIn (.str ⟨#[c]⟩) (.str z) Q = Q (decide (c ∈ z.cps.toList)) := rfl
theorem x_in2 {c : Nat} {l : List Nat} {Q : Bool → Prop} : wIn (.str ⟨#[c]⟩) (.str ⟨l.toArray⟩) Q = Q (decide (c ∈ l)) := rfl
theorem atN {α : Type} {xs : List α} {k : Nat} (h : k < xs.length) : atI xs (k : Int) = some xs[k] := atI_nat (List.getElem?_eq_getElem h)
theorem mulR {a b : Int} (h1 : -(2 ^ 64) < b) (h2 : b < 2 ^ 64) : IntMulOk a b := .of_right (intBits_le_64 h1 h2)
theorem mulL {a b : Int} (h1 : -(2 ^ 64) < a) (h2 : a < 2 ^ 64) : IntMulOk a b := .of_left (intBits_le_64 h1 h2)
theorem ixN_at {n j : Nat} (hj : j < n) : ixN n (j : Int) = some j := by
  unfold ixN
  rw [if_pos (by omega), if_pos (by omega), Int.toNat_natCast]
/-- the rows of a range -/
theorem rng_at {lo : Int} {n i : Nat} {d : D} (h : ((List.range n).map fun (k : Nat) => PyData.int (lo + k))[i]? = some d) : i < n ∧ d = .int (lo + (i : Int)) := by
  have hi := (List.getElem?_eq_some_iff.mp h).1
  rw [List.length_map, List.length_range] at hi
  rw [List.getElem?_map, List.getElem?_range hi] at h
  exact ⟨hi, (Option.some.inj h).symm⟩
theorem rng0_at {n i : Nat} {d : D} (h : ((List.range n).map fun (k : Nat) => PyData.int k)[i]? = some d) : i < n ∧ d = .int (i : Int) := by
  have hi := (List.getElem?_eq_some_iff.mp h).1
  rw [List.length_map, List.length_range] at hi
  rw [List.getElem?_map, List.getElem?_range hi] at h
  exact ⟨hi, (Option.some.inj h).symm⟩
def sp_whole : FnS := eqF (fun ds => ∃ i, ds = [.int i]) fun _ => .bool true
def sp_cell : FnS := ⟨fun ds => ∃ (ns : List Int) (k : Nat), k ≤ 1000 ∧ ds = [.list (ns.map .int), .int k], fun _ d => ∃ z, d = .int z⟩
theorem atI_int {α : Type} {xs : List α} {i : Int} (d : α) (h1 : 0 ≤ i) (h2 : i < xs.length) : atI xs i = some (xs.getD i.toNat d) := by
  obtain ⟨n, rfl⟩ := Int.eq_ofNat_of_zero_le h1
  rw [Int.toNat_natCast, List.getD_eq_getElem?_getD]
  have hn : n < xs.length := by omega
  rw [List.getElem?_eq_getElem hn]
  exact atI_nat (List.getElem?_eq_getElem hn)
theorem atI_ints {ns : List Int} {i : Int} (h1 : 0 ≤ i) (h2 : i < ns.length) : atI (ns.map PyData.int) i = some (.int (ns.getD i.toNat 0)) := by
  obtain ⟨n, rfl⟩ := Int.eq_ofNat_of_zero_le h1
  rw [Int.toNat_natCast, List.getD_eq_getElem?_getD]
  have hn : n < ns.length := by omega
  rw [List.getElem?_eq_getElem hn]
  exact atI_nat (by rw [List.getElem?_map, List.getElem?_eq_getElem hn]; rfl)
theorem getD_mem {ns : List Int} {n : Nat} (h : n < ns.length) : ns.getD n 0 ∈ ns := by
  rw [List.getD_eq_getElem?_getD, List.getElem?_eq_getElem h]
  exact List.getElem_mem h
def digs : List Int → List Int → Prop
  | [], [] => True
  | r :: rs, s :: ss => (0 ≤ r ∧ r < s) ∧ digs rs ss
  | _, _ => False
def sp_digits : FnS := ⟨fun ds => ∃ (z : Int) (ss : List Int), ds = [.int z, .list (ss.map .int)] ∧ (∀ s ∈ ss, 0 < s ∧ s < 2 ^ 1000) ∧ ss.length ≤ 1000,
  fun ds d => ∀ (z : Int) (ss : List Int), ds = [.int z, .list (ss.map .int)] → ∃ rs, d = .list (rs.map .int) ∧ digs rs ss⟩
theorem digs_all {b : Int} : ∀ {rs : List Int} {k : Nat}, digs rs (List.replicate k b) → (∀ q ∈ rs, 0 ≤ q ∧ q < b) ∧ rs.length = k
  | [], 0, _ => ⟨by simp, rfl⟩
  | r :: rs, k + 1, h => by
    have ih := digs_all (rs := rs) (k := k) h.2
    refine ⟨fun q hq => ?_, by rw [List.length_cons, ih.2]⟩
    rcases List.mem_cons.mp hq with rfl | hq
    · exact h.1
    · exact ih.1 q hq
  | [], k + 1, h => h.elim
  | _ :: _, 0, h => h.elim
section
variable {G : Gb}
theorem w_whole (ds : List D) (h : sp_whole.pre ds) : wSs G B_whole (endOf (sp_whole.post ds)) (env0 1 ds) := by
  obtain ⟨i, rfl⟩ := h
  show wSs G B_whole _ [some (.fz (.int i))]
  unfold B_whole
  walk_at "x"
  rfl
def I_cell (ns : List Int) (k : Nat) (_ : Nat) (ρ : PD.Env) : Prop := ∃ (s : Int) (s1 : Option Sl), ρ = [some (.fz (.list (ns.map .int))), some (.fz (.int k)), some (.fz (.int s)), s1]
theorem w_cell (ds : List D) (h : sp_cell.pre ds) : wSs G B_cell (endOf (sp_cell.post ds)) (env0 4 ds) := by
  obtain ⟨ns, k, hk, rfl⟩ := h
  show wSs G B_cell _ [some (.fz (.list (ns.map .int))), some (.fz (.int k)), none, none]
  unfold B_cell
  walk_at "x"
  rw [List.length_map]
  by_cases h : k < ns.length
  · rw [if_pos (by omega)]
    refine ⟨.int ns[k], atI_nat (by rw [List.getElem?_map, List.getElem?_eq_getElem h]; rfl), ?_⟩
    exact ⟨_, rfl⟩
  · rw [if_neg (by omega)]
    refine for_of (I_cell ns k) ⟨_, _, rfl⟩ ?_ ?_
    · rintro i d ρ' N hd ⟨s, s1, rfl⟩ hN
      obtain ⟨z, hz, rfl⟩ := List.mem_map.mp (List.mem_of_getElem? hd)
      walk_at "x"
      exact ⟨mulR (by decide) (by decide), by decide, by decide, hN _ ⟨_, _, rfl⟩⟩
    · rintro ρ' ⟨s, s1, rfl⟩
      walk_at "x"
      exact ⟨mulR (by omega) (by omega), mulR (by decide) (by decide), by decide, _, rfl⟩
theorem digs_len : ∀ {rs ss : List Int}, digs rs ss → rs.length = ss.length
  | [], [], _ => rfl
  | _ :: _, _ :: _, h => by rw [List.length_cons, List.length_cons, digs_len h.2]
theorem digs_snoc : ∀ {rs ss : List Int} {r s : Int}, digs rs ss → 0 ≤ r → r < s → digs (rs ++ [r]) (ss ++ [s])
  | [], [], _, _, _, h1, h2 => ⟨⟨h1, h2⟩, trivial⟩
  | _ :: _, _ :: _, _, _, h, h1, h2 => ⟨h.1, digs_snoc h.2 h1 h2⟩
def I_d1 (z : Int) (ss : List Int) (i : Nat) (ρ : PD.Env) : Prop := ∃ (rs : List Int) (w : Int) (s1 s2 s3 s4 : Option Sl), digs rs (ss.take i) ∧ ρ = [some (.fz (.int z)), some (.fz (.list (ss.map .int))), some (.ow (rs.map .int)), some (.fz (.int w)), s1, s2, s3, s4]
def I_d2 (z : Int) (ss : List Int) (i : Nat) (ρ : PD.Env) : Prop := ∃ (rs : List Int) (w s : Int) (s2 s3 s4 : Option Sl), digs rs (ss.take i) ∧ 0 ≤ s ∧ s < 2147483647 ∧ ρ = [some (.fz (.int z)), some (.fz (.list (ss.map .int))), some (.ow (rs.map .int)), some (.fz (.int w)), some (.fz (.int s)), s2, s3, s4]
theorem w_digits (ds : List D) (h : sp_digits.pre ds) : wSs G B_digits (endOf (sp_digits.post ds)) (env0 8 ds) := by
  obtain ⟨z, ss, rfl, hs, hl⟩ := h
  have hp : ∀ rs : List Int, digs rs ss → sp_digits.post [.int z, .list (ss.map .int)] (.list (rs.map .int)) := by
    intro rs hr z' ss' e
    have e2 : ss = ss' := by
      have := (List.cons.inj (List.cons.inj e).2).1
      have := PyData.list.inj this
      exact (List.map_inj_right (fun a b h => PyData.int.inj h)).mp this
    subst e2
    exact ⟨rs, rfl, hr⟩
  show wSs G B_digits _ [some (.fz (.int z)), some (.fz (.list (ss.map .int))), none, none, none, none, none, none]
  unfold B_digits
  walk_at "x"
  have tk1 : ∀ i, i < ss.length → ∀ s, ss[i]? = some s → ss.take (i + 1) = ss.take i ++ [s] := by
    intro i hi s e
    rw [List.take_add_one, e]; rfl
  refine ⟨by decide, by unfold CPow; decide, ?_⟩
  by_cases hz : (10 : Int) ^ Int.toNat 18 ≤ z
  · rw [if_pos hz]
    refine ⟨by unfold CPow; decide, for_of (I_d1 z ss) ⟨[], _, _, _, _, _, trivial, rfl⟩ ?_ ?_⟩
    · rintro i d ρ' N hd ⟨rs, w, s1, s2, s3, s4, g1, rfl⟩ hN
      rw [List.getElem?_map] at hd
      cases e : ss[i]? with
      | none => rw [e] at hd; cases hd
      | some s =>
      rw [e] at hd
      have hd : d = .int s := (Option.some.inj hd).symm
      subst hd
      have hi : i < ss.length := (List.getElem?_eq_some_iff.mp e).1
      have hs1 := hs s (List.mem_of_getElem? e)
      have gl := digs_len g1
      rw [List.length_take] at gl
      have g2 := digs_snoc g1 (Int.emod_nonneg w (b := s) (by omega)) (Int.emod_lt_of_pos w hs1.1)
      rw [← tk1 i hi s e] at g2
      walk_at "x"
      refine ⟨hs1.1, by rw [List.length_map, sizeLine_eq]; omega, wide_div (b := 1000) hs1.1 (by omega) (by decide) (by decide), hN _ ⟨rs ++ [w % s], _, _, _, _, _, g2, by rw [List.map_append]; rfl⟩⟩
    · rintro ρ' ⟨rs, w, s1, s2, s3, s4, g1, rfl⟩
      rw [List.length_map, List.take_length] at g1
      walk_at "x"
      exact hp rs g1
  · rw [if_neg hz]
    refine ⟨by decide, by rw [List.length_map]; omega, by rw [List.length_map]; omega, for_of (I_d2 z ss) ⟨[], _, _, _, _, _, trivial, Int.emod_nonneg _ (by decide), Int.lt_trans (Int.emod_lt_of_pos _ (by decide)) (by decide), rfl⟩ ?_ ?_⟩
    · rintro i d ρ' N hd ⟨rs, w, s, s2, s3, s4, g1, g3, g4, rfl⟩ hN
      have hi : i < ss.length := by
        have := (List.getElem?_eq_some_iff.mp hd).1
        rw [List.length_map, List.length_range, List.length_map] at this
        omega
      have hd : d = .int (i : Int) := by
        rw [List.getElem?_map, List.getElem?_range (by rw [List.length_map]; omega)] at hd
        exact (Option.some.inj hd).symm
      subst hd
      have e := List.getElem?_eq_getElem hi
      have hs1 := hs _ (List.mem_of_getElem? e)
      have gl := digs_len g1
      rw [List.length_take] at gl
      walk_at "x"
      have h5 : ∀ v : Int, 0 ≤ v % 2147483647 ∧ v % 2147483647 < 2147483647 := fun v => ⟨Int.emod_nonneg _ (by decide), Int.emod_lt_of_pos _ (by decide)⟩
      have h6 := h5 (s * 48271 + 974711 * (i : Int) + 12345)
      revert h6
      generalize (s * 48271 + 974711 * (i : Int) + 12345) % 2147483647 = q
      intro h6
      refine ⟨mulR (by decide) (by decide), mulL (by decide) (by decide), by decide, ⟨by decide, by decide +kernel⟩, mulR (by omega) (by omega), by decide, ⟨by decide, by decide +kernel⟩, _, atI_nat (by rw [List.getElem?_map, e]; rfl), ?_⟩
      walk_at "x"
      refine ⟨hs1.1, by rw [List.length_map, sizeLine_eq]; omega, ?_⟩
      generalize q * (q / 65537 + 3) % 2147483629 / 19 = v
      have g2 := digs_snoc g1 (Int.emod_nonneg v (b := ss[i]) (by omega)) (Int.emod_lt_of_pos v hs1.1)
      rw [← tk1 i hi _ e] at g2
      exact hN _ ⟨rs ++ [v % ss[i]], _, _, _, _, _, g2, h6.1, h6.2, by rw [List.map_append]; rfl⟩
    · rintro ρ' ⟨rs, w, s, s2, s3, s4, g1, g3, g4, rfl⟩
      rw [List.length_map, List.length_range, List.length_map, Int.toNat_natCast, List.take_length] at g1
      walk_at "x"
      exact hp rs g1
end
end PL

namespace K31
open PySem PySem.Spec PyProof.Rows L2 PD
/-- the i-th statement of the text -/
def topS (i : Nat) : Stmt := PySem.Challenge.pw_plainbehind_k31_text_meanings.main.body.getD i (.Pass ⟨0, 0, 0, 0⟩)

/-! #### text_shape -/
abbrev s_text_shape : Stmt := topS 5
abbrev C_text_shape : Ck := mkCk ["count"] [] [] [] []
def b_text_shape : Ss := (.cons (.ret (.bin .Add (.bin .Mult (.tup (.cons (.int 1) .nil)) (.var 0)) (.tup (.cons (.int 0) .nil))))
  .nil)
theorem sc_text_shape : FnScope ["count"] ["count"] (defScope s_text_shape) := C8.fnScope_by (by decide +kernel)
theorem ok_text_shape : okSs C_text_shape (defScope s_text_shape) b_text_shape (defBody s_text_shape) = true := by decide +kernel

/-! #### arrow -/
abbrev s_arrow : Stmt := topS 7
abbrev C_arrow : Ck := mkCk ["parts", "last", "kind", "part"] [] [] [] ["reversed"]
def b_arrow : Ss := (.cons (.asg (.nm 2) (.var 1))
  (.cons (.fr (.nm 3) (.rv (.var 0)) (.cons (.asg (.nm 2) (.tup (.cons (.var 3) (.cons (.var 2) .nil))))
  .nil))
  (.cons (.ret (.var 2))
  .nil)))
theorem sc_arrow : FnScope ["parts", "last", "kind", "part"] ["parts", "last"] (defScope s_arrow) := C8.fnScope_by (by decide +kernel)
theorem ok_arrow : okSs C_arrow (defScope s_arrow) b_arrow (defBody s_arrow) = true := by decide +kernel

/-! #### unarrow -/
abbrev s_unarrow : Stmt := topS 8
abbrev C_unarrow : Ck := mkCk ["kind", "parts"] [] [] [] ["isinstance", "tuple"]
def b_unarrow : Ss := (.cons (.own 1 (.lst .nil))
  (.cons (.whl (.isi (.var 0) ["tuple"]) (.cons (.app 1 (.ix (.var 0) (.int 0)))
  (.cons (.asg (.nm 0) (.ix (.var 0) (.int 1)))
  .nil)))
  (.cons (.ret (.tup (.cons (.blt .tuple (.cons (.var 1) .nil)) (.cons (.var 0) .nil))))
  .nil)))
theorem sc_unarrow : FnScope ["kind", "parts"] ["kind"] (defScope s_unarrow) := C8.fnScope_by (by decide +kernel)
theorem ok_unarrow : okSs C_unarrow (defScope s_unarrow) b_unarrow (defBody s_unarrow) = true := by decide +kernel

/-! #### shape_kind -/
abbrev s_shape_kind : Stmt := topS 9
abbrev C_shape_kind : Ck := mkCk ["shape", "kind", "arity"] [(1, "arrow")] [] [] []
def b_shape_kind : Ss := (.cons (.ret (.call 1 (.cons (.lc [("arity", 2)] (.call 1 (.cons (.bin .Mult (.lst (.cons (.var 1) .nil)) (.var 2)) (.cons (.var 1) .nil))) (.nm 2) (.ls (.var 0)) .no) (.cons (.var 1) .nil))))
  .nil)
theorem sc_shape_kind : FnScope ["shape", "kind", "arity"] ["shape", "kind"] (defScope s_shape_kind) := C8.fnScope_by (by decide +kernel)
theorem ok_shape_kind : okSs C_shape_kind (defScope s_shape_kind) b_shape_kind (defBody s_shape_kind) = true := by decide +kernel

/-! #### rows_of -/
abbrev s_rows_of : Stmt := topS 12
abbrev C_rows_of : Ck := mkCk ["kind", "limit", "what", "rows", "part"] [(2, "unarrow")] [] [(21, ("rows_of", 1, ["limit", "what"]))] []
def b_rows_of : Ss := (.cons (.asg (.nm 3) (.int 1))
  (.cons (.fr (.nm 4) (.ls (.ix (.call 2 (.cons (.var 0) .nil)) (.int 0))) (.cons (.ifs (.cmp .LtE (.var 3) (.var 1)) (.cons (.asg (.nm 3) (.bin .LShift (.var 3) (.callk 21 1 (.cons (.var 4) .nil) ["limit", "what"] (.cons (.var 1) (.cons (.var 2) .nil)))))
  .nil) .nil)
  .nil))
  (.cons (.ifs (.cmp .Gt (.var 3) (.var 1)) (.cons .never
  .nil) .nil)
  (.cons (.ret (.var 3))
  .nil))))
theorem sc_rows_of : FnScope ["kind", "limit", "what", "rows", "part"] ["kind", "limit", "what"] (defScope s_rows_of) := C8.fnScope_by (by decide +kernel)
theorem ok_rows_of : okSs C_rows_of (defScope s_rows_of) b_rows_of (defBody s_rows_of) = true := by decide +kernel

/-! #### value_of -/
abbrev s_value_of : Stmt := topS 13
abbrev C_value_of : Ck := mkCk ["kind", "meaning", "argument", "width"] [(22, "rows_of")] [] [] []
def b_value_of : Ss := (.cons (.asg (.nm 3) (.call 22 (.cons (.ix (.var 0) (.int 1)) .nil)))
  (.cons (.ret (.bin .BitAnd (.bin .RShift (.var 1) (.bin .Mult (.var 2) (.var 3))) (.bin .Sub (.bin .LShift (.int 1) (.var 3)) (.int 1))))
  .nil))
theorem sc_value_of : FnScope ["kind", "meaning", "argument", "width"] ["kind", "meaning", "argument"] (defScope s_value_of) := C8.fnScope_by (by decide +kernel)
theorem ok_value_of : okSs C_value_of (defScope s_value_of) b_value_of (defBody s_value_of) = true := by decide +kernel

/-! #### _measures -/
abbrev s__measures : Stmt := topS 15
abbrev C__measures : Ck := mkCk ["count", "kind", "whole", "rows"] [(0, "text_shape"), (3, "shape_kind"), (22, "rows_of")] [] [] []
def b__measures : Ss := (.cons (.asg (.nm 2) (.call 22 (.cons (.call 3 (.cons (.call 0 (.cons (.var 0) .nil)) (.cons (.var 1) .nil))) .nil)))
  (.cons (.asg (.nm 3) (.call 22 (.cons (.var 1) .nil)))
  (.cons (.ret (.tup (.cons (.var 3) (.cons (.bin .LShift (.int 1) (.var 3)) (.cons (.bin .LShift (.int 1) (.bin .LShift (.var 3) (.var 3))) (.cons (.bin .FloorDiv (.var 2) (.var 3)) .nil))))))
  .nil)))
theorem sc__measures : FnScope ["count", "kind", "whole", "rows"] ["count", "kind"] (defScope s__measures) := C8.fnScope_by (by decide +kernel)
theorem ok__measures : okSs C__measures (defScope s__measures) b__measures (defBody s__measures) = true := by decide +kernel

/-! #### _empty_meaning -/
abbrev s__empty_meaning : Stmt := topS 16
abbrev C__empty_meaning : Ck := mkCk ["count", "kind", "meaning", "entry", "rows", "many", "_", "entries"] [(6, "_measures")] [] [] ["range", "reversed"]
def b__empty_meaning : Ss := (.cons (.asg (.tp [4, 5, 6, 7]) (.call 6 (.cons (.var 0) (.cons (.var 1) .nil))))
  (.cons (.asg (.nm 2) (.int 0))
  (.cons (.fr (.nm 3) (.rr1 (.var 7)) (.cons (.asg (.nm 2) (.bin .BitOr (.bin .LShift (.var 2) (.var 4)) (.bin .Mod (.var 3) (.var 5))))
  .nil))
  (.cons (.ret (.var 2))
  .nil))))
theorem sc__empty_meaning : FnScope ["count", "kind", "meaning", "entry", "rows", "many", "_", "entries"] ["count", "kind"] (defScope s__empty_meaning) := C8.fnScope_by (by decide +kernel)
theorem ok__empty_meaning : okSs C__empty_meaning (defScope s__empty_meaning) b__empty_meaning (defBody s__empty_meaning) = true := by decide +kernel

/-! #### next_meaning -/
abbrev s_next_meaning : Stmt := topS 17
abbrev C_next_meaning : Ck := mkCk ["count", "kind", "before", "letter", "mask", "behind", "meaning", "entry", "rows", "many", "doings", "entries", "doing", "_", "thing"] [(6, "_measures")] [(0, "LETTERS")] [] ["range", "reversed"]
def b_next_meaning : Ss := (.cons (.asg (.tp [8, 9, 10, 11]) (.call 6 (.cons (.var 0) (.cons (.var 1) .nil))))
  (.cons (.asg (.nm 4) (.bin .Sub (.var 9) (.int 1)))
  (.cons (.asg (.nm 5) (.bin .Sub (.bin .Sub (.var 0) (.int 1)) (.mth .sindex (.ct 0) (.cons (.var 3) .nil))))
  (.cons (.asg (.nm 6) (.int 0))
  (.cons (.fr (.nm 7) (.rr1 (.var 11)) (.cons (.asg (.nm 12) (.bin .FloorDiv (.var 7) (.var 9)))
  (.cons (.fr (.nm 13) (.r1 (.var 5)) (.cons (.asg (.nm 12) (.bin .FloorDiv (.var 12) (.var 10)))
  .nil))
  (.cons (.asg (.nm 12) (.bin .Mod (.var 12) (.var 10)))
  (.cons (.asg (.nm 14) (.bin .BitAnd (.bin .RShift (.var 2) (.bin .Mult (.var 7) (.var 8))) (.var 4)))
  (.cons (.asg (.nm 6) (.bin .BitOr (.bin .LShift (.var 6) (.var 8)) (.bin .BitAnd (.bin .RShift (.var 12) (.bin .Mult (.var 14) (.var 8))) (.var 4))))
  .nil))))))
  (.cons (.ret (.var 6))
  .nil))))))
theorem sc_next_meaning : FnScope ["count", "kind", "before", "letter", "mask", "behind", "meaning", "entry", "rows", "many", "doings", "entries", "doing", "_", "thing"] ["count", "kind", "before", "letter"] (defScope s_next_meaning) := C8.fnScope_by (by decide +kernel)
theorem ok_next_meaning : okSs C_next_meaning (defScope s_next_meaning) b_next_meaning (defBody s_next_meaning) = true := by decide +kernel

/-! #### text_meaning -/
abbrev s_text_meaning : Stmt := topS 18
abbrev C_text_meaning : Ck := mkCk ["count", "kind", "text", "meaning", "letter"] [(7, "_empty_meaning"), (8, "next_meaning")] [] [] []
def b_text_meaning : Ss := (.cons (.asg (.nm 3) (.call 7 (.cons (.var 0) (.cons (.var 1) .nil))))
  (.cons (.fr (.nm 4) (.ls (.var 2)) (.cons (.asg (.nm 3) (.call 8 (.cons (.var 0) (.cons (.var 1) (.cons (.var 3) (.cons (.var 4) .nil))))))
  .nil))
  (.cons (.ret (.var 3))
  .nil)))
theorem sc_text_meaning : FnScope ["count", "kind", "text", "meaning", "letter"] ["count", "kind", "text"] (defScope s_text_meaning) := C8.fnScope_by (by decide +kernel)
theorem ok_text_meaning : okSs C_text_meaning (defScope s_text_meaning) b_text_meaning (defBody s_text_meaning) = true := by decide +kernel

/-! #### _law_whole -/
abbrev s__law_whole : Stmt := topS 20
abbrev C__law_whole : Ck := mkCk ["value"] [] [] [] ["bool", "int", "isinstance"]
def b__law_whole : Ss := (.cons (.ret (.bop true (.cons (.isi (.var 0) ["int"]) (.cons (.nt (.isi (.var 0) ["bool"])) .nil))))
  .nil)
theorem sc__law_whole : FnScope ["value"] ["value"] (defScope s__law_whole) := C8.fnScope_by (by decide +kernel)
theorem ok__law_whole : okSs C__law_whole (defScope s__law_whole) b__law_whole (defBody s__law_whole) = true := by decide +kernel

/-! #### _law_cell -/
abbrev s__law_cell : Stmt := topS 21
abbrev C__law_cell : Ck := mkCk ["script", "k", "seed", "cell"] [] [] [] ["int", "len"]
def b__law_cell : Ss := (.cons (.ifs (.cmp .Lt (.var 1) (.blt .len (.cons (.var 0) .nil))) (.cons (.ret (.ix (.var 0) (.var 1)))
  .nil) .nil)
  (.cons (.asg (.nm 2) (.int 17))
  (.cons (.fr (.nm 3) (.ls (.var 0)) (.cons (.asg (.nm 2) (.bin .Mod (.blt .int (.cons (.bin .Add (.bin .Mult (.var 2) (.int 31)) (.bin .Mod (.blt .int (.cons (.var 3) .nil)) (.int 1000003))) .nil)) (.int 1000003)))
  .nil))
  (.cons (.ret (.bin .Mod (.blt .int (.cons (.bin .Mult (.bin .Mult (.bin .Add (.var 2) (.int 7)) (.bin .Add (.var 1) (.int 3))) (.int 69621)) .nil)) (.int 2147483647)))
  .nil))))
theorem sc__law_cell : FnScope ["script", "k", "seed", "cell"] ["script", "k"] (defScope s__law_cell) := C8.fnScope_by (by decide +kernel)
theorem ok__law_cell : okSs C__law_cell (defScope s__law_cell) b__law_cell (defBody s__law_cell) = true := by decide +kernel

/-! #### _law_digits -/
abbrev s__law_digits : Stmt := topS 22
abbrev C__law_digits : Ck := mkCk ["cell", "sizes", "row", "rest", "seed", "k", "size", "twice"] [] [] [] ["int", "len", "range"]
def b__law_digits : Ss := (.cons (.own 2 (.lst .nil))
  (.cons (.asg (.nm 3) (.blt .int (.cons (.var 0) .nil)))
  (.cons (.ifs (.cmp .GtE (.var 3) (.bin .Pow (.int 10) (.int 18))) (.cons (.asg (.nm 3) (.bin .Sub (.var 3) (.bin .Pow (.int 10) (.int 18))))
  (.cons (.fr (.nm 6) (.ls (.var 1)) (.cons (.app 2 (.bin .Mod (.blt .int (.cons (.var 3) .nil)) (.var 6)))
  (.cons (.asg (.nm 3) (.bin .FloorDiv (.blt .int (.cons (.var 3) .nil)) (.var 6)))
  .nil)))
  (.cons (.frz 2)
  (.cons (.ret (.var 2))
  .nil)))) .nil)
  (.cons (.asg (.nm 4) (.bin .Mod (.blt .int (.cons (.var 3) .nil)) (.int 2147483629)))
  (.cons (.fr (.nm 5) (.r1 (.blt .len (.cons (.var 1) .nil))) (.cons (.asg (.nm 4) (.bin .Mod (.blt .int (.cons (.bin .Add (.bin .Add (.bin .Mult (.var 4) (.int 48271)) (.bin .Mult (.int 974711) (.var 5))) (.int 12345)) .nil)) (.int 2147483647)))
  (.cons (.asg (.nm 7) (.bin .Mod (.blt .int (.cons (.bin .Mult (.var 4) (.bin .Add (.bin .FloorDiv (.var 4) (.int 65537)) (.int 3))) .nil)) (.int 2147483629)))
  (.cons (.app 2 (.bin .Mod (.bin .FloorDiv (.var 7) (.int 19)) (.ix (.var 1) (.var 5))))
  .nil))))
  (.cons (.frz 2)
  (.cons (.ret (.var 2))
  .nil)))))))
theorem sc__law_digits : FnScope ["cell", "sizes", "row", "rest", "seed", "k", "size", "twice"] ["cell", "sizes"] (defScope s__law_digits) := C8.fnScope_by (by decide +kernel)
theorem ok__law_digits : okSs C__law_digits (defScope s__law_digits) b__law_digits (defBody s__law_digits) = true := by decide +kernel

/-! #### _law_rows -/
abbrev s__law_rows : Stmt := topS 23
abbrev C__law_rows : Ck := mkCk ["own", "count", "rest"] [(13, "_law_rows")] [] [] ["isinstance", "tuple"]
def b__law_rows : Ss := (.cons (.asg (.nm 1) (.int 1))
  (.cons (.asg (.nm 2) (.var 0))
  (.cons (.whl (.isi (.var 2) ["tuple"]) (.cons (.asg (.nm 1) (.bin .LShift (.var 1) (.call 13 (.cons (.ix (.var 2) (.int 0)) .nil))))
  (.cons (.asg (.nm 2) (.ix (.var 2) (.int 1)))
  .nil)))
  (.cons (.ret (.var 1))
  .nil))))
theorem sc__law_rows : FnScope ["own", "count", "rest"] ["own"] (defScope s__law_rows) := C8.fnScope_by (by decide +kernel)
theorem ok__law_rows : okSs C__law_rows (defScope s__law_rows) b__law_rows (defBody s__law_rows) = true := by decide +kernel

/-! #### _law_arrow -/
abbrev s__law_arrow : Stmt := topS 24
abbrev C__law_arrow : Ck := mkCk ["parts", "last", "own", "k"] [] [] [] ["len", "range"]
def b__law_arrow : Ss := (.cons (.asg (.nm 2) (.var 1))
  (.cons (.fr (.nm 3) (.r1 (.blt .len (.cons (.var 0) .nil))) (.cons (.asg (.nm 2) (.tup (.cons (.ix (.var 0) (.bin .Sub (.bin .Sub (.blt .len (.cons (.var 0) .nil)) (.int 1)) (.var 3))) (.cons (.var 2) .nil))))
  .nil))
  (.cons (.ret (.var 2))
  .nil)))
theorem sc__law_arrow : FnScope ["parts", "last", "own", "k"] ["parts", "last"] (defScope s__law_arrow) := C8.fnScope_by (by decide +kernel)
theorem ok__law_arrow : okSs C__law_arrow (defScope s__law_arrow) b__law_arrow (defBody s__law_arrow) = true := by decide +kernel

/-! #### _law_values -/
abbrev s__law_values : Stmt := topS 25
abbrev C__law_values : Ck := mkCk ["count", "own", "text", "many", "sheets", "doing", "choices", "k", "found", "choice", "grown", "beginning", "thing", "letter"] [(13, "_law_rows")] [] [] ["int", "len", "list", "range"]
def b__law_values : Ss := (.cons (.asg (.nm 3) (.bin .LShift (.int 1) (.call 13 (.cons (.var 1) .nil))))
  (.cons (.own 4 (.lst .nil))
  (.cons (.fr (.nm 5) (.r1 (.bin .LShift (.int 1) (.call 13 (.cons (.tup (.cons (.var 1) (.cons (.var 1) .nil))) .nil)))) (.cons (.app 4 (.lc [("thing", 12)] (.bin .Mod (.blt .int (.cons (.bin .FloorDiv (.var 5) (.bin .LShift (.int 1) (.bin .Mult (.call 13 (.cons (.var 1) .nil)) (.var 12)))) .nil)) (.var 3)) (.nm 12) (.r1 (.var 3)) .no))
  .nil))
  (.cons (.asg (.nm 6) (.lst (.cons (.lst .nil) .nil)))
  (.cons (.fr (.nm 7) (.r1 (.var 0)) (.cons (.own 10 (.lst .nil))
  (.cons (.fr (.nm 9) (.ls (.var 6)) (.cons (.fr (.nm 5) (.r1 (.blt .len (.cons (.var 4) .nil))) (.cons (.app 10 (.bin .Add (.var 9) (.lst (.cons (.var 5) .nil))))
  .nil))
  .nil))
  (.cons (.asg (.nm 6) (.blt .list (.cons (.var 10) .nil)))
  .nil))))
  (.cons (.own 8 (.lst .nil))
  (.cons (.fr (.nm 9) (.ls (.var 6)) (.cons (.fr (.nm 11) (.r1 (.var 3)) (.cons (.asg (.nm 12) (.var 11))
  (.cons (.fr (.nm 13) (.ls (.var 2)) (.cons (.asg (.nm 12) (.ix (.ix (.var 4) (.ix (.var 9) (.mth .sindex (.str [97, 98, 99, 100, 101]) (.cons (.var 13) .nil)))) (.var 12)))
  .nil))
  (.cons (.app 8 (.var 12))
  .nil))))
  .nil))
  (.cons (.frz 8)
  (.cons (.ret (.var 8))
  .nil)))))))))
theorem sc__law_values : FnScope ["count", "own", "text", "many", "sheets", "doing", "choices", "k", "found", "choice", "grown", "beginning", "thing", "letter"] ["count", "own", "text"] (defScope s__law_values) := C8.fnScope_by (by decide +kernel)
theorem ok__law_values : okSs C__law_values (defScope s__law_values) b__law_values (defBody s__law_values) = true := by decide +kernel

/-! #### _law_joined -/
abbrev s__law_joined : Stmt := topS 26
abbrev C__law_joined : Ck := mkCk ["digits", "base", "total", "k"] [] [] [] ["len", "range"]
def b__law_joined : Ss := (.cons (.asg (.nm 2) (.int 0))
  (.cons (.fr (.nm 3) (.r1 (.blt .len (.cons (.var 0) .nil))) (.cons (.asg (.nm 2) (.bin .Add (.bin .Mult (.var 2) (.var 1)) (.ix (.var 0) (.bin .Sub (.bin .Sub (.blt .len (.cons (.var 0) .nil)) (.int 1)) (.var 3)))))
  .nil))
  (.cons (.ret (.var 2))
  .nil)))
theorem sc__law_joined : FnScope ["digits", "base", "total", "k"] ["digits", "base"] (defScope s__law_joined) := C8.fnScope_by (by decide +kernel)
theorem ok__law_joined : okSs C__law_joined (defScope s__law_joined) b__law_joined (defBody s__law_joined) = true := by decide +kernel

/-! #### _law_text -/
abbrev s__law_text : Stmt := topS 27
abbrev C__law_text : Ck := mkCk ["row", "count", "size", "k"] [] [] [] ["int", "range"]
def b__law_text : Ss := (.cons (.ret (.mth .join (.str []) (.cons (.lc [("k", 3)] (.ix (.str [97, 98, 99, 100, 101]) (.bin .Mod (.blt .int (.cons (.ix (.var 0) (.var 3)) .nil)) (.var 1))) (.nm 3) (.r1 (.var 2)) .no) .nil)))
  .nil)
theorem sc__law_text : FnScope ["row", "count", "size", "k"] ["row", "count", "size"] (defScope s__law_text) := C8.fnScope_by (by decide +kernel)
theorem ok__law_text : okSs C__law_text (defScope s__law_text) b__law_text (defBody s__law_text) = true := by decide +kernel

/-! #### _law_read -/
abbrev s__law_read : Stmt := topS 28
abbrev C__law_read : Ck := mkCk ["count", "own", "number", "picks", "here", "told", "place", "k", "argument"] [(5, "value_of"), (10, "_law_whole"), (13, "_law_rows"), (14, "_law_arrow")] [] [] ["int", "range"]
def b__law_read : Ss := (.cons (.asg (.nm 4) (.call 14 (.cons (.bin .Add (.bin .Mult (.lst (.cons (.tup (.cons (.var 1) (.cons (.var 1) .nil))) .nil)) (.var 0)) (.lst (.cons (.var 1) .nil))) (.cons (.var 1) .nil))))
  (.cons (.asg (.nm 5) (.var 2))
  (.cons (.asg (.nm 6) (.int 0))
  (.cons (.fr (.nm 7) (.r1 (.bin .Add (.var 0) (.int 1))) (.cons (.asg (.nm 8) (.bin .Mod (.blt .int (.cons (.ix (.var 3) (.var 7)) .nil)) (.bin .LShift (.int 1) (.call 13 (.cons (.ix (.var 4) (.int 0)) .nil)))))
  (.cons (.asg (.nm 5) (.call 5 (.cons (.var 4) (.cons (.var 5) (.cons (.var 8) .nil)))))
  (.cons (.ifs (.nt (.call 10 (.cons (.var 5) .nil))) (.cons (.ret .non)
  .nil) .nil)
  (.cons (.asg (.nm 6) (.bin .Add (.bin .Mult (.var 6) (.bin .LShift (.int 1) (.call 13 (.cons (.ix (.var 4) (.int 0)) .nil)))) (.var 8)))
  (.cons (.asg (.nm 4) (.ix (.var 4) (.int 1)))
  .nil))))))
  (.cons (.ret (.lst (.cons (.var 6) (.cons (.var 5) .nil))))
  .nil)))))
theorem sc__law_read : FnScope ["count", "own", "number", "picks", "here", "told", "place", "k", "argument"] ["count", "own", "number", "picks"] (defScope s__law_read) := C8.fnScope_by (by decide +kernel)
theorem ok__law_read : okSs C__law_read (defScope s__law_read) b__law_read (defBody s__law_read) = true := by decide +kernel

/-! #### _law_told -/
abbrev s__law_told : Stmt := topS 29
abbrev C__law_told : Ck := mkCk ["count", "own", "text", "picks", "values", "due", "told", "found"] [(9, "text_meaning"), (10, "_law_whole"), (13, "_law_rows"), (15, "_law_values"), (16, "_law_joined"), (18, "_law_read")] [] [] []
def b__law_told : Ss := (.cons (.asg (.nm 4) (.call 15 (.cons (.var 0) (.cons (.var 1) (.cons (.var 2) .nil)))))
  (.cons (.asg (.nm 5) (.call 16 (.cons (.var 4) (.cons (.bin .LShift (.int 1) (.call 13 (.cons (.var 1) .nil))) .nil))))
  (.cons (.asg (.nm 6) (.call 9 (.cons (.var 0) (.cons (.var 1) (.cons (.var 2) .nil)))))
  (.cons (.ifs (.bop false (.cons (.nt (.call 10 (.cons (.var 6) .nil))) (.cons (.cmp .NotEq (.var 6) (.var 5)) .nil))) (.cons (.ret (.bl false))
  .nil) .nil)
  (.cons (.asg (.nm 7) (.call 18 (.cons (.var 0) (.cons (.var 1) (.cons (.var 6) (.cons (.var 3) .nil))))))
  (.cons (.ret (.bop true (.cons (.cmp .IsNot (.var 7) .non) (.cons (.cmp .Eq (.ix (.var 7) (.int 1)) (.ix (.var 4) (.ix (.var 7) (.int 0)))) .nil))))
  .nil))))))
theorem sc__law_told : FnScope ["count", "own", "text", "picks", "values", "due", "told", "found"] ["count", "own", "text", "picks"] (defScope s__law_told) := C8.fnScope_by (by decide +kernel)
theorem ok__law_told : okSs C__law_told (defScope s__law_told) b__law_told (defBody s__law_told) = true := by decide +kernel

/-! #### law -/
abbrev s_law : Stmt := topS 30
abbrev C_law : Ck := mkCk ["script", "row", "worlds", "world", "count", "own", "one", "two", "picks", "told"] [(10, "_law_whole"), (11, "_law_cell"), (12, "_law_digits"), (13, "_law_rows"), (14, "_law_arrow"), (15, "_law_values"), (17, "_law_text"), (19, "_law_told"), (22, "rows_of")] [] [] ["int", "len"]
def b_law : Ss := (.cons (.asg (.nm 1) (.call 12 (.cons (.call 11 (.cons (.var 0) (.cons (.int 0) .nil))) (.cons (.lst (.cons (.int 16) (.cons (.int 13) (.cons (.int 13) .nil)))) .nil))))
  (.cons (.asg (.nm 2) (.lst (.cons (.lst (.cons (.int 1) (.cons (.str [111]) (.cons (.int 12) .nil)))) (.cons (.lst (.cons (.int 2) (.cons (.str [111]) (.cons (.int 12) .nil)))) (.cons (.lst (.cons (.int 2) (.cons (.str [111]) (.cons (.int 12) .nil)))) (.cons (.lst (.cons (.int 2) (.cons (.str [111]) (.cons (.int 12) .nil)))) (.cons (.lst (.cons (.int 3) (.cons (.str [111]) (.cons (.int 12) .nil)))) (.cons (.lst (.cons (.int 3) (.cons (.str [111]) (.cons (.int 12) .nil)))) (.cons (.lst (.cons (.int 3) (.cons (.str [111]) (.cons (.int 12) .nil)))) .nil)))))))))
  (.cons (.asg (.nm 2) (.bin .Add (.var 2) (.lst (.cons (.lst (.cons (.int 3) (.cons (.str [111]) (.cons (.int 12) .nil)))) (.cons (.lst (.cons (.int 1) (.cons (.tup (.cons (.str [111]) (.cons (.str [111]) .nil))) (.cons (.int 12) .nil)))) (.cons (.lst (.cons (.int 1) (.cons (.tup (.cons (.str [111]) (.cons (.str [111]) .nil))) (.cons (.int 12) .nil)))) (.cons (.lst (.cons (.int 1) (.cons (.tup (.cons (.str [111]) (.cons (.str [111]) .nil))) (.cons (.int 12) .nil)))) (.cons (.lst (.cons (.int 4) (.cons (.str [111]) (.cons (.int 8) .nil)))) .nil))))))))
  (.cons (.asg (.nm 3) (.ix (.bin .Add (.var 2) (.lst (.cons (.lst (.cons (.int 5) (.cons (.str [111]) (.cons (.int 5) .nil)))) (.cons (.lst (.cons (.int 1) (.cons (.str [111]) (.cons (.int 12) .nil)))) (.cons (.lst (.cons (.int 2) (.cons (.str [111]) (.cons (.int 12) .nil)))) (.cons (.lst (.cons (.int 3) (.cons (.str [111]) (.cons (.int 12) .nil)))) .nil)))))) (.ix (.var 1) (.int 0))))
  (.cons (.asg (.nm 4) (.ix (.var 3) (.int 0)))
  (.cons (.asg (.nm 5) (.ix (.var 3) (.int 1)))
  (.cons (.asg (.nm 6) (.call 17 (.cons (.call 12 (.cons (.call 11 (.cons (.var 0) (.cons (.int 1) .nil))) (.cons (.bin .Mult (.lst (.cons (.int 60) .nil)) (.int 12)) .nil))) (.cons (.var 4) (.cons (.bin .Mod (.blt .int (.cons (.ix (.var 1) (.int 1)) .nil)) (.bin .Add (.ix (.var 3) (.int 2)) (.int 1))) .nil)))))
  (.cons (.asg (.nm 7) (.call 17 (.cons (.call 12 (.cons (.call 11 (.cons (.var 0) (.cons (.int 2) .nil))) (.cons (.bin .Mult (.lst (.cons (.int 60) .nil)) (.int 12)) .nil))) (.cons (.var 4) (.cons (.bin .Mod (.blt .int (.cons (.ix (.var 1) (.int 2)) .nil)) (.bin .Add (.ix (.var 3) (.int 2)) (.int 1))) .nil)))))
  (.cons (.asg (.nm 8) (.call 12 (.cons (.call 11 (.cons (.var 0) (.cons (.int 3) .nil))) (.cons (.bin .Mult (.lst (.cons (.int 256) .nil)) (.int 12)) .nil))))
  (.cons (.asg (.nm 9) (.call 22 (.cons (.call 14 (.cons (.bin .Add (.bin .Mult (.lst (.cons (.tup (.cons (.var 5) (.cons (.var 5) .nil))) .nil)) (.var 4)) (.lst (.cons (.var 5) .nil))) (.cons (.var 5) .nil))) .nil)))
  (.cons (.ifs (.bop false (.cons (.nt (.call 10 (.cons (.var 9) .nil))) (.cons (.cmp .NotEq (.var 9) (.bin .Mult (.blt .len (.cons (.call 15 (.cons (.var 4) (.cons (.var 5) (.cons (.str []) .nil)))) .nil)) (.call 13 (.cons (.var 5) .nil)))) .nil))) (.cons (.ret (.bl false))
  .nil) .nil)
  (.cons (.ifs (.bop false (.cons (.nt (.call 19 (.cons (.var 4) (.cons (.var 5) (.cons (.var 6) (.cons (.sl (.var 8) .no (.yes (.int 6))) .nil)))))) (.cons (.nt (.call 19 (.cons (.var 4) (.cons (.var 5) (.cons (.var 7) (.cons (.sl (.var 8) (.yes (.int 6)) .no) .nil)))))) .nil))) (.cons (.ret (.bl false))
  .nil) .nil)
  (.cons (.ret (.call 19 (.cons (.var 4) (.cons (.var 5) (.cons (.var 6) (.cons (.sl (.var 8) (.yes (.int 6)) .no) .nil))))))
  .nil)))))))))))))
theorem sc_law : FnScope ["script", "row", "worlds", "world", "count", "own", "one", "two", "picks", "told"] ["script"] (defScope s_law) := C8.fnScope_by (by decide +kernel)
theorem ok_law : okSs C_law (defScope s_law) b_law (defBody s_law) = true := by decide +kernel
end K31

namespace K31
/-! ### digits -/
def jn (b : Nat) : List Nat → Nat
  | [] => 0
  | d :: l => d + b * jn b l
theorem jn_lt {b : Nat} : ∀ {l : List Nat}, (∀ d ∈ l, d < b) → jn b l < b ^ l.length
  | [], _ => Nat.one_pos
  | d :: l, h => by
    have h1 := h d List.mem_cons_self
    have ih := jn_lt (l := l) fun x hx => h x (List.mem_cons_of_mem _ hx)
    show d + b * jn b l < b ^ (l.length + 1)
    rw [Nat.pow_succ, Nat.mul_comm (b ^ l.length) b]
    have : b * (jn b l + 1) ≤ b * b ^ l.length := Nat.mul_le_mul_left b ih
    rw [Nat.mul_add] at this
    omega
theorem jn_app {b : Nat} : ∀ {l r : List Nat}, jn b (l ++ r) = jn b l + b ^ l.length * jn b r
  | [], r => by show jn b r = 0 + b ^ 0 * jn b r; rw [Nat.pow_zero, Nat.one_mul, Nat.zero_add]
  | d :: l, r => by
    show d + b * jn b (l ++ r) = d + b * jn b l + b ^ (l.length + 1) * jn b r
    rw [jn_app, Nat.mul_add, Nat.pow_succ, Nat.add_assoc, Nat.mul_comm (b ^ l.length) b, Nat.mul_assoc]
theorem jn_div {b : Nat} (hb : 0 < b) {l : List Nat} (h : ∀ d ∈ l, d < b) (k : Nat) : jn b l / b ^ k = jn b (l.drop k) := by
  by_cases hk : k ≤ l.length
  · have e : l = l.take k ++ l.drop k := (List.take_append_drop k l).symm
    have hl : (l.take k).length = k := by rw [List.length_take]; omega
    have h1 : jn b (l.take k) < b ^ k := by
      have := jn_lt (l := l.take k) fun d hd => h d (List.mem_of_mem_take hd)
      rw [hl] at this; exact this
    have e2 : jn b l = jn b (l.take k) + b ^ k * jn b (l.drop k) := by
      have := jn_app (b := b) (l := l.take k) (r := l.drop k)
      rw [← e, hl] at this; exact this
    rw [e2, Nat.add_mul_div_left _ _ (Nat.pow_pos hb), Nat.div_eq_of_lt h1, Nat.zero_add]
  · rw [List.drop_eq_nil_of_le (by omega)]
    refine Nat.div_eq_of_lt (Nat.lt_of_lt_of_le (jn_lt h) (Nat.pow_le_pow_right hb (by omega)))
theorem jn_mod {b : Nat} (hb : 0 < b) {l : List Nat} (h : ∀ d ∈ l, d < b) (k : Nat) : jn b l % b ^ k = jn b (l.take k) := by
  by_cases hk : k ≤ l.length
  · have e : l = l.take k ++ l.drop k := (List.take_append_drop k l).symm
    have hl : (l.take k).length = k := by rw [List.length_take]; omega
    have h1 : jn b (l.take k) < b ^ k := by
      have := jn_lt (l := l.take k) fun d hd => h d (List.mem_of_mem_take hd)
      rw [hl] at this; exact this
    have e2 : jn b l = jn b (l.take k) + b ^ k * jn b (l.drop k) := by
      have := jn_app (b := b) (l := l.take k) (r := l.drop k)
      rw [← e, hl] at this; exact this
    rw [e2, Nat.add_mul_mod_self_left, Nat.mod_eq_of_lt h1]
  · rw [List.take_of_length_le (by omega)]
    exact Nat.mod_eq_of_lt (Nat.lt_of_lt_of_le (jn_lt h) (Nat.pow_le_pow_right hb (by omega)))
/-- w digits from k on -/
theorem jn_block {b : Nat} (hb : 0 < b) {l : List Nat} (h : ∀ d ∈ l, d < b) (k w : Nat) : jn b l / b ^ k % b ^ w = jn b ((l.drop k).take w) := by
  rw [jn_div hb h, jn_mod hb fun d hd => h d (List.mem_of_mem_drop hd)]
theorem jn_one {b d : Nat} : jn b [d] = d := by show d + b * 0 = d; rw [Nat.mul_zero, Nat.add_zero]
theorem jn_digit {b : Nat} (hb : 0 < b) {l : List Nat} (h : ∀ d ∈ l, d < b) {k : Nat} (hk : k < l.length) : jn b l / b ^ k % b = l[k] := by
  have := jn_block hb h k 1
  rw [Nat.pow_one] at this
  rw [this, List.drop_eq_getElem_cons hk]
  show jn b [l[k]] = _
  exact jn_one
/-! ### the kinds -/
inductive Kd where
  | o
  | ar (a b : Kd)
def rows : Kd → Nat
  | .o => 1
  | .ar a b => rows b * 2 ^ rows a
theorem rows_pos : ∀ k : Kd, 0 < rows k
  | .o => Nat.one_pos
  | .ar a b => Nat.mul_pos (rows_pos b) (Nat.pow_pos (by decide))
def dep : Kd → Nat
  | .o => 0
  | .ar a b => max (dep a + 1) (dep b)
/-- the arguments' kinds -/
def args : Kd → List Kd
  | .o => []
  | .ar a b => a :: args b
theorem rows_args : ∀ k : Kd, rows k = 2 ^ ((args k).map rows).sum
  | .o => rfl
  | .ar a b => by
    show rows b * 2 ^ rows a = 2 ^ (rows a + ((args b).map rows).sum)
    rw [rows_args b, Nat.pow_add, Nat.mul_comm]
theorem args_dep : ∀ {k : Kd} {a : Kd}, a ∈ args k → dep a < dep k
  | .o, a, h => by cases h
  | .ar x b, a, h => by
    show dep a < max (dep x + 1) (dep b)
    rcases List.mem_cons.mp h with rfl | h
    · omega
    · have := args_dep (k := b) h; omega
theorem pow_gt (n : Nat) : n < 2 ^ n := Nat.lt_two_pow_self
theorem args_rows {k a : Kd} (h : a ∈ args k) : rows a < rows k := by
  rw [rows_args k]
  have h1 : rows a ≤ ((args k).map rows).sum := by
    have : ∀ (l : List Kd), a ∈ l → rows a ≤ (l.map rows).sum := by
      intro l
      induction l with
      | nil => intro h; cases h
      | cons x l ih =>
        intro h
        rw [List.map_cons, List.sum_cons]
        rcases List.mem_cons.mp h with rfl | h
        · omega
        · have := ih h; omega
    exact this _ h
  exact Nat.lt_of_le_of_lt h1 (pow_gt _)
def arr (ps : List Kd) (k : Kd) : Kd := ps.foldr .ar k
/-- the kind of texts over n letters -/
def W (n : Nat) (k : Kd) : Kd := arr (List.replicate n (.ar k k) ++ [k]) k
theorem rows_arr (k : Kd) : ∀ ps : List Kd, rows (arr ps k) = rows k * 2 ^ (ps.map rows).sum
  | [] => (Nat.mul_one _).symm
  | p :: ps => by
    show rows (arr ps k) * 2 ^ rows p = _
    rw [rows_arr k ps, List.map_cons, List.sum_cons, Nat.pow_add, Nat.mul_assoc, Nat.mul_comm (2 ^ (ps.map rows).sum)]
/-! ### what the doings do -/
section
variable (mn dn n : Nat)
/-- the choice of letter l in entry e -/
def chc (e l : Nat) : Nat := e / mn / dn ^ (n - 1 - l) % dn
def stp (e th l : Nat) : Nat := chc mn dn n e l / mn ^ th % mn
def val (e : Nat) (tx : List Nat) : Nat := tx.foldl (stp mn dn n e) (e % mn)
def vals (tx : List Nat) : List Nat := (List.range (mn * dn ^ n)).map fun e => val mn dn n e tx
end
theorem val_snoc {mn dn n e l : Nat} {tx : List Nat} : val mn dn n e (tx ++ [l]) = stp mn dn n e (val mn dn n e tx) l := by
  unfold val; rw [List.foldl_append]; rfl
theorem val_lt {mn dn n e : Nat} (hm : 0 < mn) : ∀ tx : List Nat, val mn dn n e tx < mn := by
  intro tx
  unfold val
  have : ∀ (tx : List Nat) (t : Nat), t < mn → tx.foldl (stp mn dn n e) t < mn := by
    intro tx
    induction tx with
    | nil => intro t h; exact h
    | cons l tx ih => intro t h; exact ih _ (Nat.mod_lt _ hm)
  exact this tx _ (Nat.mod_lt _ hm)
theorem vals_lt {mn dn n : Nat} (hm : 0 < mn) {tx : List Nat} : ∀ d ∈ vals mn dn n tx, d < mn := by
  intro d hd
  obtain ⟨e, _, rfl⟩ := List.mem_map.mp hd
  exact val_lt hm tx
theorem vals_len {mn dn n : Nat} {tx : List Nat} : (vals mn dn n tx).length = mn * dn ^ n := by unfold vals; rw [List.length_map, List.length_range]
end K31

namespace K31
open PySem PySem.Spec PyProof.Rows L2 PD
local macro_rules | `(tactic| walk_at "x") => `(tactic| simp (config := { decide := false }) only [x_var, x_v0, x_v1, x_v11, x_v12, x_v13, x_v1t, x_v22, x_v23, x_v2t, bLv, x_ct, x_non, x_bl, x_int, x_str, x_bin, x_neg, x_cmp, x_bopt, x_bopv, x_nt, x_ntv, x_ifx, x_ix, x_ixt, x_sl, x_call, x_callk, x_blt, x_isi, x_mth, x_tup, x_lst, x_lc, x_ts0, x_ts1, x_bs0, x_bs1, x_c0, x_c1,
    x_eo0, x_eo1, x_es0, x_es1, x_ls, x_r1, x_r2, x_rv, x_rr1, x_rr2, o_ls, o_tp, x_ft, x_ftst, x_fLt, x_fLf, x_fBl, x_fBi, x_fBs, x_fBb, x_fBt, x_trb, x_tri, x_nil, x_cons, x_asg, x_own, x_own2, x_frz, x_app, x_app2, x_appI, x_seti, x_set2, x_drop, x_ifs, x_whl, x_fr, x_ret, x_retN, x_pass, x_brk, x_cont, x_gnm, x_gtp, x_g0, x_gs, x_rt, x_nx,
    b_addI, b_addS, b_addL, b_addT, b_sub, b_mul, b_mulL, b_mulT, b_and, b_or, b_xor, b_div, b_mod, b_pow, b_shl, b_shr, e_ii, e_ss, e_bb, e_nn, e_ni, e_in, e_ns, e_sn, e_is, e_si, e_nb, e_bn, c_eq, c_ne, c_lt, c_le, c_gt, c_ge, c_in, c_ni, c_is, c_isn, i_l, i_t, i_s, l_l, l_t, l_s,
    f_lenL, f_lenT, f_lenS, f_intI, f_intB, f_str, f_tupL, f_tupT, f_lstL, f_lstT, f_abs, f_max, f_min, f_sum, m_join, m_find3, m_rfind4, m_sindex, s_lst, s_tup, wFrz, setAll, wipeE, t_str, t_lst, mtTy, o_int, o_bl, o_str, o_lst, o_tup, o_non, isT, String.reduceBEq, String.reduceEq, beq_self_eq_true, Nat.reduceAdd, Nat.reduceLT, Nat.reduceSub,
    List.map_cons, List.map_nil, List.length_cons, List.length_nil, List.set_cons_zero, List.set_cons_succ, List.any_cons, List.any_nil,
    PyData.bool.injEq, PyData.int.injEq, PyData.str.injEq, PyData.list.injEq, PyData.tuple.injEq, Option.some.injEq, Sl.fz.injEq, Sl.ow.injEq, Sl.ow2.injEq,
    exists_eq_left, exists_eq_left', exists_and_left, exists_and_right, and_assoc, true_and, and_true, if_true, if_false, ite_true, ite_false, decide_eq_true_eq, Bool.true_eq_false, Bool.false_eq_true, Bool.not_true, Bool.not_false, Bool.or_true, Bool.true_or, Bool.or_false, Bool.false_or, Bool.and_true, Bool.true_and, Bool.and_false, Bool.false_and, Nat.zero_lt_succ, reduceCtorEq])
open PL
def toD : Kd → D
  | .o => .str ⟨[111].toArray⟩
  | .ar a b => .tuple [toD a, toD b]
def arrD (ps : List D) (k : D) : D := ps.foldr (fun p k => .tuple [p, k]) k
theorem arrD_to (k : Kd) : ∀ ps : List Kd, arrD (ps.map toD) (toD k) = toD (arr ps k)
  | [] => rfl
  | p :: ps => by
    show PyData.tuple [toD p, arrD (ps.map toD) (toD k)] = PyData.tuple [toD p, toD (arr ps k)]
    rw [arrD_to k ps]
theorem arrD_snoc (ps : List D) (p k : D) : arrD (ps ++ [p]) k = arrD ps (.tuple [p, k]) := by
  unfold arrD; rw [List.foldr_append]; rfl
def sp_tshape : FnS := eqF (fun ds => ∃ n : Nat, ds = [.int n] ∧ n ≤ 5) fun ds => match ds with
  | [.int n] => .tuple (List.replicate n.toNat (.int 1) ++ [.int 0])
  | _ => .none
def sp_arrow : FnS := eqF (fun ds => ∃ (ps : List D) (k : D), ds = [.list ps, k]) fun ds => match ds with
  | [.list ps, k] => arrD ps k
  | _ => .none
/-- what stands behind the arguments -/
def sp_unarrow : FnS := ⟨fun ds => ∃ k, ds = [toD k] ∧ rows k ≤ 2048, fun ds d => ∀ k, ds = [toD k] → d = .tuple [.tuple ((args k).map toD), toD .o]⟩
theorem toD_inj : ∀ {a b : Kd}, toD a = toD b → a = b
  | .o, .o, _ => rfl
  | .ar a b, .ar c d, h => by
    have h := PyData.tuple.inj h
    have h1 := (List.cons.inj h).1
    have h2 := (List.cons.inj (List.cons.inj h).2).1
    rw [toD_inj h1, toD_inj h2]
  | .o, .ar c d, h => by cases h
  | .ar c d, .o, h => by cases h
def sp_rowsK (m : Nat) : FnS := ⟨fun ds => ∃ k, ds = [toD k, .int 2048, .str ⟨"meaning".toList.map Char.toNat |>.toArray⟩] ∧ rows k ≤ 2048 ∧ dep k < m, fun ds d => ∀ k, ds = [toD k, .int 2048, .str ⟨"meaning".toList.map Char.toNat |>.toArray⟩] → d = .int (rows k : Nat)⟩
def sp_rows : FnS := ⟨fun ds => ∃ k, ds = [toD k] ∧ rows k ≤ 2048 ∧ dep k < 5, fun ds d => ∀ k, ds = [toD k] → d = .int (rows k : Nat)⟩
def fnA : Nat → FnS
  | 0 => sp_tshape | 1 => sp_arrow | 2 => sp_unarrow | _ => ⟨fun _ => False, fun _ _ => True⟩
section
variable {G : Gb}
theorem w_text_shape (ds : List D) (h : sp_tshape.pre ds) : wSs G b_text_shape (endOf (sp_tshape.post ds)) (env0 1 ds) := by
  obtain ⟨n, rfl, hn⟩ := h
  show wSs G b_text_shape _ [some (.fz (.int n))]
  unfold b_text_shape
  walk_at "x"
  refine ⟨by decide, by omega, by omega, by decide, by decide, ?_, ?_⟩
  · rw [Int.toNat_natCast]
    have : (List.replicate n [PyData.int 1]).flatten.length = n := by rw [List.length_flatten]; simp
    rw [this, sizeLine_eq]; omega
  · show PyData.tuple _ = .tuple _
    rw [Int.toNat_natCast]
    congr 2
    induction n with
    | zero => rfl
    | succ n ih => rw [List.replicate_succ, List.flatten_cons, ih (by omega)]; rfl
def I_arrow (ps : List D) (k : D) (i : Nat) (ρ : PD.Env) : Prop := ∃ s1, ρ = [some (.fz (.list ps)), some (.fz k), some (.fz (arrD (ps.drop (ps.length - i)) k)), s1]
theorem w_arrow (ds : List D) (h : sp_arrow.pre ds) : wSs G b_arrow (endOf (sp_arrow.post ds)) (env0 4 ds) := by
  obtain ⟨ps, k, rfl⟩ := h
  show wSs G b_arrow _ [some (.fz (.list ps)), some (.fz k), none, none]
  unfold b_arrow
  walk_at "x"
  refine for_of (I_arrow ps k) ⟨none, by rw [Nat.sub_zero, List.drop_length]; rfl⟩ ?_ ?_
  · rintro i d ρ' N hd ⟨s1, rfl⟩ hN
    obtain ⟨hd, hi⟩ := rev_get hd
    walk_at "x"
    refine ⟨by decide, hN _ ⟨some (.fz d), ?_⟩⟩
    rw [show ps.length - (i + 1) = ps.length - 1 - i by omega, List.drop_eq_getElem_cons (show ps.length - 1 - i < ps.length by omega), show ps.length - 1 - i + 1 = ps.length - i by omega]
    rw [List.getElem?_eq_getElem (show ps.length - 1 - i < ps.length by omega)] at hd
    rw [Option.some.inj hd]; rfl
  · rintro ρ' ⟨s1, rfl⟩
    walk_at "x"
    rw [List.length_reverse, Nat.sub_self]; rfl
theorem args_len (k : Kd) : (args k).length < rows k := by
  rw [rows_args k]
  have : ∀ l : List Kd, l.length ≤ (l.map rows).sum := by
    intro l
    induction l with
    | nil => exact Nat.le_refl _
    | cons a l ih =>
      rw [List.length_cons, List.map_cons, List.sum_cons]
      have := rows_pos a
      omega
  exact Nat.lt_of_le_of_lt (this _) (pow_gt _)
def I_unarrow (k0 : Kd) (m : Nat) (ρ : PD.Env) : Prop := ∃ (k : Kd) (acc : List Kd), m = (args k).length ∧ acc ++ args k = args k0 ∧ ρ = [some (.fz (toD k)), some (.ow (acc.map toD))]
theorem w_unarrow (ds : List D) (h : sp_unarrow.pre ds) : wSs G b_unarrow (endOf (sp_unarrow.post ds)) (env0 2 ds) := by
  obtain ⟨k, rfl, hk⟩ := h
  have hk2 := args_len k
  show wSs G b_unarrow _ [some (.fz (toD k)), none]
  unfold b_unarrow
  walk_at "x"
  refine ⟨by decide, whl_of (I_unarrow k) (args k).length ⟨k, [], rfl, rfl, rfl⟩ fun m ρ h => ?_⟩
  obtain ⟨k1, acc, rfl, e, rfl⟩ := h
  have hl : acc.length + (args k1).length = (args k).length := by rw [← e, List.length_append]
  walk_at "x"
  cases k1 with
  | o =>
    have ht : isOne (toD .o) "tuple" = false := by decide +kernel
    rw [ht, if_neg Bool.false_ne_true]
    refine ⟨by decide, ?_⟩
    intro k' e'
    have := toD_inj (List.cons.inj e').1
    subst this
    rw [← e]
    show PyData.tuple _ = _
    rw [show args .o = [] from rfl, List.append_nil]
  | ar a b =>
    have ht : isOne (toD (.ar a b)) "tuple" = true := rfl
    rw [ht, if_pos rfl]
    show wIx (.tuple [toD a, toD b]) (.int 0) _
    rw [i_t]
    refine ⟨toD a, rfl, by rw [List.length_map, sizeLine_eq]; omega, ?_⟩
    show wIx (.tuple [toD a, toD b]) (.int 1) _
    rw [i_t]
    refine ⟨toD b, rfl, (args b).length, Nat.lt_succ_self _, b, acc ++ [a], rfl, ?_, ?_⟩
    · rw [List.append_assoc]; exact e
    · rw [List.map_append]; rfl
/-- the same with its own calls one step less deep -/
def Gr (m : Nat) : Gb := ⟨fun i => match i with | 2 => sp_unarrow | 21 => sp_rowsK m | _ => ⟨fun _ => False, fun _ _ => True⟩, fun _ => .none⟩
def S_mean : Str := ⟨"meaning".toList.map Char.toNat |>.toArray⟩
def I_rows (k : Kd) (i : Nat) (ρ : PD.Env) : Prop := ∃ s1, ρ = [some (.fz (toD k)), some (.fz (.int 2048)), some (.fz (.str S_mean)), some (.fz (.int (2 ^ (((args k).take i).map rows).sum : Nat))), s1]
theorem w_rows_of (m : Nat) (ds : List D) (h : (sp_rowsK (m + 1)).pre ds) : wSs (Gr m) b_rows_of (endOf ((sp_rowsK (m + 1)).post ds)) (env0 5 ds) := by
  obtain ⟨k, rfl, hk, hd⟩ := h
  show wSs (Gr m) b_rows_of _ [some (.fz (toD k)), some (.fz (.int 2048)), some (.fz (.str S_mean)), none, none]
  unfold b_rows_of
  walk_at "x"
  refine ⟨⟨k, rfl, hk⟩, fun d hd' => ?_⟩
  have hd' := hd' k rfl
  subst hd'
  walk_at "x"
  refine ⟨_, rfl, _, rfl, ?_⟩
  have part : ∀ i, i ≤ (args k).length → 2 ^ (((args k).take i).map rows).sum ≤ 2048 := by
    intro i _
    refine Nat.le_trans (Nat.pow_le_pow_right (by decide) ?_) (by rw [rows_args k] at hk; exact hk)
    have : (args k) = (args k).take i ++ (args k).drop i := (List.take_append_drop i _).symm
    conv => rhs; rw [this]
    rw [List.map_append, List.sum_append]
    omega
  refine for_of (I_rows k) ⟨none, rfl⟩ ?_ ?_
  · rintro i d ρ' N hd2 ⟨s1, rfl⟩ hN
    have hi := (List.getElem?_eq_some_iff.mp hd2).1
    rw [List.length_map] at hi
    rw [List.getElem?_map, List.getElem?_eq_getElem hi] at hd2
    have hd2 := (Option.some.inj hd2).symm
    subst hd2
    have hm := List.getElem_mem hi
    walk_at "x"
    have hp := part i (by omega)
    rw [if_pos (by omega)]
    have hr := args_rows hm
    refine ⟨⟨(args k)[i], rfl, by omega, by have := args_dep hm; omega⟩, fun d hd3 => ?_⟩
    have hd3 := hd3 _ rfl
    subst hd3
    walk_at "x"
    refine ⟨shl_ok (n := 64) ?_ (by omega), hN _ ⟨some (.fz (toD (args k)[i])), ?_⟩⟩
    · rw [Int.natAbs_natCast]; exact Nat.lt_of_le_of_lt hp (by decide)
    · rw [Int.toNat_natCast, List.take_add_one, List.getElem?_eq_getElem hi]
      simp only [List.map_append, List.sum_append, Option.toList_some, List.map_cons, List.map_nil, List.sum_cons, List.sum_nil, Nat.add_zero, Nat.pow_add]
      rw [Int.natCast_mul, Int.natCast_pow 2 (rows _)]; rfl
  · rintro ρ' ⟨s1, rfl⟩
    rw [List.length_map, List.take_length, ← rows_args]
    walk_at "x"
    rw [if_neg (by omega)]
    intro k' e'
    have := toD_inj (List.cons.inj e').1
    subst this; rfl
end
end K31

namespace K31
open PySem PySem.Spec PyProof.Rows L2 PD
local macro_rules | `(tactic| walk_at "x") => `(tactic| simp (config := { decide := false }) only [x_var, x_v0, x_v1, x_v11, x_v12, x_v13, x_v1t, x_v22, x_v23, x_v2t, bLv, x_ct, x_non, x_bl, x_int, x_str, x_bin, x_neg, x_cmp, x_bopt, x_bopv, x_nt, x_ntv, x_ifx, x_ix, x_ixt, x_sl, x_call, x_callk, x_blt, x_isi, x_mth, x_tup, x_lst, x_lc, x_ts0, x_ts1, x_bs0, x_bs1, x_c0, x_c1,
    x_eo0, x_eo1, x_es0, x_es1, x_ls, x_r1, x_r2, x_rv, x_rr1, x_rr2, o_ls, o_tp, x_ft, x_ftst, x_fLt, x_fLf, x_fBl, x_fBi, x_fBs, x_fBb, x_fBt, x_trb, x_tri, x_nil, x_cons, x_asg, x_own, x_own2, x_frz, x_app, x_app2, x_appI, x_seti, x_set2, x_drop, x_ifs, x_whl, x_fr, x_ret, x_retN, x_pass, x_brk, x_cont, x_gnm, x_gtp, x_g0, x_gs, x_rt, x_nx,
    b_addI, b_addS, b_addL, b_addT, b_sub, b_mul, b_mulL, b_mulT, b_and, b_or, b_xor, b_div, b_mod, b_pow, b_shl, b_shr, e_ii, e_ss, e_bb, e_nn, e_ni, e_in, e_ns, e_sn, e_is, e_si, e_nb, e_bn, c_eq, c_ne, c_lt, c_le, c_gt, c_ge, c_in, c_ni, c_is, c_isn, i_l, i_t, i_s, l_l, l_t, l_s,
    f_lenL, f_lenT, f_lenS, f_intI, f_intB, f_str, f_tupL, f_tupT, f_lstL, f_lstT, f_abs, f_max, f_min, f_sum, m_join, m_find3, m_rfind4, m_sindex, s_lst, s_tup, wFrz, setAll, wipeE, t_str, t_lst, mtTy, o_int, o_bl, o_str, o_lst, o_tup, o_non, isT, String.reduceBEq, String.reduceEq, beq_self_eq_true, Nat.reduceAdd, Nat.reduceLT, Nat.reduceSub,
    List.map_cons, List.map_nil, List.length_cons, List.length_nil, List.set_cons_zero, List.set_cons_succ, List.any_cons, List.any_nil,
    PyData.bool.injEq, PyData.int.injEq, PyData.str.injEq, PyData.list.injEq, PyData.tuple.injEq, Option.some.injEq, Sl.fz.injEq, Sl.ow.injEq, Sl.ow2.injEq,
    exists_eq_left, exists_eq_left', exists_and_left, exists_and_right, and_assoc, true_and, and_true, if_true, if_false, ite_true, ite_false, decide_eq_true_eq, Bool.true_eq_false, Bool.false_eq_true, Bool.not_true, Bool.not_false, Bool.or_true, Bool.true_or, Bool.or_false, Bool.false_or, Bool.and_true, Bool.true_and, Bool.and_false, Bool.false_and, Nat.zero_lt_succ, reduceCtorEq])
open PL
/-! ### casts -/
theorem c_shl (a k : Nat) : (a : Int) * 2 ^ ((k : Int).toNat) = ((a * 2 ^ k : Nat) : Int) := by
  rw [Int.toNat_natCast, Int.natCast_mul, Int.natCast_pow]; rfl
theorem c_1shl (k : Nat) : (1 : Int) * 2 ^ ((k : Int).toNat) = ((2 ^ k : Nat) : Int) := by
  have := c_shl 1 k
  rw [Nat.one_mul] at this
  exact this
theorem c_shr (a k : Nat) : (a : Int) / 2 ^ ((k : Int).toNat) = ((a / 2 ^ k : Nat) : Int) := by
  rw [Int.toNat_natCast, Int.natCast_ediv, Int.natCast_pow]; rfl
theorem c_and (a k : Nat) : Builtin.bitAnd (a : Int) (((2 ^ k : Nat) : Int) - 1) = ((a % 2 ^ k : Nat) : Int) := by
  rw [Int.natCast_pow]
  have := PySem.W.kbt_mask (a : Int) k
  rw [show ((2 : Nat) : Int) = 2 from rfl, this, Int.natCast_emod, Int.natCast_pow]; rfl
theorem c_or {a r k : Nat} (h : r < 2 ^ k) : Builtin.bitOr ((a * 2 ^ k : Nat) : Int) (r : Int) = ((a * 2 ^ k + r : Nat) : Int) := by
  have := or_low (q := a) (r := r) (k := k) (by omega) (by omega) (by
    have : ((2 ^ k : Nat) : Int) = 2 ^ k := by rw [Int.natCast_pow]; rfl
    omega)
  rw [Int.natCast_mul, Int.natCast_pow, Int.natCast_add, Int.natCast_mul, Int.natCast_pow]
  exact this
def Mn (own : Kd) : Nat := 2 ^ rows own
def Dn (own : Kd) : Nat := 2 ^ (rows own * 2 ^ rows own)
def En (n : Nat) (own : Kd) : Nat := Mn own * Dn own ^ n
theorem rows_W (n : Nat) (own : Kd) : rows (W n own) = rows own * En n own := by
  unfold W En Mn Dn
  rw [rows_arr, List.map_append, List.sum_append, List.map_replicate]
  have : (List.replicate n (rows (.ar own own))).sum = rows own * 2 ^ rows own * n := by
    induction n with
    | zero => rfl
    | succ n ih => rw [List.replicate_succ, List.sum_cons, ih, Nat.mul_succ]; show rows own * 2 ^ rows own + _ = _; omega
  rw [this]
  simp only [List.map_cons, List.map_nil, List.sum_cons, List.sum_nil, Nat.add_zero]
  rw [Nat.pow_add, ← Nat.pow_mul, Nat.mul_comm (2 ^ (rows own * 2 ^ rows own * n))]
/-- the worlds asked -/
structure Wd (n : Nat) (own : Kd) : Prop where
  n1 : 1 ≤ n
  n5 : n ≤ 5
  rw : rows (W n own) ≤ 2048
  dw : dep (W n own) < 5
  dp : dep own < 3
theorem Wd.own {n : Nat} {own : Kd} (h : Wd n own) : rows own ≤ 3 := by
  have h1 := h.rw
  rw [rows_W] at h1
  have hp := rows_pos own
  have hd : Dn own ≤ Dn own ^ n := by
    have := Nat.pow_le_pow_right (n := Dn own) (Nat.pow_pos (by decide)) h.n1
    rw [Nat.pow_one] at this; exact this
  have : rows own < 4 := by
    refine Nat.lt_of_not_le fun z => ?_
    have a1 : 2 ^ 4 ≤ Mn own := Nat.pow_le_pow_right (by decide) z
    have a2 : 2 ^ 64 ≤ Dn own := Nat.pow_le_pow_right (by decide) (Nat.mul_le_mul z a1)
    have a3 : 16 * 2 ^ 64 ≤ En n own := Nat.mul_le_mul a1 (Nat.le_trans a2 hd)
    have a4 : 1 * (16 * 2 ^ 64) ≤ rows own * En n own := Nat.mul_le_mul hp a3
    omega
  omega
theorem Wd.en {n : Nat} {own : Kd} (h : Wd n own) : En n own ≤ 2048 := by
  have h1 := h.rw
  rw [rows_W] at h1
  have : 1 * En n own ≤ rows own * En n own := Nat.mul_le_mul_right _ (rows_pos own)
  omega
theorem Wd.dn {n : Nat} {own : Kd} (h : Wd n own) : Dn own ≤ 2048 := by
  have h1 := h.en
  have hd : Dn own ≤ Dn own ^ n := by
    have := Nat.pow_le_pow_right (n := Dn own) (Nat.pow_pos (by decide)) h.n1
    rw [Nat.pow_one] at this; exact this
  have : 1 * Dn own ^ n ≤ Mn own * Dn own ^ n := Nat.mul_le_mul_right _ (Nat.pow_pos (by decide))
  unfold En at h1
  omega
theorem Mn_le {n : Nat} {own : Kd} (h : Wd n own) : Mn own ≤ 8 := by
  have := h.own
  exact Nat.le_trans (Nat.pow_le_pow_right (by decide) this) (by decide)
theorem Mn_pos (own : Kd) : 0 < Mn own := Nat.pow_pos (by decide)
theorem Dn_pos (own : Kd) : 0 < Dn own := Nat.pow_pos (by decide)
/-! ### specs -/
def shp (n : Nat) : D := .tuple (List.replicate n (.int 1) ++ [.int 0])
def sp_shk : FnS := ⟨fun ds => ∃ n own, ds = [shp n, toD own] ∧ n ≤ 5, fun ds d => ∀ n own, ds = [shp n, toD own] → d = toD (W n own)⟩
def sp_value : FnS := ⟨fun ds => ∃ a b, ∃ m g : Nat, ds = [toD (.ar a b), .int m, .int g] ∧ rows b ≤ 2048 ∧ dep b < 5 ∧ m < 2 ^ 5000, fun ds d => ∀ a b, ∀ m g : Nat, ds = [toD (.ar a b), .int m, .int g] → d = .int (m / 2 ^ (g * rows b) % 2 ^ rows b : Nat)⟩
def sp_meas : FnS := ⟨fun ds => ∃ (n : Nat) (own : Kd), ds = [.int n, toD own] ∧ Wd n own, fun ds d => ∀ (n : Nat) (own : Kd), ds = [.int n, toD own] → d = .tuple [.int (rows own : Nat), .int (Mn own : Nat), .int (Dn own : Nat), .int (En n own : Nat)]⟩
def mean (n : Nat) (own : Kd) (tx : List Nat) : Nat := jn (Mn own) (vals (Mn own) (Dn own) n tx)
def sp_empty : FnS := ⟨fun ds => ∃ (n : Nat) (own : Kd), ds = [.int n, toD own] ∧ Wd n own, fun ds d => ∀ (n : Nat) (own : Kd), ds = [.int n, toD own] → d = .int (mean n own [] : Nat)⟩
def lt (l : Nat) : D := .str ⟨#[97 + l]⟩
def nxt (n : Nat) (own : Kd) (m l : Nat) : Nat := jn (Mn own) ((List.range (En n own)).map fun e => stp (Mn own) (Dn own) n e (m / Mn own ^ e % Mn own) l)
theorem nxt_mean (n : Nat) (own : Kd) (tx : List Nat) (l : Nat) : nxt n own (mean n own tx) l = mean n own (tx ++ [l]) := by
  have hV0 := vals_lt (mn := Mn own) (dn := Dn own) (n := n) (Mn_pos own) (tx := tx)
  have hL0 : (vals (Mn own) (Dn own) n tx).length = En n own := vals_len
  unfold nxt mean
  have : ((List.range (En n own)).map fun e => stp (Mn own) (Dn own) n e (jn (Mn own) (vals (Mn own) (Dn own) n tx) / Mn own ^ e % Mn own) l) = vals (Mn own) (Dn own) n (tx ++ [l]) := by
    unfold vals
    refine List.map_congr_left fun e he => ?_
    have he : e < En n own := List.mem_range.mp he
    rw [val_snoc]
    have h := jn_digit (Mn_pos own) hV0 (k := e) (by omega)
    unfold vals at h
    rw [h, List.getElem_map, List.getElem_range]
  rw [this]
def sp_next : FnS := ⟨fun ds => ∃ (n : Nat) (own : Kd) (tx : List Nat) (l : Nat), ds = [.int n, toD own, .int (mean n own tx : Nat), lt l] ∧ Wd n own ∧ l < n,
  fun ds d => ∀ (n : Nat) (own : Kd) (m l : Nat), ds = [.int n, toD own, .int m, lt l] → d = .int (nxt n own m l : Nat)⟩
def txD (tx : List Nat) : D := .str ⟨(tx.map (97 + ·)).toArray⟩
def sp_tmean : FnS := ⟨fun ds => ∃ (n : Nat) (own : Kd) (tx : List Nat), ds = [.int n, toD own, txD tx] ∧ Wd n own ∧ (∀ l ∈ tx, l < n) ∧ tx.length ≤ 1000,
  fun ds d => ∀ (n : Nat) (own : Kd) (tx : List Nat), ds = [.int n, toD own, txD tx] → d = .int (mean n own tx : Nat)⟩
def sp_lrows (m : Nat) : FnS := ⟨fun ds => ∃ k, ds = [toD k] ∧ rows k ≤ 2048 ∧ dep k < m, fun ds d => ∀ k, ds = [toD k] → d = .int (rows k : Nat)⟩
def sp_larrow : FnS := eqF (fun ds => ∃ (ps : List D) (k : D), ds = [.list ps, k] ∧ ps.length ≤ 100) fun ds => match ds with
  | [.list ps, k] => arrD ps k
  | _ => .none
def valsD (n : Nat) (own : Kd) (tx : List Nat) : D := .list ((vals (Mn own) (Dn own) n tx).map fun v => .int (v : Nat))
def sp_values : FnS := ⟨fun ds => ∃ (n : Nat) (own : Kd) (tx : List Nat), ds = [.int n, toD own, txD tx] ∧ Wd n own ∧ (∀ l ∈ tx, l < n) ∧ tx.length ≤ 1000,
  fun ds d => ∀ (n : Nat) (own : Kd) (tx : List Nat), ds = [.int n, toD own, txD tx] → d = valsD n own tx⟩
def sp_joined : FnS := ⟨fun ds => ∃ (l : List Nat) (b : Nat), ds = [.list (l.map fun (v : Nat) => .int v), .int b] ∧ l.length ≤ 10000 ∧ b < 2 ^ 60,
  fun ds d => ∀ (l : List Nat) (b : Nat), ds = [.list (l.map fun (v : Nat) => .int v), .int b] → d = .int (jn b l : Nat)⟩
def sp_text : FnS := ⟨fun ds => ∃ (ns : List Int) (n k : Nat), ds = [.list (ns.map .int), .int n, .int k] ∧ (∀ z ∈ ns, 0 ≤ z) ∧ 1 ≤ n ∧ n ≤ 5 ∧ k ≤ ns.length ∧ ns.length ≤ 100,
  fun ds d => ∀ (ns : List Int) (n k : Nat), ds = [.list (ns.map .int), .int n, .int k] → ∃ tx, d = txD tx ∧ (∀ l ∈ tx, l < n) ∧ tx.length ≤ 100⟩
def sp_read : FnS := ⟨fun ds => ∃ (n : Nat) (own : Kd) (tx : List Nat) (ps : List Int), ds = [.int n, toD own, .int (mean n own tx : Nat), .list (ps.map .int)] ∧ Wd n own ∧ n < ps.length,
  fun ds d => ∀ (n : Nat) (own : Kd) (tx : List Nat) (ps : List Int), ds = [.int n, toD own, .int (mean n own tx : Nat), .list (ps.map .int)] →
    ∃ e, ∃ h : e < (vals (Mn own) (Dn own) n tx).length, d = .list [.int e, .int ((vals (Mn own) (Dn own) n tx)[e] : Nat)]⟩
def sp_told : FnS := ⟨fun ds => ∃ (n : Nat) (own : Kd) (tx : List Nat) (ps : List Int), ds = [.int n, toD own, txD tx, .list (ps.map .int)] ∧ Wd n own ∧ (∀ l ∈ tx, l < n) ∧ tx.length ≤ 1000 ∧ n < ps.length, fun ds d => d = .bool true⟩
def okIn (ns : List Int) : Prop := ns.length ≤ 63 ∧ ∀ z ∈ ns, Builtin.Int.intBits z ≤ 1048576
def fnD (m : Nat) : Nat → FnS
  | 0 => sp_tshape | 1 => sp_arrow | 2 => sp_unarrow | 3 => sp_shk | 5 => sp_value | 6 => sp_meas | 7 => sp_empty | 8 => sp_next | 9 => sp_tmean | 10 => PL.sp_whole | 11 => PL.sp_cell | 12 => PL.sp_digits
  | 13 => sp_lrows m | 14 => sp_larrow | 15 => sp_values | 16 => sp_joined | 17 => sp_text | 18 => sp_read | 19 => sp_told | 20 => lawS okIn | 22 => sp_rows | _ => ⟨fun _ => False, fun _ _ => True⟩
def ctD : Nat → D
  | 0 => .str ⟨#[97, 98, 99, 100, 101]⟩
  | _ => .int 2048
def G0 : Gb := ⟨fnD 5, ctD⟩
theorem w_shape_kind (ds : List D) (h : sp_shk.pre ds) : wSs G0 b_shape_kind (endOf (sp_shk.post ds)) (env0 3 ds) := by
  obtain ⟨n, own, rfl, hn⟩ := h
  show wSs G0 b_shape_kind _ [some (.fz (shp n)), some (.fz (toD own)), none]
  unfold b_shape_kind shp
  walk_at "x"
  refine ⟨by rw [List.length_append, List.length_replicate, sizeLine_eq]; simp; omega, ?_⟩
  refine map_of (fun d => match d with | .int a => toD (arr (List.replicate a.toNat own) own) | d => d) ?_ ?_
  · intro d hd K hK
    have hd : d = .int 1 ∨ d = .int 0 := by
      rcases List.mem_append.mp hd with h | h
      · exact .inl (List.eq_of_mem_replicate h)
      · exact .inr (List.mem_singleton.mp h)
    walk_at "x"
    refine ⟨by decide, ?_⟩
    rcases hd with rfl | rfl
    · walk_at "x"
      refine ⟨by decide, by decide, by decide, ⟨_, _, rfl⟩, fun d hd => ?_⟩
      have hd : d = arrD [toD own] (toD own) := hd
      subst hd
      exact hK
    · walk_at "x"
      refine ⟨by decide, by decide, by decide, ⟨_, _, rfl⟩, fun d hd => ?_⟩
      have hd : d = arrD [] (toD own) := hd
      subst hd
      exact hK
  · refine ⟨⟨_, _, rfl⟩, fun d hd => ?_⟩
    intro n' own' e
    have e1 := (List.cons.inj e).1
    have e2 := toD_inj (List.cons.inj (List.cons.inj e).2).1
    subst e2
    have e3 : n = n' := by
      have := PyData.tuple.inj e1
      have := congrArg List.length this
      rw [List.length_append, List.length_append, List.length_replicate, List.length_replicate] at this
      simp at this; exact this
    subst e3
    rw [hd]
    show arrD _ _ = _
    rw [List.nil_append, List.map_append, List.map_replicate]
    show arrD (List.replicate n (toD (.ar own own)) ++ [toD own]) (toD own) = _
    have : List.replicate n (toD (.ar own own)) ++ [toD own] = (List.replicate n (Kd.ar own own) ++ [own]).map toD := by rw [List.map_append, List.map_replicate]; rfl
    rw [this, arrD_to]; rfl
theorem w_value_of (ds : List D) (h : sp_value.pre ds) : wSs G0 b_value_of (endOf (sp_value.post ds)) (env0 4 ds) := by
  obtain ⟨a, b, m, g, rfl, h1, h2, h3⟩ := h
  show wSs G0 b_value_of _ [some (.fz (.tuple [toD a, toD b])), some (.fz (.int m)), some (.fz (.int g)), none]
  unfold b_value_of
  walk_at "x"
  refine ⟨toD b, rfl, ⟨b, rfl, h1, h2⟩, fun d hd => ?_⟩
  have hd := hd b rfl
  subst hd
  walk_at "x"
  refine ⟨mulR (by omega) (by omega), by rw [← Int.natCast_mul]; omega, shl_ok (n := 1) (by decide) (by omega), ?_⟩
  rw [← Int.natCast_mul, c_shr, c_1shl, c_and]
  intro a' b' m' g' e
  have e0 := List.cons.inj e
  have e1 := toD_inj (a := .ar a b) (b := .ar a' b') e0.1
  have e2 := List.cons.inj e0.2
  have e3 := List.cons.inj e2.2
  have := Int.ofNat_inj.mp (PyData.int.inj e2.1)
  subst this
  have := Int.ofNat_inj.mp (PyData.int.inj e3.1)
  subst this
  cases e1
  rfl
end K31

namespace K31
open PySem PySem.Spec PyProof.Rows L2 PD
local macro_rules | `(tactic| walk_at "x") => `(tactic| simp (config := { decide := false }) only [x_var, x_v0, x_v1, x_v11, x_v12, x_v13, x_v1t, x_v22, x_v23, x_v2t, bLv, x_ct, x_non, x_bl, x_int, x_str, x_bin, x_neg, x_cmp, x_bopt, x_bopv, x_nt, x_ntv, x_ifx, x_ix, x_ixt, x_sl, x_call, x_callk, x_blt, x_isi, x_mth, x_tup, x_lst, x_lc, x_ts0, x_ts1, x_bs0, x_bs1, x_c0, x_c1,
    x_eo0, x_eo1, x_es0, x_es1, x_ls, x_r1, x_r2, x_rv, x_rr1, x_rr2, o_ls, o_tp, x_ft, x_ftst, x_fLt, x_fLf, x_fBl, x_fBi, x_fBs, x_fBb, x_fBt, x_trb, x_tri, x_nil, x_cons, x_asg, x_own, x_own2, x_frz, x_app, x_app2, x_appI, x_seti, x_set2, x_drop, x_ifs, x_whl, x_fr, x_ret, x_retN, x_pass, x_brk, x_cont, x_gnm, x_gtp, x_g0, x_gs, x_rt, x_nx,
    b_addI, b_addS, b_addL, b_addT, b_sub, b_mul, b_mulL, b_mulT, b_and, b_or, b_xor, b_div, b_mod, b_pow, b_shl, b_shr, e_ii, e_ss, e_bb, e_nn, e_ni, e_in, e_ns, e_sn, e_is, e_si, e_nb, e_bn, c_eq, c_ne, c_lt, c_le, c_gt, c_ge, c_in, c_ni, c_is, c_isn, i_l, i_t, i_s, l_l, l_t, l_s,
    f_lenL, f_lenT, f_lenS, f_intI, f_intB, f_str, f_tupL, f_tupT, f_lstL, f_lstT, f_abs, f_max, f_min, f_sum, m_join, m_find3, m_rfind4, m_sindex, s_lst, s_tup, wFrz, setAll, wipeE, t_str, t_lst, mtTy, o_int, o_bl, o_str, o_lst, o_tup, o_non, isT, String.reduceBEq, String.reduceEq, beq_self_eq_true, Nat.reduceAdd, Nat.reduceLT, Nat.reduceSub,
    List.map_cons, List.map_nil, List.length_cons, List.length_nil, List.set_cons_zero, List.set_cons_succ, List.any_cons, List.any_nil,
    PyData.bool.injEq, PyData.int.injEq, PyData.str.injEq, PyData.list.injEq, PyData.tuple.injEq, Option.some.injEq, Sl.fz.injEq, Sl.ow.injEq, Sl.ow2.injEq,
    exists_eq_left, exists_eq_left', exists_and_left, exists_and_right, and_assoc, true_and, and_true, if_true, if_false, ite_true, ite_false, decide_eq_true_eq, Bool.true_eq_false, Bool.false_eq_true, Bool.not_true, Bool.not_false, Bool.or_true, Bool.true_or, Bool.or_false, Bool.false_or, Bool.and_true, Bool.true_and, Bool.and_false, Bool.false_and, Nat.zero_lt_succ, reduceCtorEq])
open PL
theorem w_measures (ds : List D) (h : sp_meas.pre ds) : wSs G0 b__measures (endOf (sp_meas.post ds)) (env0 4 ds) := by
  obtain ⟨n, own, rfl, hw⟩ := h
  show wSs G0 b__measures _ [some (.fz (.int n)), some (.fz (toD own)), none, none]
  unfold b__measures
  walk_at "x"
  refine ⟨⟨n, rfl, hw.n5⟩, fun d hd => ?_⟩
  have hd : d = .tuple (List.replicate (n : Int).toNat (.int 1) ++ [.int 0]) := hd
  rw [Int.toNat_natCast] at hd
  subst hd
  refine ⟨⟨n, own, rfl, hw.n5⟩, fun d hd => ?_⟩
  have hd := hd n own rfl
  subst hd
  refine ⟨⟨W n own, rfl, hw.rw, hw.dw⟩, fun d hd => ?_⟩
  have hd := hd _ rfl
  subst hd
  have ho := hw.own
  have hp := rows_pos own
  refine ⟨⟨own, rfl, by omega, by have := hw.dp; omega⟩, fun d hd => ?_⟩
  have hd := hd _ rfl
  subst hd
  walk_at "x"
  have h8 : rows own * 2 ^ rows own ≤ 24 := Nat.mul_le_mul ho (Nat.le_trans (Nat.pow_le_pow_right (by decide) ho) (show 2 ^ 3 ≤ 8 by decide))
  rw [c_shl, c_1shl, c_1shl]
  refine ⟨shl_ok (n := 1) (by decide) (by omega), shl_ok (n := 10) (by rw [Int.natAbs_natCast]; omega) (by omega), shl_ok (n := 1) (by decide) (by omega), wide_div (b := 10) (by omega) (by rw [Int.natAbs_natCast]; omega) (by decide) (by decide), by decide, ?_⟩
  intro n' own' e
  have e1 := Int.ofNat_inj.mp (PyData.int.inj (List.cons.inj e).1)
  have e2 := toD_inj (List.cons.inj (List.cons.inj e).2).1
  subst e1
  subst e2
  rw [← Int.natCast_ediv, rows_W, Nat.mul_div_cancel_left _ hp]; rfl
/-- the digits of a number, from the top -/
theorem jn_drop {b : Nat} {l : List Nat} {i n : Nat} (hn : l.length = n) (hi : i < n) : jn b (l.drop (n - (i + 1))) = jn b (l.drop (n - i)) * b + l.getD (n - (i + 1)) 0 := by
  subst hn
  rw [List.drop_eq_getElem_cons (show l.length - (i + 1) < l.length by omega), show l.length - (i + 1) + 1 = l.length - i by omega, List.getD_eq_getElem?_getD, List.getElem?_eq_getElem (show l.length - (i + 1) < l.length by omega)]
  show _ + b * _ = _
  rw [Nat.mul_comm, Nat.add_comm]; rfl
theorem vals_getD {mn dn n e : Nat} {tx : List Nat} (h : e < mn * dn ^ n) : (vals mn dn n tx).getD e 0 = val mn dn n e tx := by
  unfold vals
  rw [List.getD_eq_getElem?_getD, List.getElem?_map, List.getElem?_range h]; rfl
set_option exponentiation.threshold 10000 in
theorem drop_lt {b : Nat} {l : List Nat} (h : ∀ d ∈ l, d < b) (hb : b ≤ 8) (hl : l.length ≤ 2048) (j : Nat) : jn b (l.drop j) < 2 ^ 8192 := by
  have h1 := jn_lt (b := 8) (l := l.drop j) fun d hd => Nat.lt_of_lt_of_le (h d (List.mem_of_mem_drop hd)) hb
  have h2 : ∀ (l : List Nat), jn b l ≤ jn 8 l := by
    intro l
    induction l with
    | nil => exact Nat.le_refl _
    | cons d l ih => exact Nat.add_le_add_left (Nat.mul_le_mul hb ih) d
  have h3 : (8 : Nat) ^ (l.drop j).length ≤ 2 ^ 8192 := by
    rw [show (8 : Nat) = 2 ^ 3 from rfl, ← Nat.pow_mul]
    exact Nat.pow_le_pow_right (by decide) (by rw [List.length_drop]; omega)
  exact Nat.lt_of_le_of_lt (h2 _) (Nat.lt_of_lt_of_le h1 h3)
def I_empty (n : Nat) (own : Kd) (i : Nat) (ρ : PD.Env) : Prop := ∃ s1, ρ = [some (.fz (.int n)), some (.fz (toD own)), some (.fz (.int (jn (Mn own) ((vals (Mn own) (Dn own) n []).drop (En n own - i)) : Nat))), s1, some (.fz (.int (rows own : Nat))), some (.fz (.int (Mn own : Nat))), some (.fz (.int (Dn own : Nat))), some (.fz (.int (En n own : Nat)))]
theorem w_empty_meaning (ds : List D) (h : sp_empty.pre ds) : wSs G0 b__empty_meaning (endOf (sp_empty.post ds)) (env0 8 ds) := by
  obtain ⟨n, own, rfl, hw⟩ := h
  show wSs G0 b__empty_meaning _ [some (.fz (.int n)), some (.fz (toD own)), none, none, none, none, none, none]
  unfold b__empty_meaning
  walk_at "x"
  refine ⟨⟨n, own, rfl, hw⟩, fun d hd => ?_⟩
  have hd := hd n own rfl
  subst hd
  have he := hw.en
  have hm := Mn_le hw
  walk_at "x"
  have hV := vals_lt (mn := Mn own) (dn := Dn own) (n := n) (Mn_pos own) (tx := [])
  have hL : (vals (Mn own) (Dn own) n []).length = En n own := vals_len
  refine ⟨by omega, by omega, ?_⟩
  refine for_of (I_empty n own) ⟨none, ?_⟩ ?_ ?_
  · rw [Nat.sub_zero, ← hL, List.drop_length]; rfl
  · rintro i d ρ' N hd ⟨s1, rfl⟩ hN
    obtain ⟨hd, hi⟩ := rev_get hd
    rw [List.length_map, List.length_range, Int.toNat_natCast] at hi hd
    obtain ⟨_, rfl⟩ := rng0_at hd
    walk_at "x"
    have hp := Mn_pos own
    have ho := hw.own
    rw [c_shl, ← Int.natCast_emod, c_or (show (En n own - 1 - i) % Mn own < 2 ^ rows own from Nat.mod_lt _ hp)]
    refine ⟨shl_ok (n := 8192) (by rw [Int.natAbs_natCast]; exact drop_lt hV hm (by omega) _) (by omega), by omega, hN _ ⟨some (.fz (.int ((En n own - 1 - i : Nat) : Int))), ?_⟩⟩
    have e := jn_drop (b := Mn own) (i := i) hL (by omega)
    rw [vals_getD (show En n own - (i + 1) < Mn own * Dn own ^ n by show _ < En n own; omega)] at e
    rw [e, show En n own - (i + 1) = En n own - 1 - i by omega]; rfl
  · rintro ρ' ⟨s1, rfl⟩
    rw [List.length_reverse, List.length_map, List.length_range, Int.toNat_natCast, Nat.sub_self]
    walk_at "x"
    intro n' own' e
    have e1 := Int.ofNat_inj.mp (PyData.int.inj (List.cons.inj e).1)
    have e2 := toD_inj (List.cons.inj (List.cons.inj e).2).1
    subst e1
    subst e2
    rfl
theorem occ_l {l : Nat} (h : l < 5) : Builtin.Str.occurrences ⟨#[97, 98, 99, 100, 101]⟩ ⟨#[97 + l]⟩ 0 (⟨#[97, 98, 99, 100, 101]⟩ : Str).length 1 = [l] := by
  have : l = 0 ∨ l = 1 ∨ l = 2 ∨ l = 3 ∨ l = 4 := by omega
  rcases this with rfl | rfl | rfl | rfl | rfl <;> decide +kernel
theorem div_ok {j : Nat} (h1 : 0 < j) (h2 : j ≤ 2048) (i : Int) : CDivW i (j : Int) := wide_div (b := 12) (by omega) (by rw [Int.natAbs_natCast]; omega) (by decide) (by decide)
def E_next (n : Nat) (own : Kd) (tx : List Nat) (l : Nat) (mg : Nat) (s7 s12 s13 s14 : Option Sl) : PD.Env :=
  [some (.fz (.int n)), some (.fz (toD own)), some (.fz (.int (mean n own tx : Nat))), some (.fz (lt l)), some (.fz (.int ((Mn own : Nat) - 1))), some (.fz (.int ((n - 1 - l : Nat) : Int))), some (.fz (.int mg)), s7,
    some (.fz (.int (rows own : Nat))), some (.fz (.int (Mn own : Nat))), some (.fz (.int (Dn own : Nat))), some (.fz (.int (En n own : Nat))), s12, s13, s14]
def I_next (n : Nat) (own : Kd) (tx : List Nat) (l : Nat) (i : Nat) (ρ : PD.Env) : Prop := ∃ s7 s12 s13 s14, ρ = E_next n own tx l (jn (Mn own) ((vals (Mn own) (Dn own) n (tx ++ [l])).drop (En n own - i))) s7 s12 s13 s14
def I_nin (n : Nat) (own : Kd) (tx : List Nat) (l mg e : Nat) (s14 : Option Sl) (j : Nat) (ρ : PD.Env) : Prop := ∃ s13, ρ = E_next n own tx l mg (some (.fz (.int e))) (some (.fz (.int ((e / Mn own / Dn own ^ j : Nat) : Int)))) s13 s14
theorem w_next_meaning (ds : List D) (h : sp_next.pre ds) : wSs G0 b_next_meaning (endOf (sp_next.post ds)) (env0 15 ds) := by
  obtain ⟨n, own, tx, l, rfl, hw, hl⟩ := h
  show wSs G0 b_next_meaning _ [some (.fz (.int n)), some (.fz (toD own)), some (.fz (.int (mean n own tx : Nat))), some (.fz (.str ⟨#[97 + l]⟩)), none, none, none, none, none, none, none, none, none, none, none]
  unfold b_next_meaning
  walk_at "x"
  refine ⟨⟨n, own, rfl, hw⟩, fun d hd => ?_⟩
  have hd := hd n own rfl
  subst hd
  have he := hw.en
  have hm := Mn_le hw
  have hn5 := hw.n5
  have hdn := hw.dn
  have ho := hw.own
  have hmp := Mn_pos own
  have hdp := Dn_pos own
  have hc : G0.ct 0 = .str ⟨#[97, 98, 99, 100, 101]⟩ := rfl
  walk_at "x"
  rw [hc]
  walk_at "x"
  have hV := vals_lt (mn := Mn own) (dn := Dn own) (n := n) hmp (tx := tx ++ [l])
  have hL : (vals (Mn own) (Dn own) n (tx ++ [l])).length = En n own := vals_len
  have hV0 := vals_lt (mn := Mn own) (dn := Dn own) (n := n) hmp (tx := tx)
  have hL0 : (vals (Mn own) (Dn own) n tx).length = En n own := vals_len
  refine ⟨l, ⟨[], occ_l (by omega)⟩, by omega, by omega, ?_⟩
  refine for_of (I_next n own tx l) ⟨none, none, none, none, ?_⟩ ?_ ?_
  · rw [show (vals (Mn own) (Dn own) n (tx ++ [l])).drop (En n own - 0) = [] by rw [Nat.sub_zero, ← hL]; exact List.drop_length]
    unfold E_next
    rw [show ((n : Int) - 1 - (l : Int)) = ((n - 1 - l : Nat) : Int) by omega]; rfl
  · rintro i d ρ' N hd ⟨s7, s12, s13, s14, rfl⟩ hN
    obtain ⟨hd, hi⟩ := rev_get hd
    rw [List.length_map, List.length_range, Int.toNat_natCast] at hi hd
    obtain ⟨_, rfl⟩ := rng0_at hd
    generalize hee : En n own - 1 - i = e
    have hel : e < En n own := by omega
    unfold E_next
    walk_at "x"
    refine ⟨div_ok hmp (by omega) _, by omega, by omega, ?_⟩
    rw [← Int.natCast_ediv]
    refine for_of (I_nin n own tx l (jn (Mn own) ((vals (Mn own) (Dn own) n (tx ++ [l])).drop (En n own - i))) e s14) ⟨s13, ?_⟩ ?_ ?_
    · rw [Nat.pow_zero, Nat.div_one]; rfl
    · rintro j d ρ' N hd ⟨s13, rfl⟩ hN
      obtain ⟨hj, rfl⟩ := rng0_at hd
      unfold E_next
      walk_at "x"
      refine ⟨div_ok hdp hdn _, hN _ ⟨some (.fz (.int j)), ?_⟩⟩
      rw [← Int.natCast_ediv, Nat.pow_succ, ← Nat.div_div_eq_div_mul]; rfl
    · rintro ρ' ⟨s13, rfl⟩
      rw [List.length_map, List.length_range, Int.toNat_natCast]
      unfold E_next
      walk_at "x"
      have hR : rows own < 2 ^ 60 := by omega
      rw [← Int.natCast_emod, ← Int.natCast_mul, c_shr]
      have hmk : (Mn own : Int) - 1 = ((2 ^ rows own : Nat) : Int) - 1 := rfl
      rw [hmk, c_and]
      have e1 : mean n own tx / 2 ^ (e * rows own) % 2 ^ rows own = val (Mn own) (Dn own) n e tx := by
        have := jn_digit hmp hV0 (k := e) (by omega)
        rw [Nat.mul_comm e, Nat.pow_mul]
        show jn (Mn own) (vals (Mn own) (Dn own) n tx) / Mn own ^ e % Mn own = _
        rw [this]
        unfold vals
        rw [List.getElem_map, List.getElem_range]
      rw [e1]
      have hth := val_lt (dn := Dn own) (n := n) (e := e) hmp tx
      rw [← Int.natCast_mul, c_shr, c_and, c_shl]
      have e2 : e / Mn own / Dn own ^ (n - 1 - l) % Dn own / 2 ^ (val (Mn own) (Dn own) n e tx * rows own) % 2 ^ rows own = val (Mn own) (Dn own) n e (tx ++ [l]) := by
        rw [val_snoc, Nat.mul_comm (val _ _ _ _ _), Nat.pow_mul]; rfl
      rw [e2, c_or (show val (Mn own) (Dn own) n e (tx ++ [l]) < 2 ^ rows own from val_lt hmp _)]
      refine ⟨by omega, mulR (by omega) (by omega), by omega, shl_ok (n := 8192) (by rw [Int.natAbs_natCast]; exact drop_lt hV hm (by omega) _) (by omega), mulR (by omega) (by omega), by omega, hN _ ⟨some (.fz (.int e)), some (.fz (.int ((e / Mn own / Dn own ^ (n - 1 - l) % Dn own : Nat) : Int))), s13, some (.fz (.int (val (Mn own) (Dn own) n e tx : Nat))), ?_⟩⟩
      have ej := jn_drop (b := Mn own) (i := i) hL (by omega)
      rw [vals_getD (show En n own - (i + 1) < Mn own * Dn own ^ n by show _ < En n own; omega), show En n own - (i + 1) = En n own - 1 - i by omega, hee] at ej
      rw [show En n own - (i + 1) = En n own - 1 - i by omega, hee, ej]; rfl
  · rintro ρ' ⟨s7, s12, s13, s14, rfl⟩
    rw [List.length_reverse, List.length_map, List.length_range, Int.toNat_natCast, Nat.sub_self]
    unfold E_next
    walk_at "x"
    intro n' own' m' l' e
    have e0 := List.cons.inj e
    have e1 := Int.ofNat_inj.mp (PyData.int.inj e0.1)
    have e2 := List.cons.inj e0.2
    have e3 := toD_inj e2.1
    have e4 := List.cons.inj e2.2
    have e5 := Int.ofNat_inj.mp (PyData.int.inj e4.1)
    have e6 := (List.cons.inj e4.2).1
    have e7 : l = l' := by
      have h := PyData.str.inj e6
      simp at h; exact h
    subst e1 e3 e5 e7
    rw [nxt_mean]; rfl
theorem w_text_meaning (ds : List D) (h : sp_tmean.pre ds) : wSs G0 b_text_meaning (endOf (sp_tmean.post ds)) (env0 5 ds) := by
  obtain ⟨n, own, tx, rfl, hw, ht, hz⟩ := h
  show wSs G0 b_text_meaning _ [some (.fz (.int n)), some (.fz (toD own)), some (.fz (txD tx)), none, none]
  unfold b_text_meaning
  walk_at "x"
  refine ⟨⟨n, own, rfl, hw⟩, fun d hd => ?_⟩
  have hd := hd n own rfl
  subst hd
  refine ⟨_, rfl, ?_⟩
  refine for_of (fun i ρ => ∃ s1, ρ = [some (.fz (.int n)), some (.fz (toD own)), some (.fz (txD tx)), some (.fz (.int (mean n own (tx.take i) : Nat))), s1]) ⟨none, rfl⟩ ?_ ?_
  · rintro i d ρ' N hd ⟨s1, rfl⟩ hN
    rw [List.getElem?_map] at hd
    have hd : ∃ l, tx[i]? = some l ∧ d = lt l := by
      rw [List.getElem?_map] at hd
      cases e : tx[i]? with
      | none => rw [e] at hd; cases hd
      | some l => rw [e] at hd; exact ⟨l, rfl, (Option.some.inj hd).symm⟩
    obtain ⟨l, e, rfl⟩ := hd
    walk_at "x"
    refine ⟨⟨n, own, tx.take i, l, rfl, hw, ht l (List.mem_of_getElem? e)⟩, fun d hd => ?_⟩
    have hd := hd n own _ l rfl
    subst hd
    refine hN _ ⟨some (.fz (lt l)), ?_⟩
    rw [nxt_mean, List.take_add_one, e]; rfl
  · rintro ρ' ⟨s1, rfl⟩
    rw [List.length_map, List.length_map, List.take_length]
    walk_at "x"
    intro n' own' tx' e
    have e0 := List.cons.inj e
    have e1 := Int.ofNat_inj.mp (PyData.int.inj e0.1)
    have e2 := List.cons.inj e0.2
    have e3 := toD_inj e2.1
    have e4 := (List.cons.inj e2.2).1
    have e5 : tx = tx' := by
      have h := congrArg (fun s : Str => s.cps.toList) (PyData.str.inj e4)
      exact (List.map_inj_right (fun a b h => by omega)).mp h
    subst e1 e3 e5
    rfl
end K31

namespace K31
open PySem PySem.Spec PyProof.Rows L2 PD
local macro_rules | `(tactic| walk_at "x") => `(tactic| simp (config := { decide := false }) only [x_var, x_v0, x_v1, x_v11, x_v12, x_v13, x_v1t, x_v22, x_v23, x_v2t, bLv, x_ct, x_non, x_bl, x_int, x_str, x_bin, x_neg, x_cmp, x_bopt, x_bopv, x_nt, x_ntv, x_ifx, x_ix, x_ixt, x_sl, x_call, x_callk, x_blt, x_isi, x_mth, x_tup, x_lst, x_lc, x_ts0, x_ts1, x_bs0, x_bs1, x_c0, x_c1,
    x_eo0, x_eo1, x_es0, x_es1, x_ls, x_r1, x_r2, x_rv, x_rr1, x_rr2, o_ls, o_tp, x_ft, x_ftst, x_fLt, x_fLf, x_fBl, x_fBi, x_fBs, x_fBb, x_fBt, x_trb, x_tri, x_nil, x_cons, x_asg, x_own, x_own2, x_frz, x_app, x_app2, x_appI, x_seti, x_set2, x_drop, x_ifs, x_whl, x_fr, x_ret, x_retN, x_pass, x_brk, x_cont, x_gnm, x_gtp, x_g0, x_gs, x_rt, x_nx,
    b_addI, b_addS, b_addL, b_addT, b_sub, b_mul, b_mulL, b_mulT, b_and, b_or, b_xor, b_div, b_mod, b_pow, b_shl, b_shr, e_ii, e_ss, e_bb, e_nn, e_ni, e_in, e_ns, e_sn, e_is, e_si, e_nb, e_bn, c_eq, c_ne, c_lt, c_le, c_gt, c_ge, c_in, c_ni, c_is, c_isn, i_l, i_t, i_s, l_l, l_t, l_s,
    f_lenL, f_lenT, f_lenS, f_intI, f_intB, f_str, f_tupL, f_tupT, f_lstL, f_lstT, f_abs, f_max, f_min, f_sum, m_join, m_find3, m_rfind4, m_sindex, s_lst, s_tup, wFrz, setAll, wipeE, t_str, t_lst, mtTy, o_int, o_bl, o_str, o_lst, o_tup, o_non, isT, String.reduceBEq, String.reduceEq, beq_self_eq_true, Nat.reduceAdd, Nat.reduceLT, Nat.reduceSub,
    List.map_cons, List.map_nil, List.length_cons, List.length_nil, List.set_cons_zero, List.set_cons_succ, List.any_cons, List.any_nil,
    PyData.bool.injEq, PyData.int.injEq, PyData.str.injEq, PyData.list.injEq, PyData.tuple.injEq, Option.some.injEq, Sl.fz.injEq, Sl.ow.injEq, Sl.ow2.injEq,
    exists_eq_left, exists_eq_left', exists_and_left, exists_and_right, and_assoc, true_and, and_true, if_true, if_false, ite_true, ite_false, decide_eq_true_eq, Bool.true_eq_false, Bool.false_eq_true, Bool.not_true, Bool.not_false, Bool.or_true, Bool.true_or, Bool.or_false, Bool.false_or, Bool.and_true, Bool.true_and, Bool.and_false, Bool.false_and, Nat.zero_lt_succ, reduceCtorEq])
open PL
/-! ### the law's order of choices -/
theorem range_flat {α : Type} (f : Nat → α) (b : Nat) : ∀ a : Nat, (List.range a).flatMap (fun i => (List.range b).map fun j => f (i * b + j)) = (List.range (a * b)).map f
  | 0 => by rw [Nat.zero_mul]; rfl
  | a + 1 => by
    rw [List.range_succ, List.flatMap_append, range_flat f b a, Nat.succ_mul, List.range_add, List.map_append, List.map_map]
    simp
theorem fm_congr {α β : Type} {f g : α → List β} : ∀ {l : List α}, (∀ x ∈ l, f x = g x) → l.flatMap f = l.flatMap g
  | [], _ => rfl
  | x :: l, h => by
    rw [List.flatMap_cons, List.flatMap_cons, h x List.mem_cons_self, fm_congr fun y hy => h y (List.mem_cons_of_mem _ hy)]
def chL (dn : Nat) : Nat → List (List Nat)
  | 0 => [[]]
  | k + 1 => (chL dn k).flatMap fun c => (List.range dn).map fun d => c ++ [d]
def chR (dn k i : Nat) : List Nat := (List.range k).map fun j => i / dn ^ (k - 1 - j) % dn
theorem chR_snoc {dn k i d : Nat} (hd : d < dn) : chR dn (k + 1) (i * dn + d) = chR dn k i ++ [d] := by
  have hp : 0 < dn := by omega
  unfold chR
  rw [List.range_succ, List.map_append]
  congr 1
  · refine List.map_congr_left fun j hj => ?_
    have hj := List.mem_range.mp hj
    rw [show k + 1 - 1 - j = (k - 1 - j) + 1 by omega, Nat.pow_succ, Nat.mul_comm (dn ^ _) dn, ← Nat.div_div_eq_div_mul, Nat.add_comm, Nat.add_mul_div_right _ _ hp, Nat.div_eq_of_lt hd, Nat.zero_add]
  · rw [List.map_cons, List.map_nil, show k + 1 - 1 - k = 0 by omega, Nat.pow_zero, Nat.div_one, Nat.add_comm, Nat.add_mul_mod_self_right, Nat.mod_eq_of_lt hd]
theorem chL_eq {dn : Nat} : ∀ k, chL dn k = (List.range (dn ^ k)).map (chR dn k)
  | 0 => rfl
  | k + 1 => by
    show (chL dn k).flatMap _ = _
    rw [chL_eq k, List.flatMap_map, Nat.pow_succ, ← range_flat]
    refine fm_congr fun i _ => ?_
    refine List.map_congr_left fun d hd => ?_
    exact (chR_snoc (List.mem_range.mp hd)).symm
theorem chL_len {dn k : Nat} : (chL dn k).length = dn ^ k := by rw [chL_eq, List.length_map, List.length_range]
def fo (mn : Nat) (c : List Nat) (b : Nat) (tx : List Nat) : Nat := tx.foldl (fun t l => c.getD l 0 / mn ^ t % mn) b
def valL (mn dn n : Nat) (tx : List Nat) : List Nat := (chL dn n).flatMap fun c => (List.range mn).map fun b => fo mn c b tx
theorem valL_eq {mn dn n : Nat} (hm : 0 < mn) {tx : List Nat} (ht : ∀ l ∈ tx, l < n) : valL mn dn n tx = vals mn dn n tx := by
  unfold valL vals
  rw [chL_eq, List.flatMap_map, Nat.mul_comm mn, ← range_flat]
  refine fm_congr fun i _ => ?_
  refine List.map_congr_left fun b hb => ?_
  have hb := List.mem_range.mp hb
  have e1 : (i * mn + b) % mn = b := by rw [Nat.add_comm, Nat.add_mul_mod_self_right, Nat.mod_eq_of_lt hb]
  have e2 : (i * mn + b) / mn = i := by rw [Nat.add_comm, Nat.add_mul_div_right _ _ hm, Nat.div_eq_of_lt hb, Nat.zero_add]
  unfold val fo
  rw [e1]
  have : ∀ (tx : List Nat) (t : Nat), (∀ l ∈ tx, l < n) → tx.foldl (fun t l => (chR dn n i).getD l 0 / mn ^ t % mn) t = tx.foldl (stp mn dn n (i * mn + b)) t := by
    intro tx
    induction tx with
    | nil => intro t _; rfl
    | cons l tx ih =>
      intro t h
      have hl := h l List.mem_cons_self
      have e3 : (chR dn n i).getD l 0 = chc mn dn n (i * mn + b) l := by
        unfold chR chc
        rw [e2, List.getD_eq_getElem?_getD, List.getElem?_map, List.getElem?_range hl]; rfl
      show tx.foldl _ ((chR dn n i).getD l 0 / mn ^ t % mn) = tx.foldl _ (stp mn dn n (i * mn + b) t l)
      rw [e3]
      exact ih _ fun x hx => h x (List.mem_cons_of_mem _ hx)
  exact this tx b ht
/-! ### the law's defs -/
theorem w_law_rows (m : Nat) (ds : List D) (h : (sp_lrows (m + 1)).pre ds) : wSs ⟨fnD m, ctD⟩ b__law_rows (endOf ((sp_lrows (m + 1)).post ds)) (env0 3 ds) := by
  obtain ⟨k, rfl, hk, hd⟩ := h
  show wSs ⟨fnD m, ctD⟩ b__law_rows _ [some (.fz (toD k)), none, none]
  unfold b__law_rows
  walk_at "x"
  have bd : ∀ (k1 : Kd) (c : Nat), c * rows k1 = rows k → c ≤ 2048 ∧ rows k1 ≤ 2048 := by
    intro k1 c h
    have h1 := rows_pos k1
    have a1 : c * 1 ≤ c * rows k1 := Nat.mul_le_mul_left c h1
    have hc : 0 < c := by
      rcases Nat.eq_zero_or_pos c with z | z
      · rw [z, Nat.zero_mul] at h
        have := rows_pos k; omega
      · exact z
    have a2 : 1 * rows k1 ≤ c * rows k1 := Nat.mul_le_mul_right _ hc
    omega
  refine whl_of (fun q ρ => ∃ (k1 : Kd) (c : Nat), q = (args k1).length ∧ c * rows k1 = rows k ∧ dep k1 ≤ dep k ∧ ρ = [some (.fz (toD k)), some (.fz (.int c)), some (.fz (toD k1))]) (args k).length ⟨k, 1, rfl, Nat.one_mul _, Nat.le_refl _, rfl⟩ fun q ρ h => ?_
  obtain ⟨k1, c, rfl, e, hdp, rfl⟩ := h
  walk_at "x"
  obtain ⟨b1, b2⟩ := bd k1 c e
  cases k1 with
  | o =>
    have ht : isOne (toD .o) "tuple" = false := by decide +kernel
    rw [ht, if_neg Bool.false_ne_true]
    intro k' e'
    have := toD_inj (List.cons.inj e').1
    subst this
    rw [← e]
    show PyData.int _ = .int ((c * 1 : Nat) : Int)
    rw [Nat.mul_one]
  | ar a b =>
    have ht : isOne (toD (.ar a b)) "tuple" = true := rfl
    rw [ht, if_pos rfl]
    have ha : a ∈ args (.ar a b) := List.mem_cons_self
    have ra := args_rows ha
    have da := args_dep ha
    show wIx (.tuple [toD a, toD b]) (.int 0) _
    rw [i_t]
    refine ⟨toD a, rfl, ⟨a, rfl, by omega, by omega⟩, fun d hd => ?_⟩
    have hd := hd a rfl
    subst hd
    walk_at "x"
    refine ⟨shl_ok (n := 64) (by rw [Int.natAbs_natCast]; omega) (by omega), ?_⟩
    show wIx (.tuple [toD a, toD b]) (.int 1) _
    rw [i_t]
    refine ⟨toD b, rfl, (args b).length, Nat.lt_succ_self _, b, rfl, c * 2 ^ rows a, ?_, ?_, ?_⟩
    · rw [← e]
      show _ = c * (rows b * 2 ^ rows a)
      rw [Nat.mul_assoc, Nat.mul_comm (rows b)]
    · have : dep b ≤ dep (.ar a b) := Nat.le_max_right _ _
      omega
    · rw [c_shl]
def I_larrow (ps : List D) (k : D) (i : Nat) (ρ : PD.Env) : Prop := ∃ s1, ρ = [some (.fz (.list ps)), some (.fz k), some (.fz (arrD (ps.drop (ps.length - i)) k)), s1]
theorem w_law_arrow (ds : List D) (h : sp_larrow.pre ds) : wSs G0 b__law_arrow (endOf (sp_larrow.post ds)) (env0 4 ds) := by
  obtain ⟨ps, k, rfl, hl⟩ := h
  show wSs G0 b__law_arrow _ [some (.fz (.list ps)), some (.fz k), none, none]
  unfold b__law_arrow
  walk_at "x"
  refine ⟨by omega, by omega, ?_⟩
  refine for_of (I_larrow ps k) ⟨none, by rw [Nat.sub_zero, List.drop_length]; rfl⟩ ?_ ?_
  · rintro i d ρ' N hd ⟨s1, rfl⟩ hN
    obtain ⟨hi, rfl⟩ := rng0_at hd
    rw [Int.toNat_natCast] at hi
    walk_at "x"
    have hj : ps.length - 1 - i < ps.length := by omega
    refine ⟨ps[ps.length - 1 - i], ?_, by decide, hN _ ⟨some (.fz (.int i)), ?_⟩⟩
    · rw [show ((ps.length : Int) - 1 - (i : Int)) = ((ps.length - 1 - i : Nat) : Int) by omega]
      exact atN hj
    · rw [show ps.length - (i + 1) = ps.length - 1 - i by omega, List.drop_eq_getElem_cons hj, show ps.length - 1 - i + 1 = ps.length - i by omega]
      rfl
  · rintro ρ' ⟨s1, rfl⟩
    walk_at "x"
    rw [List.length_map, List.length_range, Int.toNat_natCast, Nat.sub_self]; rfl
theorem w_law_joined (ds : List D) (h : sp_joined.pre ds) : wSs G0 b__law_joined (endOf (sp_joined.post ds)) (env0 4 ds) := by
  obtain ⟨l, b, rfl, hl, hb⟩ := h
  show wSs G0 b__law_joined _ [some (.fz (.list (l.map fun (v : Nat) => .int v))), some (.fz (.int b)), none, none]
  unfold b__law_joined
  walk_at "x"
  rw [List.length_map]
  refine ⟨by omega, by omega, ?_⟩
  refine for_of (fun i ρ => ∃ s1, ρ = [some (.fz (.list (l.map fun (v : Nat) => .int v))), some (.fz (.int b)), some (.fz (.int (jn b (l.drop (l.length - i)) : Nat))), s1]) ⟨none, by rw [Nat.sub_zero, List.drop_length]; rfl⟩ ?_ ?_
  · rintro i d ρ' N hd ⟨s1, rfl⟩ hN
    obtain ⟨hi, rfl⟩ := rng0_at hd
    rw [Int.toNat_natCast] at hi
    walk_at "x"
    have hj : l.length - 1 - i < l.length := by omega
    refine ⟨mulR (by omega) (by omega), .int (l[l.length - 1 - i] : Nat), ?_, ?_⟩
    · rw [List.length_map, show ((l.length : Int) - 1 - (i : Int)) = ((l.length - 1 - i : Nat) : Int) by omega]
      exact atI_nat (by rw [List.getElem?_map, List.getElem?_eq_getElem hj]; rfl)
    · walk_at "x"
      refine hN _ ⟨some (.fz (.int i)), ?_⟩
      have e := jn_drop (b := b) (l := l) (i := i) rfl hi
      rw [e, Int.natCast_add, Int.natCast_mul, List.getD_eq_getElem?_getD, show l.length - (i + 1) = l.length - 1 - i by omega, List.getElem?_eq_getElem hj]
      rfl
  · rintro ρ' ⟨s1, rfl⟩
    walk_at "x"
    rw [List.length_map, List.length_range, Int.toNat_natCast, Nat.sub_self]
    intro l' b' e
    have e0 := List.cons.inj e
    have e1 := (List.map_inj_right (fun a b h => Int.ofNat_inj.mp (PyData.int.inj h))).mp (PyData.list.inj e0.1)
    have e2 := Int.ofNat_inj.mp (PyData.int.inj (List.cons.inj e0.2).1)
    subst e1 e2
    rfl
end K31

namespace K31
open PySem PySem.Spec PyProof.Rows L2 PD
local macro_rules | `(tactic| walk_at "x") => `(tactic| simp (config := { decide := false }) only [x_var, x_v0, x_v1, x_v11, x_v12, x_v13, x_v1t, x_v22, x_v23, x_v2t, bLv, x_ct, x_non, x_bl, x_int, x_str, x_bin, x_neg, x_cmp, x_bopt, x_bopv, x_nt, x_ntv, x_ifx, x_ix, x_ixt, x_sl, x_call, x_callk, x_blt, x_isi, x_mth, x_tup, x_lst, x_lc, x_ts0, x_ts1, x_bs0, x_bs1, x_c0, x_c1,
    x_eo0, x_eo1, x_es0, x_es1, x_ls, x_r1, x_r2, x_rv, x_rr1, x_rr2, o_ls, o_tp, x_ft, x_ftst, x_fLt, x_fLf, x_fBl, x_fBi, x_fBs, x_fBb, x_fBt, x_trb, x_tri, x_nil, x_cons, x_asg, x_own, x_own2, x_frz, x_app, x_app2, x_appI, x_seti, x_set2, x_drop, x_ifs, x_whl, x_fr, x_ret, x_retN, x_pass, x_brk, x_cont, x_gnm, x_gtp, x_g0, x_gs, x_rt, x_nx,
    b_addI, b_addS, b_addL, b_addT, b_sub, b_mul, b_mulL, b_mulT, b_and, b_or, b_xor, b_div, b_mod, b_pow, b_shl, b_shr, e_ii, e_ss, e_bb, e_nn, e_ni, e_in, e_ns, e_sn, e_is, e_si, e_nb, e_bn, c_eq, c_ne, c_lt, c_le, c_gt, c_ge, c_in, c_ni, c_is, c_isn, i_l, i_t, i_s, l_l, l_t, l_s,
    f_lenL, f_lenT, f_lenS, f_intI, f_intB, f_str, f_tupL, f_tupT, f_lstL, f_lstT, f_abs, f_max, f_min, f_sum, m_join, m_find3, m_rfind4, m_sindex, s_lst, s_tup, wFrz, setAll, wipeE, t_str, t_lst, mtTy, o_int, o_bl, o_str, o_lst, o_tup, o_non, isT, String.reduceBEq, String.reduceEq, beq_self_eq_true, Nat.reduceAdd, Nat.reduceLT, Nat.reduceSub,
    List.map_cons, List.map_nil, List.length_cons, List.length_nil, List.set_cons_zero, List.set_cons_succ, List.any_cons, List.any_nil,
    PyData.bool.injEq, PyData.int.injEq, PyData.str.injEq, PyData.list.injEq, PyData.tuple.injEq, Option.some.injEq, Sl.fz.injEq, Sl.ow.injEq, Sl.ow2.injEq,
    exists_eq_left, exists_eq_left', exists_and_left, exists_and_right, and_assoc, true_and, and_true, if_true, if_false, ite_true, ite_false, decide_eq_true_eq, Bool.true_eq_false, Bool.false_eq_true, Bool.not_true, Bool.not_false, Bool.or_true, Bool.true_or, Bool.or_false, Bool.false_or, Bool.and_true, Bool.true_and, Bool.and_false, Bool.false_and, Nat.zero_lt_succ, reduceCtorEq])
open PL
def nD (l : List Nat) : List D := l.map fun (v : Nat) => .int v
def cD (c : List Nat) : D := .list (nD c)
def shD (mn dn : Nat) : List D := (List.range dn).map fun d => cD ((List.range mn).map fun t => d / mn ^ t % mn)
theorem nD_at {l : List Nat} {k : Nat} (h : k < l.length) : atI (nD l) (k : Int) = some (.int (l[k] : Nat)) := atI_nat (by unfold nD; rw [List.getElem?_map, List.getElem?_eq_getElem h]; rfl)
theorem shD_at {mn dn d : Nat} (h : d < dn) : atI (shD mn dn) (d : Int) = some (cD ((List.range mn).map fun t => d / mn ^ t % mn)) := atI_nat (by unfold shD; rw [List.getElem?_map, List.getElem?_range h]; rfl)
theorem fm_len {α β : Type} {f : α → List β} {n : Nat} (h : ∀ x, (f x).length = n) : ∀ l : List α, (l.flatMap f).length = l.length * n
  | [] => by simp
  | x :: l => by rw [List.flatMap_cons, List.length_append, h, fm_len h l, List.length_cons, Nat.succ_mul, Nat.add_comm]
theorem mem_chL {dn k : Nat} {c : List Nat} (h : c ∈ chL dn k) : c.length = k ∧ (0 < dn → ∀ x ∈ c, x < dn) := by
  rw [chL_eq] at h
  obtain ⟨i, _, rfl⟩ := List.mem_map.mp h
  unfold chR
  refine ⟨by rw [List.length_map, List.length_range], fun hp x hx => ?_⟩
  obtain ⟨j, _, rfl⟩ := List.mem_map.mp hx
  exact Nat.mod_lt _ hp
def E_val (n : Nat) (own : Kd) (tx : List Nat) (s3 s4 s5 s6 s7 s8 s9 s10 s11 s12 s13 : Option Sl) : PD.Env := [some (.fz (.int n)), some (.fz (toD own)), some (.fz (txD tx)), s3, s4, s5, s6, s7, s8, s9, s10, s11, s12, s13]
theorem w_law_values (ds : List D) (h : sp_values.pre ds) : wSs G0 b__law_values (endOf (sp_values.post ds)) (env0 14 ds) := by
  obtain ⟨n, own, tx, rfl, hw, ht, hz⟩ := h
  show wSs G0 b__law_values _ [some (.fz (.int n)), some (.fz (toD own)), some (.fz (txD tx)), none, none, none, none, none, none, none, none, none, none, none]
  have ho := hw.own
  have hp := rows_pos own
  have hmp := Mn_pos own
  have hm := Mn_le hw
  have hdn := hw.dn
  have hdp := Dn_pos own
  have hen := hw.en
  have hn5 := hw.n5
  have h8 : rows own * 2 ^ rows own ≤ 24 := Nat.mul_le_mul ho (Nat.le_trans (Nat.pow_le_pow_right (by decide) ho) (show 2 ^ 3 ≤ 8 by decide))
  have pw : ∀ k, k ≤ n → Dn own ^ k ≤ 2048 := by
    intro k hk
    have a1 := Nat.pow_le_pow_right hdp hk
    have a2 : 1 * Dn own ^ n ≤ Mn own * Dn own ^ n := Nat.mul_le_mul_right _ hmp
    unfold En at hen
    omega
  have rw1 : (G0.fn 13).pre [toD own] ∧ ∀ d, (G0.fn 13).post [toD own] d → d = .int (rows own : Nat) := ⟨⟨own, rfl, by omega, by have := hw.dp; omega⟩, fun d hd => hd own rfl⟩
  have rw2 : (G0.fn 13).pre [.tuple [toD own, toD own]] ∧ ∀ d, (G0.fn 13).post [.tuple [toD own, toD own]] d → d = .int ((rows own * 2 ^ rows own : Nat) : Int) :=
    ⟨⟨.ar own own, rfl, by show rows own * 2 ^ rows own ≤ 2048; omega, by show max (dep own + 1) (dep own) < 5; have := hw.dp; omega⟩, fun d hd => hd (.ar own own) rfl⟩
  unfold b__law_values
  walk_at "x"
  refine ⟨rw1.1, fun d hd => ?_⟩
  rw [rw1.2 d hd]
  walk_at "x"
  rw [c_1shl]
  refine ⟨shl_ok (n := 1) (by decide) (by omega), by decide, by decide, rw2.1, fun d hd => ?_⟩
  rw [rw2.2 d hd]
  walk_at "x"
  rw [c_1shl]
  show _ ∧ _ ∧ (((Dn own : Nat) : Int) < _) ∧ _
  refine ⟨shl_ok (n := 1) (by decide) (by omega), Int.le_trans (by decide) (Int.natCast_nonneg _), by omega, ?_⟩
  refine for_of (fun i ρ => ∃ s5, ρ = E_val n own tx (some (.fz (.int (Mn own : Nat)))) (some (.ow (shD (Mn own) i))) s5 none none none none none none none none) ⟨none, rfl⟩ ?_ ?_
  · rintro i d ρ' N hd ⟨s5, rfl⟩ hN
    obtain ⟨hi, rfl⟩ := rng0_at hd
    have hi : i < Dn own := by rw [Int.toNat_natCast] at hi; exact hi
    unfold E_val
    walk_at "x"
    refine ⟨by omega, by omega, by rw [List.length_map, List.length_range, Int.toNat_natCast, sizeLine_eq]; omega, ?_⟩
    refine map_of (fun d => match d with | .int t => .int ((i / Mn own ^ t.toNat % Mn own : Nat) : Int) | d => d) ?_ ?_
    · intro d hd K hK
      obtain ⟨t, htm, rfl⟩ := List.mem_map.mp hd
      rw [List.mem_range, Int.toNat_natCast] at htm
      walk_at "x"
      refine ⟨rw1.1, fun d hd => ?_⟩
      rw [rw1.2 d hd]
      walk_at "x"
      have e1 : (2 : Nat) ^ (rows own * t) = Mn own ^ t := Nat.pow_mul ..
      have hpt : Mn own ^ t ≤ 2 ^ 24 := by
        rw [← e1]
        exact Nat.pow_le_pow_right (by decide) (Nat.mul_le_mul ho (by omega : t ≤ 8))
      rw [← Int.natCast_mul, c_1shl, e1]
      refine ⟨mulR (by omega) (by omega), shl_ok (n := 1) (by decide) (by have : rows own * t ≤ 3 * 8 := Nat.mul_le_mul ho (by omega); omega), wide_div (b := 30) (by have := Nat.pow_pos (n := t) hmp; omega) (by rw [Int.natAbs_natCast]; omega) (by decide) (by decide), by omega, ?_⟩
      rw [← Int.natCast_ediv, ← Int.natCast_emod]
      have hK : K (some (PyData.int ((i / Mn own ^ (t : Int).toNat % Mn own : Nat) : Int))) := hK
      rw [Int.toNat_natCast] at hK
      exact hK
    · refine ⟨by unfold shD; rw [List.length_map, List.length_range, sizeLine_eq]; omega, hN _ ⟨some (.fz (.int i)), ?_⟩⟩
      have : shD (Mn own) (i + 1) = shD (Mn own) i ++ [cD ((List.range (Mn own)).map fun t => i / Mn own ^ t % Mn own)] := by
        unfold shD; rw [List.range_succ, List.map_append]; rfl
      rw [this]
      unfold cD nD
      rw [List.nil_append, List.map_map, List.map_map, Int.toNat_natCast]
      rfl
  rintro ρ' ⟨s5, rfl⟩
  rw [List.length_map, List.length_range]
  have eD : (((2 ^ (rows own * 2 ^ rows own) : Nat) : Int)).toNat = Dn own := by rw [Int.toNat_natCast]; rfl
  rw [eD]
  unfold E_val
  walk_at "x"
  refine ⟨by decide, by decide, by omega, by omega, ?_⟩
  refine for_of (fun i ρ => ∃ s5 s7 s9 s10, ρ = E_val n own tx (some (.fz (.int (Mn own : Nat)))) (some (.ow (shD (Mn own) (Dn own)))) s5 (some (.fz (.list ((chL (Dn own) i).map cD)))) s7 none s9 s10 none none none) ⟨_, _, _, _, rfl⟩ ?_ ?_
  · rintro k d ρ' N hd ⟨s5, s7, s9, s10, rfl⟩ hN
    obtain ⟨hk, rfl⟩ := rng0_at hd
    rw [Int.toNat_natCast] at hk
    have pk := pw k (by omega)
    have pk1 := pw (k + 1) (by omega)
    unfold E_val
    walk_at "x"
    refine ⟨by decide, ?_⟩
    have gl : ∀ i, i ≤ Dn own ^ k → (((chL (Dn own) k).take i).flatMap fun c => (List.range (Dn own)).map fun d => c ++ [d]).length = i * Dn own := by
      intro i hi
      rw [fm_len (n := Dn own) (fun x => by rw [List.length_map, List.length_range]), List.length_take, chL_len, Nat.min_eq_left hi]
    refine for_of (fun i ρ => ∃ s5 s9, ρ = E_val n own tx (some (.fz (.int (Mn own : Nat)))) (some (.ow (shD (Mn own) (Dn own)))) s5 (some (.fz (.list ((chL (Dn own) k).map cD)))) (some (.fz (.int k))) none s9 (some (.ow ((((chL (Dn own) k).take i).flatMap fun c => (List.range (Dn own)).map fun d => c ++ [d]).map cD))) none none none) ⟨_, _, rfl⟩ ?_ ?_
    · rintro i d ρ' N hd ⟨s5, s9, rfl⟩ hN
      have hi := (List.getElem?_eq_some_iff.mp hd).1
      rw [List.length_map] at hi
      rw [List.getElem?_map, List.getElem?_eq_getElem hi] at hd
      have hd := (Option.some.inj hd).symm
      subst hd
      have hcm := List.getElem_mem hi
      have hcl := (mem_chL hcm).1
      have hi2 : i < Dn own ^ k := by rw [chL_len] at hi; exact hi
      generalize hc : (chL (Dn own) k)[i] = c at hcl hcm
      unfold E_val
      walk_at "x"
      have hsl : (shD (Mn own) (Dn own)).length = Dn own := by unfold shD; rw [List.length_map, List.length_range]
      rw [hsl]
      refine ⟨by omega, by omega, ?_⟩
      refine for_of (fun j ρ => ∃ s5, ρ = E_val n own tx (some (.fz (.int (Mn own : Nat)))) (some (.ow (shD (Mn own) (Dn own)))) s5 (some (.fz (.list ((chL (Dn own) k).map cD)))) (some (.fz (.int k))) none (some (.fz (cD c))) (some (.ow ((((chL (Dn own) k).take i).flatMap fun c => (List.range (Dn own)).map fun d => c ++ [d]).map cD ++ (List.range j).map fun d => cD (c ++ [d])))) none none none) ⟨_, by rw [List.range_zero, List.map_nil, List.append_nil]; rfl⟩ ?_ ?_
      · rintro j d ρ' N hd ⟨s5, rfl⟩ hN
        obtain ⟨hj, rfl⟩ := rng0_at hd
        rw [Int.toNat_natCast] at hj
        unfold E_val cD
        walk_at "x"
        have hnl : (nD c).length = k := by unfold nD; rw [List.length_map, hcl]
        rw [hnl]
        refine ⟨by decide, by rw [sizeLine_eq]; omega, ?_, hN _ ⟨some (.fz (.int j)), ?_⟩⟩
        · have := gl i (by omega)
          rw [List.length_append, List.length_map, List.length_map, List.length_range, this, sizeLine_eq]
          have a1 : i * Dn own ≤ 2048 * 2048 := Nat.mul_le_mul (by omega) hdn
          omega
        · rw [List.range_succ, List.map_append, ← List.append_assoc]
          unfold cD nD
          simp only [List.map_append, List.map_cons, List.map_nil]
          rfl
      · rintro ρ' ⟨s5, rfl⟩
        rw [List.length_map, List.length_range, Int.toNat_natCast]
        unfold E_val
        walk_at "x"
        refine hN _ ⟨s5, some (.fz (cD c)), ?_⟩
        rw [List.take_add_one, List.getElem?_eq_getElem hi, hc, List.flatMap_append, List.map_append]
        simp only [Option.toList_some, List.flatMap_cons, List.flatMap_nil, List.append_nil, List.map_map]
        rfl
    · rintro ρ' ⟨s5, s9, rfl⟩
      rw [List.length_map, List.take_length]
      unfold E_val
      walk_at "x"
      exact hN _ ⟨_, _, _, _, rfl⟩
  rintro ρ' ⟨s5, s7, s9, s10, rfl⟩
  rw [List.length_map, List.length_range, Int.toNat_natCast]
  unfold E_val
  walk_at "x"
  refine ⟨by decide, ?_⟩
  have gl : ∀ i, i ≤ Dn own ^ n → (((chL (Dn own) n).take i).flatMap fun c => (List.range (Mn own)).map fun b => fo (Mn own) c b tx).length = i * Mn own := by
    intro i hi
    rw [fm_len (n := Mn own) (fun x => by rw [List.length_map, List.length_range]), List.length_take, chL_len, Nat.min_eq_left hi]
  refine for_of (fun i ρ => ∃ s5 s7 s9 s10 s11 s12 s13, ρ = E_val n own tx (some (.fz (.int (Mn own : Nat)))) (some (.ow (shD (Mn own) (Dn own)))) s5 (some (.fz (.list ((chL (Dn own) n).map cD)))) s7 (some (.ow (nD (((chL (Dn own) n).take i).flatMap fun c => (List.range (Mn own)).map fun b => fo (Mn own) c b tx)))) s9 s10 s11 s12 s13) ⟨_, _, _, _, _, _, _, rfl⟩ ?_ ?_
  · rintro i d ρ' N hd ⟨s5, s7, s9, s10, s11, s12, s13, rfl⟩ hN
    have hi := (List.getElem?_eq_some_iff.mp hd).1
    rw [List.length_map] at hi
    rw [List.getElem?_map, List.getElem?_eq_getElem hi] at hd
    have hd := (Option.some.inj hd).symm
    subst hd
    have hcm := List.getElem_mem hi
    obtain ⟨hcl, hcx⟩ := mem_chL hcm
    have hi2 : i < Dn own ^ n := by rw [chL_len] at hi; exact hi
    have pn := pw n (Nat.le_refl _)
    generalize hc : (chL (Dn own) n)[i] = c at hcl hcm hcx
    unfold E_val
    walk_at "x"
    refine ⟨by omega, by omega, ?_⟩
    refine for_of (fun j ρ => ∃ s11 s12 s13, ρ = E_val n own tx (some (.fz (.int (Mn own : Nat)))) (some (.ow (shD (Mn own) (Dn own)))) s5 (some (.fz (.list ((chL (Dn own) n).map cD)))) s7 (some (.ow (nD ((((chL (Dn own) n).take i).flatMap fun c => (List.range (Mn own)).map fun b => fo (Mn own) c b tx) ++ (List.range j).map fun b => fo (Mn own) c b tx)))) (some (.fz (cD c))) s10 s11 s12 s13) ⟨_, _, _, by rw [List.range_zero, List.map_nil, List.append_nil]; rfl⟩ ?_ ?_
    · rintro j d ρ' N hd ⟨s11, s12, s13, rfl⟩ hN
      obtain ⟨hj, rfl⟩ := rng0_at hd
      rw [Int.toNat_natCast] at hj
      generalize hac : ((((chL (Dn own) n).take i).flatMap fun c => (List.range (Mn own)).map fun b => fo (Mn own) c b tx) ++ (List.range j).map fun b => fo (Mn own) c b tx) = acc at *
      have hal : acc.length ≤ 2048 * 8 + 8 := by
        rw [← hac, List.length_append, gl i (by omega), List.length_map, List.length_range]
        have a1 : i * Mn own ≤ 2048 * 8 := Nat.mul_le_mul (by omega) hm
        omega
      unfold E_val
      walk_at "x"
      refine ⟨_, rfl, ?_⟩
      refine for_of (fun q ρ => ∃ s13, ρ = E_val n own tx (some (.fz (.int (Mn own : Nat)))) (some (.ow (shD (Mn own) (Dn own)))) s5 (some (.fz (.list ((chL (Dn own) n).map cD)))) s7 (some (.ow (nD acc))) (some (.fz (cD c))) s10 (some (.fz (.int j))) (some (.fz (.int (fo (Mn own) c j (tx.take q) : Nat)))) s13) ⟨_, rfl⟩ ?_ ?_
      · rintro q d ρ' N hd ⟨s13, rfl⟩ hN
        rw [List.getElem?_map] at hd
        have hd : ∃ l, tx[q]? = some l ∧ d = lt l := by
          rw [List.getElem?_map] at hd
          cases e : tx[q]? with
          | none => rw [e] at hd; cases hd
          | some l => rw [e] at hd; exact ⟨l, rfl, (Option.some.inj hd).symm⟩
        obtain ⟨l, e, rfl⟩ := hd
        have hl := ht l (List.mem_of_getElem? e)
        have hlc : l < c.length := by omega
        have hfo : ∀ (tx : List Nat) (b : Nat), b < Mn own → fo (Mn own) c b tx < Mn own := by
          intro tx
          induction tx with
          | nil => intro b h; exact h
          | cons x tx ih => intro b _; exact ih _ (Nat.mod_lt _ hmp)
        have hf := hfo (tx.take q) j hj
        unfold E_val lt cD
        walk_at "x"
        refine ⟨l, ⟨[], occ_l (by omega)⟩, _, nD_at hlc, ?_⟩
        rw [i_l]
        refine ⟨_, shD_at (hcx hdp _ (List.getElem_mem hlc)), ?_⟩
        unfold cD
        rw [i_l]
        refine ⟨_, nD_at (by rw [List.length_map, List.length_range]; exact hf), hN _ ⟨some (.fz (lt l)), ?_⟩⟩
        rw [List.getElem_map, List.getElem_range, List.take_add_one, e]
        have : fo (Mn own) c j (tx.take q ++ (some l).toList) = c[l] / Mn own ^ fo (Mn own) c j (tx.take q) % Mn own := by
          unfold fo
          rw [List.foldl_append]
          show c.getD l 0 / _ % _ = _
          rw [List.getD_eq_getElem?_getD, List.getElem?_eq_getElem hlc]; rfl
        rw [this]; rfl
      · rintro ρ' ⟨s13, rfl⟩
        rw [List.length_map, List.length_map, List.take_length]
        unfold E_val
        walk_at "x"
        refine ⟨by unfold nD; rw [List.length_map, sizeLine_eq]; omega, hN _ ⟨some (.fz (.int j)), some (.fz (.int (fo (Mn own) c j tx : Nat))), s13, ?_⟩⟩
        rw [List.range_succ, List.map_append, ← List.append_assoc, hac]
        unfold nD
        rw [List.map_append]; rfl
    · rintro ρ' ⟨s11, s12, s13, rfl⟩
      rw [List.length_map, List.length_range, Int.toNat_natCast]
      unfold E_val
      walk_at "x"
      refine hN _ ⟨s5, s7, some (.fz (cD c)), s10, s11, s12, s13, ?_⟩
      rw [List.take_add_one, List.getElem?_eq_getElem hi, hc, List.flatMap_append]
      simp only [Option.toList_some, List.flatMap_cons, List.flatMap_nil, List.append_nil]
      rfl
  rintro ρ' ⟨s5, s7, s9, s10, s11, s12, s13, rfl⟩
  rw [List.length_map, List.take_length]
  unfold E_val
  walk_at "x"
  intro n' own' tx' e
  have e0 := List.cons.inj e
  have e1 := Int.ofNat_inj.mp (PyData.int.inj e0.1)
  have e2 := List.cons.inj e0.2
  have e3 := toD_inj e2.1
  have e4 := (List.cons.inj e2.2).1
  have e5 : tx = tx' := by
    have h := congrArg (fun s : Str => s.cps.toList) (PyData.str.inj e4)
    exact (List.map_inj_right (fun a b h => by omega)).mp h
  subst e1 e3 e5
  show PyData.list (nD (valL (Mn own) (Dn own) n tx)) = _
  rw [valL_eq hmp ht]; rfl
end K31

namespace K31
open PySem PySem.Spec PyProof.Rows L2 PD
local macro_rules | `(tactic| walk_at "x") => `(tactic| simp (config := { decide := false }) only [x_var, x_v0, x_v1, x_v11, x_v12, x_v13, x_v1t, x_v22, x_v23, x_v2t, bLv, x_ct, x_non, x_bl, x_int, x_str, x_bin, x_neg, x_cmp, x_bopt, x_bopv, x_nt, x_ntv, x_ifx, x_ix, x_ixt, x_sl, x_call, x_callk, x_blt, x_isi, x_mth, x_tup, x_lst, x_lc, x_ts0, x_ts1, x_bs0, x_bs1, x_c0, x_c1,
    x_eo0, x_eo1, x_es0, x_es1, x_ls, x_r1, x_r2, x_rv, x_rr1, x_rr2, o_ls, o_tp, x_ft, x_ftst, x_fLt, x_fLf, x_fBl, x_fBi, x_fBs, x_fBb, x_fBt, x_trb, x_tri, x_nil, x_cons, x_asg, x_own, x_own2, x_frz, x_app, x_app2, x_appI, x_seti, x_set2, x_drop, x_ifs, x_whl, x_fr, x_ret, x_retN, x_pass, x_brk, x_cont, x_gnm, x_gtp, x_g0, x_gs, x_rt, x_nx,
    b_addI, b_addS, b_addL, b_addT, b_sub, b_mul, b_mulL, b_mulT, b_and, b_or, b_xor, b_div, b_mod, b_pow, b_shl, b_shr, e_ii, e_ss, e_bb, e_nn, e_ni, e_in, e_ns, e_sn, e_is, e_si, e_nb, e_bn, c_eq, c_ne, c_lt, c_le, c_gt, c_ge, c_in, c_ni, c_is, c_isn, i_l, i_t, i_s, l_l, l_t, l_s,
    f_lenL, f_lenT, f_lenS, f_intI, f_intB, f_str, f_tupL, f_tupT, f_lstL, f_lstT, f_abs, f_max, f_min, f_sum, m_join, m_find3, m_rfind4, m_sindex, s_lst, s_tup, wFrz, setAll, wipeE, t_str, t_lst, mtTy, o_int, o_bl, o_str, o_lst, o_tup, o_non, isT, String.reduceBEq, String.reduceEq, beq_self_eq_true, Nat.reduceAdd, Nat.reduceLT, Nat.reduceSub,
    List.map_cons, List.map_nil, List.length_cons, List.length_nil, List.set_cons_zero, List.set_cons_succ, List.any_cons, List.any_nil,
    PyData.bool.injEq, PyData.int.injEq, PyData.str.injEq, PyData.list.injEq, PyData.tuple.injEq, Option.some.injEq, Sl.fz.injEq, Sl.ow.injEq, Sl.ow2.injEq,
    exists_eq_left, exists_eq_left', exists_and_left, exists_and_right, and_assoc, true_and, and_true, if_true, if_false, ite_true, ite_false, decide_eq_true_eq, Bool.true_eq_false, Bool.false_eq_true, Bool.not_true, Bool.not_false, Bool.or_true, Bool.true_or, Bool.or_false, Bool.false_or, Bool.and_true, Bool.true_and, Bool.and_false, Bool.false_and, Nat.zero_lt_succ, reduceCtorEq])
open PL
theorem join_one : ∀ cs : List Nat, Txt.join ⟨#[]⟩ (cs.map fun c => (⟨#[c]⟩ : Str)) = ⟨cs.toArray⟩ := by
  intro cs
  rw [show Txt.join ⟨#[]⟩ (cs.map fun c => (⟨#[c]⟩ : Str)) = Str.join ⟨#[]⟩ (cs.map fun c => (⟨#[c]⟩ : Str)) from StrLaws.glued_eq_join _ _]
  induction cs with
  | nil => rfl
  | cons c cs ih =>
    cases cs with
    | nil => rfl
    | cons d cs =>
      show (⟨#[c]⟩ : Str) ++ ⟨#[]⟩ ++ Str.join ⟨#[]⟩ ((d :: cs).map fun c => (⟨#[c]⟩ : Str)) = _
      rw [ih]
      show (⟨(#[c] ++ #[]) ++ (d :: cs).toArray⟩ : Str) = _
      simp
theorem w_law_text (ds : List D) (h : sp_text.pre ds) : wSs G0 b__law_text (endOf (sp_text.post ds)) (env0 4 ds) := by
  obtain ⟨ns, n, k, rfl, h0, h1, h2, h3, h4⟩ := h
  show wSs G0 b__law_text _ [some (.fz (.list (ns.map .int))), some (.fz (.int n)), some (.fz (.int k)), none]
  unfold b__law_text
  walk_at "x"
  refine ⟨by omega, by omega, by rw [List.length_map, List.length_range, sizeLine_eq]; omega, ?_⟩
  refine map_of (fun d => match d with | .int q => .str ⟨#[97 + (ns.getD q.toNat 0 % n).toNat]⟩ | d => d) ?_ ?_
  · intro d hd K hK
    obtain ⟨j, hj, rfl⟩ := List.mem_map.mp hd
    rw [List.mem_range, Int.toNat_natCast] at hj
    walk_at "x"
    refine ⟨_, atI_ints (by omega) (by omega), ?_⟩
    walk_at "x"
    have m1 := Int.emod_nonneg (ns.getD (j : Int).toNat 0) (b := (n : Int)) (by omega)
    have m2 := Int.emod_lt_of_pos (ns.getD (j : Int).toNat 0) (b := (n : Int)) (by omega)
    refine ⟨by omega, by decide, 97 + (ns.getD (j : Int).toNat 0 % (n : Int)).toNat, ?_, hK⟩
    generalize ns.getD (j : Int).toNat 0 % (n : Int) = v at m1 m2
    have : v = 0 ∨ v = 1 ∨ v = 2 ∨ v = 3 ∨ v = 4 := by omega
    rcases this with rfl | rfl | rfl | rfl | rfl <;> rfl
  · generalize htx : (List.range k).map (fun q : Nat => (ns.getD q 0 % (n : Int)).toNat) = tx
    have hx : ∀ l ∈ tx, l < n := by
      intro l hl
      rw [← htx] at hl
      obtain ⟨q, _, rfl⟩ := List.mem_map.mp hl
      have m1 := Int.emod_nonneg (ns.getD q 0) (b := (n : Int)) (by omega)
      have m2 := Int.emod_lt_of_pos (ns.getD q 0) (b := (n : Int)) (by omega)
      omega
    have hl : tx.length = k := by rw [← htx, List.length_map, List.length_range]
    rw [List.nil_append, List.map_map]
    have e1 : (List.range (k : Int).toNat).map ((fun d : D => match d with | .int q => .str ⟨#[97 + (ns.getD q.toNat 0 % n).toNat]⟩ | d => d) ∘ fun (k : Nat) => PyData.int (k : Int)) = ((tx.map (97 + ·)).map fun c => (⟨#[c]⟩ : Str)).map PyData.str := by
      rw [← htx, Int.toNat_natCast, List.map_map, List.map_map, List.map_map]
      refine List.map_congr_left fun q _ => ?_
      simp
    rw [e1]
    walk_at "x"
    refine ⟨_, rfl, ?_, ?_⟩
    · have h0 : (⟨#[]⟩ : Str).length = 0 := rfl
      rw [h0]
      have : ∀ l : List Nat, (((l.map fun c => (⟨#[c]⟩ : Str))).map (·.length)).sum = l.length := by
        intro l
        induction l with
        | nil => rfl
        | cons a l ih =>
          rw [List.map_cons, List.map_cons, List.sum_cons, ih, List.length_cons]
          show 1 + _ = _; omega
      rw [this, List.length_map]; omega
    · rw [join_one]
      intro ns' n' k' e
      have e0 := List.cons.inj e
      have e2 := List.cons.inj e0.2
      have e3 := Int.ofNat_inj.mp (PyData.int.inj e2.1)
      subst e3
      exact ⟨tx, rfl, hx, by omega⟩
theorem jn_inj {b : Nat} (hb : 0 < b) {l r : List Nat} (hl : ∀ d ∈ l, d < b) (hr : ∀ d ∈ r, d < b) (h : l.length = r.length) (e : jn b l = jn b r) : l = r := by
  refine List.ext_getElem h fun i h1 h2 => ?_
  rw [← jn_digit hb hl h1, ← jn_digit hb hr h2, e]
/-- what is read, step by step -/
def pts (n : Nat) (own : Kd) : List Kd := List.replicate n (.ar own own) ++ [own]
def pr (ps : List Kd) : Nat := 2 ^ (ps.map rows).sum
theorem rows_pr (ps : List Kd) (k : Kd) : rows (arr ps k) = rows k * pr ps := rows_arr k ps
theorem pr_cons (p : Kd) (ps : List Kd) : pr (p :: ps) = 2 ^ rows p * pr ps := by unfold pr; rw [List.map_cons, List.sum_cons, Nat.pow_add]
theorem pr_pos (ps : List Kd) : 0 < pr ps := Nat.pow_pos (by decide)
theorem w_law_read (ds : List D) (h : sp_read.pre ds) : wSs G0 b__law_read (endOf (sp_read.post ds)) (env0 9 ds) := by
  obtain ⟨n, own, tx, ps, rfl, hw, hn⟩ := h
  show wSs G0 b__law_read _ [some (.fz (.int n)), some (.fz (toD own)), some (.fz (.int (mean n own tx : Nat))), some (.fz (.list (ps.map .int))), none, none, none, none, none]
  have hn5 := hw.n5
  have hmp := Mn_pos own
  have hen := hw.en
  have hrw := hw.rw
  have hV := vals_lt (mn := Mn own) (dn := Dn own) (n := n) hmp (tx := tx)
  have hL : (vals (Mn own) (Dn own) n tx).length = En n own := vals_len
  generalize hVV : vals (Mn own) (Dn own) n tx = V at hV hL
  have hmean : mean n own tx = jn (Mn own) V := by unfold mean; rw [hVV]
  unfold b__law_read
  walk_at "x"
  have hfl : (List.replicate n [PyData.tuple [toD own, toD own]]).flatten = (List.replicate n (Kd.ar own own)).map toD := by
    clear hn hw hL hVV hmean hen hrw
    induction n with
    | zero => rfl
    | succ n ih => rw [List.replicate_succ, List.flatten_cons, ih (by omega)]; rfl
  rw [Int.toNat_natCast, hfl]
  have hpl : (pts n own).length = n + 1 := by unfold pts; rw [List.length_append, List.length_replicate]; rfl
  refine ⟨by decide, by decide, by omega, by omega, by rw [sizeLine_eq]; omega, by decide, by rw [List.length_map, List.length_replicate, sizeLine_eq]; omega, ⟨_, _, rfl, by rw [List.length_append, List.length_map, List.length_replicate]; simp; omega⟩, fun d hd => ?_⟩
  have hd : d = arrD ((List.replicate n (Kd.ar own own)).map toD ++ [toD own]) (toD own) := hd
  rw [show (List.replicate n (Kd.ar own own)).map toD ++ [toD own] = (pts n own).map toD by unfold pts; rw [List.map_append]; rfl, arrD_to] at hd
  subst hd
  refine ⟨by omega, by omega, ?_⟩
  have hWe : rows own * pr (pts n own) = rows own * En n own := by rw [← rows_pr, ← rows_W]; rfl
  have hpe : pr (pts n own) = En n own := Nat.eq_of_mul_eq_mul_left (rows_pos own) hWe
  refine for_of (fun i ρ => ∃ (pl : Nat) (s7 s8 : Option Sl), (pl + 1) * pr ((pts n own).drop i) ≤ En n own ∧ dep (arr ((pts n own).drop i) own) < 5 ∧ rows (arr ((pts n own).drop i) own) ≤ 2048 ∧
    ρ = [some (.fz (.int n)), some (.fz (toD own)), some (.fz (.int (mean n own tx : Nat))), some (.fz (.list (ps.map .int))), some (.fz (toD (arr ((pts n own).drop i) own))), some (.fz (.int (jn (Mn own) ((V.drop (pl * pr ((pts n own).drop i))).take (pr ((pts n own).drop i))) : Nat))), some (.fz (.int pl)), s7, s8]) ⟨0, none, none, ?_, hw.dw, hrw, ?_⟩ ?_ ?_
  · rw [List.drop_zero, hpe]; omega
  · rw [List.drop_zero, Nat.zero_mul, List.drop_zero, hpe, ← hL, List.take_length, hmean]; rfl
  · rintro i d ρ' N hd ⟨pl, s7, s8, g1, g2, g3, rfl⟩ hN
    obtain ⟨hi, rfl⟩ := rng0_at hd
    have hi : i < n + 1 := by omega
    have hip : i < (pts n own).length := by omega
    rw [List.drop_eq_getElem_cons hip] at g1 g2 g3 ⊢
    generalize hp : (pts n own)[i] = p at g1 g2 g3 ⊢
    generalize hq : (pts n own).drop (i + 1) = q at g1 g2 g3 ⊢ hN
    have hpa : p ∈ args (arr (p :: q) own) := List.mem_cons_self
    have r1 := args_rows hpa
    have r2 := args_dep hpa
    have r3 : dep (arr q own) ≤ dep (arr (p :: q) own) := Nat.le_max_right _ _
    have r4 : rows (arr q own) ≤ rows (arr (p :: q) own) := by
      show _ ≤ rows (arr q own) * 2 ^ rows p
      have := Nat.mul_le_mul_left (rows (arr q own)) (Nat.pow_pos (n := rows p) (show 0 < 2 by decide))
      omega
    have plb : pl ≤ 2048 := by
      have a1 : (pl + 1) * 1 ≤ (pl + 1) * pr (p :: q) := Nat.mul_le_mul_left _ (pr_pos _)
      omega
    walk_at "x"
    refine ⟨_, atI_ints (by omega) (by omega), ?_⟩
    walk_at "x"
    show wIx (.tuple [toD p, toD (arr q own)]) (.int 0) _
    rw [i_t]
    have lr : (G0.fn 13).pre [toD p] ∧ ∀ d, (G0.fn 13).post [toD p] d → d = .int (rows p : Nat) := ⟨⟨p, rfl, by omega, by omega⟩, fun d hd => hd p rfl⟩
    refine ⟨toD p, rfl, lr.1, fun d hd => ?_⟩
    rw [lr.2 d hd]
    walk_at "x"
    rw [c_1shl]
    have pw0 : (0 : Int) < ((2 ^ rows p : Nat) : Int) := by have := Nat.pow_pos (n := rows p) (show 0 < 2 by decide); omega
    have m1 := Int.emod_nonneg (ps.getD (i : Int).toNat 0) (b := ((2 ^ rows p : Nat) : Int)) (by omega)
    have m2 := Int.emod_lt_of_pos (ps.getD (i : Int).toNat 0) pw0
    obtain ⟨g, hg⟩ := Int.eq_ofNat_of_zero_le m1
    rw [hg] at m2 ⊢
    have hg2 : g < 2 ^ rows p := by omega
    have lt0 : jn (Mn own) ((V.drop (pl * pr (p :: q))).take (pr (p :: q))) < 2 ^ 5000 := by
      have h1 := jn_lt (b := Mn own) (l := (V.drop (pl * pr (p :: q))).take (pr (p :: q))) fun d hd => hV d (List.mem_of_mem_drop (List.mem_of_mem_take hd))
      refine Nat.lt_of_lt_of_le h1 ?_
      rw [show Mn own = 2 ^ rows own from rfl, ← Nat.pow_mul]
      refine Nat.pow_le_pow_right (by decide) ?_
      have a1 : ((V.drop (pl * pr (p :: q))).take (pr (p :: q))).length ≤ En n own := by rw [List.length_take, List.length_drop]; omega
      have a2 := Nat.mul_le_mul_left (rows own) a1
      rw [← rows_W] at a2
      omega
    refine ⟨shl_ok (n := 1) (by decide) (by omega), pw0, ⟨p, arr q own, _, g, rfl, by omega, by omega, lt0⟩, fun d hd => ?_⟩
    have hd := hd p (arr q own) _ g rfl
    have key : jn (Mn own) ((V.drop (pl * pr (p :: q))).take (pr (p :: q))) / 2 ^ (g * rows (arr q own)) % 2 ^ rows (arr q own) = jn (Mn own) ((V.drop ((pl * 2 ^ rows p + g) * pr q)).take (pr q)) := by
      have e1 : (2 : Nat) ^ (g * rows (arr q own)) = Mn own ^ (g * pr q) := by
        rw [rows_pr, show Mn own = 2 ^ rows own from rfl, ← Nat.pow_mul]
        congr 1
        rw [← Nat.mul_assoc, Nat.mul_comm g, Nat.mul_assoc]
      have e2 : (2 : Nat) ^ rows (arr q own) = Mn own ^ pr q := by
        rw [rows_pr, show Mn own = 2 ^ rows own from rfl, ← Nat.pow_mul]
      rw [e1, e2, jn_block hmp fun d hd => hV d (List.mem_of_mem_drop (List.mem_of_mem_take hd))]
      have e3 : g * pr q + pr q ≤ pr (p :: q) := by
        rw [pr_cons]
        have := Nat.mul_le_mul_right (pr q) (show g + 1 ≤ 2 ^ rows p by omega)
        rw [Nat.succ_mul] at this; exact this
      rw [List.drop_take, List.take_take, List.drop_drop, Nat.min_eq_left (by omega)]
      congr 3
      rw [pr_cons, Nat.add_mul, Nat.mul_assoc]
    rw [key] at hd
    subst hd
    refine ⟨⟨_, rfl⟩, fun d hd => ?_⟩
    have hd : d = .bool true := hd
    subst hd
    walk_at "x"
    show wIx (.tuple [toD p, toD (arr q own)]) (.int 0) _
    rw [i_t]
    refine ⟨toD p, rfl, lr.1, fun d hd => ?_⟩
    rw [lr.2 d hd]
    walk_at "x"
    rw [c_1shl]
    refine ⟨shl_ok (n := 1) (by decide) (by omega), mulL (by omega) (by omega), ?_⟩
    show wIx (.tuple [toD p, toD (arr q own)]) (.int 1) _
    rw [i_t]
    refine ⟨toD (arr q own), rfl, hN _ ⟨pl * 2 ^ rows p + g, some (.fz (.int i)), some (.fz (.int g)), ?_, by omega, by omega, ?_⟩⟩
    · rw [pr_cons] at g1
      have a1 : pl * 2 ^ rows p + g + 1 ≤ (pl + 1) * 2 ^ rows p := by rw [Nat.succ_mul]; omega
      have a2 := Nat.mul_le_mul_right (pr q) a1
      rw [Nat.mul_assoc] at a2
      omega
    · rw [Int.natCast_add, Int.natCast_mul]
  · rintro ρ' ⟨pl, s7, s8, g1, g2, g3, rfl⟩
    rw [List.length_map, List.length_range, show ((n : Int) + 1).toNat = n + 1 by omega, List.drop_eq_nil_of_le (by omega)] at g1 ⊢
    walk_at "x"
    have e1 : pr [] = 1 := rfl
    rw [e1, Nat.mul_one] at g1 ⊢
    have hpl' : pl < V.length := by omega
    rw [List.drop_eq_getElem_cons hpl']
    have e2 : jn (Mn own) ((V[pl] :: V.drop (pl + 1)).take 1) = V[pl] := jn_one
    rw [e2]
    refine ⟨by decide, ?_⟩
    intro n' own' tx' ps' e
    have e0 := List.cons.inj e
    have e3 := Int.ofNat_inj.mp (PyData.int.inj e0.1)
    have e4 := List.cons.inj e0.2
    have e5 := toD_inj e4.1
    have e6 := Int.ofNat_inj.mp (PyData.int.inj (List.cons.inj e4.2).1)
    subst e3 e5
    have hV' := vals_lt (mn := Mn own) (dn := Dn own) (n := n) hmp (tx := tx')
    have hL' : (vals (Mn own) (Dn own) n tx').length = En n own := vals_len
    have : vals (Mn own) (Dn own) n tx' = V := jn_inj hmp hV' hV (by omega) (by rw [← hmean, e6]; rfl)
    rw [this]
    exact ⟨pl, hpl', rfl⟩
theorem w_law_told (ds : List D) (h : sp_told.pre ds) : wSs G0 b__law_told (endOf (sp_told.post ds)) (env0 8 ds) := by
  obtain ⟨n, own, tx, ps, rfl, hw, ht, hz, hn⟩ := h
  show wSs G0 b__law_told _ [some (.fz (.int n)), some (.fz (toD own)), some (.fz (txD tx)), some (.fz (.list (ps.map .int))), none, none, none, none]
  have ho := hw.own
  have hm := Mn_le hw
  have hmp := Mn_pos own
  have hen := hw.en
  have hL : (vals (Mn own) (Dn own) n tx).length = En n own := vals_len
  unfold b__law_told
  walk_at "x"
  refine ⟨⟨n, own, tx, rfl, hw, ht, hz⟩, fun d hd => ?_⟩
  have hd := hd n own tx rfl
  subst hd
  refine ⟨⟨own, rfl, by omega, by have := hw.dp; omega⟩, fun d hd => ?_⟩
  have hd := hd own rfl
  subst hd
  walk_at "x"
  rw [c_1shl]
  refine ⟨shl_ok (n := 1) (by decide) (by omega), ⟨_, Mn own, rfl, by omega, by omega⟩, fun d hd => ?_⟩
  have hd := hd _ (Mn own) rfl
  subst hd
  refine ⟨⟨n, own, tx, rfl, hw, ht, hz⟩, fun d hd => ?_⟩
  have hd := hd n own tx rfl
  subst hd
  refine ⟨⟨_, rfl⟩, fun d hd => ?_⟩
  have hd : d = .bool true := hd
  subst hd
  walk_at "x"
  rw [if_neg (by unfold mean; simp)]
  refine ⟨⟨n, own, tx, ps, rfl, hw, hn⟩, fun d hd => ?_⟩
  obtain ⟨e, he, rfl⟩ := hd n own tx ps rfl
  walk_at "x"
  refine ⟨_, rfl, _, rfl, ?_⟩
  unfold valsD
  rw [i_l]
  refine ⟨.int ((vals (Mn own) (Dn own) n tx)[e] : Nat), atI_nat (by rw [List.getElem?_map, List.getElem?_eq_getElem he]; rfl), ?_⟩
  rw [e_ii]
  show PyData.bool _ = .bool true
  rw [decide_eq_true rfl]
end K31

namespace K31
open PySem PySem.Spec PyProof.Rows L2 PD
local macro_rules | `(tactic| walk_at "x") => `(tactic| simp (config := { decide := false }) only [x_var, x_v0, x_v1, x_v11, x_v12, x_v13, x_v1t, x_v22, x_v23, x_v2t, bLv, x_ct, x_non, x_bl, x_int, x_str, x_bin, x_neg, x_cmp, x_bopt, x_bopv, x_nt, x_ntv, x_ifx, x_ix, x_ixt, x_sl, x_call, x_callk, x_blt, x_isi, x_mth, x_tup, x_lst, x_lc, x_ts0, x_ts1, x_bs0, x_bs1, x_c0, x_c1,
    x_eo0, x_eo1, x_es0, x_es1, x_ls, x_r1, x_r2, x_rv, x_rr1, x_rr2, o_ls, o_tp, x_ft, x_ftst, x_fLt, x_fLf, x_fBl, x_fBi, x_fBs, x_fBb, x_fBt, x_trb, x_tri, x_nil, x_cons, x_asg, x_own, x_own2, x_frz, x_app, x_app2, x_appI, x_seti, x_set2, x_drop, x_ifs, x_whl, x_fr, x_ret, x_retN, x_pass, x_brk, x_cont, x_gnm, x_gtp, x_g0, x_gs, x_rt, x_nx,
    b_addI, b_addS, b_addL, b_addT, b_sub, b_mul, b_mulL, b_mulT, b_and, b_or, b_xor, b_div, b_mod, b_pow, b_shl, b_shr, e_ii, e_ss, e_bb, e_nn, e_ni, e_in, e_ns, e_sn, e_is, e_si, e_nb, e_bn, c_eq, c_ne, c_lt, c_le, c_gt, c_ge, c_in, c_ni, c_is, c_isn, i_l, i_t, i_s, l_l, l_t, l_s,
    f_lenL, f_lenT, f_lenS, f_intI, f_intB, f_str, f_tupL, f_tupT, f_lstL, f_lstT, f_abs, f_max, f_min, f_sum, m_join, m_find3, m_rfind4, m_sindex, s_lst, s_tup, wFrz, setAll, wipeE, t_str, t_lst, mtTy, o_int, o_bl, o_str, o_lst, o_tup, o_non, isT, String.reduceBEq, String.reduceEq, beq_self_eq_true, Nat.reduceAdd, Nat.reduceLT, Nat.reduceSub,
    List.map_cons, List.map_nil, List.length_cons, List.length_nil, List.set_cons_zero, List.set_cons_succ, List.any_cons, List.any_nil,
    PyData.bool.injEq, PyData.int.injEq, PyData.str.injEq, PyData.list.injEq, PyData.tuple.injEq, Option.some.injEq, Sl.fz.injEq, Sl.ow.injEq, Sl.ow2.injEq,
    exists_eq_left, exists_eq_left', exists_and_left, exists_and_right, and_assoc, true_and, and_true, if_true, if_false, ite_true, ite_false, decide_eq_true_eq, Bool.true_eq_false, Bool.false_eq_true, Bool.not_true, Bool.not_false, Bool.or_true, Bool.true_or, Bool.or_false, Bool.false_or, Bool.and_true, Bool.true_and, Bool.and_false, Bool.false_and, Nat.zero_lt_succ, reduceCtorEq])
open PL
def wl : List (Nat × Kd × Nat) := [(1, .o, 12), (2, .o, 12), (2, .o, 12), (2, .o, 12), (3, .o, 12), (3, .o, 12), (3, .o, 12), (3, .o, 12), (1, .ar .o .o, 12), (1, .ar .o .o, 12), (1, .ar .o .o, 12), (4, .o, 8), (5, .o, 5), (1, .o, 12), (2, .o, 12), (3, .o, 12)]
def wD (x : Nat × Kd × Nat) : D := .list [.int x.1, toD x.2.1, .int x.2.2]
def wdB (x : Nat × Kd × Nat) : Bool := decide (1 ≤ x.1) && decide (x.1 ≤ 5) && decide (rows (W x.1 x.2.1) ≤ 2048) && decide (dep (W x.1 x.2.1) < 5) && decide (dep x.2.1 < 3) && decide (x.2.2 ≤ 12)
theorem wl_ok : wl.all wdB = true := by decide +kernel
theorem wl_at {a : Int} (h1 : 0 ≤ a) (h2 : a < 16) : ∃ n own m, atI (wl.map wD) a = some (.list [.int (n : Nat), toD own, .int (m : Nat)]) ∧ Wd n own ∧ m ≤ 12 := by
  obtain ⟨i, rfl⟩ := Int.eq_ofNat_of_zero_le h1
  have hi : i < wl.length := by show i < 16; omega
  have := List.all_eq_true.mp wl_ok _ (List.getElem_mem hi)
  unfold wdB at this
  simp only [Bool.and_eq_true, decide_eq_true_eq] at this
  obtain ⟨⟨⟨⟨⟨a1, a2⟩, a3⟩, a4⟩, a5⟩, a6⟩ := this
  exact ⟨wl[i].1, wl[i].2.1, wl[i].2.2, atI_nat (by rw [List.getElem?_map, List.getElem?_eq_getElem hi]; rfl), ⟨a1, a2, a3, a4, a5⟩, a6⟩
set_option exponentiation.threshold 2000 in
theorem w_law (ds : List D) (h : (lawS okIn).pre ds) : wSs G0 b_law (endOf ((lawS okIn).post ds)) (env0 10 ds) := by
  obtain ⟨ns, ⟨hn, _⟩, rfl⟩ := h
  show wSs G0 b_law _ [some (.fz (.list (ns.map .int))), none, none, none, none, none, none, none, none, none]
  unfold b_law
  have cl : ∀ k : Nat, k ≤ 1000 → (G0.fn 11).pre [.list (ns.map .int), .int k] ∧ ∀ d, (G0.fn 11).post [.list (ns.map .int), .int k] d → ∃ z, d = .int z := fun k hk => ⟨⟨ns, k, hk, rfl⟩, fun d hd => hd⟩
  have dg : ∀ (z b : Int) (k : Nat), 0 < b → b < 2 ^ 1000 → k ≤ 100 → (G0.fn 12).pre [.int z, .list ((List.replicate k b).map .int)] ∧ ∀ d, (G0.fn 12).post [.int z, .list ((List.replicate k b).map .int)] d → ∃ rs : List Int, d = .list (rs.map .int) ∧ (∀ q ∈ rs, 0 ≤ q ∧ q < b) ∧ rs.length = k := by
    intro z b k h1 h2 h3
    refine ⟨⟨z, _, rfl, fun s hs => by rw [List.eq_of_mem_replicate hs]; exact ⟨h1, h2⟩, by rw [List.length_replicate]; omega⟩, fun d hd => ?_⟩
    obtain ⟨rs, e, h⟩ := hd z _ rfl
    exact ⟨rs, e, digs_all h⟩
  walk_at "x"
  refine ⟨(cl 0 (by omega)).1, fun d hd => ?_⟩
  obtain ⟨z, rfl⟩ := hd
  refine ⟨by decide, ⟨z, [16, 13, 13], rfl, by decide, by decide⟩, fun d hd => ?_⟩
  obtain ⟨rs, rfl, hr⟩ := hd z [16, 13, 13] rfl
  match rs, hr with
  | [a, b, c], ⟨⟨a1, a2⟩, ⟨b1, b2⟩, ⟨c1, c2⟩, _⟩ =>
  walk_at "x"
  repeat (refine ⟨by decide, ?_⟩)
  refine ⟨.int a, rfl, ?_⟩
  rw [i_l]
  obtain ⟨n, own, m, e, hw, hm⟩ := wl_at a1 a2
  refine ⟨_, e, ?_⟩
  have ho := hw.own
  have hmp := Mn_pos own
  have hen := hw.en
  have hn1 := hw.n1
  have hn5 := hw.n5
  walk_at "x"
  refine ⟨.int (n : Nat), rfl, toD own, rfl, (cl 1 (by omega)).1, fun d hd => ?_⟩
  obtain ⟨z1, rfl⟩ := hd
  have e12 : ∀ b : Int, (List.replicate (Int.toNat 12) [PyData.int b]).flatten = (List.replicate 12 b).map PyData.int := fun b => rfl
  rw [e12, e12]
  have tx : ∀ (rs : List Int) (x : Int), (∀ q ∈ rs, 0 ≤ q ∧ q < 60) → rs.length = 12 → (G0.fn 17).pre [.list (rs.map .int), .int n, .int (x % ((m : Int) + 1))] ∧ ∀ d, (G0.fn 17).post [.list (rs.map .int), .int n, .int (x % ((m : Int) + 1))] d → ∃ t, d = txD t ∧ (∀ l ∈ t, l < n) ∧ t.length ≤ 100 := by
    intro rs x h1 h2
    have m1 := Int.emod_nonneg x (b := (m : Int) + 1) (by omega)
    have m2 := Int.emod_lt_of_pos x (b := (m : Int) + 1) (by omega)
    obtain ⟨k, hk⟩ := Int.eq_ofNat_of_zero_le m1
    rw [hk] at m2 ⊢
    exact ⟨⟨rs, n, k, rfl, fun q hq => (h1 q hq).1, hn1, hn5, by omega, by omega⟩, fun d hd => hd rs n k rfl⟩
  have d60 := fun z => dg z 60 12 (by decide) (by decide) (by decide)
  refine ⟨by decide, by decide, by decide, by decide, (d60 z1).1, fun d hd => ?_⟩
  obtain ⟨r1, rfl, h1, h2⟩ := (d60 z1).2 d hd
  refine ⟨.int b, rfl, ?_⟩
  walk_at "x"
  refine ⟨.int m, rfl, ?_⟩
  walk_at "x"
  refine ⟨by omega, (tx r1 b h1 h2).1, fun d hd => ?_⟩
  obtain ⟨t1, rfl, u1, v1⟩ := (tx r1 b h1 h2).2 d hd
  refine ⟨(cl 2 (by omega)).1, fun d hd => ?_⟩
  obtain ⟨z2, rfl⟩ := hd
  refine ⟨by decide, by decide, by decide, by decide, (d60 z2).1, fun d hd => ?_⟩
  obtain ⟨r2, rfl, h3, h4⟩ := (d60 z2).2 d hd
  refine ⟨.int c, rfl, ?_⟩
  walk_at "x"
  refine ⟨.int m, rfl, ?_⟩
  walk_at "x"
  refine ⟨by omega, (tx r2 c h3 h4).1, fun d hd => ?_⟩
  obtain ⟨t2, rfl, u2, v2⟩ := (tx r2 c h3 h4).2 d hd
  refine ⟨(cl 3 (by omega)).1, fun d hd => ?_⟩
  obtain ⟨z3, rfl⟩ := hd
  have d256 := dg z3 256 12 (by decide) (by decide) (by decide)
  refine ⟨by decide, by decide, by decide, by decide, d256.1, fun d hd => ?_⟩
  obtain ⟨r3, rfl, h5, h6⟩ := d256.2 d hd
  have hfl : (List.replicate n [PyData.tuple [toD own, toD own]]).flatten = (List.replicate n (Kd.ar own own)).map toD := by
    generalize n = n0
    induction n0 with
    | zero => rfl
    | succ n ih => rw [List.replicate_succ, List.flatten_cons, ih]; rfl
  have lrow : (G0.fn 13).pre [toD own] ∧ ∀ d, (G0.fn 13).post [toD own] d → d = .int (rows own : Nat) := ⟨⟨own, rfl, by omega, by have := hw.dp; omega⟩, fun d hd => hd own rfl⟩
  rw [Int.toNat_natCast, hfl]
  refine ⟨by decide, by decide, by omega, by omega, by rw [sizeLine_eq]; omega, by decide, by rw [List.length_map, List.length_replicate, sizeLine_eq]; omega, ⟨_, _, rfl, by rw [List.length_append, List.length_map, List.length_replicate]; simp; omega⟩, fun d hd => ?_⟩
  have hd : d = arrD ((List.replicate n (Kd.ar own own)).map toD ++ [toD own]) (toD own) := hd
  rw [show (List.replicate n (Kd.ar own own)).map toD ++ [toD own] = (pts n own).map toD by unfold pts; rw [List.map_append]; rfl, arrD_to] at hd
  subst hd
  refine ⟨⟨W n own, rfl, hw.rw, hw.dw⟩, fun d hd => ?_⟩
  have hd := hd (W n own) rfl
  subst hd
  refine ⟨⟨_, rfl⟩, fun d hd => ?_⟩
  have hd : d = .bool true := hd
  subst hd
  walk_at "x"
  refine ⟨⟨n, own, [], rfl, hw, by simp, by simp⟩, fun d hd => ?_⟩
  have hd := hd n own [] rfl
  subst hd
  unfold valsD
  walk_at "x"
  refine ⟨lrow.1, fun d hd => ?_⟩
  rw [lrow.2 d hd]
  walk_at "x"
  rw [List.length_map, vals_len]
  have eW : ((rows (W n own) : Nat) : Int) = ((Mn own * Dn own ^ n : Nat) : Int) * ((rows own : Nat) : Int) := by
    rw [← Int.natCast_mul, rows_W, Nat.mul_comm]; rfl
  refine ⟨mulR (by omega) (by omega), ?_⟩
  rw [← eW]
  have lo : PD.cutD (r3.map PyData.int) none (some 6) = (r3.take 6).map PyData.int := by
    unfold PD.cutD
    have e1 : HT.sIx (r3.map PyData.int).length (r3.map PyData.int).length (some 6) = 6 := by
      rw [show (some (6 : Int)) = some ((6 : Nat) : Int) from rfl, HT.sIx_nat, List.length_map, h6]; rfl
    rw [e1, HT.sIx_none, List.map_take]; rfl
  have hi : PD.cutD (r3.map PyData.int) (some 6) none = (r3.drop 6).map PyData.int := by
    unfold PD.cutD
    have e1 : HT.sIx (r3.map PyData.int).length 0 (some 6) = 6 := by
      rw [show (some (6 : Int)) = some ((6 : Nat) : Int) from rfl, HT.sIx_nat, List.length_map, h6]; rfl
    rw [e1, HT.sIx_none, List.map_drop, List.take_of_length_le (by rw [List.length_drop]; omega)]
  have tl : ∀ (t : List Nat) (ps : List Int), (∀ l ∈ t, l < n) → t.length ≤ 100 → ps.length = 6 → (G0.fn 19).pre [.int n, toD own, txD t, .list (ps.map .int)] := fun t ps a b c => ⟨n, own, t, ps, rfl, hw, a, by omega, by omega⟩
  have bt : ∀ {ds d}, (G0.fn 19).post ds d → d = .bool true := fun h => h
  have l6 : (r3.take 6).length = 6 := by rw [List.length_take]; omega
  have u6 : (r3.drop 6).length = 6 := by rw [List.length_drop]; omega
  rw [if_neg (by simp), lo, hi]
  refine ⟨tl t1 _ u1 v1 l6, fun d hd => ?_⟩
  obtain rfl := bt hd
  walk_at "x"
  refine ⟨tl t2 _ u2 v2 u6, fun d hd => ?_⟩
  obtain rfl := bt hd
  walk_at "x"
  exact ⟨tl t1 _ u1 v1 u6, fun d hd => bt hd⟩
end K31
namespace K31
open PySem PySem.Spec PyProof.Rows L2 PD
abbrev Gl (m : Nat) : Gb := ⟨fnD m, ctD⟩
theorem sh_rows : Sh sp_rows (sp_rowsK 5) [.int 2048, .str S_mean] := by
  rintro xs ⟨k, rfl, h1, h2⟩
  refine ⟨⟨k, rfl, h1, h2⟩, fun d hd k' e => hd k' ?_⟩
  rw [e]; rfl
end K31

namespace K31
open PySem PySem.Spec PyProof.Rows L2 PD
theorem finish {P : Program} {w : World} {K : PySem.W.Frag} {mg : Str → Option Value} {h : Heap} {fa : Addr} (hfa : mg "law" = some (.ref fa))
    (d_text_shape : PD.Dn K mg "text_shape" s_text_shape ["count"])
    (d_arrow : PD.Dn K mg "arrow" s_arrow ["parts", "last"])
    (d_unarrow : PD.Dn K mg "unarrow" s_unarrow ["kind"])
    (d_shape_kind : PD.Dn K mg "shape_kind" s_shape_kind ["shape", "kind"])
    (d_rows_of : PD.DnK K mg "rows_of" s_rows_of ["kind", "limit", "what"] 1 ["limit", "what"] [.int 2048, .str S_mean])
    (d_value_of : PD.Dn K mg "value_of" s_value_of ["kind", "meaning", "argument"])
    (d__measures : PD.Dn K mg "_measures" s__measures ["count", "kind"])
    (d__empty_meaning : PD.Dn K mg "_empty_meaning" s__empty_meaning ["count", "kind"])
    (d_next_meaning : PD.Dn K mg "next_meaning" s_next_meaning ["count", "kind", "before", "letter"])
    (d_text_meaning : PD.Dn K mg "text_meaning" s_text_meaning ["count", "kind", "text"])
    (d__law_whole : PD.Dn K mg "_law_whole" s__law_whole ["value"])
    (d__law_cell : PD.Dn K mg "_law_cell" s__law_cell ["script", "k"])
    (d__law_digits : PD.Dn K mg "_law_digits" s__law_digits ["cell", "sizes"])
    (d__law_rows : PD.Dn K mg "_law_rows" s__law_rows ["own"])
    (d__law_arrow : PD.Dn K mg "_law_arrow" s__law_arrow ["parts", "last"])
    (d__law_values : PD.Dn K mg "_law_values" s__law_values ["count", "own", "text"])
    (d__law_joined : PD.Dn K mg "_law_joined" s__law_joined ["digits", "base"])
    (d__law_text : PD.Dn K mg "_law_text" s__law_text ["row", "count", "size"])
    (d__law_read : PD.Dn K mg "_law_read" s__law_read ["count", "own", "number", "picks"])
    (d__law_told : PD.Dn K mg "_law_told" s__law_told ["count", "own", "text", "picks"])
    (d_law : PD.Dn K mg "law" s_law ["script"])
    (n_bool : mg "bool" = none)
    (n_int : mg "int" = none)
    (n_isinstance : mg "isinstance" = none)
    (n_len : mg "len" = none)
    (n_list : mg "list" = none)
    (n_range : mg "range" = none)
    (n_reversed : mg "reversed" = none)
    (n_tuple : mg "tuple" = none)
    (c_LETTERS : CtB K mg "LETTERS" (ctD 0)) :
    ∃ fd : FuncData, (∀ (s : Shared) (u : Value), BindsTo s fd ⟨[u], []⟩ [("script", u)]) ∧ ∀ base : Heap, K.In base → base.Ns mainGlobals mg → FnOk P w K mg base CX0 60 fa fd ["script"] (spD K (lawS okIn)) := by
  have kn : ∀ base : Heap, (K.In base ∧ base.Ns mainGlobals mg) → Known P w K mg base C_law G0 59 := by
    intro base _
    have f_text_shape : FnB P w K mg base 2 "text_shape" (G0.fn 0) := d_text_shape.fnB (known (P := P) (w := w) (base := base) (G := G0) (k := 1) .nil .nil .nil .nil) sc_text_shape ok_text_shape (by decide) (by intro ds h; first | (obtain ⟨_, _, _, rfl, _⟩ := h; rfl) | (obtain ⟨_, _, _, _, rfl, _⟩ := h; rfl) | (obtain ⟨_, rfl, _⟩ := h; rfl) | (obtain ⟨_, rfl⟩ := h; rfl) | (obtain ⟨_, _, _, rfl⟩ := h; rfl) | (obtain ⟨_, _, rfl, _⟩ := h; rfl) | (obtain ⟨_, _, rfl⟩ := h; rfl) | (cases h; rfl)) w_text_shape
    have f_arrow : FnB P w K mg base 3 "arrow" (G0.fn 1) := d_arrow.fnB (known (P := P) (w := w) (base := base) (G := G0) (k := 2) (.cons n_reversed .nil) .nil .nil .nil) sc_arrow ok_arrow (by decide) (by intro ds h; first | (obtain ⟨_, _, _, rfl, _⟩ := h; rfl) | (obtain ⟨_, _, _, _, rfl, _⟩ := h; rfl) | (obtain ⟨_, rfl, _⟩ := h; rfl) | (obtain ⟨_, rfl⟩ := h; rfl) | (obtain ⟨_, _, _, rfl⟩ := h; rfl) | (obtain ⟨_, _, rfl, _⟩ := h; rfl) | (obtain ⟨_, _, rfl⟩ := h; rfl) | (cases h; rfl)) w_arrow
    have f_unarrow : FnB P w K mg base 4 "unarrow" (G0.fn 2) := d_unarrow.fnB (known (P := P) (w := w) (base := base) (G := G0) (k := 3) (.cons n_isinstance (.cons n_tuple .nil)) .nil .nil .nil) sc_unarrow ok_unarrow (by decide) (by intro ds h; first | (obtain ⟨_, _, _, rfl, _⟩ := h; rfl) | (obtain ⟨_, _, _, _, rfl, _⟩ := h; rfl) | (obtain ⟨_, rfl, _⟩ := h; rfl) | (obtain ⟨_, rfl⟩ := h; rfl) | (obtain ⟨_, _, _, rfl⟩ := h; rfl) | (obtain ⟨_, _, rfl, _⟩ := h; rfl) | (obtain ⟨_, _, rfl⟩ := h; rfl) | (cases h; rfl)) w_unarrow
    have f_shape_kind : FnB P w K mg base 5 "shape_kind" (G0.fn 3) := d_shape_kind.fnB (known (P := P) (w := w) (base := base) (G := G0) (k := 4) .nil (.cons (f_arrow.mono (by omega)) .nil) .nil .nil) sc_shape_kind ok_shape_kind (by decide) (by intro ds h; first | (obtain ⟨_, _, _, rfl, _⟩ := h; rfl) | (obtain ⟨_, _, _, _, rfl, _⟩ := h; rfl) | (obtain ⟨_, rfl, _⟩ := h; rfl) | (obtain ⟨_, rfl⟩ := h; rfl) | (obtain ⟨_, _, _, rfl⟩ := h; rfl) | (obtain ⟨_, _, rfl, _⟩ := h; rfl) | (obtain ⟨_, _, rfl⟩ := h; rfl) | (cases h; rfl)) w_shape_kind
    have r_rows_of : ∀ m, FnBK P w K mg base (5 + m) "rows_of" 1 ["limit", "what"] (sp_rowsK m) := by
      intro m
      induction m with
      | zero => exact d_rows_of.bot (by rintro ds ⟨_, _, _, h⟩; omega)
      | succ m ih => exact (d_rows_of.fnB (f := ⟨fun _ => False, fun _ _ => True⟩) (known (P := P) (w := w) (base := base) (G := (Gr m)) (k := 5 + m) .nil (.cons (f_unarrow.mono (by omega)) .nil) .nil (.cons (ih.mono (by omega)) .nil)) sc_rows_of ok_rows_of (by omega) (by intro ds h; first | (obtain ⟨_, _, _, rfl, _⟩ := h; rfl) | (obtain ⟨_, _, _, _, rfl, _⟩ := h; rfl) | (obtain ⟨_, rfl, _⟩ := h; rfl) | (obtain ⟨_, rfl⟩ := h; rfl) | (obtain ⟨_, _, _, rfl⟩ := h; rfl) | (obtain ⟨_, _, rfl, _⟩ := h; rfl) | (obtain ⟨_, _, rfl⟩ := h; rfl) | (cases h; rfl)) (w_rows_of m) (fun _ h => h.elim)).2
    have f_rows_of_k := r_rows_of 5
    have f_rows_of_22 : FnB P w K mg base 10 "rows_of" (G0.fn 22) := (d_rows_of.fnB (known (P := P) (w := w) (base := base) (G := (Gr 4)) (k := 5 + 4) .nil (.cons (f_unarrow.mono (by omega)) .nil) .nil (.cons ((r_rows_of 4).mono (by omega)) .nil)) sc_rows_of ok_rows_of (by omega) (by intro ds h; first | (obtain ⟨_, _, _, rfl, _⟩ := h; rfl) | (obtain ⟨_, _, _, _, rfl, _⟩ := h; rfl) | (obtain ⟨_, rfl, _⟩ := h; rfl) | (obtain ⟨_, rfl⟩ := h; rfl) | (obtain ⟨_, _, _, rfl⟩ := h; rfl) | (obtain ⟨_, _, rfl, _⟩ := h; rfl) | (obtain ⟨_, _, rfl⟩ := h; rfl) | (cases h; rfl)) (w_rows_of 4) (sh_rows)).1
    have f_value_of : FnB P w K mg base 12 "value_of" (G0.fn 5) := d_value_of.fnB (known (P := P) (w := w) (base := base) (G := G0) (k := 11) .nil (.cons (f_rows_of_22.mono (by omega)) .nil) .nil .nil) sc_value_of ok_value_of (by decide) (by intro ds h; first | (obtain ⟨_, _, _, rfl, _⟩ := h; rfl) | (obtain ⟨_, _, _, _, rfl, _⟩ := h; rfl) | (obtain ⟨_, rfl, _⟩ := h; rfl) | (obtain ⟨_, rfl⟩ := h; rfl) | (obtain ⟨_, _, _, rfl⟩ := h; rfl) | (obtain ⟨_, _, rfl, _⟩ := h; rfl) | (obtain ⟨_, _, rfl⟩ := h; rfl) | (cases h; rfl)) w_value_of
    have f__measures : FnB P w K mg base 13 "_measures" (G0.fn 6) := d__measures.fnB (known (P := P) (w := w) (base := base) (G := G0) (k := 12) .nil (.cons (f_text_shape.mono (by omega)) (.cons (f_shape_kind.mono (by omega)) (.cons (f_rows_of_22.mono (by omega)) .nil))) .nil .nil) sc__measures ok__measures (by decide) (by intro ds h; first | (obtain ⟨_, _, _, rfl, _⟩ := h; rfl) | (obtain ⟨_, _, _, _, rfl, _⟩ := h; rfl) | (obtain ⟨_, rfl, _⟩ := h; rfl) | (obtain ⟨_, rfl⟩ := h; rfl) | (obtain ⟨_, _, _, rfl⟩ := h; rfl) | (obtain ⟨_, _, rfl, _⟩ := h; rfl) | (obtain ⟨_, _, rfl⟩ := h; rfl) | (cases h; rfl)) w_measures
    have f__empty_meaning : FnB P w K mg base 14 "_empty_meaning" (G0.fn 7) := d__empty_meaning.fnB (known (P := P) (w := w) (base := base) (G := G0) (k := 13) (.cons n_range (.cons n_reversed .nil)) (.cons (f__measures.mono (by omega)) .nil) .nil .nil) sc__empty_meaning ok__empty_meaning (by decide) (by intro ds h; first | (obtain ⟨_, _, _, rfl, _⟩ := h; rfl) | (obtain ⟨_, _, _, _, rfl, _⟩ := h; rfl) | (obtain ⟨_, rfl, _⟩ := h; rfl) | (obtain ⟨_, rfl⟩ := h; rfl) | (obtain ⟨_, _, _, rfl⟩ := h; rfl) | (obtain ⟨_, _, rfl, _⟩ := h; rfl) | (obtain ⟨_, _, rfl⟩ := h; rfl) | (cases h; rfl)) w_empty_meaning
    have f_next_meaning : FnB P w K mg base 15 "next_meaning" (G0.fn 8) := d_next_meaning.fnB (known (P := P) (w := w) (base := base) (G := G0) (k := 14) (.cons n_range (.cons n_reversed .nil)) (.cons (f__measures.mono (by omega)) .nil) (.cons c_LETTERS .nil) .nil) sc_next_meaning ok_next_meaning (by decide) (by intro ds h; first | (obtain ⟨_, _, _, rfl, _⟩ := h; rfl) | (obtain ⟨_, _, _, _, rfl, _⟩ := h; rfl) | (obtain ⟨_, rfl, _⟩ := h; rfl) | (obtain ⟨_, rfl⟩ := h; rfl) | (obtain ⟨_, _, _, rfl⟩ := h; rfl) | (obtain ⟨_, _, rfl, _⟩ := h; rfl) | (obtain ⟨_, _, rfl⟩ := h; rfl) | (cases h; rfl)) w_next_meaning
    have f_text_meaning : FnB P w K mg base 16 "text_meaning" (G0.fn 9) := d_text_meaning.fnB (known (P := P) (w := w) (base := base) (G := G0) (k := 15) .nil (.cons (f__empty_meaning.mono (by omega)) (.cons (f_next_meaning.mono (by omega)) .nil)) .nil .nil) sc_text_meaning ok_text_meaning (by decide) (by intro ds h; first | (obtain ⟨_, _, _, rfl, _⟩ := h; rfl) | (obtain ⟨_, _, _, _, rfl, _⟩ := h; rfl) | (obtain ⟨_, rfl, _⟩ := h; rfl) | (obtain ⟨_, rfl⟩ := h; rfl) | (obtain ⟨_, _, _, rfl⟩ := h; rfl) | (obtain ⟨_, _, rfl, _⟩ := h; rfl) | (obtain ⟨_, _, rfl⟩ := h; rfl) | (cases h; rfl)) w_text_meaning
    have f__law_whole : FnB P w K mg base 17 "_law_whole" (G0.fn 10) := d__law_whole.fnB (known (P := P) (w := w) (base := base) (G := G0) (k := 16) (.cons n_bool (.cons n_int (.cons n_isinstance .nil))) .nil .nil .nil) sc__law_whole ok__law_whole (by decide) (by intro ds h; first | (obtain ⟨_, _, _, rfl, _⟩ := h; rfl) | (obtain ⟨_, _, _, _, rfl, _⟩ := h; rfl) | (obtain ⟨_, rfl, _⟩ := h; rfl) | (obtain ⟨_, rfl⟩ := h; rfl) | (obtain ⟨_, _, _, rfl⟩ := h; rfl) | (obtain ⟨_, _, rfl, _⟩ := h; rfl) | (obtain ⟨_, _, rfl⟩ := h; rfl) | (cases h; rfl)) PL.w_whole
    have f__law_cell : FnB P w K mg base 18 "_law_cell" (G0.fn 11) := d__law_cell.fnB (known (P := P) (w := w) (base := base) (G := G0) (k := 17) (.cons n_int (.cons n_len .nil)) .nil .nil .nil) sc__law_cell ok__law_cell (by decide) (by intro ds h; first | (obtain ⟨_, _, _, rfl, _⟩ := h; rfl) | (obtain ⟨_, _, _, _, rfl, _⟩ := h; rfl) | (obtain ⟨_, rfl, _⟩ := h; rfl) | (obtain ⟨_, rfl⟩ := h; rfl) | (obtain ⟨_, _, _, rfl⟩ := h; rfl) | (obtain ⟨_, _, rfl, _⟩ := h; rfl) | (obtain ⟨_, _, rfl⟩ := h; rfl) | (cases h; rfl)) PL.w_cell
    have f__law_digits : FnB P w K mg base 19 "_law_digits" (G0.fn 12) := d__law_digits.fnB (known (P := P) (w := w) (base := base) (G := G0) (k := 18) (.cons n_int (.cons n_len (.cons n_range .nil))) .nil .nil .nil) sc__law_digits ok__law_digits (by decide) (by intro ds h; first | (obtain ⟨_, _, _, rfl, _⟩ := h; rfl) | (obtain ⟨_, _, _, _, rfl, _⟩ := h; rfl) | (obtain ⟨_, rfl, _⟩ := h; rfl) | (obtain ⟨_, rfl⟩ := h; rfl) | (obtain ⟨_, _, _, rfl⟩ := h; rfl) | (obtain ⟨_, _, rfl, _⟩ := h; rfl) | (obtain ⟨_, _, rfl⟩ := h; rfl) | (cases h; rfl)) PL.w_digits
    have r__law_rows : ∀ m, FnB P w K mg base (19 + m) "_law_rows" (sp_lrows m) := by
      intro m
      induction m with
      | zero => exact d__law_rows.bot (by rintro ds ⟨_, _, _, h⟩; omega)
      | succ m ih =>
        have q : FnB P w K mg base ((19 + m) + 1) "_law_rows" (sp_lrows (m + 1)) := d__law_rows.fnB (known (P := P) (w := w) (base := base) (G := (Gl m)) (k := 19 + m) (.cons n_isinstance (.cons n_tuple .nil)) (.cons (ih.mono (by omega)) .nil) .nil .nil) sc__law_rows ok__law_rows (by omega) (by intro ds h; first | (obtain ⟨_, _, _, rfl, _⟩ := h; rfl) | (obtain ⟨_, _, _, _, rfl, _⟩ := h; rfl) | (obtain ⟨_, rfl, _⟩ := h; rfl) | (obtain ⟨_, rfl⟩ := h; rfl) | (obtain ⟨_, _, _, rfl⟩ := h; rfl) | (obtain ⟨_, _, rfl, _⟩ := h; rfl) | (obtain ⟨_, _, rfl⟩ := h; rfl) | (cases h; rfl)) (w_law_rows m)
        exact q
    have f__law_rows : FnB P w K mg base 24 "_law_rows" (G0.fn 13) := r__law_rows 5
    have f__law_arrow : FnB P w K mg base 26 "_law_arrow" (G0.fn 14) := d__law_arrow.fnB (known (P := P) (w := w) (base := base) (G := G0) (k := 25) (.cons n_len (.cons n_range .nil)) .nil .nil .nil) sc__law_arrow ok__law_arrow (by decide) (by intro ds h; first | (obtain ⟨_, _, _, rfl, _⟩ := h; rfl) | (obtain ⟨_, _, _, _, rfl, _⟩ := h; rfl) | (obtain ⟨_, rfl, _⟩ := h; rfl) | (obtain ⟨_, rfl⟩ := h; rfl) | (obtain ⟨_, _, _, rfl⟩ := h; rfl) | (obtain ⟨_, _, rfl, _⟩ := h; rfl) | (obtain ⟨_, _, rfl⟩ := h; rfl) | (cases h; rfl)) w_law_arrow
    have f__law_values : FnB P w K mg base 27 "_law_values" (G0.fn 15) := d__law_values.fnB (known (P := P) (w := w) (base := base) (G := G0) (k := 26) (.cons n_int (.cons n_len (.cons n_list (.cons n_range .nil)))) (.cons (f__law_rows.mono (by omega)) .nil) .nil .nil) sc__law_values ok__law_values (by decide) (by intro ds h; first | (obtain ⟨_, _, _, rfl, _⟩ := h; rfl) | (obtain ⟨_, _, _, _, rfl, _⟩ := h; rfl) | (obtain ⟨_, rfl, _⟩ := h; rfl) | (obtain ⟨_, rfl⟩ := h; rfl) | (obtain ⟨_, _, _, rfl⟩ := h; rfl) | (obtain ⟨_, _, rfl, _⟩ := h; rfl) | (obtain ⟨_, _, rfl⟩ := h; rfl) | (cases h; rfl)) w_law_values
    have f__law_joined : FnB P w K mg base 28 "_law_joined" (G0.fn 16) := d__law_joined.fnB (known (P := P) (w := w) (base := base) (G := G0) (k := 27) (.cons n_len (.cons n_range .nil)) .nil .nil .nil) sc__law_joined ok__law_joined (by decide) (by intro ds h; first | (obtain ⟨_, _, _, rfl, _⟩ := h; rfl) | (obtain ⟨_, _, _, _, rfl, _⟩ := h; rfl) | (obtain ⟨_, rfl, _⟩ := h; rfl) | (obtain ⟨_, rfl⟩ := h; rfl) | (obtain ⟨_, _, _, rfl⟩ := h; rfl) | (obtain ⟨_, _, rfl, _⟩ := h; rfl) | (obtain ⟨_, _, rfl⟩ := h; rfl) | (cases h; rfl)) w_law_joined
    have f__law_text : FnB P w K mg base 29 "_law_text" (G0.fn 17) := d__law_text.fnB (known (P := P) (w := w) (base := base) (G := G0) (k := 28) (.cons n_int (.cons n_range .nil)) .nil .nil .nil) sc__law_text ok__law_text (by decide) (by intro ds h; first | (obtain ⟨_, _, _, rfl, _⟩ := h; rfl) | (obtain ⟨_, _, _, _, rfl, _⟩ := h; rfl) | (obtain ⟨_, rfl, _⟩ := h; rfl) | (obtain ⟨_, rfl⟩ := h; rfl) | (obtain ⟨_, _, _, rfl⟩ := h; rfl) | (obtain ⟨_, _, rfl, _⟩ := h; rfl) | (obtain ⟨_, _, rfl⟩ := h; rfl) | (cases h; rfl)) w_law_text
    have f__law_read : FnB P w K mg base 30 "_law_read" (G0.fn 18) := d__law_read.fnB (known (P := P) (w := w) (base := base) (G := G0) (k := 29) (.cons n_int (.cons n_range .nil)) (.cons (f_value_of.mono (by omega)) (.cons (f__law_whole.mono (by omega)) (.cons (f__law_rows.mono (by omega)) (.cons (f__law_arrow.mono (by omega)) .nil)))) .nil .nil) sc__law_read ok__law_read (by decide) (by intro ds h; first | (obtain ⟨_, _, _, rfl, _⟩ := h; rfl) | (obtain ⟨_, _, _, _, rfl, _⟩ := h; rfl) | (obtain ⟨_, rfl, _⟩ := h; rfl) | (obtain ⟨_, rfl⟩ := h; rfl) | (obtain ⟨_, _, _, rfl⟩ := h; rfl) | (obtain ⟨_, _, rfl, _⟩ := h; rfl) | (obtain ⟨_, _, rfl⟩ := h; rfl) | (cases h; rfl)) w_law_read
    have f__law_told : FnB P w K mg base 31 "_law_told" (G0.fn 19) := d__law_told.fnB (known (P := P) (w := w) (base := base) (G := G0) (k := 30) .nil (.cons (f_text_meaning.mono (by omega)) (.cons (f__law_whole.mono (by omega)) (.cons (f__law_rows.mono (by omega)) (.cons (f__law_values.mono (by omega)) (.cons (f__law_joined.mono (by omega)) (.cons (f__law_read.mono (by omega)) .nil)))))) .nil .nil) sc__law_told ok__law_told (by decide) (by intro ds h; first | (obtain ⟨_, _, _, rfl, _⟩ := h; rfl) | (obtain ⟨_, _, _, _, rfl, _⟩ := h; rfl) | (obtain ⟨_, rfl, _⟩ := h; rfl) | (obtain ⟨_, rfl⟩ := h; rfl) | (obtain ⟨_, _, _, rfl⟩ := h; rfl) | (obtain ⟨_, _, rfl, _⟩ := h; rfl) | (obtain ⟨_, _, rfl⟩ := h; rfl) | (cases h; rfl)) w_law_told
    exact known (P := P) (w := w) (base := base) (G := G0) (k := 59) (.cons n_int (.cons n_len .nil)) (.cons (f__law_whole.mono (by omega)) (.cons (f__law_cell.mono (by omega)) (.cons (f__law_digits.mono (by omega)) (.cons (f__law_rows.mono (by omega)) (.cons (f__law_arrow.mono (by omega)) (.cons (f__law_values.mono (by omega)) (.cons (f__law_text.mono (by omega)) (.cons (f__law_told.mono (by omega)) (.cons (f_rows_of_22.mono (by omega)) .nil))))))))) .nil .nil
  obtain ⟨fd, h1, h2⟩ := law_fin d_law hfa kn sc_law ok_law (by decide) (by intro ds h; first | (obtain ⟨_, _, _, rfl, _⟩ := h; rfl) | (obtain ⟨_, _, _, _, rfl, _⟩ := h; rfl) | (obtain ⟨_, rfl, _⟩ := h; rfl) | (obtain ⟨_, rfl⟩ := h; rfl) | (obtain ⟨_, _, _, rfl⟩ := h; rfl) | (obtain ⟨_, _, rfl, _⟩ := h; rfl) | (obtain ⟨_, _, rfl⟩ := h; rfl) | (cases h; rfl)) w_law
  exact ⟨fd, h1, fun base hb hn => h2 base ⟨hb, hn⟩⟩
end K31
open PySem PySem.W PyProof.Rows
set_option maxHeartbeats 0 in
theorem PySem.Challenge.cw_plainbehind_k31_text_meanings_holds : PySem.Challenge.rw_plainbehind_k31_text_meanings.Holds := by
  w_on; o_law; k_head; (case hw => w_witness2)
  k_fill
  refine L2.walk_ofB (l := PySem.Challenge.rw_plainbehind_k31_text_meanings) (n := 63) (k := 60) (x := "script") (CX := fun _ => L2.CX0) (sp := fun w => PD.spD _ (PD.lawS K31.okIn)) rfl (by decide) rfl ⟨rfl, by decide, by decide⟩ (fun w h Y => PySem.W.kIn_of Y) ?F (fun _ _ a ns hl hb _ hS => PD.law_sp ⟨hl, hb⟩ hS) (fun _ _ _ _ _ h => h)
  case F =>
    intro w mg fa h KX G hmg
    refine' K31.finish (h := h) hmg
      (PD.dn_of KX G ?a0 ?l0 ?c0 ?k0 (fun _ _ _ _ _ _ us hl => match us, hl with | [_], _ => rfl))
      (PD.dn_of KX G ?a1 ?l1 ?c1 ?k1 (fun _ _ _ _ _ _ us hl => match us, hl with | [_, _], _ => rfl))
      (PD.dn_of KX G ?a2 ?l2 ?c2 ?k2 (fun _ _ _ _ _ _ us hl => match us, hl with | [_], _ => rfl))
      (PD.dn_of KX G ?a3 ?l3 ?c3 ?k3 (fun _ _ _ _ _ _ us hl => match us, hl with | [_, _], _ => rfl))
      (PD.dnk_of KX G ?a4 ?l4 ?c4 ?k4 (n := 1) (kws := [("limit", .int 2048), ("what", .str K31.S_mean)]) (.cons ?q4_0 ?r4_0 (.cons ?q4_1 ?r4_1 .nil)) (fun _ => (.cons (.int _) (.cons (.str _) .nil))) rfl (fun _ _ _ _ _ us ks h1 h2 => match us, ks, h1, h2 with | [_], [_, _], _, _ => ⟨_, _, _, _, _, _, rfl, rfl, _, _, _, _, _, _, rfl, rfl, rfl⟩) (fun _ _ _ _ _ us ws h1 h2 => match us, ws, h1, h2 with | [_], [_, _], _, _ => rfl))
      (PD.dn_of KX G ?a5 ?l5 ?c5 ?k5 (fun _ _ _ _ _ _ us hl => match us, hl with | [_, _, _], _ => rfl))
      (PD.dn_of KX G ?a6 ?l6 ?c6 ?k6 (fun _ _ _ _ _ _ us hl => match us, hl with | [_, _], _ => rfl))
      (PD.dn_of KX G ?a7 ?l7 ?c7 ?k7 (fun _ _ _ _ _ _ us hl => match us, hl with | [_, _], _ => rfl))
      (PD.dn_of KX G ?a8 ?l8 ?c8 ?k8 (fun _ _ _ _ _ _ us hl => match us, hl with | [_, _, _, _], _ => rfl))
      (PD.dn_of KX G ?a9 ?l9 ?c9 ?k9 (fun _ _ _ _ _ _ us hl => match us, hl with | [_, _, _], _ => rfl))
      (PD.dn_of KX G ?a10 ?l10 ?c10 ?k10 (fun _ _ _ _ _ _ us hl => match us, hl with | [_], _ => rfl))
      (PD.dn_of KX G ?a11 ?l11 ?c11 ?k11 (fun _ _ _ _ _ _ us hl => match us, hl with | [_, _], _ => rfl))
      (PD.dn_of KX G ?a12 ?l12 ?c12 ?k12 (fun _ _ _ _ _ _ us hl => match us, hl with | [_, _], _ => rfl))
      (PD.dn_of KX G ?a13 ?l13 ?c13 ?k13 (fun _ _ _ _ _ _ us hl => match us, hl with | [_], _ => rfl))
      (PD.dn_of KX G ?a14 ?l14 ?c14 ?k14 (fun _ _ _ _ _ _ us hl => match us, hl with | [_, _], _ => rfl))
      (PD.dn_of KX G ?a15 ?l15 ?c15 ?k15 (fun _ _ _ _ _ _ us hl => match us, hl with | [_, _, _], _ => rfl))
      (PD.dn_of KX G ?a16 ?l16 ?c16 ?k16 (fun _ _ _ _ _ _ us hl => match us, hl with | [_, _], _ => rfl))
      (PD.dn_of KX G ?a17 ?l17 ?c17 ?k17 (fun _ _ _ _ _ _ us hl => match us, hl with | [_, _, _], _ => rfl))
      (PD.dn_of KX G ?a18 ?l18 ?c18 ?k18 (fun _ _ _ _ _ _ us hl => match us, hl with | [_, _, _, _], _ => rfl))
      (PD.dn_of KX G ?a19 ?l19 ?c19 ?k19 (fun _ _ _ _ _ _ us hl => match us, hl with | [_, _, _, _], _ => rfl))
      (PD.dn_of KX G ?a20 ?l20 ?c20 ?k20 (fun _ _ _ _ _ _ us hl => match us, hl with | [_], _ => rfl))
      (PySem.W.mg_none_of KX G ?nbool)
      (PySem.W.mg_none_of KX G ?nint)
      (PySem.W.mg_none_of KX G ?nisinstance)
      (PySem.W.mg_none_of KX G ?nlen)
      (PySem.W.mg_none_of KX G ?nlist)
      (PySem.W.mg_none_of KX G ?nrange)
      (PySem.W.mg_none_of KX G ?nreversed)
      (PySem.W.mg_none_of KX G ?ntuple)
      (PD.ct_str (PySem.W.mg_of KX G ?v0))
    (case a0 => k_is); (case l0 => k_is); (case c0 => k_is); (case k0 => k_is)
    (case a1 => k_is); (case l1 => k_is); (case c1 => k_is); (case k1 => k_is)
    (case a2 => k_is); (case l2 => k_is); (case c2 => k_is); (case k2 => k_is)
    (case a3 => k_is); (case l3 => k_is); (case c3 => k_is); (case k3 => k_is)
    (case a4 => k_is); (case l4 => k_is); (case c4 => k_is); (case k4 => k_is); (case q4_0 => k_is); (case r4_0 => exact ⟨_, rfl⟩); (case q4_1 => k_is); (case r4_1 => exact ⟨_, rfl⟩)
    (case a5 => k_is); (case l5 => k_is); (case c5 => k_is); (case k5 => k_is)
    (case a6 => k_is); (case l6 => k_is); (case c6 => k_is); (case k6 => k_is)
    (case a7 => k_is); (case l7 => k_is); (case c7 => k_is); (case k7 => k_is)
    (case a8 => k_is); (case l8 => k_is); (case c8 => k_is); (case k8 => k_is)
    (case a9 => k_is); (case l9 => k_is); (case c9 => k_is); (case k9 => k_is)
    (case a10 => k_is); (case l10 => k_is); (case c10 => k_is); (case k10 => k_is)
    (case a11 => k_is); (case l11 => k_is); (case c11 => k_is); (case k11 => k_is)
    (case a12 => k_is); (case l12 => k_is); (case c12 => k_is); (case k12 => k_is)
    (case a13 => k_is); (case l13 => k_is); (case c13 => k_is); (case k13 => k_is)
    (case a14 => k_is); (case l14 => k_is); (case c14 => k_is); (case k14 => k_is)
    (case a15 => k_is); (case l15 => k_is); (case c15 => k_is); (case k15 => k_is)
    (case a16 => k_is); (case l16 => k_is); (case c16 => k_is); (case k16 => k_is)
    (case a17 => k_is); (case l17 => k_is); (case c17 => k_is); (case k17 => k_is)
    (case a18 => k_is); (case l18 => k_is); (case c18 => k_is); (case k18 => k_is)
    (case a19 => k_is); (case l19 => k_is); (case c19 => k_is); (case k19 => k_is)
    (case a20 => k_is); (case l20 => k_is); (case c20 => k_is); (case k20 => k_is)
    (case nbool => k_is)
    (case nint => k_is)
    (case nisinstance => k_is)
    (case nlen => k_is)
    (case nlist => k_is)
    (case nrange => k_is)
    (case nreversed => k_is)
    (case ntuple => k_is)
    (case v0 => k_is)



