import PyProof.Rows.All
import Wide.All
import OpenK.AllK
import Wide.FinOn
import HandS.ForMost
import HandS.TupMul
import HandS.Walk
import HandS.Evl
import HandS.Wide
import HandS.WideBits
import HandS.TupAny
import HandS.Style
import HandS.IsInst
import KE.GoesEnum
import HandS.ForExc
import HandS.Text
import HandS.Dict
import HandS.WordsDict
import HandS.Deep
import HandS.RaiseMore
import HandS.ExcIs
import HandS.Conv
import KE.DatumOrd
import HandS.Defaults
import HandS.HotCalls
import KE.DatumIndex
import HandS.RevRange
import KE.DatumMoreOrd
import KE.KRevSl
import KE.SortData
import KE.OsSort
import KE.KTupSum
import KE.DataEq
import HandS.Nested
import HandS.NestedK
import KE.DataMinKey
import KE.KNestM
import HandS.EndTab
import HandS.SetKeys
import HandS.Strs
import HandS.SetFor
import PySem.Challenge.RW_fallsum_k51_whole_often_and_walks
set_option Elab.async false
set_option linter.all false
set_option maxRecDepth 100000
set_option maxHeartbeats 20000000
section
namespace L2
open PySem PySem.Spec PyProof.Rows
theorem tuple_mulW1 (l : Addr) (items : Array Value) (n : Nat) (dd : Option Addr) (sl : Array (Option Value)) (x : Int) (u : Tok) (c0 : (decide (x < -(2 ^ 63)) || decide (x ≥ 2 ^ 63)) = false) (c1 : (items.isEmpty || x == 1) = true) :
    Meets (Builtin.«tuple.__mul__» ⟨[.ref l, .int x u], []⟩) (fun _ R s => s.heap.get? l = some { cls := .type "tuple", dict := dd, data := .seq items n, slots := sl } ∧ R (.ok (.ret (Value.ref l))) s) :=
  .of_wp fun prog w A R s h => by
    obtain ⟨hp, g, d, tk, os⟩ := s
    obtain ⟨hl, h⟩ := h
    have f1 := AutoSeq1.idx_int
    wp_walk using wpAny_loadPart' hl
    repeat (first
      | (refine wpAny_ite_false (decide_eq_false (by rw [c0]; exact Bool.false_ne_true)) ?_; wp_walk using wpAny_loadPart' hl)
      | (refine wpAny_ite_true (decide_eq_true c1) ?_; wp_walk using wpAny_loadPart' hl))
    exact ⟨_, rfl, h⟩
theorem tuple_mulW2 (l : Addr) (items : Array Value) (n : Nat) (dd : Option Addr) (sl : Array (Option Value)) (x : Int) (u : Tok) (c0 : (decide (x < -(2 ^ 63)) || decide (x ≥ 2 ^ 63)) = false) (c1 : (items.isEmpty || x == 1) = false) (c2 : (decide (x ≤ 0) || items.isEmpty) = true) :
    Meets (Builtin.«tuple.__mul__» ⟨[.ref l, .int x u], []⟩) (fun _ R s => s.heap.get? l = some { cls := .type "tuple", dict := dd, data := .seq items n, slots := sl } ∧
      R (.ok (.ret (Value.ref s.heap.objs.size))) { s with heap := s.heap.push { cls := Value.type "tuple", data := Data.seq #[] }, toks := s.toks }) :=
  .of_wp fun prog w A R s h => by
    obtain ⟨hp, g, d, tk, os⟩ := s
    obtain ⟨hl, h⟩ := h
    have f1 := AutoSeq1.idx_int
    have hs0 : (#[] : Array Value).size ≤ sizeLine := Nat.zero_le _
    wp_walk using wpAny_loadPart' hl
    repeat (first
      | (refine wpAny_ite_false (decide_eq_false (by rw [c0]; exact Bool.false_ne_true)) ?_; wp_walk using wpAny_loadPart' hl)
      | (refine wpAny_ite_false (decide_eq_false (by rw [c1]; exact Bool.false_ne_true)) ?_; wp_walk using wpAny_loadPart' hl)
      | (refine wpAny_ite_true (decide_eq_true c2) ?_; wp_walk using wpAny_loadPart' hl)
      | (refine wpAny_ite_false (decide_eq_false (Nat.not_lt.mpr hs0)) ?_; wp_walk using wpAny_loadPart' hl))
    exact ⟨_, rfl, h⟩
/-- t * k, any k -/
def rRepA (K : PySem.W.Frag) : R2 := fun x y H Q => ∃ l k xs, x = .ref l ∧ y = .int k ∧ SqT K H l xs ∧ -(2 ^ 63) ≤ k ∧ k < 2 ^ 63 ∧ xs.length * k.toNat ≤ sizeLine ∧ (xs = [] ∨ k = 1 → Q (.ref l) H) ∧
  (¬ (xs = [] ∨ k = 1) → ∀ p, H p = none → Q (.ref p) (upd H p (.tup (List.replicate k.toNat xs).flatten)))
section
variable {X : Cx}
theorem op_repA : OpR X (binaryOp .Mult) (rRepA X.K) := by
  intro pins s σ H x y v u Q I rx ry h
  obtain ⟨l, k, xs, rfl, rfl, hT, h1, h2, hz, q0, q⟩ := h
  cases rx
  obtain ⟨t, rfl⟩ := ry
  obtain ⟨its, r, ⟨⟨cls, dd, data, sl⟩, ho, hc, n, hd⟩, hs⟩ := I.tuple hT
  simp only at hc hd
  subst hc hd
  have hle : its.length = xs.length := r.length.symm
  have c0 : (decide (k < -(2 ^ 63)) || decide (k ≥ 2 ^ 63)) = false := by
    rw [decide_eq_false (by omega), decide_eq_false (by omega)] <;> rfl
  have hsz0 : its.toArray.size = xs.length := by rw [List.size_toArray, hle]
  have he : its.toArray.isEmpty = true ↔ xs = [] := by
    cases its with
    | nil => cases r; simp
    | cons a b => cases r; simp
  by_cases c : xs = [] ∨ k = 1
  · have c1 : (its.toArray.isEmpty || k == 1) = true := by
      rcases c with c | c
      · rw [he.mpr c]; rfl
      · rw [c]; simp
    refine wpAny_binaryOp_repeat_ref (T := "tuple") (U := "int") (by decide) ⟨_, ho, rfl⟩ (fun s' => typeIs_int s' k t) noFill_tuple_mul F.fills_int_mul F.slot_int_rmul repeat_tuple F.slot_int_index.lookup
      (call_meets F.slot_int_rmul (typeIs_int s k t) F.entry_int_rmul (F.args_int_rmul_2 _ _) (int_rmul_tuple k t l its.toArray n dd sl)
        ⟨ho, rfl, ⟨_, ho, rfl⟩, call_meets F.slot_tuple_mul ⟨_, ho, rfl⟩ F.entry_tuple_mul (F.args_tuple_mul_2 _ _) (tuple_mulW1 l its.toArray n dd sl k t c0 c1) ⟨ho, ?_⟩⟩)
    exact ⟨.ref l, H, I, rfl, q0 c⟩
  · have hne : xs ≠ [] := fun e => c (.inl e)
    have hi : its.toArray.isEmpty = false := by
      cases e : its.toArray.isEmpty with
      | false => rfl
      | true => exact absurd (he.mp e) hne
    have c1 : (its.toArray.isEmpty || k == 1) = false := by
      rw [hi, Bool.false_or]
      exact beq_eq_false_iff_ne.mpr fun e => c (.inr e)
    have flen : (List.replicate k.toNat its).flatten.length ≤ sizeLine := by
      rw [PyProof.Rows.lm_len_rep_flat, hle, Nat.mul_comm]; exact hz
    by_cases k0 : k ≤ 0
    · have c2 : (decide (k ≤ 0) || its.toArray.isEmpty) = true := by rw [decide_eq_true k0]; rfl
      refine wpAny_binaryOp_repeat_ref (T := "tuple") (U := "int") (by decide) ⟨_, ho, rfl⟩ (fun s' => typeIs_int s' k t) noFill_tuple_mul F.fills_int_mul F.slot_int_rmul repeat_tuple F.slot_int_index.lookup
        (call_meets F.slot_int_rmul (typeIs_int s k t) F.entry_int_rmul (F.args_int_rmul_2 _ _) (int_rmul_tuple k t l its.toArray n dd sl)
          ⟨ho, rfl, ⟨_, ho, rfl⟩, call_meets F.slot_tuple_mul ⟨_, ho, rfl⟩ F.entry_tuple_mul (F.args_tuple_mul_2 _ _) (tuple_mulW2 l its.toArray n dd sl k t c0 c1 c2) ⟨ho, ?_⟩⟩)
      have e0 : k.toNat = 0 := by omega
      refine ⟨.ref s.heap.objs.size, _, I.laid (t' := s.toks) (o := .tup (List.replicate k.toNat xs).flatten) (fun b ob q => Heap.get?_push_of_some _ q) (Nat.le_refl _) ?_, rfl, q c _ (I.hok.fresh (Nat.le_refl _))⟩
      rw [e0]
      exact ⟨Nat.zero_le _, [], .nil, IsTup.new _ _⟩
    · have hm : ((its.toArray.size : Nat) : Int) * k ≤ sizeLine := by
        rw [hsz0]
        have e : (k.toNat : Int) = k := Int.toNat_of_nonneg (by omega)
        rw [← e]
        exact_mod_cast hz
      have c2 : (decide (k ≤ 0) || its.toArray.isEmpty) = false := by
        rw [hi, Bool.or_false]
        exact decide_eq_false k0
      have c4 : Builtin.Tuple.tupleTooMany (((its.toArray.size : Nat) : Int) * k) = false := by
        unfold Builtin.Tuple.tupleTooMany
        exact decide_eq_false (by omega)
      have hl2 : (sizeLine : Int) ≤ (2 ^ 63 - 1) / 8 := by rw [sizeLine_eq]; decide
      refine wpAny_binaryOp_repeat_ref (T := "tuple") (U := "int") (by decide) ⟨_, ho, rfl⟩ (fun s' => typeIs_int s' k t) noFill_tuple_mul F.fills_int_mul F.slot_int_rmul repeat_tuple F.slot_int_index.lookup
        (call_meets F.slot_int_rmul (typeIs_int s k t) F.entry_int_rmul (F.args_int_rmul_2 _ _) (int_rmul_tuple k t l its.toArray n dd sl)
          ⟨ho, rfl, ⟨_, ho, rfl⟩, call_meets F.slot_tuple_mul ⟨_, ho, rfl⟩ F.entry_tuple_mul (F.args_tuple_mul_2 _ _) (tuple_mulW l its.toArray n dd sl k t c0 c1 c2 (by omega) c4 (by rw [size_rep, List.size_toArray]; exact flen)) ⟨ho, ?_⟩⟩)
      rw [size_rep]
      refine ⟨.ref s.heap.objs.size, _, I.laid (t' := s.toks) (o := .tup (List.replicate k.toNat xs).flatten) (fun b ob q => Heap.get?_push_of_some _ q) (Nat.le_refl _) ?_, rfl, q c _ (I.hok.fresh (Nat.le_refl _))⟩
      exact ⟨by rw [PyProof.Rows.lm_len_rep_flat, Nat.mul_comm]; exact hz, _, r.rep k.toNat, IsTup.new _ _⟩
end
end L2
end
section
namespace L3
open PySem L2
abbrev Ex := Evl.Ex
/-- what is seen to hold by computing is not asked -/
def gd (b : Bool) (c p : Prop) : Prop := match b with
  | true => p
  | false => c ∧ p
theorem gd_e {b : Bool} {c p : Prop} (hb : b = true → c) (h : gd b c p) : c ∧ p := match b, hb, h with
  | true, hb, h => ⟨hb rfl, h⟩
  | false, _, h => h
theorem gd_of {b : Bool} {c p : Prop} (hc : c) (hp : p) : gd b c p := match b with
  | true => hp
  | false => ⟨hc, hp⟩
def tt (b : Bool) (p : Prop) : Prop := match b with
  | true => p
  | false => False
theorem tt_e {b : Bool} {p : Prop} (h : tt b p) : b = true ∧ p := match b, h with
  | true, h => ⟨rfl, h⟩
def opK {α : Type} (o : Option α) (k : α → Prop) : Prop := match o with
  | some a => k a
  | none => False
theorem opK_e {α : Type} {o : Option α} {k : α → Prop} (h : opK o k) : ∃ a, o = some a ∧ k a := match o, h with
  | some a, h => ⟨a, rfl, h⟩
theorem opK_of {α : Type} {o : Option α} {k : α → Prop} {a : α} (e : o = some a) (h : k a) : opK o k := by subst e; exact h
def leK (n m : Nat) (p : Prop) : Prop := gd (Nat.ble n m) (n ≤ m) p
theorem leK_e {n m : Nat} {p : Prop} (h : leK n m p) : n ≤ m ∧ p := gd_e Nat.le_of_ble_eq_true h
theorem leK_of {n m : Nat} {p : Prop} (hc : n ≤ m) (hp : p) : leK n m p := gd_of hc hp
def ltK (n m : Nat) (p : Prop) : Prop := gd (Nat.ble (n + 1) m) (n < m) p
theorem ltK_e {n m : Nat} {p : Prop} (h : ltK n m p) : n < m ∧ p := gd_e Nat.le_of_ble_eq_true h
theorem ltK_of {n m : Nat} {p : Prop} (hc : n < m) (hp : p) : ltK n m p := gd_of hc hp
/-- a choice by a truth -/
def ifb (b : Bool) (p q : Prop) : Prop := match b with
  | true => p
  | false => q
theorem ifb_t {p q : Prop} (h : ifb true p q) : p := h
theorem ifb_f {p q : Prop} (h : ifb false p q) : q := h
theorem ifb_of {b : Bool} {p q : Prop} (h : b = true → p) (k : b = false → q) : ifb b p q := match b, h, k with
  | true, h, _ => h rfl
  | false, _, k => k rfl
inductive Sl where
  | un | dt (d : PyData) | ls (ds : List PyData) | dk (kvs : List (PyData × PyData)) | rs (n : Nat) | vv (v : V)
inductive Rs where
  | dt (d : PyData) | nl (ds : List PyData) | nd (kvs : List (PyData × PyData)) | br (i : Nat) | rs (n : Nat) | vv (v : V)
abbrev En := List Sl
def Sl.own : Sl → Bool
  | .ls _ => true
  | .dk _ => true
  | _ => false
def kD : Key → PyData
  | .inl i => .int i
  | .inr x => .str x
mutual
/-- what a value is, as data: lists tracked, tuples readable -/
inductive Da (K : PySem.W.Frag) (H : Hp) : V → PyData → Prop
  | non : Da K H .non .none
  | bl (b : Bool) : Da K H (.bl b) (.bool b)
  | int (i : Int) : Da K H (.int i) (.int i)
  | str (x : Str) : Da K H (.str x) (.str x)
  | lst {a : Addr} {xs : List V} {ds : List PyData} : H a = some (.lst xs) → DaAll K H xs ds → Da K H (.ref a) (.list ds)
  | tup {a : Addr} {xs : List V} {ds : List PyData} : SqT K H a xs → DaAll K H xs ds → Da K H (.ref a) (.tuple ds)
  | dct {a : Addr} {xs : List (Key × V)} {ds : List (PyData × PyData)} : H a = some (.dK xs) → DaKv K H xs ds → Da K H (.ref a) (.dict ds)
inductive DaAll (K : PySem.W.Frag) (H : Hp) : List V → List PyData → Prop
  | nil : DaAll K H [] []
  | cons {v : V} {vs : List V} {d : PyData} {ds : List PyData} : Da K H v d → DaAll K H vs ds → DaAll K H (v :: vs) (d :: ds)
inductive DaKv (K : PySem.W.Frag) (H : Hp) : List (Key × V) → List (PyData × PyData) → Prop
  | nil : DaKv K H [] []
  | cons {k : Key} {v : V} {vs : List (Key × V)} {d : PyData} {ds : List (PyData × PyData)} : Da K H v d → DaKv K H vs ds → DaKv K H ((k, v) :: vs) ((kD k, d) :: ds)
end
mutual
theorem da_mono {K : PySem.W.Frag} {F H : Hp} (e : Ex F H) : ∀ {v : V} {d : PyData}, Da K F v d → Da K H v d
  | _, _, .non => .non
  | _, _, .bl b => .bl b
  | _, _, .int i => .int i
  | _, _, .str x => .str x
  | _, _, .lst h r => .lst (e _ _ h) (daAll_mono e r)
  | _, _, .tup h r => .tup (Evl.ex_t e h) (daAll_mono e r)
  | _, _, .dct h r => .dct (e _ _ h) (daKv_mono e r)
theorem daAll_mono {K : PySem.W.Frag} {F H : Hp} (e : Ex F H) : ∀ {vs : List V} {ds : List PyData}, DaAll K F vs ds → DaAll K H vs ds
  | _, _, .nil => .nil
  | _, _, .cons h r => .cons (da_mono e h) (daAll_mono e r)
theorem daKv_mono {K : PySem.W.Frag} {F H : Hp} (e : Ex F H) : ∀ {vs : List (Key × V)} {ds : List (PyData × PyData)}, DaKv K F vs ds → DaKv K H vs ds
  | _, _, .nil => .nil
  | _, _, .cons h r => .cons (da_mono e h) (daKv_mono e r)
end
mutual
theorem Da.dp {K : PySem.W.Frag} {H : Hp} : ∀ {v : V} {d : PyData}, d.canLay0 = true → Da K H v d → Dp K H v d
  | _, _, _, .non => .non
  | _, _, _, .bl b => .bl b
  | _, _, _, .int i => .int i
  | _, _, _, .str x => .str x
  | _, _, c, .lst h r => .lst (.inl (.inl h)) (r.dp (by rwa [PyData.canLay0] at c))
  | _, _, c, .tup h r => .tup h (r.dp (by rwa [PyData.canLay0] at c))
  | _, _, c, .dct h r => by rw [PyData.canLay0] at c; cases c
theorem DaAll.dp {K : PySem.W.Frag} {H : Hp} : ∀ {vs : List V} {ds : List PyData}, PyData.canLayAll0 ds = true → DaAll K H vs ds → DpAll K H vs ds
  | _, _, _, .nil => .nil
  | _, _, c, .cons h r => by
    rw [PyData.canLayAll0, Bool.and_eq_true] at c
    exact .cons (h.dp c.1) (r.dp c.2)
end
theorem DaAll.length {K : PySem.W.Frag} {H : Hp} : ∀ {vs : List V} {ds : List PyData}, DaAll K H vs ds → vs.length = ds.length
  | _, _, .nil => rfl
  | _, _, .cons _ r => by rw [List.length_cons, List.length_cons, r.length]
theorem DaAll.append {K : PySem.W.Frag} {H : Hp} : ∀ {vs ws : List V} {ds es : List PyData}, DaAll K H vs ds → DaAll K H ws es → DaAll K H (vs ++ ws) (ds ++ es)
  | _, _, _, _, .nil, s => s
  | _, _, _, _, .cons h r, s => .cons h (r.append s)
theorem DaAll.get {K : PySem.W.Frag} {H : Hp} : ∀ {vs : List V} {ds : List PyData} {i : Nat} {d : PyData}, DaAll K H vs ds → ds[i]? = some d → ∃ v, vs[i]? = some v ∧ Da K H v d
  | _, _, _, _, .nil, e => by simp at e
  | _, _, 0, _, .cons h _, e => by simp at e; subst e; exact ⟨_, rfl, h⟩
  | _, _, i + 1, _, .cons _ r, e => by
    obtain ⟨v, h1, h2⟩ := r.get (i := i) (by simpa using e)
    exact ⟨v, by simpa using h1, h2⟩
theorem DaAll.getV {K : PySem.W.Frag} {H : Hp} : ∀ {vs : List V} {ds : List PyData} {i : Nat} {v : V}, DaAll K H vs ds → vs[i]? = some v → ∃ d, ds[i]? = some d ∧ Da K H v d
  | _, _, _, _, .nil, e => by simp at e
  | _, _, 0, _, .cons h _, e => by simp at e; subst e; exact ⟨_, rfl, h⟩
  | _, _, i + 1, _, .cons _ r, e => by
    obtain ⟨v, h1, h2⟩ := r.getV (i := i) (by simpa using e)
    exact ⟨v, by simpa using h1, h2⟩
theorem DaAll.take {K : PySem.W.Frag} {H : Hp} : ∀ {vs : List V} {ds : List PyData} (n : Nat), DaAll K H vs ds → DaAll K H (vs.take n) (ds.take n)
  | _, _, 0, _ => .nil
  | _, _, _ + 1, .nil => .nil
  | _, _, n + 1, .cons h r => .cons h (r.take n)
theorem DaAll.drop {K : PySem.W.Frag} {H : Hp} : ∀ {vs : List V} {ds : List PyData} (n : Nat), DaAll K H vs ds → DaAll K H (vs.drop n) (ds.drop n)
  | _, _, 0, r => r
  | _, _, _ + 1, .nil => .nil
  | _, _, n + 1, .cons _ r => r.drop n
theorem DaAll.set {K : PySem.W.Frag} {H : Hp} {v : V} {d : PyData} (h : Da K H v d) : ∀ {vs : List V} {ds : List PyData} (n : Nat), DaAll K H vs ds → DaAll K H (vs.set n v) (ds.set n d)
  | _, _, _, .nil => .nil
  | _, _, 0, .cons _ r => .cons h r
  | _, _, n + 1, .cons q r => .cons q (r.set h n)
theorem DaAll.erase {K : PySem.W.Frag} {H : Hp} : ∀ {vs : List V} {ds : List PyData} (n : Nat), DaAll K H vs ds → DaAll K H (vs.eraseIdx n) (ds.eraseIdx n)
  | _, _, _, .nil => .nil
  | _, _, 0, .cons _ r => r
  | _, _, n + 1, .cons q r => .cons q (r.erase n)
theorem DaAll.dropLast {K : PySem.W.Frag} {H : Hp} {vs : List V} {ds : List PyData} (h : DaAll K H vs ds) : DaAll K H vs.dropLast ds.dropLast := by
  rw [List.dropLast_eq_take, List.dropLast_eq_take, h.length]
  exact h.take _
theorem DaAll.reverse {K : PySem.W.Frag} {H : Hp} : ∀ {vs : List V} {ds : List PyData}, DaAll K H vs ds → DaAll K H vs.reverse ds.reverse
  | _, _, .nil => .nil
  | _, _, .cons h r => by
    rw [List.reverse_cons, List.reverse_cons]
    exact r.reverse.append (.cons h .nil)
theorem DaAll.rep {K : PySem.W.Frag} {H : Hp} {vs : List V} {ds : List PyData} (h : DaAll K H vs ds) : ∀ k : Nat, DaAll K H (List.replicate k vs).flatten (List.replicate k ds).flatten
  | 0 => .nil
  | k + 1 => by
    rw [List.replicate_succ, List.replicate_succ, List.flatten_cons, List.flatten_cons]
    exact h.append (h.rep k)
theorem daAll_ints {K : PySem.W.Frag} {H : Hp} : ∀ {ns : List Int} {vs : List V}, DaAll K H vs (ns.map PyData.int) → vs = ns.map V.int
  | [], _, .nil => rfl
  | n :: ns, _, .cons h r => by
    cases h
    rw [daAll_ints r]; rfl
abbrev KvAll (K : PySem.W.Frag) (F : Hp) : List (Key × V) → List (PyData × PyData) → Prop := DaKv K F
theorem kv_mono {K : PySem.W.Frag} {F H : Hp} (e : Ex F H) {ks : List (Key × V)} {ds : List (PyData × PyData)} (h : KvAll K F ks ds) : KvAll K H ks ds := daKv_mono e h
/-- an error's fields -/
def XR (K : PySem.W.Frag) (F H : Hp) (dx : Option Addr) (fs : List (Str × PyData)) : Prop :=
  (fs = [] ∧ dx = none) ∨ ∃ d vs, fs ≠ [] ∧ dx = some d ∧ H d = some (.xd vs) ∧ Paired (fun (p : Str × V) (q : Str × PyData) => p.1 = q.1 ∧ Da K F p.2 q.2) vs fs
/-- what is wanted of an error: at the slots and the heap; by data -/
abbrev WXH := Value → Option Addr → St → Hp → Prop
abbrev UX (G : Type) := Value → List (Str × PyData) → En → G → Prop
/-- what a resource is: its ghost state's cells, its names' addresses, what holds of it -/
structure Zx (K : PySem.W.Frag) (G : Type) where
  fp : G → List Addr
  ra : G → Nat → Addr
  R : G → Hp → Hp → Prop
  loc : ∀ {g F F' H H'}, R g F H → Ex F F' → (∀ a ∈ fp g, H' a = H a) → R g F' H'
  there : ∀ {g F H}, R g F H → ∀ a ∈ fp g, H a ≠ none
  W : WXH := fun _ _ _ _ => False
  U : UX G := fun _ _ _ _ => False
/-- no resource -/
def Z0 (K : PySem.W.Frag) : Zx K Unit where
  fp := fun _ => []
  ra := fun _ _ => 0
  R := fun _ _ _ => True
  loc := fun _ _ _ => trivial
  there := fun _ _ h => nomatch h
/-- with other wishes of errors -/
def Zx.wish {K : PySem.W.Frag} {G : Type} (Z : Zx K G) (W : WXH) (U : UX G) : Zx K G := { Z with W := W, U := U }
structure Fx where
  B : Hp
  F0 : Hp
  fp0 : List Addr
variable {G : Type} {K : PySem.W.Frag}
/-- the heap's side of a state -/
structure Fin (Z : Zx K G) (f : Fx) (F : Hp) (g : G) (H : Hp) : Prop where
  base : Ex f.F0 F
  sub : Ex F H
  keep : ∀ b o, f.B b = some o → b ∉ f.fp0 → H b = some o
  keepN : ∀ b, f.B b ≠ none → H b ≠ none
  new : ∀ b o, F b = some o → f.F0 b = some o ∨ f.B b = none
  res : Z.R g F H
  fpF : ∀ a ∈ Z.fp g, F a = none
  fpB : ∀ a ∈ Z.fp g, a ∈ f.fp0 ∨ f.B a = none
  fpo : ∀ a ∈ f.fp0, f.B a ≠ none
def OwnA (Z : Zx K G) (f : Fx) (F : Hp) (g : G) (a : Addr) : Prop := F a = none ∧ f.B a = none ∧ a ∉ Z.fp g
def Slo (Z : Zx K G) (f : Fx) (F : Hp) (ad : Nat → Addr) (g : G) (σ : St) (H : Hp) (i : Nat) : Sl → Prop
  | .un => True
  | .dt d => ∃ v, σ[i]? = some (some v) ∧ Da K F v d
  | .ls ds => σ[i]? = some (some (.ref (ad i))) ∧ OwnA Z f F g (ad i) ∧ ∃ vs, H (ad i) = some (.lst vs) ∧ DaAll K F vs ds
  | .dk kvs => σ[i]? = some (some (.ref (ad i))) ∧ OwnA Z f F g (ad i) ∧ ∃ vs, H (ad i) = some (.dK vs) ∧ KvAll K F vs kvs
  | .rs n => σ[i]? = some (some (.ref (Z.ra g n)))
  | .vv v => σ[i]? = some (some v)
structure Rel0 (Z : Zx K G) (f : Fx) (F : Hp) (ad : Nat → Addr) (ρ : En) (g : G) (σ : St) (H : Hp) : Prop where
  fin : Fin Z f F g H
  len : ρ.length = σ.length
  slot : ∀ i s, ρ[i]? = some s → Slo Z f F ad g σ H i s
  inj : ∀ i j s t, ρ[i]? = some s → ρ[j]? = some t → s.own = true → t.own = true → ad i = ad j → i = j
/-- an error that data wants is wanted -/
def LeX (Z : Zx K G) (f : Fx) (ra0 : Nat → Addr) : Prop := ∀ F ad ρ g σ H c dx fs, Z.ra g = ra0 → Rel0 Z f F ad ρ g σ H → XR K F H dx fs → Z.U c fs ρ g → Z.W c dx σ H
structure Rel (Z : Zx K G) (f : Fx) (F : Hp) (ad : Nat → Addr) (ρ : En) (g : G) (σ : St) (H : Hp) : Prop extends Rel0 Z f F ad ρ g σ H where
  lx : LeX Z f (Z.ra g)
/-- a new object of an expression's -/
def NewA (Z : Zx K G) (f : Fx) (F : Hp) (ad : Nat → Addr) (ρ : En) (g : G) (a : Addr) : Prop :=
  OwnA Z f F g a ∧ ∀ i s, ρ[i]? = some s → s.own = true → ad i ≠ a
def VR (Z : Zx K G) (f : Fx) (F : Hp) (ad : Nat → Addr) (ρ : En) (g : G) (σ : St) (H : Hp) (v : V) : Rs → Prop
  | .dt d => Da K F v d
  | .nl ds => ∃ a vs, v = .ref a ∧ NewA Z f F ad ρ g a ∧ H a = some (.lst vs) ∧ DaAll K F vs ds
  | .nd kvs => ∃ a vs, v = .ref a ∧ NewA Z f F ad ρ g a ∧ H a = some (.dK vs) ∧ KvAll K F vs kvs
  | .br i => σ[i]? = some (some v)
  | .rs n => v = .ref (Z.ra g n)
  | .vv u => v = u
def rdS : Option Sl → Option PyData
  | some (.dt d) => some d
  | some (.ls ds) => some (.list ds)
  | some (.dk ds) => some (.dict ds)
  | _ => none
def rd : Rs → En → Option PyData
  | .dt d, _ => some d
  | .nl ds, _ => some (.list ds)
  | .br i, ρ => rdS ρ[i]?
  | .nd ds, _ => some (.dict ds)
  | .rs _, _ => none
  | .vv _, _ => none
abbrev DT (G : Type) := En → G → (Rs → En → G → Prop) → Prop
def Post (Z : Zx K G) (f : Fx) (F : Hp) (g : G) (σ : St) (Q : Rs → En → G → Prop) (v : V) (H' : Hp) : Prop :=
  ∃ F' ad' ρ' g' r, Ex F F' ∧ Z.ra g' = Z.ra g ∧ Rel Z f F' ad' ρ' g' σ H' ∧ VR Z f F' ad' ρ' g' σ H' v r ∧ Q r ρ' g'
def Sim (Z : Zx K G) (te : TE) (t : DT G) : Prop := ∀ f F ad ρ g σ H Q, Rel Z f F ad ρ g σ H → t ρ g Q → ∀ P : VK, (∀ v H', Post Z f F g σ Q v H' → P v H') → te σ H P
structure DE (X : Cx) (Z : Zx K G) (e : Expr) (te : TE) (t : DT G) : Prop where
  pe : PE X e te
  sim : Sim Z te t
section
variable {Z : Zx K G} {f : Fx} {F F' : Hp} {ad : Nat → Addr} {ρ : En} {g : G} {σ : St} {H H' : Hp}
theorem Rel.get (R : Rel Z f F ad ρ g σ H) {i : Nat} {s : Sl} (h : ρ[i]? = some s) : Slo Z f F ad g σ H i s := R.slot i s h
theorem Fin.free (R : Fin Z f F g H) {p : Addr} (h : H p = none) : F p = none ∧ f.B p = none ∧ p ∉ Z.fp g :=
  ⟨Evl.fresh_back R.sub h, by
    cases e : f.B p with
    | none => rfl
    | some o => exact absurd h (R.keepN p (by rw [e]; intro z; cases z)), fun hm => Z.there R.res p hm h⟩
theorem Fin.own (R : Fin Z f F g H) {p : Addr} (h : H p = none) : OwnA Z f F g p := R.free h
/-- the heap changes at a cell that is neither frozen, nor of the caller's, nor of the resource -/
theorem Fin.upd (R : Fin Z f F g H) {p : Addr} {o : HO} (h : OwnA Z f F g p) : Fin Z f F g (L2.upd H p o) where
  base := R.base
  sub := Evl.Ex.mut R.sub h.1
  keep := fun b u e hb => by
    rw [upd_ne (ne_of_none e h.2.1)]
    exact R.keep b u e hb
  keepN := fun b hb => by
    by_cases e : b = p
    · subst e; rw [upd_same]; intro z; cases z
    · rw [upd_ne e]; exact R.keepN b hb
  new := R.new
  res := Z.loc R.res (fun _ _ h => h) fun a ha => upd_ne fun e => h.2.2 (by rw [← e]; exact ha)
  fpF := R.fpF
  fpB := R.fpB
  fpo := R.fpo
/-- more is frozen -/
theorem Fin.more (R : Fin Z f F g H) (e : Ex F F') (s : Ex F' H) (n : ∀ b o, F' b = some o → F b = some o ∨ OwnA Z f F g b) : Fin Z f F' g H where
  base := R.base.trans e
  sub := s
  keep := R.keep
  keepN := R.keepN
  new := fun b o h => by
    rcases n b o h with h | h
    · exact R.new b o h
    · exact .inr h.2.1
  res := Z.loc R.res e fun _ _ => rfl
  fpF := fun a ha => by
    cases q : F' a with
    | none => rfl
    | some o =>
      rcases n a o q with h | h
      · rw [R.fpF a ha] at h; cases h
      · exact absurd ha h.2.2
  fpB := R.fpB
  fpo := R.fpo
theorem Rel.laid (R : Rel Z f F ad ρ g σ H) {p : Addr} {o : HO} (h : H p = none) : Rel Z f F ad ρ g σ (L2.upd H p o) ∧ NewA Z f F ad ρ g p := by
  have hw := R.fin.own h
  have ne : ∀ i s, ρ[i]? = some s → s.own = true → ad i ≠ p := fun i s hi ho e => by
    have q := R.slot i s hi
    cases s with
    | ls ds => obtain ⟨_, _, vs, q, _⟩ := q; rw [e, h] at q; cases q
    | dk ds => obtain ⟨_, _, vs, q, _⟩ := q; rw [e, h] at q; cases q
    | _ => cases ho
  refine ⟨⟨⟨R.fin.upd hw, R.len, fun i s hi => ?_, R.inj⟩, R.lx⟩, hw, ne⟩
  have q := R.slot i s hi
  cases s with
  | ls ds => obtain ⟨q1, q2, vs, q3, q4⟩ := q; exact ⟨q1, q2, vs, by rw [upd_ne (ne i _ hi rfl)]; exact q3, q4⟩
  | dk ds => obtain ⟨q1, q2, vs, q3, q4⟩ := q; exact ⟨q1, q2, vs, by rw [upd_ne (ne i _ hi rfl)]; exact q3, q4⟩
  | _ => exact q
theorem ownA_more {a b : Addr} {o : HO} (h : OwnA Z f F g a) (ne : a ≠ b) : OwnA Z f (L2.upd F b o) g a := ⟨by rw [upd_ne ne]; exact h.1, h.2.1, h.2.2⟩
theorem Rel.froze (R : Rel Z f F ad ρ g σ H) {p : Addr} {o : HO} (h : NewA Z f F ad ρ g p) (ho : H p = some o) : Rel Z f (L2.upd F p o) ad ρ g σ H ∧ Ex F (L2.upd F p o) := by
  have e : Ex F (L2.upd F p o) := Evl.Ex.new h.1.1
  refine ⟨⟨⟨R.fin.more e (fun b u hb => ?_) (fun b u hb => ?_), R.len, fun i s hi => ?_, R.inj⟩, R.lx⟩, e⟩
  · by_cases q : b = p
    · subst q; rw [upd_same] at hb; cases hb; exact ho
    · rw [upd_ne q] at hb; exact R.fin.sub b u hb
  · by_cases q : b = p
    · subst q; exact .inr h.1
    · rw [upd_ne q] at hb; exact .inl hb
  · have q := R.slot i s hi
    cases s with
    | dt d => obtain ⟨v, q1, q2⟩ := q; exact ⟨v, q1, da_mono e q2⟩
    | ls ds => obtain ⟨q1, q2, vs, q3, q4⟩ := q; exact ⟨q1, ownA_more q2 (h.2 i _ hi rfl), vs, q3, daAll_mono e q4⟩
    | dk ds => obtain ⟨q1, q2, vs, q3, q4⟩ := q; exact ⟨q1, ownA_more q2 (h.2 i _ hi rfl), vs, q3, kv_mono e q4⟩
    | _ => exact q
def adS (ad : Nat → Addr) (i : Nat) (a : Addr) : Nat → Addr := fun j => if j = i then a else ad j
theorem adS_same {ad : Nat → Addr} {i : Nat} {a : Addr} : adS ad i a i = a := if_pos rfl
theorem adS_ne {ad : Nat → Addr} {i j : Nat} {a : Addr} (h : j ≠ i) : adS ad i a j = ad j := if_neg h
/-- a slot is set -/
theorem Rel.setSl (R : Rel Z f F ad ρ g σ H) {i : Nat} {v : V} {s : Sl} {a : Addr} (hs : Slo Z f F (adS ad i a) g (σ.set i (some v)) H i s)
    (hn : s.own = true → ∀ j t, ρ[j]? = some t → t.own = true → j ≠ i → ad j ≠ a) : Rel Z f F (adS ad i a) (ρ.set i s) g (σ.set i (some v)) H where
  lx := R.lx
  fin := R.fin
  len := by rw [List.length_set, List.length_set]; exact R.len
  slot := fun j t hj => by
    by_cases e : i = j
    · subst e
      have hi : i < ρ.length := by
        have := (List.getElem?_eq_some_iff.mp hj).1
        rwa [List.length_set] at this
      rw [List.getElem?_set_self hi] at hj
      cases hj
      exact hs
    · rw [List.getElem?_set_ne e] at hj
      have q := R.slot j t hj
      have e2 : adS ad i a j = ad j := adS_ne fun z => e z.symm
      cases t with
      | un => trivial
      | dt d => obtain ⟨w, q1, q2⟩ := q; exact ⟨w, by rw [List.getElem?_set_ne e]; exact q1, q2⟩
      | ls ds =>
        obtain ⟨q1, q2, vs, q3, q4⟩ := q
        exact ⟨by rw [e2, List.getElem?_set_ne e]; exact q1, by rw [e2]; exact q2, vs, by rw [e2]; exact q3, q4⟩
      | dk ds =>
        obtain ⟨q1, q2, vs, q3, q4⟩ := q
        exact ⟨by rw [e2, List.getElem?_set_ne e]; exact q1, by rw [e2]; exact q2, vs, by rw [e2]; exact q3, q4⟩
      | rs n => unfold Slo at q ⊢; rw [List.getElem?_set_ne e]; exact q
      | vv u => unfold Slo at q ⊢; rw [List.getElem?_set_ne e]; exact q
  inj := fun j k t u hj hk ht hu he => by
    by_cases e : i = j
    · by_cases e2 : i = k
      · rw [← e, ← e2]
      · subst e
        have hi : i < ρ.length := by
          have := (List.getElem?_eq_some_iff.mp hj).1
          rwa [List.length_set] at this
        rw [List.getElem?_set_self hi] at hj; cases hj
        rw [List.getElem?_set_ne e2] at hk
        have e3 : ¬ k = i := fun z => e2 z.symm
        rw [adS_same, adS_ne e3] at he
        exact absurd he.symm (hn ht k u hk hu e3)
    · by_cases e2 : i = k
      · subst e2
        have hi : i < ρ.length := by
          have := (List.getElem?_eq_some_iff.mp hk).1
          rwa [List.length_set] at this
        rw [List.getElem?_set_self hi] at hk; cases hk
        rw [List.getElem?_set_ne e] at hj
        have e3 : ¬ j = i := fun z => e z.symm
        rw [adS_same, adS_ne e3] at he
        exact absurd he (hn hu j t hj ht e3)
      · rw [List.getElem?_set_ne e] at hj
        rw [List.getElem?_set_ne e2] at hk
        have e3 : ¬ j = i := fun z => e z.symm
        have e4 : ¬ k = i := fun z => e2 z.symm
        rw [adS_ne e3, adS_ne e4] at he
        exact R.inj j k t u hj hk ht hu he
/-- the own list or dict in slot i is written -/
theorem Rel.wrote (R : Rel Z f F ad ρ g σ H) {i : Nat} {s s' : Sl} {o : HO} (hi : ρ[i]? = some s) (ho : s.own = true) (hs : Slo Z f F ad g σ (L2.upd H (ad i) o) i s') : Rel Z f F ad (ρ.set i s') g σ (L2.upd H (ad i) o) := by
  have hw : OwnA Z f F g (ad i) := by
    have q := R.slot i s hi
    cases s with
    | ls ds => exact q.2.1
    | dk ds => exact q.2.1
    | _ => cases ho
  have hl : i < ρ.length := (List.getElem?_eq_some_iff.mp hi).1
  refine ⟨⟨R.fin.upd hw, by rw [List.length_set]; exact R.len, fun j t hj => ?_, fun j k t u hj hk ht hu he => ?_⟩, R.lx⟩
  · by_cases e : i = j
    · subst e
      rw [List.getElem?_set_self hl] at hj; cases hj
      exact hs
    · rw [List.getElem?_set_ne e] at hj
      have q := R.slot j t hj
      cases t with
      | ls ds =>
        obtain ⟨q1, q2, vs, q3, q4⟩ := q
        exact ⟨q1, q2, vs, by rw [upd_ne fun z => e (R.inj i j s _ hi hj ho rfl z.symm)]; exact q3, q4⟩
      | dk ds =>
        obtain ⟨q1, q2, vs, q3, q4⟩ := q
        exact ⟨q1, q2, vs, by rw [upd_ne fun z => e (R.inj i j s _ hi hj ho rfl z.symm)]; exact q3, q4⟩
      | _ => exact q
  · have own : ∀ {m : Nat} {x : Sl}, (ρ.set i s')[m]? = some x → x.own = true → ∃ y, ρ[m]? = some y ∧ y.own = true := fun {m x} hm hx => by
      by_cases e : i = m
      · subst e; exact ⟨s, hi, ho⟩
      · rw [List.getElem?_set_ne e] at hm; exact ⟨x, hm, hx⟩
    obtain ⟨y, y1, y2⟩ := own hj ht
    obtain ⟨z, z1, z2⟩ := own hk hu
    exact R.inj j k y z y1 z1 y2 z2 he
/-- a borrowed or held value as data, now -/
theorem Rel.hrd (R : Rel Z f F ad ρ g σ H) {v : V} {r : Rs} {d : PyData} (h : VR Z f F ad ρ g σ H v r) (e : rd r ρ = some d) : Da K H v d := by
  cases r with
  | dt d' => cases e; exact da_mono R.fin.sub h
  | nl ds => obtain ⟨a, vs, rfl, _, h1, h2⟩ := h; cases e; exact .lst h1 (daAll_mono R.fin.sub h2)
  | br i =>
    have e1 : rdS ρ[i]? = some d := e
    cases hi : ρ[i]? with
    | none => rw [hi] at e1; cases e1
    | some s =>
      rw [hi] at e1
      have q := R.slot i _ hi
      cases s with
      | dt d' =>
        cases e1
        obtain ⟨w, q1, q2⟩ := q
        have z : some (some w) = some (some v) := q1.symm.trans h
        cases z
        exact da_mono R.fin.sub q2
      | ls ds =>
        cases e1
        obtain ⟨q1, _, vs, q3, q4⟩ := q
        have z : some (some (V.ref (ad i))) = some (some v) := q1.symm.trans h
        cases z
        exact .lst q3 (daAll_mono R.fin.sub q4)
      | dk ds =>
        cases e1
        obtain ⟨q1, _, vs, q3, q4⟩ := q
        have z : some (some (V.ref (ad i))) = some (some v) := q1.symm.trans h
        cases z
        exact .dct q3 (daKv_mono R.fin.sub q4)
      | _ => cases e1
  | nd kvs => obtain ⟨a, vs, rfl, _, h1, h2⟩ := h; cases e; exact .dct h1 (daKv_mono R.fin.sub h2)
  | rs n => cases e
  | vv u => cases e
def st : Rs → Rs
  | .nl ds => .dt (.list ds)
  | .dt d => .dt d
  | .nd ds => .dt (.dict ds)
  | .br i => .br i
  | .rs n => .rs n
  | .vv v => .vv v
def fzS (ρ : En) (i : Nat) : Option Sl → Option (PyData × En)
  | some (.dt d) => some (d, ρ)
  | some (.ls ds) => some (.list ds, ρ.set i (.dt (.list ds)))
  | some (.dk ds) => some (.dict ds, ρ.set i (.dt (.dict ds)))
  | _ => none
def fz : Rs → En → Option (PyData × En)
  | .dt d, ρ => some (d, ρ)
  | .nl ds, ρ => some (.list ds, ρ)
  | .br i, ρ => fzS ρ i ρ[i]?
  | .nd ds, ρ => some (.dict ds, ρ)
  | .rs _, _ => none
  | .vv _, _ => none
theorem newA_list {v : V} {ds : List PyData} (R : Rel Z f F ad ρ g σ H) (h : VR Z f F ad ρ g σ H v (.nl ds)) : ∃ F', Ex F F' ∧ Rel Z f F' ad ρ g σ H ∧ Da K F' v (.list ds) := by
  obtain ⟨a, vs, rfl, n, h1, h2⟩ := h
  obtain ⟨R', e⟩ := R.froze n h1
  exact ⟨_, e, R', .lst upd_same (daAll_mono e h2)⟩
theorem newA_dict {v : V} {ds : List (PyData × PyData)} (R : Rel Z f F ad ρ g σ H) (h : VR Z f F ad ρ g σ H v (.nd ds)) : ∃ F', Ex F F' ∧ Rel Z f F' ad ρ g σ H ∧ Da K F' v (.dict ds) := by
  obtain ⟨a, vs, rfl, n, h1, h2⟩ := h
  obtain ⟨R', e⟩ := R.froze n h1
  exact ⟨_, e, R', .dct upd_same (daKv_mono e h2)⟩
theorem Rel.hst {v : V} {r : Rs} (R : Rel Z f F ad ρ g σ H) (h : VR Z f F ad ρ g σ H v r) : ∃ F', Ex F F' ∧ Rel Z f F' ad ρ g σ H ∧ VR Z f F' ad ρ g σ H v (st r) := by
  cases r with
  | nl ds => exact newA_list R h
  | dt d => exact ⟨F, Evl.Ex.refl F, R, h⟩
  | nd d => exact newA_dict R h
  | br d => exact ⟨F, Evl.Ex.refl F, R, h⟩
  | rs d => exact ⟨F, Evl.Ex.refl F, R, h⟩
  | vv d => exact ⟨F, Evl.Ex.refl F, R, h⟩
/-- an own object in a slot is frozen there -/
theorem Rel.fzOwnG (R : Rel Z f F ad ρ g σ H) {i : Nat} {s : Sl} {o : HO} {d : PyData} (hi : ρ[i]? = some s) (hs : s.own = true) (q1 : σ[i]? = some (some (.ref (ad i)))) (q2 : OwnA Z f F g (ad i)) (q3 : H (ad i) = some o)
    (dl : ∀ F', F' = L2.upd F (ad i) o → Ex F F' → Da K F' (.ref (ad i)) d) : ∃ F', Ex F F' ∧ Rel Z f F' ad (ρ.set i (.dt d)) g σ H ∧ Da K F' (.ref (ad i)) d := by
  have e : Ex F (L2.upd F (ad i) o) := Evl.Ex.new q2.1
  have hl : i < ρ.length := (List.getElem?_eq_some_iff.mp hi).1
  replace dl := dl _ rfl e
  refine ⟨_, e, ⟨⟨R.fin.more e (fun b u hb => ?_) (fun b u hb => ?_), by rw [List.length_set]; exact R.len, fun j t hj => ?_, fun j k t u hj hk ht hu he => ?_⟩, R.lx⟩, dl⟩
  · by_cases q : b = ad i
    · subst q; rw [upd_same] at hb; cases hb; exact q3
    · rw [upd_ne q] at hb; exact R.fin.sub b u hb
  · by_cases q : b = ad i
    · subst q; exact .inr q2
    · rw [upd_ne q] at hb; exact .inl hb
  · by_cases z : i = j
    · subst z
      rw [List.getElem?_set_self hl] at hj; cases hj
      exact ⟨_, q1, dl⟩
    · rw [List.getElem?_set_ne z] at hj
      have q := R.slot j t hj
      cases t with
      | dt d => obtain ⟨v, q1, q2⟩ := q; exact ⟨v, q1, da_mono e q2⟩
      | ls ds => obtain ⟨q1, q2, vs, q3, q4⟩ := q; exact ⟨q1, ownA_more q2 (fun y => z (R.inj i j _ _ hi hj hs rfl y.symm)), vs, q3, daAll_mono e q4⟩
      | dk ds => obtain ⟨q1, q2, vs, q3, q4⟩ := q; exact ⟨q1, ownA_more q2 (fun y => z (R.inj i j _ _ hi hj hs rfl y.symm)), vs, q3, kv_mono e q4⟩
      | _ => exact q
  · have own : ∀ {m : Nat} {x : Sl}, (ρ.set i (.dt d))[m]? = some x → x.own = true → ρ[m]? = some x := fun {m x} hm hx => by
      by_cases z : i = m
      · subst z; rw [List.getElem?_set_self hl] at hm; cases hm; cases hx
      · rw [List.getElem?_set_ne z] at hm; exact hm
    exact R.inj j k t u (own hj ht) (own hk hu) ht hu he
theorem Rel.fzOwn (R : Rel Z f F ad ρ g σ H) {i : Nat} {ds : List PyData} (hi : ρ[i]? = some (.ls ds)) : ∃ F', Ex F F' ∧ Rel Z f F' ad (ρ.set i (.dt (.list ds))) g σ H ∧ Da K F' (.ref (ad i)) (.list ds) := by
  obtain ⟨q1, q2, vs, q3, q4⟩ := R.slot i _ hi
  exact R.fzOwnG hi rfl q1 q2 q3 fun F' eF e => .lst (by rw [eF]; exact upd_same) (daAll_mono e q4)
theorem Rel.fzOwnD (R : Rel Z f F ad ρ g σ H) {i : Nat} {ds : List (PyData × PyData)} (hi : ρ[i]? = some (.dk ds)) : ∃ F', Ex F F' ∧ Rel Z f F' ad (ρ.set i (.dt (.dict ds))) g σ H ∧ Da K F' (.ref (ad i)) (.dict ds) := by
  obtain ⟨q1, q2, vs, q3, q4⟩ := R.slot i _ hi
  exact R.fzOwnG hi rfl q1 q2 q3 fun F' eF e => .dct (by rw [eF]; exact upd_same) (daKv_mono e q4)
theorem Rel.hfz {v : V} {r : Rs} {d : PyData} {ρ' : En} (R : Rel Z f F ad ρ g σ H) (h : VR Z f F ad ρ g σ H v r) (e : fz r ρ = some (d, ρ')) : ∃ F', Ex F F' ∧ Rel Z f F' ad ρ' g σ H ∧ Da K F' v d := by
  cases r with
  | dt d' => cases e; exact ⟨F, Evl.Ex.refl F, R, h⟩
  | nl ds => cases e; exact newA_list R h
  | br i =>
    have e1 : fzS ρ i ρ[i]? = some (d, ρ') := e
    cases hi : ρ[i]? with
    | none => rw [hi] at e1; cases e1
    | some s =>
      rw [hi] at e1
      have q := R.slot i _ hi
      cases s with
      | dt d' =>
        cases e1
        obtain ⟨w, q1, q2⟩ := q
        have z : some (some w) = some (some v) := q1.symm.trans h
        cases z
        exact ⟨F, Evl.Ex.refl F, R, q2⟩
      | ls ds =>
        cases e1
        obtain ⟨F', e, R', dl⟩ := R.fzOwn hi
        have z : some (some (V.ref (ad i))) = some (some v) := q.1.symm.trans h
        cases z
        exact ⟨F', e, R', dl⟩
      | dk ds =>
        cases e1
        obtain ⟨F', e, R', dl⟩ := R.fzOwnD hi
        have z : some (some (V.ref (ad i))) = some (some v) := q.1.symm.trans h
        cases z
        exact ⟨F', e, R', dl⟩
      | _ => cases e1
  | nd ds => cases e; exact newA_dict R h
  | _ => cases e
theorem Post.mono {F1 : Hp} {g1 : G} {Q : Rs → En → G → Prop} {v : V} {H' : Hp} (e : Ex F F1) (eg : Z.ra g1 = Z.ra g) (h : Post Z f F1 g1 σ Q v H') : Post Z f F g σ Q v H' := by
  obtain ⟨F', ad', ρ', g', r, h1, h2, h3⟩ := h
  exact ⟨F', ad', ρ', g', r, e.trans h1, h2.trans eg, h3⟩
/-- a settled value is held through what comes -/
theorem VR.held {F1 : Hp} {ad1 : Nat → Addr} {ρ1 : En} {g1 : G} {H1 : Hp} {v : V} {r : Rs} (h : VR Z f F ad ρ g σ H v (st r)) (e : Ex F F1) (eg : Z.ra g1 = Z.ra g) : VR Z f F1 ad1 ρ1 g1 σ H1 v (st r) := by
  cases r with
  | nl ds => exact da_mono e h
  | dt d => exact da_mono e h
  | nd d => exact da_mono e h
  | br i => exact h
  | rs n => exact h.trans (by rw [eg])
  | vv u => exact h
end
end L3
end
section
namespace L3
open PySem L2
variable {G : Type} {K : PySem.W.Frag} {X : Cx} {Z : Zx K G}
def dC (d : PyData) : DT G := fun ρ g Q => Q (.dt d) ρ g
def dVarS (i : Nat) (ρ : En) (g : G) (Q : Rs → En → G → Prop) : Option Sl → Prop
  | some (.dt d) => Q (.dt d) ρ g
  | some (.ls _) => Q (.br i) ρ g
  | some (.dk _) => Q (.br i) ρ g
  | some (.rs n) => Q (.rs n) ρ g
  | some (.vv v) => Q (.vv v) ρ g
  | _ => False
def dVar (i : Nat) : DT G := fun ρ g Q => dVarS i ρ g Q ρ[i]?
section
variable {f : Fx} {F F' : Hp} {ad : Nat → Addr} {ρ : En} {g : G} {σ : St} {H H' : Hp}
theorem Rel.post {v : V} {r : Rs} {Q : Rs → En → G → Prop} (R : Rel Z f F ad ρ g σ H) (h : VR Z f F ad ρ g σ H v r) (q : Q r ρ g) : Post Z f F g σ Q v H :=
  ⟨F, ad, ρ, g, r, Evl.Ex.refl F, rfl, R, h, q⟩
end
theorem sim_c {v : V} {d : PyData} (h : ∀ F, Da K F v d) : Sim Z (tC v) (dC d) := fun f F ad ρ g σ H Q R q P hP => hP v H (R.post (r := .dt d) (h F) q)
theorem sim_var {i : Nat} : Sim Z (tVar i) (dVar i) := fun f F ad ρ g σ H Q R q P hP => by
  have q' : dVarS i ρ g Q ρ[i]? := q
  cases hi : ρ[i]? with
  | none => rw [hi] at q'; cases q'
  | some s =>
    rw [hi] at q'
    have z := R.slot i _ hi
    cases s with
    | un => cases q'
    | dt d => obtain ⟨v, z1, z2⟩ := z; exact ⟨v, z1, hP v H (R.post (r := .dt d) z2 q')⟩
    | ls d => obtain ⟨z1, z2⟩ := z; exact ⟨_, z1, hP _ H (R.post (r := .br i) z1 q')⟩
    | dk d => obtain ⟨z1, z2⟩ := z; exact ⟨_, z1, hP _ H (R.post (r := .br i) z1 q')⟩
    | rs n => exact ⟨_, z, hP _ H (R.post (r := .rs n) rfl q')⟩
    | vv v => exact ⟨_, z, hP _ H (R.post (r := .vv v) rfl q')⟩
theorem e_int {i : Int} {j pos} : DE X Z (.Constant (.int i) j pos) (tC (.int i)) (dC (.int i)) := ⟨pe_int, sim_c fun _ => .int i⟩
theorem e_bl {b : Bool} {j pos} : DE X Z (.Constant (.bool b) j pos) (tC (.bl b)) (dC (.bool b)) := ⟨pe_bl, sim_c fun _ => .bl b⟩
theorem e_non {j pos} : DE X Z (.Constant .none j pos) (tC .non) (dC .none) := ⟨pe_non, sim_c fun _ => .non⟩
theorem e_str {x : Str} {j pos} : DE X Z (.Constant (.str x) j pos) (tC (.str x)) (dC (.str x)) := ⟨pe_str, sim_c fun _ => .str x⟩
theorem e_v (i : Nat) {x : Str} {pos : Pos} (hN : X.N[i]? = some x := by rfl) (hv : Vis X.env.scope x := by first | exact Or.inl rfl | exact Or.inr (Or.inl rfl) | exact Or.inr (Or.inr rfl)) (hd : (x == ("__debug__" : Str)) = false := by decide)
    (hcd : (x == ("__classdict__" : Str)) = false := by decide) : DE X Z (.Name x pos) (tVar i) (dVar i) := ⟨pe_var hN hv hd hcd, sim_var⟩
abbrev RO (G : Type) := Rs → Rs → En → G → (Rs → En → G → Prop) → Prop
abbrev RU (G : Type) := Rs → En → G → (Rs → En → G → Prop) → Prop
def SimO (Z : Zx K G) (r : R2) (o : RO G) : Prop := ∀ f F ad ρ g σ H x y r1 r2 Q, Rel Z f F ad ρ g σ H → VR Z f F ad ρ g σ H x r1 → VR Z f F ad ρ g σ H y r2 → o r1 r2 ρ g Q →
  ∀ P : VK, (∀ v H', Post Z f F g σ Q v H' → P v H') → r x y H P
def SimU (Z : Zx K G) (r : V → Hp → VK → Prop) (o : RU G) : Prop := ∀ f F ad ρ g σ H x r1 Q, Rel Z f F ad ρ g σ H → VR Z f F ad ρ g σ H x r1 → o r1 ρ g Q →
  ∀ P : VK, (∀ v H', Post Z f F g σ Q v H' → P v H') → r x H P
/-- not a dict that is being made -/
def ifh (_ : Rs) (p : Prop) : Prop := p
theorem ifh_of {r : Rs} {p : Prop} (h : ifh r p) : p := h
def dOp (o : RO G) (a b : DT G) : DT G := fun ρ g Q => a ρ g fun r1 ρ1 g1 => ifh r1 (b ρ1 g1 fun r2 ρ2 g2 => o (st r1) r2 ρ2 g2 Q)
def dUn (o : RU G) (a : DT G) : DT G := fun ρ g Q => a ρ g fun r1 ρ1 g1 => o r1 ρ1 g1 Q
theorem sim_op {r : R2} {o : RO G} {ta tb : TE} {a b : DT G} (ho : SimO Z r o) (ha : Sim Z ta a) (hb : Sim Z tb b) : Sim Z (tOp r ta tb) (dOp o a b) := fun f F ad ρ g σ H Q R h P hP => by
  refine ha f F ad ρ g σ H _ R h _ fun x H1 q => ?_
  obtain ⟨F1, ad1, ρ1, g1, r1, e1, eg1, R1, v1, q⟩ := q
  replace q := ifh_of q
  obtain ⟨F1', e1', R1', v1'⟩ := R1.hst v1
  refine hb f F1' ad1 ρ1 g1 σ H1 _ R1' q _ fun y H2 q2 => ?_
  obtain ⟨F2, ad2, ρ2, g2, r2, e2, eg2, R2, v2, q⟩ := q2
  exact ho f F2 ad2 ρ2 g2 σ H2 x y (st r1) r2 Q R2 (v1'.held e2 eg2) v2 q P fun v H' hp => hP v H' (hp.mono ((e1.trans e1').trans e2) (eg2.trans eg1))
theorem sim_un {r : V → Hp → VK → Prop} {o : RU G} {ta : TE} {a : DT G} (ho : SimU Z r o) (ha : Sim Z ta a) : Sim Z (tUn r ta) (dUn o a) := fun f F ad ρ g σ H Q R h P hP => by
  refine ha f F ad ρ g σ H _ R h _ fun x H1 q => ?_
  obtain ⟨F1, ad1, ρ1, g1, r1, e1, eg1, R1, v1, q⟩ := q
  exact ho f F1 ad1 ρ1 g1 σ H1 x r1 Q R1 v1 q P fun v H' hp => hP v H' (hp.mono e1 eg1)
theorem e_op {op : Operator} {r : R2} {o : RO G} {ea eb : Expr} {ta tb : TE} {a b : DT G} {pos : Pos} (ho : OpR X (binaryOp op) r ∧ SimO Z r o) (ha : DE X Z ea ta a) (hb : DE X Z eb tb b) : DE X Z (.BinOp ea op eb pos) (tOp r ta tb) (dOp o a b) :=
  ⟨pe_op ho.1 ha.pe hb.pe, sim_op ho.2 ha.sim hb.sim⟩
theorem e_un {op : UnaryOp} {r : V → Hp → VK → Prop} {o : RU G} {ea : Expr} {ta : TE} {a : DT G} {pos : Pos} (ho : UnR X (unaryOp op) r ∧ SimU Z r o) (ha : DE X Z ea ta a) : DE X Z (.UnaryOp op ea pos) (tUn r ta) (dUn o a) :=
  ⟨pe_un ho.1 ha.pe, sim_un ho.2 ha.sim⟩
section
variable {f : Fx} {F F' : Hp} {ad : Nat → Addr} {ρ : En} {g : G} {σ : St} {H H' : Hp} {Q : Rs → En → G → Prop}
theorem Rel.dat (R : Rel Z f F ad ρ g σ H) {v : V} {d : PyData} (h : Da K F v d) (q : Q (.dt d) ρ g) : Post Z f F g σ Q v H := R.post (r := .dt d) h q
theorem Rel.newL (R : Rel Z f F ad ρ g σ H) {p : Addr} {vs : List V} {ds : List PyData} (hp : H p = none) (h : DaAll K F vs ds) (q : Q (.nl ds) ρ g) : Post Z f F g σ Q (.ref p) (upd H p (.lst vs)) := by
  obtain ⟨R', n⟩ := R.laid (o := .lst vs) hp
  exact ⟨F, ad, ρ, g, .nl ds, Evl.Ex.refl F, rfl, R', ⟨p, vs, rfl, n, upd_same, h⟩, q⟩
theorem Rel.newT (R : Rel Z f F ad ρ g σ H) {p : Addr} {vs : List V} {ds : List PyData} (hp : H p = none) (h : DaAll K F vs ds) (q : Q (.dt (.tuple ds)) ρ g) : Post Z f F g σ Q (.ref p) (upd H p (.tup vs)) := by
  obtain ⟨R', n⟩ := R.laid (o := .tup vs) hp
  obtain ⟨R2, e⟩ := R'.froze n upd_same
  exact ⟨_, ad, ρ, g, .dt (.tuple ds), e, rfl, R2, .tup (.inl (.inl upd_same)) (daAll_mono e h), q⟩
/-- the items of a list or tuple that is held, as frozen -/
theorem Rel.items (R : Rel Z f F ad ρ g σ H) {v : V} {r : Rs} {ds : List PyData} (h : VR Z f F ad ρ g σ H v r) (e : rd r ρ = some (.list ds)) : ∃ a vs, v = .ref a ∧ H a = some (.lst vs) ∧ DaAll K F vs ds := by
  cases r with
  | dt d => cases e; cases h; rename_i a vs h1 h2; exact ⟨a, vs, rfl, R.fin.sub _ _ h1, h2⟩
  | nl ds => obtain ⟨a, vs, rfl, _, h1, h2⟩ := h; cases e; exact ⟨a, vs, rfl, h1, h2⟩
  | br i =>
    have e1 : rdS ρ[i]? = some (.list ds) := e
    cases hi : ρ[i]? with
    | none => rw [hi] at e1; cases e1
    | some s =>
      rw [hi] at e1
      have q := R.slot i _ hi
      cases s with
      | dt d' =>
        cases e1
        obtain ⟨w, q1, q2⟩ := q
        have z : some (some w) = some (some v) := q1.symm.trans h
        cases z
        cases q2
        rename_i a vs h1 h2
        exact ⟨a, vs, rfl, R.fin.sub _ _ h1, h2⟩
      | ls ds =>
        cases e1
        obtain ⟨q1, _, vs, q3, q4⟩ := q
        have z : some (some (V.ref (ad i))) = some (some v) := q1.symm.trans h
        cases z
        exact ⟨_, vs, rfl, q3, q4⟩
      | _ => cases e1
  | _ => cases e
theorem Rel.titems (R : Rel Z f F ad ρ g σ H) {v : V} {r : Rs} {ds : List PyData} (h : VR Z f F ad ρ g σ H v r) (e : rd r ρ = some (.tuple ds)) : ∃ a vs, v = .ref a ∧ SqT K F a vs ∧ DaAll K F vs ds := by
  cases r with
  | dt d => cases e; cases h; rename_i a vs h1 h2; exact ⟨a, vs, rfl, h1, h2⟩
  | br i =>
    have e1 : rdS ρ[i]? = some (.tuple ds) := e
    cases hi : ρ[i]? with
    | none => rw [hi] at e1; cases e1
    | some s =>
      rw [hi] at e1
      have q := R.slot i _ hi
      cases s with
      | dt d' =>
        cases e1
        obtain ⟨w, q1, q2⟩ := q
        have z : some (some w) = some (some v) := q1.symm.trans h
        cases z
        cases q2
        rename_i a vs h1 h2
        exact ⟨a, vs, rfl, h1, h2⟩
      | _ => cases e1
  | _ => cases e
theorem Rel.rInt (R : Rel Z f F ad ρ g σ H) {v : V} {r : Rs} {i : Int} (h : VR Z f F ad ρ g σ H v r) (e : rd r ρ = some (.int i)) : v = .int i := by
  have := R.hrd h e
  cases this; rfl
theorem Rel.rStr (R : Rel Z f F ad ρ g σ H) {v : V} {r : Rs} {i : Str} (h : VR Z f F ad ρ g σ H v r) (e : rd r ρ = some (.str i)) : v = .str i := by
  have := R.hrd h e
  cases this; rfl
theorem Rel.rBool (R : Rel Z f F ad ρ g σ H) {v : V} {r : Rs} {i : Bool} (h : VR Z f F ad ρ g σ H v r) (e : rd r ρ = some (.bool i)) : v = .bl i := by
  have := R.hrd h e
  cases this; rfl
theorem Rel.rNone (R : Rel Z f F ad ρ g σ H) {v : V} {r : Rs} (h : VR Z f F ad ρ g σ H v r) (e : rd r ρ = some .none) : v = .non := by
  have := R.hrd h e
  cases this; rfl
end
/-- a list made of two -/
def lim : Nat := 16777216
def addD (ρ : En) (g : G) (Q : Rs → En → G → Prop) : Option PyData → Option PyData → Prop
  | some (.int i), some (.int j) => Q (.dt (.int (i + j))) ρ g
  | some (.str x), some (.str y) => leK (x.length + y.length) 16777216 (Q (.dt (.str (x ++ y))) ρ g)
  | some (.list xs), some (.list ys) => leK (xs.length + ys.length) 16777216 (Q (.nl (xs ++ ys)) ρ g)
  | some (.tuple xs), some (.tuple ys) => leK (xs.length + ys.length) 16777216 (Q (.dt (.tuple (xs ++ ys))) ρ g)
  | _, _ => False
def oAdd : RO G := fun r1 r2 ρ g Q => addD ρ g Q (rd r1 ρ) (rd r2 ρ)
def rAddX (K : PySem.W.Frag) : R2 := fun x y H Q => rI0 (fun i j => .int (i + j)) x y H Q ∨ ((∃ i j, x = .str i ∧ y = .str j ∧ i.length + j.length ≤ sizeLine ∧ Q (.str (i ++ j)) H) ∨ (rCat x y H Q ∨ rCatA K x y H Q))
theorem tup_nil_r {K : PySem.W.Frag} {F : Hp} {xs : List V} {ds : List PyData} (h : DaAll K F xs ds) : xs = [] ↔ ds = [] := by
  cases h <;> simp
theorem sim_add : SimO Z (rAddX K) (oAdd (G := G)) := fun f F ad ρ g σ H x y r1 r2 Q R h1 h2 q P hP => by
  have q' : addD ρ g Q (rd r1 ρ) (rd r2 ρ) := q
  unfold addD at q'
  split at q'
  · rename_i i j e1 e2
    exact .inl ⟨i, j, R.rInt h1 e1, R.rInt h2 e2, hP _ _ (R.dat (.int _) q')⟩
  · rename_i i j e1 e2
    replace q' := leK_e q'
    exact .inr (.inl ⟨i, j, R.rStr h1 e1, R.rStr h2 e2, by rw [sizeLine_eq]; exact q'.1, hP _ _ (R.dat (.str _) q'.2)⟩)
  · rename_i xs ys e1 e2
    replace q' := leK_e q'
    obtain ⟨a, vs, rfl, ha, da⟩ := R.items h1 e1
    obtain ⟨b, ws, rfl, hb, db⟩ := R.items h2 e2
    exact .inr (.inr (.inl ⟨a, b, vs, ws, rfl, rfl, ha, hb, by rw [sizeLine_eq, da.length, db.length]; exact q'.1, fun p hp => hP _ _ (R.newL hp (da.append db) q'.2)⟩))
  · rename_i xs ys e1 e2
    replace q' := leK_e q'
    obtain ⟨a, vs, rfl, ha, da⟩ := R.titems h1 e1
    obtain ⟨b, ws, rfl, hb, db⟩ := R.titems h2 e2
    refine .inr (.inr (.inr ⟨a, b, vs, ws, rfl, rfl, Evl.ex_t R.fin.sub ha, Evl.ex_t R.fin.sub hb, by rw [sizeLine_eq, da.length, db.length]; exact q'.1, fun e => ?_, fun _ e => ?_, fun _ _ p hp => hP _ _ (R.newT hp (da.append db) q'.2)⟩))
    · refine hP _ _ (R.dat ?_ q'.2)
      rw [(tup_nil_r da).mp e]
      exact .tup hb db
    · refine hP _ _ (R.dat ?_ q'.2)
      rw [(tup_nil_r db).mp e, List.append_nil]
      exact .tup ha da
  · cases q'
theorem op_addX {K : PySem.W.Frag} (hK : K = X.K := by rfl) : OpR X (binaryOp .Add) (rAddX K) := by
  subst hK
  exact op_add.or (op_add_str.or (op_cat.or op_catA))
end L3
end
section
namespace L3
open PySem L2
variable {G : Type} {K : PySem.W.Frag} {X : Cx} {Z : Zx K G}
def ii (k : Int → Int → Prop) : Option PyData → Option PyData → Prop
  | some (.int i), some (.int j) => k i j
  | _, _ => False
theorem ii_of {k : Int → Int → Prop} {a b : Option PyData} (h : ii k a b) : ∃ i j, a = some (.int i) ∧ b = some (.int j) ∧ k i j := by
  unfold ii at h
  split at h
  · exact ⟨_, _, rfl, rfl, h⟩
  · cases h
def oI (C : Int → Int → Prop) (g' : Int → Int → PyData) : RO G := fun r1 r2 ρ g Q => ii (fun i j => C i j ∧ Q (.dt (g' i j)) ρ g) (rd r1 ρ) (rd r2 ρ)
def oI0 (g' : Int → Int → PyData) : RO G := fun r1 r2 ρ g Q => ii (fun i j => Q (.dt (g' i j)) ρ g) (rd r1 ρ) (rd r2 ρ)
theorem sim_I0 {gv : Int → Int → V} {gd : Int → Int → PyData} (h : ∀ F i j, Da K F (gv i j) (gd i j)) : SimO Z (rI0 gv) (oI0 (G := G) gd) := fun f F ad ρ g σ H x y r1 r2 Q R h1 h2 q P hP => by
  obtain ⟨i, j, e1, e2, q⟩ := ii_of q
  exact ⟨i, j, R.rInt h1 e1, R.rInt h2 e2, hP _ _ (R.dat (h F i j) q)⟩
def oSub : RO G := oI0 fun i j => .int (i - j)
/-- whole numbers that are plainly in bounds -/
def smallA (j : Int) : Bool := match j with
  | .ofNat n => Nat.ble (n + 1) 18446744073709551616
  | .negSucc n => Nat.ble (n + 2) 18446744073709551616
def smallPos (j : Int) : Bool := match j with
  | .ofNat n => match Nat.ble 1 n with
    | true => Nat.ble (n + 1) 1267650600228229401496703205376
    | false => false
  | .negSucc _ => false
def smallPw (i j : Int) : Bool := match j with
  | .ofNat b => match Nat.ble b 1000000 with
    | true => smallA i
    | false => false
  | .negSucc _ => false
theorem smallA_of {j : Int} (h : smallA j = true) : -(2 ^ 64) < j ∧ j < 2 ^ 64 := by
  cases j with
  | ofNat n => have := Nat.le_of_ble_eq_true h; constructor <;> (simp only [Int.ofNat_eq_natCast]; omega)
  | negSucc n => have := Nat.le_of_ble_eq_true h; constructor <;> omega
theorem smallPos_of {j : Int} (h : smallPos j = true) : 0 < j ∧ j < 2 ^ 100 := by
  cases j with
  | ofNat n =>
    unfold smallPos at h
    simp only at h
    cases e : Nat.ble 1 n with
    | false => rw [e] at h; cases h
    | true =>
      rw [e] at h
      have h1 := Nat.le_of_ble_eq_true e
      have h2 := Nat.le_of_ble_eq_true h
      constructor <;> (simp only [Int.ofNat_eq_natCast]; omega)
  | negSucc n => cases h
def MulOk (i j : Int) : Prop := CMul i j ∨ CMulX i j
def DivOk (i j : Int) : Prop := 0 < j ∧ j.natAbs.log2 < 9000
def bigA (j : Int) : Bool := match j with
  | .ofNat n => Nat.ble (n + 1) 1809251394333065553493296640760748560207343510400633813116524750123642650624
  | .negSucc n => Nat.ble (n + 2) 1809251394333065553493296640760748560207343510400633813116524750123642650624
theorem bigA_of {j : Int} (h : bigA j = true) : j.natAbs < 2 ^ 250 := by
  cases j with
  | ofNat n => have := Nat.le_of_ble_eq_true h; simp only [Int.ofNat_eq_natCast]; omega
  | negSucc n => have := Nat.le_of_ble_eq_true h; omega
def mulG (i j : Int) : Bool := match smallA j with
  | true => true
  | false => match bigA j with
    | true => bigA i
    | false => false
theorem mulG_of {i j : Int} (h : mulG i j = true) : MulOk i j := by
  unfold mulG at h
  cases e : smallA j with
  | true => exact .inl (.inr (smallA_of e))
  | false =>
    rw [e] at h
    cases e2 : bigA j with
    | false => rw [e2] at h; cases h
    | true =>
      rw [e2] at h
      exact .inr (mulx_ok (bigA_of h) (bigA_of e2) (by decide))
def mlK (i j : Int) (p : Prop) : Prop := gd (mulG i j) (MulOk i j) p
theorem mlK_e {i j : Int} {p : Prop} (h : mlK i j p) : MulOk i j ∧ p := gd_e mulG_of h
theorem mlK_of {i j : Int} {p : Prop} (hc : MulOk i j) (hp : p) : mlK i j p := gd_of hc hp
def dvK (i j : Int) (p : Prop) : Prop := gd (smallPos j) (DivOk i j) p
theorem log_small {m : Int} (h0 : 0 < m) (h1 : m < 2 ^ 64) : m.natAbs.log2 < 9000 := by
  have h2 : m.natAbs < 2 ^ 64 := by omega
  have h3 : m.natAbs.log2 < 64 := by
    rw [Nat.log2_lt (by omega)]
    exact h2
  omega
theorem log_100 {m : Int} (h0 : 0 < m) (h1 : m < 2 ^ 100) : m.natAbs.log2 < 9000 := by
  have h2 : m.natAbs < 2 ^ 100 := by omega
  have h3 : m.natAbs.log2 < 100 := by
    rw [Nat.log2_lt (by omega)]
    exact h2
  omega
theorem dvK_e {i j : Int} {p : Prop} (h : dvK i j p) : DivOk i j ∧ p := gd_e (fun e => ⟨(smallPos_of e).1, log_100 (smallPos_of e).1 (smallPos_of e).2⟩) h
theorem dvK_of {i j : Int} {p : Prop} (hc : DivOk i j) (hp : p) : dvK i j p := gd_of hc hp
def mdK (_ j : Int) (p : Prop) : Prop := gd (smallPos j) (0 < j) p
theorem mdK_e {i j : Int} {p : Prop} (h : mdK i j p) : 0 < j ∧ p := gd_e (fun e => (smallPos_of e).1) h
theorem mdK_of {i j : Int} {p : Prop} (hc : 0 < j) (hp : p) : mdK i j p := gd_of hc hp
def pwK (i j : Int) (p : Prop) : Prop := gd (smallPw i j) (CPow i j) p
theorem pwK_e {i j : Int} {p : Prop} (h : pwK i j p) : CPow i j ∧ p := gd_e (fun e => by
  cases j with
  | ofNat b =>
    unfold smallPw at e
    simp only at e
    cases q : Nat.ble b 1000000 with
    | false => rw [q] at e; cases e
    | true =>
      rw [q] at e
      have h1 := Nat.le_of_ble_eq_true q
      have h2 := smallA_of e
      refine ⟨by simp only [Int.ofNat_eq_natCast]; omega, by simp only [Int.ofNat_eq_natCast]; omega, by omega⟩
  | negSucc b => cases e) h
structure RepOk (n : Nat) (k : Int) : Prop where
  lo : -(2 ^ 63) ≤ k
  hi : k < 2 ^ 63
  len : n * k.toNat ≤ 16777216
theorem op_mulA : OpR X (binaryOp .Mult) (rI MulOk fun i j => .int (i * j)) := by
  intro pins s σ H x y v u Q I rx ry h
  obtain ⟨i, j, rfl, rfl, c, q⟩ := h
  rcases c with c | c
  · exact op_mul pins s σ H _ _ v u Q I rx ry ⟨i, j, rfl, rfl, c, q⟩
  · exact op_mulX pins s σ H _ _ v u Q I rx ry ⟨i, j, rfl, rfl, c, q⟩
def mulD (ρ : En) (g : G) (Q : Rs → En → G → Prop) : Option PyData → Option PyData → Prop
  | some (.int i), some (.int j) => mlK i j (Q (.dt (.int (i * j))) ρ g)
  | some (.list xs), some (.int k) => RepOk xs.length k ∧ Q (.nl (List.replicate k.toNat xs).flatten) ρ g
  | some (.tuple xs), some (.int k) => RepOk xs.length k ∧ Q (.dt (.tuple (List.replicate k.toNat xs).flatten)) ρ g
  | _, _ => False
def oMul : RO G := fun r1 r2 ρ g Q => mulD ρ g Q (rd r1 ρ) (rd r2 ρ)
def rMulX (K : PySem.W.Frag) : R2 := fun x y H Q => rI MulOk (fun i j => .int (i * j)) x y H Q ∨ (rRep x y H Q ∨ rRepA K x y H Q)
theorem rep_one {α : Type} (xs : List α) : (List.replicate (1 : Int).toNat xs).flatten = xs := by
  show (List.replicate 1 xs).flatten = xs
  simp
theorem rep_nil {α : Type} (k : Nat) : (List.replicate k ([] : List α)).flatten = [] := by
  induction k with
  | zero => rfl
  | succ k ih => rw [List.replicate_succ, List.flatten_cons, ih]; rfl
theorem sim_mul : SimO Z (rMulX K) (oMul (G := G)) := fun f F ad ρ g σ H x y r1 r2 Q R h1 h2 q P hP => by
  have q' : mulD ρ g Q (rd r1 ρ) (rd r2 ρ) := q
  unfold mulD at q'
  split at q'
  · rename_i i j e1 e2
    replace q' := mlK_e q'
    exact .inl ⟨i, j, R.rInt h1 e1, R.rInt h2 e2, q'.1, hP _ _ (R.dat (.int _) q'.2)⟩
  · rename_i xs k e1 e2
    obtain ⟨a, vs, rfl, ha, da⟩ := R.items h1 e1
    obtain ⟨⟨b1, b2, b3⟩, q'⟩ := q'
    exact .inr (.inl ⟨a, k, vs, rfl, R.rInt h2 e2, ha, b1, b2, by rw [sizeLine_eq, da.length]; exact b3, fun p hp => hP _ _ (R.newL hp (da.rep _) q')⟩)
  · rename_i xs k e1 e2
    obtain ⟨a, vs, rfl, ha, da⟩ := R.titems h1 e1
    obtain ⟨⟨b1, b2, b3⟩, q'⟩ := q'
    refine .inr (.inr ⟨a, k, vs, rfl, R.rInt h2 e2, Evl.ex_t R.fin.sub ha, b1, b2, by rw [sizeLine_eq, da.length]; exact b3, fun e => ?_, fun _ p hp => hP _ _ (R.newT hp (da.rep _) q')⟩)
    refine hP _ _ (R.dat ?_ q')
    rcases e with e | e
    · subst e
      have e2 := (tup_nil_r da).mp rfl
      subst e2
      rw [rep_nil]
      exact .tup ha .nil
    · subst e
      rw [rep_one]
      exact .tup ha da
  · cases q'
theorem op_mulX3 {K : PySem.W.Frag} (hK : K = X.K := by rfl) : OpR X (binaryOp .Mult) (rMulX K) := by
  subst hK
  exact op_mulA.or (op_rep.or op_repA)
/-- the operators, each with its reading -/
theorem b_add (hK : K = X.K := by rfl) : OpR X (binaryOp .Add) (rAddX K) ∧ SimO Z (rAddX K) (oAdd (G := G)) := ⟨op_addX hK, sim_add⟩
theorem b_sub : OpR X (binaryOp .Sub) (rI0 fun i j => .int (i - j)) ∧ SimO Z (rI0 fun i j => .int (i - j)) (oSub (G := G)) := ⟨op_sub, sim_I0 fun _ _ _ => .int _⟩
theorem b_mul (hK : K = X.K := by rfl) : OpR X (binaryOp .Mult) (rMulX K) ∧ SimO Z (rMulX K) (oMul (G := G)) := ⟨op_mulX3 hK, sim_mul⟩
def oG (k : Int → Int → Prop → Prop) (g' : Int → Int → PyData) : RO G := fun r1 r2 ρ g Q => ii (fun i j => k i j (Q (.dt (g' i j)) ρ g)) (rd r1 ρ) (rd r2 ρ)
theorem sim_G {C : Int → Int → Prop} {k : Int → Int → Prop → Prop} {gv : Int → Int → V} {gd : Int → Int → PyData} (hk : ∀ i j p, k i j p → C i j ∧ p) (h : ∀ F i j, Da K F (gv i j) (gd i j)) : SimO Z (rI C gv) (oG (G := G) k gd) := fun f F ad ρ g σ H x y r1 r2 Q R h1 h2 q P hP => by
  obtain ⟨i, j, e1, e2, q⟩ := ii_of q
  obtain ⟨c, q⟩ := hk _ _ _ q
  exact ⟨i, j, R.rInt h1 e1, R.rInt h2 e2, c, hP _ _ (R.dat (h F i j) q)⟩
def oDiv : RO G := oG dvK fun i j => .int (i / j)
def oMod : RO G := oG mdK fun i j => .int (i % j)
def oPow : RO G := oG pwK fun i j => .int (i ^ j.toNat)
theorem b_div : OpR X (binaryOp .FloorDiv) (rI CDivW fun i j => .int (i / j)) ∧ SimO Z (rI CDivW fun i j => .int (i / j)) (oDiv (G := G)) := ⟨op_fdivW, sim_G (fun _ _ _ h => dvK_e h) fun _ _ _ => .int _⟩
theorem b_mod : OpR X (binaryOp .Mod) (rI (fun _ j => 0 < j) fun i j => .int (i % j)) ∧ SimO Z (rI (fun _ j => 0 < j) fun i j => .int (i % j)) (oMod (G := G)) := ⟨op_mod, sim_G (fun _ _ _ h => mdK_e h) fun _ _ _ => .int _⟩
theorem b_pow : OpR X (binaryOp .Pow) (rI CPow fun i j => .int (i ^ j.toNat)) ∧ SimO Z (rI CPow fun i j => .int (i ^ j.toNat)) (oPow (G := G)) := ⟨op_pow, sim_G (fun _ _ _ h => pwK_e h) fun _ _ _ => .int _⟩
def iiU (k : Int → Prop) : Option PyData → Prop
  | some (.int i) => k i
  | _ => False
theorem iiU_of {k : Int → Prop} {a : Option PyData} (h : iiU k a) : ∃ i, a = some (.int i) ∧ k i := by
  unfold iiU at h
  split at h
  · exact ⟨_, rfl, h⟩
  · cases h
def oNeg : RU G := fun r ρ g Q => iiU (fun i => Q (.dt (.int (-i))) ρ g) (rd r ρ)
theorem u_neg : UnR X (unaryOp .USub) (rU fun i => .int (-i)) ∧ SimU Z (rU fun i => .int (-i)) (oNeg (G := G)) := ⟨un_neg, fun f F ad ρ g σ H x r1 Q R h1 q P hP => by
  obtain ⟨i, e1, q⟩ := iiU_of q
  exact ⟨i, R.rInt h1 e1, hP _ _ (R.dat (.int _) q)⟩⟩
def cI (p : Int → Int → Bool) : RO G := oI0 fun i j => .bool (p i j)
theorem c_I {op : CmpOp} {p : Int → Int → Bool} (h : OpR X (compareOp op) (rI0 fun i j => .bl (p i j))) : OpR X (compareOp op) (rI0 fun i j => .bl (p i j)) ∧ SimO Z (rI0 fun i j => .bl (p i j)) (cI (G := G) p) := ⟨h, sim_I0 fun _ _ _ => .bl _⟩
theorem c_lt : OpR X (compareOp .Lt) (rI0 fun i j => .bl (decide (i < j))) ∧ SimO Z (rI0 fun i j => .bl (decide (i < j))) (cI (G := G) fun i j => decide (i < j)) := c_I op_lt
theorem c_le : OpR X (compareOp .LtE) (rI0 fun i j => .bl (decide (i ≤ j))) ∧ SimO Z (rI0 fun i j => .bl (decide (i ≤ j))) (cI (G := G) fun i j => decide (i ≤ j)) := c_I op_le
theorem c_gt : OpR X (compareOp .Gt) (rI0 fun i j => .bl (decide (j < i))) ∧ SimO Z (rI0 fun i j => .bl (decide (j < i))) (cI (G := G) fun i j => decide (j < i)) := c_I op_gt
theorem c_ge : OpR X (compareOp .GtE) (rI0 fun i j => .bl (decide (j ≤ i))) ∧ SimO Z (rI0 fun i j => .bl (decide (j ≤ i))) (cI (G := G) fun i j => decide (j ≤ i)) := c_I op_ge
def eqD (ρ : En) (g : G) (Q : Rs → En → G → Prop) : Option PyData → Option PyData → Prop
  | some (.int i), some (.int j) => Q (.dt (.bool (decide (i = j)))) ρ g
  | some (.str x), some (.str y) => Q (.dt (.bool (decide (x = y)))) ρ g
  | some d, some e => SeqAt.shaped d = true ∧ SeqAt.shaped e = true ∧ Q (.dt (.bool (PyData.eqv d e))) ρ g
  | _, _ => False
def neD (ρ : En) (g : G) (Q : Rs → En → G → Prop) : Option PyData → Option PyData → Prop
  | some (.int i), some (.int j) => Q (.dt (.bool (!decide (i = j)))) ρ g
  | some (.str x), some (.str y) => Q (.dt (.bool (!decide (x = y)))) ρ g
  | some d, some e => SeqAt.shaped d = true ∧ SeqAt.shaped e = true ∧ Q (.dt (.bool (!PyData.eqv d e))) ρ g
  | _, _ => False
def oEq : RO G := fun r1 r2 ρ g Q => eqD ρ g Q (rd r1 ρ) (rd r2 ρ)
def oNe : RO G := fun r1 r2 ρ g Q => neD ρ g Q (rd r1 ρ) (rd r2 ρ)
def rEqX (K : PySem.W.Frag) : R2 := fun x y H Q => rEq x y H Q ∨ rEqD K x y H Q
def rNeX (K : PySem.W.Frag) : R2 := fun x y H Q => rNe x y H Q ∨ rNeD K x y H Q
theorem vint_inj {i j : Int} : decide (V.int i = V.int j) = decide (i = j) := by
  by_cases h : i = j
  · subst h; simp
  · rw [decide_eq_false h, decide_eq_false fun e => h (V.int.inj e)]
theorem vstr_inj {i j : Str} : decide (V.str i = V.str j) = decide (i = j) := by
  by_cases h : i = j
  · subst h; simp
  · rw [decide_eq_false h, decide_eq_false fun e => h (V.str.inj e)]
theorem sim_eq : SimO Z (rEqX K) (oEq (G := G)) := fun f F ad ρ g σ H x y r1 r2 Q R h1 h2 q P hP => by
  have q' : eqD ρ g Q (rd r1 ρ) (rd r2 ρ) := q
  unfold eqD at q'
  split at q'
  · rename_i i j e1 e2
    rw [R.rInt h1 e1, R.rInt h2 e2]
    exact .inl ⟨rfl, hP _ _ (R.dat (.bl _) (by rw [vint_inj]; exact q'))⟩
  · rename_i i j e1 e2
    rw [R.rStr h1 e1, R.rStr h2 e2]
    exact .inl ⟨rfl, hP _ _ (R.dat (.bl _) (by rw [vstr_inj]; exact q'))⟩
  · rename_i d e _ _ e1 e2
    exact .inr ⟨d, e, (R.hrd h1 e1).dp (SeqAt.canLay_of_shaped q'.1), (R.hrd h2 e2).dp (SeqAt.canLay_of_shaped q'.2.1), q'.1, q'.2.1, hP _ _ (R.dat (.bl _) q'.2.2)⟩
  · cases q'
theorem sim_ne : SimO Z (rNeX K) (oNe (G := G)) := fun f F ad ρ g σ H x y r1 r2 Q R h1 h2 q P hP => by
  have q' : neD ρ g Q (rd r1 ρ) (rd r2 ρ) := q
  unfold neD at q'
  split at q'
  · rename_i i j e1 e2
    rw [R.rInt h1 e1, R.rInt h2 e2]
    exact .inl ⟨rfl, hP _ _ (R.dat (.bl _) (by rw [vint_inj]; exact q'))⟩
  · rename_i i j e1 e2
    rw [R.rStr h1 e1, R.rStr h2 e2]
    exact .inl ⟨rfl, hP _ _ (R.dat (.bl _) (by rw [vstr_inj]; exact q'))⟩
  · rename_i d e _ _ e1 e2
    exact .inr ⟨d, e, (R.hrd h1 e1).dp (SeqAt.canLay_of_shaped q'.1), (R.hrd h2 e2).dp (SeqAt.canLay_of_shaped q'.2.1), q'.1, q'.2.1, hP _ _ (R.dat (.bl _) q'.2.2)⟩
  · cases q'
theorem c_eq (hu : X.A.units + 64 < cLine) (hK : K = X.K := by rfl) : OpR X (compareOp .Eq) (rEqX K) ∧ SimO Z (rEqX K) (oEq (G := G)) := ⟨by rw [hK]; exact op_eq.or (op_eqD hu), sim_eq⟩
theorem c_ne (hu : X.A.units + 64 < cLine) (hK : K = X.K := by rfl) : OpR X (compareOp .NotEq) (rNeX K) ∧ SimO Z (rNeX K) (oNe (G := G)) := ⟨by rw [hK]; exact op_ne.or (op_neD hu), sim_ne⟩
/-- is None, is not None; is True .. -/
def isN : Rs → En → Option Bool
  | .dt .none, _ => some true
  | .dt _, _ => some false
  | .nl _, _ => some false
  | .br i, ρ => match ρ[i]? with
    | some (.ls _) => some false
    | some (.dk _) => some false
    | _ => none
  | _, _ => none
theorem Rel.isN {f : Fx} {F : Hp} {ad : Nat → Addr} {ρ : En} {g : G} {σ : St} {H : Hp} (R : Rel Z f F ad ρ g σ H) {v : V} {r : Rs} {b : Bool} (h : VR Z f F ad ρ g σ H v r) (e : isN r ρ = some b) : decide (v = .non) = b := by
  cases r with
  | dt d =>
    cases h with
    | non => cases e; rfl
    | _ => cases e; rfl
  | nl ds => obtain ⟨a, vs, rfl, _⟩ := h; cases e; rfl
  | br i =>
    unfold L3.isN at e
    cases hi : ρ[i]? with
    | none => simp only [hi] at e; cases e
    | some s =>
      simp only [hi] at e
      have q := R.slot i _ hi
      cases s with
      | ls ds => obtain ⟨q1, _⟩ := q; have z : some (some (V.ref (ad i))) = some (some v) := q1.symm.trans h; cases z; cases e; rfl
      | dk ds => obtain ⟨q1, _⟩ := q; have z : some (some (V.ref (ad i))) = some (some v) := q1.symm.trans h; cases z; cases e; rfl
      | _ => cases e
  | _ => cases e
def bo (k : Bool → Prop) : Option PyData → Prop
  | some (.bool b) => k b
  | _ => False
theorem bo_of {k : Bool → Prop} {a : Option PyData} (h : bo k a) : ∃ b, a = some (.bool b) ∧ k b := by
  unfold bo at h
  split at h
  · exact ⟨_, rfl, h⟩
  · cases h
def isD (ρ : En) (g : G) (Q : Rs → En → G → Prop) (r1 : Rs) : Option PyData → Prop
  | some .none => opK (isN r1 ρ) fun b => Q (.dt (.bool b)) ρ g
  | some (.bool c) => bo (fun a => Q (.dt (.bool (decide (a = c)))) ρ g) (rd r1 ρ)
  | _ => False
def isnD (ρ : En) (g : G) (Q : Rs → En → G → Prop) (r1 : Rs) : Option PyData → Prop
  | some .none => opK (isN r1 ρ) fun b => Q (.dt (.bool (!b))) ρ g
  | some (.bool c) => bo (fun a => Q (.dt (.bool (!decide (a = c)))) ρ g) (rd r1 ρ)
  | _ => False
def oIs : RO G := fun r1 r2 ρ g Q => isD ρ g Q r1 (rd r2 ρ)
def oIsN : RO G := fun r1 r2 ρ g Q => isnD ρ g Q r1 (rd r2 ρ)
def rIsX : R2 := fun x y H Q => (y = .non ∧ Q (.bl (decide (x = .non))) H) ∨ rIsB x y H Q
def rIsNX : R2 := fun x y H Q => (y = .non ∧ Q (.bl (!decide (x = .non))) H) ∨ rNotB x y H Q
theorem sim_is : SimO Z rIsX (oIs (G := G)) := fun f F ad ρ g σ H x y r1 r2 Q R h1 h2 q P hP => by
  have q' : isD ρ g Q r1 (rd r2 ρ) := q
  unfold isD at q'
  split at q'
  · rename_i e2
    obtain ⟨b, e1, q'⟩ := opK_e q'
    exact .inl ⟨R.rNone h2 e2, hP _ _ (R.dat (.bl _) (by rw [R.isN h1 e1]; exact q'))⟩
  · rename_i c e2
    obtain ⟨a, e1, q'⟩ := bo_of q'
    exact .inr ⟨a, c, R.rBool h1 e1, R.rBool h2 e2, hP _ _ (R.dat (.bl _) q')⟩
  · cases q'
theorem sim_isN : SimO Z rIsNX (oIsN (G := G)) := fun f F ad ρ g σ H x y r1 r2 Q R h1 h2 q P hP => by
  have q' : isnD ρ g Q r1 (rd r2 ρ) := q
  unfold isnD at q'
  split at q'
  · rename_i e2
    obtain ⟨b, e1, q'⟩ := opK_e q'
    exact .inl ⟨R.rNone h2 e2, hP _ _ (R.dat (.bl _) (by rw [R.isN h1 e1]; exact q'))⟩
  · rename_i c e2
    obtain ⟨a, e1, q'⟩ := bo_of q'
    exact .inr ⟨a, c, R.rBool h1 e1, R.rBool h2 e2, hP _ _ (R.dat (.bl _) q')⟩
  · cases q'
theorem c_is : OpR X (compareOp .Is) rIsX ∧ SimO Z rIsX (oIs (G := G)) := ⟨op_isN.or op_isBl, sim_is⟩
theorem c_isN : OpR X (compareOp .IsNot) rIsNX ∧ SimO Z rIsNX (oIsN (G := G)) := ⟨op_notN.or op_notBl, sim_isN⟩
/-- in, not in, of flat things -/
def toV : PyData → V
  | .none => .non
  | .bool b => .bl b
  | .int i => .int i
  | .str x => .str x
  | _ => .ref 0
def flatD : PyData → Bool
  | .none => true
  | .bool _ => true
  | .int _ => true
  | .str _ => true
  | _ => false
def inD (x : PyData) (ds : List PyData) : Bool := ds.any fun y => eqV (toV y) (toV x)
theorem da_flat {K : PySem.W.Frag} {H : Hp} {v : V} {d : PyData} (h : Da K H v d) (e : flatD d = true) : v = toV d ∧ flatV v = true := by
  cases h <;> first | exact ⟨rfl, rfl⟩ | cases e
theorem daAll_flat {K : PySem.W.Frag} {H : Hp} : ∀ {vs : List V} {ds : List PyData}, DaAll K H vs ds → ds.all flatD = true → vs = ds.map toV ∧ vs.all flatV = true
  | _, _, .nil, _ => ⟨rfl, rfl⟩
  | _, _, .cons h r, e => by
    rw [List.all_cons, Bool.and_eq_true] at e
    obtain ⟨e1, e2⟩ := da_flat h e.1
    obtain ⟨e3, e4⟩ := daAll_flat r e.2
    exact ⟨by rw [List.map_cons, e1, e3], by rw [List.all_cons, e2, e4]; rfl⟩
def inDD (neg : Bool) (ρ : En) (g : G) (Q : Rs → En → G → Prop) : Option PyData → Option PyData → Prop
  | some x, some (.list ds) => flatD x = true ∧ ds.all flatD = true ∧ Q (.dt (.bool (xor neg (inD x ds)))) ρ g
  | some x, some (.tuple ds) => flatD x = true ∧ ds.all flatD = true ∧ Q (.dt (.bool (xor neg (inD x ds)))) ρ g
  | _, _ => False
def oIn (neg : Bool) : RO G := fun r1 r2 ρ g Q => inDD neg ρ g Q (rd r1 ρ) (rd r2 ρ)
theorem inV_inD {x : PyData} {ds : List PyData} : inV (toV x) (ds.map toV) = inD x ds := by
  unfold inV inD
  rw [List.any_map]; rfl
theorem sim_in {neg : Bool} : SimO Z (rIn K neg) (oIn (G := G) neg) := fun f F ad ρ g σ H x y r1 r2 Q R h1 h2 q P hP => by
  have q' : inDD neg ρ g Q (rd r1 ρ) (rd r2 ρ) := q
  unfold inDD at q'
  split at q'
  · rename_i d ds e1 e2
    obtain ⟨a, vs, rfl, ha, da⟩ := R.items h2 e2
    obtain ⟨b1, b2, q'⟩ := q'
    obtain ⟨c1, c2⟩ := da_flat (R.hrd h1 e1) b1
    obtain ⟨c3, c4⟩ := daAll_flat da b2
    refine ⟨a, vs, rfl, .inl (.inl (.inl ha)), c2, c4, hP _ _ (R.dat (.bl _) ?_)⟩
    rw [c1, c3, inV_inD]; cases neg <;> first | exact q' | (rw [Bool.xor_false] at q'; exact q') | simpa using q'
  · rename_i d ds e1 e2
    obtain ⟨a, vs, rfl, ha, da⟩ := R.titems h2 e2
    obtain ⟨b1, b2, q'⟩ := q'
    obtain ⟨c1, c2⟩ := da_flat (R.hrd h1 e1) b1
    obtain ⟨c3, c4⟩ := daAll_flat da b2
    refine ⟨a, vs, rfl, .inr (Evl.ex_t R.fin.sub ha), c2, c4, hP _ _ (R.dat (.bl _) ?_)⟩
    rw [c1, c3, inV_inD]; cases neg <;> first | exact q' | (rw [Bool.xor_false] at q'; exact q') | simpa using q'
  · cases q'
theorem e_cmp {op : CmpOp} {r : R2} {o : RO G} {ea eb : Expr} {ta tb : TE} {a b : DT G} {pos : Pos} (ho : OpR X (compareOp op) r ∧ SimO Z r o) (ha : DE X Z ea ta a) (hb : DE X Z eb tb b) (hm : behindInMarks op eb = false := by first | exact nomark _ | rfl) :
    DE X Z (.Compare ea [op] [eb] pos) (tOp r ta tb) (dOp o a b) := ⟨pe_cmpR ho.1 ha.pe hb.pe hm, sim_op ho.2 ha.sim hb.sim⟩
abbrev DB (G : Type) := En → G → (Bool → En → G → Prop) → Prop
def PostB (Z : Zx K G) (f : Fx) (F : Hp) (g : G) (σ : St) (Q : Bool → En → G → Prop) (b : Bool) (H' : Hp) : Prop :=
  ∃ F' ad' ρ' g', Ex F F' ∧ Z.ra g' = Z.ra g ∧ Rel Z f F' ad' ρ' g' σ H' ∧ Q b ρ' g'
def SimT (Z : Zx K G) (tt : TT) (t : DB G) : Prop := ∀ f F ad ρ g σ H Q, Rel Z f F ad ρ g σ H → t ρ g Q → ∀ P : Bool → Hp → Prop, (∀ b H', PostB Z f F g σ Q b H' → P b H') → tt σ H P
structure DTe (X : Cx) (Z : Zx K G) (e : Expr) (tt : TT) (t : DB G) : Prop where
  pt : PT X e tt
  sim : SimT Z tt t
structure DW (X : Cx) (Z : Zx K G) (e : Expr) (tt : TT) (t : DB G) : Prop where
  pw : PW X e tt
  sim : SimT Z tt t
theorem PostB.mono {f : Fx} {F F1 : Hp} {g g1 : G} {σ : St} {Q : Bool → En → G → Prop} {b : Bool} {H' : Hp} (e : Ex F F1) (eg : Z.ra g1 = Z.ra g) (h : PostB Z f F1 g1 σ Q b H') : PostB Z f F g σ Q b H' := by
  obtain ⟨F', ad', ρ', g', h1, h2, h3⟩ := h
  exact ⟨F', ad', ρ', g', e.trans h1, h2.trans eg, h3⟩
def dTst (a : DT G) : DB G := fun ρ g Q => a ρ g fun r ρ1 g1 => bo (fun b => Q b ρ1 g1) (rd r ρ1)
theorem sim_tst {ta : TE} {a : DT G} (ha : Sim Z ta a) : SimT Z (tTest ta) (dTst a) := fun f F ad ρ g σ H Q R h P hP => by
  refine ha f F ad ρ g σ H _ R h _ fun x H1 q => ?_
  obtain ⟨F1, ad1, ρ1, g1, r1, e1, eg1, R1, v1, q⟩ := q
  obtain ⟨b, e, q⟩ := bo_of q
  exact ⟨b, R1.rBool v1 e, hP b H1 ⟨F1, ad1, ρ1, g1, e1, eg1, R1, q⟩⟩
theorem t_cmp {op : CmpOp} {r : R2} {o : RO G} {ea eb : Expr} {ta tb : TE} {a b : DT G} {pos : Pos} (ho : OpR X (compareOp op) r ∧ SimO Z r o) (ha : DE X Z ea ta a) (hb : DE X Z eb tb b) (hm : behindInMarks op eb = false := by first | exact nomark _ | rfl) :
    DTe X Z (.Compare ea [op] [eb] pos) (tTest (tOp r ta tb)) (dTst (dOp o a b)) := ⟨pt_cmpR ho.1 ha.pe hb.pe hm, sim_tst (sim_op ho.2 ha.sim hb.sim)⟩
theorem t_val {e : Expr} {te : TE} {t : DT G} (h : DE X Z e te t) (he : ∀ whole, isTrue e X.env whole = (do let v ← whole; standAt e.pos; holding [v] (truthy v)) := by intro _; rfl) : DTe X Z e (tB te) (dTst t) :=
  ⟨pt_val h.pe he, sim_tst h.sim⟩
def dAnd (a b : DB G) : DB G := fun ρ g Q => a ρ g fun c ρ1 g1 => ifb c (b ρ1 g1 Q) (Q false ρ1 g1)
def dOr (a b : DB G) : DB G := fun ρ g Q => a ρ g fun c ρ1 g1 => ifb c (Q true ρ1 g1) (b ρ1 g1 Q)
def dNot (a : DB G) : DB G := fun ρ g Q => a ρ g fun c ρ1 g1 => Q (!c) ρ1 g1
theorem sim_and {ta tb : TT} {a b : DB G} (ha : SimT Z ta a) (hb : SimT Z tb b) : SimT Z (tAnd ta tb) (dAnd a b) := fun f F ad ρ g σ H Q R h P hP => by
  refine ha f F ad ρ g σ H _ R h _ fun c H1 q => ?_
  obtain ⟨F1, ad1, ρ1, g1, e1, eg1, R1, q⟩ := q
  cases c with
  | true =>
    rw [if_pos rfl]
    replace q := ifb_t q
    exact hb f F1 ad1 ρ1 g1 σ H1 _ R1 q P fun c H' hp => hP c H' (hp.mono e1 eg1)
  | false =>
    rw [if_neg Bool.false_ne_true]
    replace q := ifb_f q
    exact hP false H1 ⟨F1, ad1, ρ1, g1, e1, eg1, R1, q⟩
theorem sim_or {ta tb : TT} {a b : DB G} (ha : SimT Z ta a) (hb : SimT Z tb b) : SimT Z (tOr ta tb) (dOr a b) := fun f F ad ρ g σ H Q R h P hP => by
  refine ha f F ad ρ g σ H _ R h _ fun c H1 q => ?_
  obtain ⟨F1, ad1, ρ1, g1, e1, eg1, R1, q⟩ := q
  cases c with
  | true =>
    rw [if_pos rfl]
    replace q := ifb_t q
    exact hP true H1 ⟨F1, ad1, ρ1, g1, e1, eg1, R1, q⟩
  | false =>
    rw [if_neg Bool.false_ne_true]
    replace q := ifb_f q
    exact hb f F1 ad1 ρ1 g1 σ H1 _ R1 q P fun c H' hp => hP c H' (hp.mono e1 eg1)
theorem sim_not {ta : TT} {a : DB G} (ha : SimT Z ta a) : SimT Z (tNot ta) (dNot a) := fun f F ad ρ g σ H Q R h P hP =>
  ha f F ad ρ g σ H _ R h _ fun c H1 q => by
    obtain ⟨F1, ad1, ρ1, g1, e1, eg1, R1, q⟩ := q
    exact hP (!c) H1 ⟨F1, ad1, ρ1, g1, e1, eg1, R1, q⟩
section
variable {ea eb : Expr} {ta tb : TT} {a b : DB G} {pos : Pos} {rest : List Expr}
theorem w_and1 (h : DTe X Z ea ta a) : DW X Z (.BoolOp .And [ea] pos) ta a := ⟨pw_and1 h.pt, h.sim⟩
theorem w_or1 (h : DTe X Z ea ta a) : DW X Z (.BoolOp .Or [ea] pos) ta a := ⟨pw_or1 h.pt, h.sim⟩
theorem w_and (h : DTe X Z ea ta a) (k : DW X Z (.BoolOp .And (eb :: rest) pos) tb b) : DW X Z (.BoolOp .And (ea :: eb :: rest) pos) (tAnd ta tb) (dAnd a b) := ⟨pw_and h.pt k.pw, sim_and h.sim k.sim⟩
theorem w_or (h : DTe X Z ea ta a) (k : DW X Z (.BoolOp .Or (eb :: rest) pos) tb b) : DW X Z (.BoolOp .Or (ea :: eb :: rest) pos) (tOr ta tb) (dOr a b) := ⟨pw_or h.pt k.pw, sim_or h.sim k.sim⟩
theorem t_w {e : Expr} (h : DW X Z e ta a) : DTe X Z e ta a := ⟨h.pw.pt, h.sim⟩
theorem t_not (h : DTe X Z ea ta a) : DTe X Z (.UnaryOp .Not ea pos) (tNot ta) (dNot a) := ⟨pt_not h.pt, sim_not h.sim⟩
end
/-- and, or, not as values of truths -/
def dAndV (a b : DT G) : DT G := fun ρ g Q => a ρ g fun r ρ1 g1 => bo (fun c => ifb c (b ρ1 g1 Q) (Q (.dt (.bool false)) ρ1 g1)) (rd r ρ1)
def dOrV (a b : DT G) : DT G := fun ρ g Q => a ρ g fun r ρ1 g1 => bo (fun c => ifb c (Q (.dt (.bool true)) ρ1 g1) (b ρ1 g1 Q)) (rd r ρ1)
theorem sim_andV {ta tb : TE} {a b : DT G} (ha : Sim Z ta a) (hb : Sim Z tb b) : Sim Z (tAndV ta tb) (dAndV a b) := fun f F ad ρ g σ H Q R h P hP => by
  refine ha f F ad ρ g σ H _ R h _ fun x H1 q => ?_
  obtain ⟨F1, ad1, ρ1, g1, r1, e1, eg1, R1, v1, q⟩ := q
  obtain ⟨c, e, q⟩ := bo_of q
  refine ⟨c, R1.rBool v1 e, ?_⟩
  cases c with
  | true =>
    rw [if_pos rfl]
    replace q := ifb_t q
    exact hb f F1 ad1 ρ1 g1 σ H1 _ R1 q P fun c H' hp => hP c H' (hp.mono e1 eg1)
  | false =>
    rw [if_neg Bool.false_ne_true]
    replace q := ifb_f q
    exact hP _ H1 ((R1.dat (.bl _) q).mono e1 eg1)
theorem sim_orV {ta tb : TE} {a b : DT G} (ha : Sim Z ta a) (hb : Sim Z tb b) : Sim Z (tOrV ta tb) (dOrV a b) := fun f F ad ρ g σ H Q R h P hP => by
  refine ha f F ad ρ g σ H _ R h _ fun x H1 q => ?_
  obtain ⟨F1, ad1, ρ1, g1, r1, e1, eg1, R1, v1, q⟩ := q
  obtain ⟨c, e, q⟩ := bo_of q
  refine ⟨c, R1.rBool v1 e, ?_⟩
  cases c with
  | true =>
    rw [if_pos rfl]
    replace q := ifb_t q
    exact hP _ H1 ((R1.dat (.bl _) q).mono e1 eg1)
  | false =>
    rw [if_neg Bool.false_ne_true]
    replace q := ifb_f q
    exact hb f F1 ad1 ρ1 g1 σ H1 _ R1 q P fun c H' hp => hP c H' (hp.mono e1 eg1)
section
variable {ea eb ec : Expr} {ta tb tc : TE} {tt : TT} {a b c : DT G} {t : DB G} {pos : Pos} {rest : List Expr}
theorem e_one {op} (h : DE X Z ea ta a) : DE X Z (.BoolOp op [ea] pos) ta a := ⟨pe_one h.pe, h.sim⟩
theorem e_and (h : DE X Z ea ta a) (k : DE X Z (.BoolOp .And (eb :: rest) pos) tb b) : DE X Z (.BoolOp .And (ea :: eb :: rest) pos) (tAndV ta tb) (dAndV a b) := ⟨pe_and h.pe k.pe, sim_andV h.sim k.sim⟩
theorem e_or (h : DE X Z ea ta a) (k : DE X Z (.BoolOp .Or (eb :: rest) pos) tb b) : DE X Z (.BoolOp .Or (ea :: eb :: rest) pos) (tOrV ta tb) (dOrV a b) := ⟨pe_or h.pe k.pe, sim_orV h.sim k.sim⟩
def dIf (t : DB G) (a b : DT G) : DT G := fun ρ g Q => t ρ g fun c ρ1 g1 => ifb c (a ρ1 g1 Q) (b ρ1 g1 Q)
theorem sim_if (ht : SimT Z tt t) (ha : Sim Z ta a) (hb : Sim Z tb b) : Sim Z (tIf tt ta tb) (dIf t a b) := fun f F ad ρ g σ H Q R h P hP => by
  refine ht f F ad ρ g σ H _ R h _ fun c H1 q => ?_
  obtain ⟨F1, ad1, ρ1, g1, e1, eg1, R1, q⟩ := q
  cases c with
  | true =>
    rw [if_pos rfl]
    replace q := ifb_t q
    exact ha f F1 ad1 ρ1 g1 σ H1 _ R1 q P fun c H' hp => hP c H' (hp.mono e1 eg1)
  | false =>
    rw [if_neg Bool.false_ne_true]
    replace q := ifb_f q
    exact hb f F1 ad1 ρ1 g1 σ H1 _ R1 q P fun c H' hp => hP c H' (hp.mono e1 eg1)
theorem e_if {et : Expr} (ht : DTe X Z et tt t) (ha : DE X Z ea ta a) (hb : DE X Z eb tb b) : DE X Z (.IfExp et ea eb pos) (tIf tt ta tb) (dIf t a b) := ⟨pe_ifExp ht.pt ha.pe hb.pe, sim_if ht.sim ha.sim hb.sim⟩
/-- a < b < c -/
def dChain (o o' : RO G) (a b c : DT G) : DT G := fun ρ g Q => a ρ g fun r1 ρ1 g1 => ifh r1 (b ρ1 g1 fun r2 ρ2 g2 => ifh r2 (o (st r1) (st r2) ρ2 g2 fun z ρ3 g3 => bo (fun k => ifb k (c ρ3 g3 (fun r3 ρ4 g4 => o' (st r2) r3 ρ4 g4 Q)) (Q (.dt (.bool false)) ρ3 g3)) (rd z ρ3)))
end
end L3
end
section
namespace L3
open PySem L2
variable {G : Type} {K : PySem.W.Frag} {X : Cx} {Z : Zx K G}
theorem sim_chain {r r' : R2} {o o' : RO G} {ta tb tc : TE} {a b c : DT G} (ho : SimO Z r o) (ho' : SimO Z r' o') (ha : Sim Z ta a) (hb : Sim Z tb b) (hc : Sim Z tc c) : Sim Z (tChain r r' ta tb tc) (dChain o o' a b c) := fun f F ad ρ g σ H Q R h P hP => by
  refine ha f F ad ρ g σ H _ R h _ fun x H1 q => ?_
  obtain ⟨F1, ad1, ρ1, g1, r1, e1, eg1, R1, v1, q⟩ := q
  replace q := ifh_of q
  obtain ⟨F1', e1', R1', v1'⟩ := R1.hst v1
  refine hb f F1' ad1 ρ1 g1 σ H1 _ R1' q _ fun y H2 q2 => ?_
  obtain ⟨F2, ad2, ρ2, g2, r2, e2, eg2, R2, v2, q⟩ := q2
  replace q := ifh_of q
  obtain ⟨F2', e2', R2', v2'⟩ := R2.hst v2
  refine ho f F2' ad2 ρ2 g2 σ H2 x y (st r1) (st r2) _ R2' (v1'.held (e2.trans e2') eg2) v2' q _ fun z H3 q3 => ?_
  obtain ⟨F3, ad3, ρ3, g3, r3, e3, eg3, R3, v3, q⟩ := q3
  obtain ⟨k, e, q⟩ := bo_of q
  have eA : Ex F F3 := ((e1.trans e1').trans (e2.trans e2')).trans e3
  have gA : Z.ra g3 = Z.ra g := eg3.trans (eg2.trans eg1)
  refine ⟨k, R3.rBool v3 e, ?_⟩
  cases k with
  | true =>
    rw [if_pos rfl]
    replace q := ifb_t q
    refine hc f F3 ad3 ρ3 g3 σ H3 _ R3 q _ fun w H4 q4 => ?_
    obtain ⟨F4, ad4, ρ4, g4, r4, e4, eg4, R4, v4, q⟩ := q4
    exact ho' f F4 ad4 ρ4 g4 σ H4 y w (st r2) r4 Q R4 (v2'.held (e3.trans e4) (eg4.trans eg3)) v4 q P fun v H' hp => hP v H' (hp.mono (eA.trans e4) (eg4.trans gA))
  | false =>
    rw [if_neg Bool.false_ne_true]
    replace q := ifb_f q
    exact hP _ H3 ((R3.dat (.bl _) q).mono eA gA)
section
variable {ea eb ec : Expr} {ta tb tc : TE} {a b c : DT G} {r r' : R2} {o o' : RO G} {op op' : CmpOp} {pos : Pos}
theorem t_chain (ho : OpR X (compareOp op) r ∧ SimO Z r o) (ho' : OpR X (compareOp op') r' ∧ SimO Z r' o') (ha : DE X Z ea ta a) (hb : DE X Z eb tb b) (hc : DE X Z ec tc c) (hm : lastMarks [op, op'] [eb, ec] = false := by with_unfolding_all rfl) :
    DTe X Z (.Compare ea [op, op'] [eb, ec] pos) (tTest (tChain r r' ta tb tc)) (dTst (dChain o o' a b c)) := ⟨pt_chain ho.1 ho'.1 ha.pe hb.pe hc.pe hm, sim_tst (sim_chain ho.2 ho'.2 ha.sim hb.sim hc.sim)⟩
end
def ixD (ρ : En) (g : G) (Q : Rs → En → G → Prop) : Option PyData → Option PyData → Prop
  | some (.list ds), some (.int i) => opK (atI ds i) fun d => Q (.dt d) ρ g
  | some (.tuple ds), some (.int i) => opK (atI ds i) fun d => Q (.dt d) ρ g
  | some (.str z), some (.int i) => z.length ≤ sizeLine ∧ opK (atI z.cps.toList i) fun c => Q (.dt (.str ⟨#[c]⟩)) ρ g
  | _, _ => False
def oIx : RO G := fun r1 r2 ρ g Q => ixD ρ g Q (rd r1 ρ) (rd r2 ρ)
theorem daAll_at {K : PySem.W.Frag} {H : Hp} {vs : List V} {ds : List PyData} {i : Int} {d : PyData} (h : DaAll K H vs ds) (e : atI ds i = some d) : ∃ v, atI vs i = some v ∧ Da K H v d := by
  unfold atI at e ⊢
  rw [h.length]
  cases q : ixN ds.length i with
  | none => rw [q] at e; cases e
  | some j =>
    rw [q] at e
    exact h.get e
theorem sim_ix : SimO Z (rIx K) (oIx (G := G)) := fun f F ad ρ g σ H x y r1 r2 Q R h1 h2 q P hP => by
  have q' : ixD ρ g Q (rd r1 ρ) (rd r2 ρ) := q
  unfold ixD at q'
  split at q'
  · rename_i ds i e1 e2
    obtain ⟨d, hd, q'⟩ := opK_e q'
    obtain ⟨a, vs, rfl, ha, da⟩ := R.items h1 e1
    obtain ⟨v, hv, dv⟩ := daAll_at da hd
    exact .inl ⟨a, vs, i, v, rfl, R.rInt h2 e2, .inl (.inl ha), hv, hP _ _ (R.dat dv q')⟩
  · rename_i ds i e1 e2
    obtain ⟨d, hd, q'⟩ := opK_e q'
    obtain ⟨a, vs, rfl, ha, da⟩ := R.titems h1 e1
    obtain ⟨v, hv, dv⟩ := daAll_at da hd
    exact .inr (.inl ⟨a, vs, i, v, rfl, R.rInt h2 e2, Evl.ex_t R.fin.sub ha, hv, hP _ _ (R.dat dv q')⟩)
  · rename_i z i e1 e2
    obtain ⟨hz, q'⟩ := q'
    obtain ⟨c, hc, q'⟩ := opK_e q'
    exact .inr (.inr ⟨z, i, c, R.rStr h1 e1, R.rInt h2 e2, hz, hc, hP _ _ (R.dat (.str _) q')⟩)
  · cases q'
/-- slices -/
abbrev DO (G : Type) := En → G → (Option Int → En → G → Prop) → Prop
def PostO (Z : Zx K G) (f : Fx) (F : Hp) (g : G) (σ : St) (Q : Option Int → En → G → Prop) (b : Option Int) (H' : Hp) : Prop :=
  ∃ F' ad' ρ' g', Ex F F' ∧ Z.ra g' = Z.ra g ∧ Rel Z f F' ad' ρ' g' σ H' ∧ Q b ρ' g'
def SimP (Z : Zx K G) (tt : TO) (t : DO G) : Prop := ∀ f F ad ρ g σ H Q, Rel Z f F ad ρ g σ H → t ρ g Q → ∀ P : Option Int → Hp → Prop, (∀ b H', PostO Z f F g σ Q b H' → P b H') → tt σ H P
structure DP (X : Cx) (Z : Zx K G) (e : Option Expr) (tt : TO) (t : DO G) : Prop where
  po : PO X e tt
  sim : SimP Z tt t
def dNoP : DO G := fun ρ g Q => Q Option.none ρ g
def dPart (a : DT G) : DO G := fun ρ g Q => a ρ g fun r ρ1 g1 => iiU (fun i => Q (some i) ρ1 g1) (rd r ρ1)
theorem o_none : DP X Z none tNoPart (dNoP (G := G)) := ⟨po_none, fun f F ad ρ g σ H Q R h P hP => hP Option.none H ⟨F, ad, ρ, g, Evl.Ex.refl F, rfl, R, h⟩⟩
theorem o_some {e : Expr} {te : TE} {a : DT G} (h : DE X Z e te a) : DP X Z (some e) (tPart te) (dPart a) := ⟨po_some h.pe, fun f F ad ρ g σ H Q R q P hP => by
  refine h.sim f F ad ρ g σ H _ R q _ fun x H1 q => ?_
  obtain ⟨F1, ad1, ρ1, g1, r1, e1, eg1, R1, v1, q⟩ := q
  obtain ⟨i, e, q⟩ := iiU_of q
  exact ⟨i, R1.rInt v1 e, hP _ _ ⟨F1, ad1, ρ1, g1, e1, eg1, R1, q⟩⟩⟩
def cutD (xs : List PyData) (lo hi : Option Int) : List PyData := (xs.drop (HT.sIx xs.length 0 lo)).take (HT.sIx xs.length xs.length hi - HT.sIx xs.length 0 lo)
def slD (ρ : En) (g : G) (Q : Rs → En → G → Prop) (lo hi : Option Int) : Option PyData → Prop
  | some (.list ds) => Q (.nl (cutD ds lo hi)) ρ g
  | some (.tuple ds) => Q (.dt (.tuple (cutD ds lo hi))) ρ g
  | _ => False
def dSl (a : DT G) (l h : DO G) : DT G := fun ρ g Q => a ρ g fun r ρ1 g1 => ifh r (l ρ1 g1 fun lo ρ2 g2 => h ρ2 g2 fun hi ρ3 g3 => slD ρ3 g3 Q lo hi (rd (st r) ρ3))
def rSlX (K : PySem.W.Frag) : V → Option Int → Option Int → Hp → VK → Prop := fun x lo hi H Q => rSlL K x lo hi H Q ∨ rSlA K x lo hi H Q
theorem daAll_cut {K : PySem.W.Frag} {H : Hp} {vs : List V} {ds : List PyData} (h : DaAll K H vs ds) (lo hi : Option Int) : DaAll K H (cutV vs lo hi) (cutD ds lo hi) := by
  unfold cutV cutD
  rw [h.length]
  exact (h.drop _).take _
theorem cutD_whole {ds : List PyData} {lo hi : Option Int} (h : HT.sIx ds.length 0 lo = 0 ∧ HT.sIx ds.length ds.length hi = ds.length) : cutD ds lo hi = ds := by
  unfold cutD
  rw [h.1, h.2]
  simp
theorem sim_sl {te : TE} {tl th : TO} {a : DT G} {l h : DO G} (ha : Sim Z te a) (hl : SimP Z tl l) (hh : SimP Z th h) : Sim Z (tSl (rSlX K) te tl th) (dSl a l h) := fun f F ad ρ g σ H Q R q P hP => by
  refine ha f F ad ρ g σ H _ R q _ fun x H1 q => ?_
  obtain ⟨F1, ad1, ρ1, g1, r1, e1, eg1, R1, v1, q⟩ := q
  replace q := ifh_of q
  obtain ⟨F1', e1', R1', v1'⟩ := R1.hst v1
  refine hl f F1' ad1 ρ1 g1 σ H1 _ R1' q _ fun lo H2 q2 => ?_
  obtain ⟨F2, ad2, ρ2, g2, e2, eg2, R2, q⟩ := q2
  refine hh f F2 ad2 ρ2 g2 σ H2 _ R2 q _ fun hi H3 q3 => ?_
  obtain ⟨F3, ad3, ρ3, g3, e3, eg3, R3, q⟩ := q3
  have v3 := v1'.held (ad1 := ad3) (ρ1 := ρ3) (H1 := H3) (e2.trans e3) (eg3.trans eg2)
  have eA : Ex F F3 := (e1.trans e1').trans (e2.trans e3)
  have gA : Z.ra g3 = Z.ra g := eg3.trans (eg2.trans eg1)
  have q' : slD ρ3 g3 Q lo hi (rd (st r1) ρ3) := q
  unfold slD at q'
  split at q'
  · rename_i ds e
    obtain ⟨a, vs, rfl, ha, da⟩ := R3.items v3 e
    exact .inl ⟨a, vs, rfl, .inl (.inl ha), fun p hp => hP _ _ ((R3.newL hp (daAll_cut da lo hi) q').mono eA gA)⟩
  · rename_i ds e
    obtain ⟨a, vs, rfl, ha, da⟩ := R3.titems v3 e
    refine .inr ⟨a, vs, rfl, Evl.ex_t R3.fin.sub ha, fun hw => ?_, fun _ p hp => hP _ _ ((R3.newT hp (daAll_cut da lo hi) q').mono eA gA)⟩
    refine hP _ _ ((R3.dat ?_ q').mono eA gA)
    rw [da.length] at hw
    rw [cutD_whole hw]
    exact .tup ha da
  · cases q'
theorem e_sl {e : Expr} {lo hi : Option Expr} {te : TE} {tl th : TO} {a : DT G} {l h : DO G} {p2 pos : Pos} (ha : DE X Z e te a) (hl : DP X Z lo tl l) (hh : DP X Z hi th h) (hK : K = X.K := by rfl) :
    DE X Z (.Subscript e (.Slice lo hi none p2) pos) (tSl (rSlX K) te tl th) (dSl a l h) := ⟨pe_slice (by rw [hK]; exact sl_list.or sl_tupA) ha.pe hl.po hh.po, sim_sl ha.sim hl.sim hh.sim⟩
abbrev DA (G : Type) := En → G → (List Rs → En → G → Prop) → Prop
abbrev VRs (Z : Zx K G) (f : Fx) (F : Hp) (ad : Nat → Addr) (ρ : En) (g : G) (σ : St) (H : Hp) : List V → List Rs → Prop := Paired fun v r => ∃ r0, r = st r0 ∧ VR Z f F ad ρ g σ H v (st r0)
def PostA (Z : Zx K G) (f : Fx) (F : Hp) (g : G) (σ : St) (Q : List Rs → En → G → Prop) (vs : List V) (H' : Hp) : Prop :=
  ∃ F' ad' ρ' g' rs, Ex F F' ∧ Z.ra g' = Z.ra g ∧ Rel Z f F' ad' ρ' g' σ H' ∧ VRs Z f F' ad' ρ' g' σ H' vs rs ∧ Q rs ρ' g'
def SimA (Z : Zx K G) (ta : TA) (t : DA G) : Prop := ∀ f F ad ρ g σ H Q, Rel Z f F ad ρ g σ H → t ρ g Q → ∀ P : List V → Hp → Prop, (∀ vs H', PostA Z f F g σ Q vs H' → P vs H') → ta σ H P
structure DAs (X : Cx) (Z : Zx K G) (es : List Expr) (ta : TA) (t : DA G) : Prop where
  pa : PA X es ta
  sim : SimA Z ta t
def dNil : DA G := fun ρ g Q => Q [] ρ g
def dCons (a : DT G) (b : DA G) : DA G := fun ρ g Q => a ρ g fun r ρ1 g1 => ifh r (b ρ1 g1 fun rs ρ2 g2 => Q (st r :: rs) ρ2 g2)
theorem a_nil : DAs X Z [] tNil (dNil (G := G)) := ⟨pa_nil, fun f F ad ρ g σ H Q R h P hP => hP [] H ⟨F, ad, ρ, g, [], Evl.Ex.refl F, rfl, R, .nil, h⟩⟩
theorem sim_cons {ta : TE} {tb : TA} {a : DT G} {b : DA G} (ha : Sim Z ta a) (hb : SimA Z tb b) : SimA Z (tCons ta tb) (dCons a b) := fun f F ad ρ g σ H Q R q P hP => by
  refine ha f F ad ρ g σ H _ R q _ fun x H1 q => ?_
  obtain ⟨F1, ad1, ρ1, g1, r1, e1, eg1, R1, v1, q⟩ := q
  replace q := ifh_of q
  obtain ⟨F1', e1', R1', v1'⟩ := R1.hst v1
  refine hb f F1' ad1 ρ1 g1 σ H1 _ R1' q _ fun vs H2 q2 => ?_
  obtain ⟨F2, ad2, ρ2, g2, rs, e2, eg2, R2, v2, q⟩ := q2
  exact hP _ _ ⟨F2, ad2, ρ2, g2, _, (e1.trans e1').trans e2, eg2.trans eg1, R2, .cons ⟨r1, rfl, v1'.held e2 eg2⟩ v2, q⟩
theorem a_cons {e : Expr} {es : List Expr} {ta : TE} {tb : TA} {a : DT G} {b : DA G} (ha : DE X Z e ta a) (hb : DAs X Z es tb b) (hs : starEach (e :: es) X.env = (false, eval e X.env) :: starEach es X.env := by rfl) :
    DAs X Z (e :: es) (tCons ta tb) (dCons a b) := ⟨pa_cons ha.pe hb.pa hs, sim_cons ha.sim hb.sim⟩
/-- all frozen -/
def fzA : List Rs → En → Option (List PyData × En)
  | [], ρ => some ([], ρ)
  | r :: rs, ρ => (fz r ρ).bind fun p => (fzA rs p.2).map fun q => (p.1 :: q.1, q.2)
section
variable {f : Fx} {F F' : Hp} {ad : Nat → Addr} {ρ : En} {g : G} {σ : St} {H H' : Hp}
theorem Rel.hfzA : ∀ {vs : List V} {rs : List Rs} {F : Hp} {ρ : En} {ds : List PyData} {ρ' : En}, Rel Z f F ad ρ g σ H → VRs Z f F ad ρ g σ H vs rs → fzA rs ρ = some (ds, ρ') → ∃ F', Ex F F' ∧ Rel Z f F' ad ρ' g σ H ∧ DaAll K F' vs ds
  | _, [], F, ρ, ds, ρ', R, .nil, e => by cases e; exact ⟨F, Evl.Ex.refl F, R, .nil⟩
  | _, r :: rs, F, ρ, ds, ρ', R, .cons h t, e => by
    obtain ⟨r0, rfl, h⟩ := h
    unfold fzA at e
    cases e1 : fz (st r0) ρ with
    | none => rw [e1] at e; cases e
    | some p =>
      obtain ⟨d, ρ1⟩ := p
      rw [e1] at e
      cases e2 : fzA rs ρ1 with
      | none => simp [e2] at e
      | some p2 =>
        obtain ⟨ds2, ρ2⟩ := p2
        simp [e2] at e
        obtain ⟨rfl, rfl⟩ := e
        obtain ⟨F1, x1, R1, d1⟩ := R.hfz h e1
        obtain ⟨F2, x2, R2, d2⟩ := Rel.hfzA R1 (Paired.mapP t fun v r ⟨r0, er, z⟩ => ⟨r0, er, z.held x1 rfl⟩) e2
        exact ⟨F2, x1.trans x2, R2, .cons (da_mono x2 d1) d2⟩
end
/-- the same, told on: what comes out stays small -/
def fz1S (ρ : En) (i : Nat) (k : PyData → En → Prop) : Option Sl → Prop
  | some (.dt d) => k d ρ
  | some (.ls ds) => k (.list ds) (ρ.set i (.dt (.list ds)))
  | some (.dk ds) => k (.dict ds) (ρ.set i (.dt (.dict ds)))
  | _ => False
def fz1 (r : Rs) (ρ : En) (k : PyData → En → Prop) : Prop := match r with
  | .dt d => k d ρ
  | .nl ds => k (.list ds) ρ
  | .nd ds => k (.dict ds) ρ
  | .br i => fz1S ρ i k ρ[i]?
  | _ => False
theorem fz1_of {r : Rs} {ρ : En} {k : PyData → En → Prop} (h : fz1 r ρ k) : ∃ d ρ', fz r ρ = some (d, ρ') ∧ k d ρ' := by
  cases r with
  | dt d => exact ⟨d, ρ, rfl, h⟩
  | nl d => exact ⟨_, ρ, rfl, h⟩
  | nd d => exact ⟨_, ρ, rfl, h⟩
  | br i =>
    have h1 : fz1S ρ i k ρ[i]? := h
    cases e : ρ[i]? with
    | none => rw [e] at h1; exact h1.elim
    | some s =>
      rw [e] at h1
      cases s with
      | dt d => exact ⟨d, ρ, by show fzS ρ i ρ[i]? = _; rw [e]; rfl, h1⟩
      | ls d => exact ⟨_, _, by show fzS ρ i ρ[i]? = _; rw [e]; rfl, h1⟩
      | dk d => exact ⟨_, _, by show fzS ρ i ρ[i]? = _; rw [e]; rfl, h1⟩
      | _ => exact h1.elim
  | _ => exact h.elim
def fzK : List Rs → En → (List PyData → En → Prop) → Prop
  | [], ρ, k => k [] ρ
  | r :: rs, ρ, k => fz1 r ρ fun d ρ1 => fzK rs ρ1 fun ds ρ2 => k (d :: ds) ρ2
theorem fzK_of : ∀ {rs : List Rs} {ρ : En} {k : List PyData → En → Prop}, fzK rs ρ k → ∃ ds ρ2, fzA rs ρ = some (ds, ρ2) ∧ k ds ρ2
  | [], ρ, k, h => ⟨[], ρ, rfl, h⟩
  | r :: rs, ρ, k, h => by
    obtain ⟨d, ρ1, e, h⟩ := fz1_of h
    obtain ⟨ds, ρ2, e2, h⟩ := fzK_of h
    exact ⟨d :: ds, ρ2, by rw [fzA, e]; show (fzA rs ρ1).map _ = _; rw [e2]; rfl, h⟩
def dTup (t : DA G) : DT G := fun ρ g Q => t ρ g fun rs ρ1 g1 => fzK rs ρ1 fun ds ρ2 => leK ds.length 16777216 (Q (.dt (.tuple ds)) ρ2 g1)
def dLst (t : DA G) : DT G := fun ρ g Q => t ρ g fun rs ρ1 g1 => fzK rs ρ1 fun ds ρ2 => leK ds.length 16777216 (Q (.nl ds) ρ2 g1)
theorem sim_tup {ta : TA} {a : DA G} (ha : SimA Z ta a) : Sim Z (tTup ta) (dTup a) := fun f F ad ρ g σ H Q R q P hP => by
  refine ha f F ad ρ g σ H _ R q _ fun vs H1 q => ?_
  obtain ⟨F1, ad1, ρ1, g1, rs, e1, eg1, R1, v1, q⟩ := q
  obtain ⟨ds, ρ2, ef, q⟩ := fzK_of q
  obtain ⟨hl, q⟩ := leK_e q
  obtain ⟨F2, e2, R2, da⟩ := R1.hfzA v1 ef
  exact ⟨by rw [sizeLine_eq, da.length]; exact hl, fun p hp => hP _ _ ((R2.newT hp da q).mono (e1.trans e2) eg1)⟩
theorem sim_lst {ta : TA} {a : DA G} (ha : SimA Z ta a) : Sim Z (tLst ta) (dLst a) := fun f F ad ρ g σ H Q R q P hP => by
  refine ha f F ad ρ g σ H _ R q _ fun vs H1 q => ?_
  obtain ⟨F1, ad1, ρ1, g1, rs, e1, eg1, R1, v1, q⟩ := q
  obtain ⟨ds, ρ2, ef, q⟩ := fzK_of q
  obtain ⟨hl, q⟩ := leK_e q
  obtain ⟨F2, e2, R2, da⟩ := R1.hfzA v1 ef
  exact ⟨by rw [sizeLine_eq, da.length]; exact hl, fun p hp => hP _ _ ((R2.newL hp da q).mono (e1.trans e2) eg1)⟩
theorem e_tup {es : List Expr} {ta : TA} {a : DA G} {x1} {pos : Pos} (h : DAs X Z es ta a) : DE X Z (.Tuple es x1 pos) (tTup ta) (dTup a) := ⟨pe_tup h.pa, sim_tup h.sim⟩
theorem e_lst {es : List Expr} {ta : TA} {a : DA G} {pos : Pos} (h : DAs X Z es ta a) : DE X Z (.List es pos) (tLst ta) (dLst a) := ⟨pe_lst h.pa, sim_lst h.sim⟩
abbrev RA (G : Type) := List Rs → En → G → (Rs → En → G → Prop) → Prop
def SimC (Z : Zx K G) (r : List V → Hp → VK → Prop) (o : RA G) : Prop := ∀ f F ad ρ g σ H vs rs Q, Rel Z f F ad ρ g σ H → VRs Z f F ad ρ g σ H vs rs → o rs ρ g Q → ∀ P : VK, (∀ v H', Post Z f F g σ Q v H' → P v H') → r vs H P
def dCB (o : RA G) (a : DA G) : DT G := fun ρ g Q => a ρ g fun rs ρ1 g1 => o rs ρ1 g1 Q
theorem sim_cb {r : List V → Hp → VK → Prop} {o : RA G} {ta : TA} {a : DA G} (ho : SimC Z r o) (ha : SimA Z ta a) : Sim Z (tCB r ta) (dCB o a) := fun f F ad ρ g σ H Q R q P hP => by
  refine ha f F ad ρ g σ H _ R q _ fun vs H1 q => ?_
  obtain ⟨F1, ad1, ρ1, g1, rs, e1, eg1, R1, v1, q⟩ := q
  exact ho f F1 ad1 ρ1 g1 σ H1 vs rs Q R1 v1 q P fun v H' hp => hP v H' (hp.mono e1 eg1)
section
variable {x : Str} {p pos : Pos} {e : Expr} {es : List Expr} {ta : TA} {a : DA G} {id T : String} {r : List V → Hp → VK → Prop} {o : RA G}
theorem e_callB (hc : CallR X (.builtin id) r ∧ SimC Z r o) (ha : DAs X Z (e :: es) ta a) (hm : X.mg x = none) (hv : bootBuiltins x = some (.builtin id)) (hg : Gl X x := by rfl) (hn : x ≠ "__name__" := by decide) (hdb : (x == ("__debug__" : Str)) = false := by decide)
    (he : starEach (e :: es) X.env = (false, eval e X.env) :: starEach es X.env := by rfl) (hpl : (backTo pos (starEach es X.env)).any (·.1) = false := by rfl) : DE X Z (.Call (.Name x p) (e :: es) [] pos) (tCB r ta) (dCB o a) :=
  ⟨pe_callB hc.1 hg hm hv ha.pa hn hdb he hpl, sim_cb hc.2 ha.sim⟩
theorem e_callTy (hc : CallR X (.type T) r ∧ SimC Z r o) (ha : DAs X Z (e :: es) ta a) (hm : X.mg x = none) (hv : bootBuiltins x = some (.type T)) (hg : Gl X x := by rfl) (hn : x ≠ "__name__" := by decide) (hdb : (x == ("__debug__" : Str)) = false := by decide)
    (he : starEach (e :: es) X.env = (false, eval e X.env) :: starEach es X.env := by rfl) (hpl : (backTo pos (starEach es X.env)).any (·.1) = false := by rfl) : DE X Z (.Call (.Name x p) (e :: es) [] pos) (tCB r ta) (dCB o a) :=
  ⟨pe_callTy hc.1 hg hm hv ha.pa hn hdb he hpl, sim_cb hc.2 ha.sim⟩
end
section
variable {f : Fx} {F F' : Hp} {ad : Nat → Addr} {ρ : En} {g : G} {σ : St} {H H' : Hp}
theorem vrs1 {vs : List V} {r : Rs} (h : VRs Z f F ad ρ g σ H vs [r]) : ∃ v, vs = [v] ∧ VR Z f F ad ρ g σ H v r := by
  cases h with
  | cons h t =>
    cases t
    obtain ⟨r0, rfl, h⟩ := h
    exact ⟨_, rfl, h⟩
theorem vrs2 {vs : List V} {r s : Rs} (h : VRs Z f F ad ρ g σ H vs [r, s]) : ∃ v w, vs = [v, w] ∧ VR Z f F ad ρ g σ H v r ∧ VR Z f F ad ρ g σ H w s := by
  cases h with
  | cons h t =>
    cases t with
    | cons h' t =>
      cases t
      obtain ⟨r0, rfl, h⟩ := h
      obtain ⟨r1, rfl, h'⟩ := h'
      exact ⟨_, _, rfl, h, h'⟩
end
def lenD (ρ : En) (g : G) (Q : Rs → En → G → Prop) : Option PyData → Prop
  | some (.list ds) => Q (.dt (.int (ds.length : Nat))) ρ g
  | some (.tuple ds) => Q (.dt (.int (ds.length : Nat))) ρ g
  | some (.str z) => z.length ≤ sizeLine ∧ Q (.dt (.int (z.length : Nat))) ρ g
  | _ => False
def one (k : Rs → Prop) : List Rs → Prop
  | [r] => k r
  | _ => False
theorem one_of {k : Rs → Prop} {rs : List Rs} (h : one k rs) : ∃ r, rs = [r] ∧ k r := by
  unfold one at h
  split at h
  · exact ⟨_, rfl, h⟩
  · cases h
def two (k : Rs → Rs → Prop) : List Rs → Prop
  | [r, s] => k r s
  | _ => False
theorem two_of {k : Rs → Rs → Prop} {rs : List Rs} (h : two k rs) : ∃ r s, rs = [r, s] ∧ k r s := by
  unfold two at h
  split at h
  · exact ⟨_, _, rfl, h⟩
  · cases h
def oLen : RA G := fun rs ρ g Q => one (fun r => lenD ρ g Q (rd r ρ)) rs
def rLenX (K : PySem.W.Frag) : List V → Hp → VK → Prop := fun xs H Q => (∃ p ys, xs = [.ref p] ∧ (SqL K H p ys ∨ SqT K H p ys) ∧ Q (.int ys.length) H) ∨ ∃ z, xs = [.str z] ∧ z.length ≤ sizeLine ∧ Q (.int z.length) H
theorem k_len (hK : K = X.K := by rfl) : CallR X (.builtin "len") (rLenX K) ∧ SimC Z (rLenX K) (oLen (G := G)) := ⟨by rw [hK]; exact call_len_seq.or call_len_str, fun f F ad ρ g σ H vs rs Q R h q P hP => by
  obtain ⟨r, rfl, q⟩ := one_of q
  obtain ⟨v, rfl, h0⟩ := vrs1 h
  have q' : lenD ρ g Q (rd r ρ) := q
  unfold lenD at q'
  split at q'
  · rename_i ds e
    obtain ⟨a, vs, rfl, ha, da⟩ := R.items h0 e
    exact .inl ⟨a, vs, rfl, .inl (.inl (.inl ha)), hP _ _ (by rw [da.length]; exact R.dat (.int _) q')⟩
  · rename_i ds e
    obtain ⟨a, vs, rfl, ha, da⟩ := R.titems h0 e
    exact .inl ⟨a, vs, rfl, .inr (Evl.ex_t R.fin.sub ha), hP _ _ (by rw [da.length]; exact R.dat (.int _) q')⟩
  · rename_i z e
    exact .inr ⟨z, by rw [R.rStr h0 e], q'.1, hP _ _ (R.dat (.int _) q'.2)⟩
  · cases q'⟩
def oAbs : RA G := fun rs ρ g Q => one (fun r => iiU (fun i => Q (.dt (.int (if i < 0 then -i else i))) ρ g) (rd r ρ)) rs
theorem k_abs : CallR X (.builtin "abs") (fun xs H Q => ∃ i, xs = [.int i] ∧ Q (.int (if i < 0 then -i else i)) H) ∧ SimC Z (fun xs H Q => ∃ i, xs = [.int i] ∧ Q (.int (if i < 0 then -i else i)) H) (oAbs (G := G)) := ⟨call_abs, fun f F ad ρ g σ H vs rs Q R h q P hP => by
  obtain ⟨r, rfl, q⟩ := one_of q
  obtain ⟨v, rfl, h0⟩ := vrs1 h
  obtain ⟨i, e, q⟩ := iiU_of q
  exact ⟨i, by rw [R.rInt h0 e], hP _ _ (R.dat (.int _) q)⟩⟩
def oMax2 : RA G := fun rs ρ g Q => two (fun r s => ii (fun i j => Q (.dt (.int (if j > i then j else i))) ρ g) (rd r ρ) (rd s ρ)) rs
def oMin2 : RA G := fun rs ρ g Q => two (fun r s => ii (fun i j => Q (.dt (.int (if j < i then j else i))) ρ g) (rd r ρ) (rd s ρ)) rs
theorem k_max2 (hc : X.calm = true := by rfl) : CallR X (.builtin "max") (fun xs H Q => ∃ i j, xs = [.int i, .int j] ∧ Q (.int (if j > i then j else i)) H) ∧ SimC Z (fun xs H Q => ∃ i j, xs = [.int i, .int j] ∧ Q (.int (if j > i then j else i)) H) (oMax2 (G := G)) :=
  ⟨call_max2 hc, fun f F ad ρ g σ H vs rs Q R h q P hP => by
    obtain ⟨r, s, rfl, q⟩ := two_of q
    obtain ⟨v, w, rfl, h1, h2⟩ := vrs2 h
    obtain ⟨i, j, e1, e2, q⟩ := ii_of q
    exact ⟨i, j, by rw [R.rInt h1 e1, R.rInt h2 e2], hP _ _ (R.dat (.int _) q)⟩⟩
theorem k_min2 (hc : X.calm = true := by rfl) : CallR X (.builtin "min") (fun xs H Q => ∃ i j, xs = [.int i, .int j] ∧ Q (.int (if j < i then j else i)) H) ∧ SimC Z (fun xs H Q => ∃ i j, xs = [.int i, .int j] ∧ Q (.int (if j < i then j else i)) H) (oMin2 (G := G)) :=
  ⟨call_min2 hc, fun f F ad ρ g σ H vs rs Q R h q P hP => by
    obtain ⟨r, s, rfl, q⟩ := two_of q
    obtain ⟨v, w, rfl, h1, h2⟩ := vrs2 h
    obtain ⟨i, j, e1, e2, q⟩ := ii_of q
    exact ⟨i, j, by rw [R.rInt h1 e1, R.rInt h2 e2], hP _ _ (R.dat (.int _) q)⟩⟩
def intD (ρ : En) (g : G) (Q : Rs → En → G → Prop) : Option PyData → Prop
  | some (.int i) => Q (.dt (.int i)) ρ g
  | some (.bool b) => Q (.dt (.int (if b then 1 else 0))) ρ g
  | _ => False
def oInt : RA G := fun rs ρ g Q => one (fun r => intD ρ g Q (rd r ρ)) rs
theorem k_int : CallR X (.type "int") (fun xs H Q => (∃ i, xs = [.int i] ∧ Q (.int i) H) ∨ ∃ k, xs = [.bl k] ∧ Q (.int (if k then 1 else 0)) H) ∧ SimC Z (fun xs H Q => (∃ i, xs = [.int i] ∧ Q (.int i) H) ∨ ∃ k, xs = [.bl k] ∧ Q (.int (if k then 1 else 0)) H) (oInt (G := G)) :=
  ⟨call_int1, fun f F ad ρ g σ H vs rs Q R h q P hP => by
    obtain ⟨r, rfl, q⟩ := one_of q
    obtain ⟨v, rfl, h0⟩ := vrs1 h
    have q' : intD ρ g Q (rd r ρ) := q
    unfold intD at q'
    split at q'
    · rename_i i e
      exact .inl ⟨i, by rw [R.rInt h0 e], hP _ _ (R.dat (.int _) q')⟩
    · rename_i b e
      exact .inr ⟨b, by rw [R.rBool h0 e], hP _ _ (R.dat (.int _) q')⟩
    · cases q'⟩
/-- list(x), tuple(x) -/
def seqD (k : List PyData → Prop) : Option PyData → Prop
  | some (.list ds) => k ds
  | some (.tuple ds) => k ds
  | _ => False
theorem seqD_of {k : List PyData → Prop} {a : Option PyData} (h : seqD k a) : ∃ ds, (a = some (.list ds) ∨ a = some (.tuple ds)) ∧ k ds := by
  unfold seqD at h
  split at h
  · exact ⟨_, .inl rfl, h⟩
  · exact ⟨_, .inr rfl, h⟩
  · cases h
theorem Rel.seq {f : Fx} {F : Hp} {ad : Nat → Addr} {ρ : En} {g : G} {σ : St} {H : Hp} (R : Rel Z f F ad ρ g σ H) {v : V} {r : Rs} {ds : List PyData} (h : VR Z f F ad ρ g σ H v r) (e : L3.rd r ρ = some (.list ds) ∨ L3.rd r ρ = some (.tuple ds)) :
    ∃ a vs, v = .ref a ∧ (SqL K H a vs ∨ SqT K H a vs) ∧ DaAll K F vs ds := by
  rcases e with e | e
  · obtain ⟨a, vs, rfl, ha, da⟩ := R.items h e
    exact ⟨a, vs, rfl, .inl (.inl (.inl ha)), da⟩
  · obtain ⟨a, vs, rfl, ha, da⟩ := R.titems h e
    exact ⟨a, vs, rfl, .inr (Evl.ex_t R.fin.sub ha), da⟩
def oList : RA G := fun rs ρ g Q => one (fun r => seqD (fun ds => Q (.nl ds) ρ g) (rd r ρ)) rs
def oTuple : RA G := fun rs ρ g Q => one (fun r => seqD (fun ds => Q (.dt (.tuple ds)) ρ g) (rd r ρ)) rs
def rList (K : PySem.W.Frag) : List V → Hp → VK → Prop := fun xs H Q => ∃ p ys, xs = [.ref p] ∧ (SqL K H p ys ∨ SqT K H p ys) ∧ ∀ l, H l = none → Q (.ref l) (upd H l (.lst ys))
def rTuple (K : PySem.W.Frag) : List V → Hp → VK → Prop := fun xs H Q => ∃ p ys, xs = [.ref p] ∧ ((SqL K H p ys ∧ ∀ l, H l = none → Q (.ref l) (upd H l (.tup ys))) ∨ (SqT K H p ys ∧ Q (.ref p) H))
theorem k_list (hK : K = X.K := by rfl) : CallR X (.type "list") (rList K) ∧ SimC Z (rList K) (oList (G := G)) := ⟨by rw [hK]; exact call_list_of, fun f F ad ρ g σ H vs rs Q R h q P hP => by
  obtain ⟨r, rfl, q⟩ := one_of q
  obtain ⟨v, rfl, h0⟩ := vrs1 h
  obtain ⟨ds, e, q⟩ := seqD_of q
  obtain ⟨a, vs, rfl, ha, da⟩ := R.seq h0 e
  exact ⟨a, vs, rfl, ha, fun l hl => hP _ _ (R.newL hl da q)⟩⟩
theorem k_tuple (hK : K = X.K := by rfl) : CallR X (.type "tuple") (rTuple K) ∧ SimC Z (rTuple K) (oTuple (G := G)) := ⟨by rw [hK]; exact call_tuple_of, fun f F ad ρ g σ H vs rs Q R h q P hP => by
  obtain ⟨r, rfl, q⟩ := one_of q
  obtain ⟨v, rfl, h0⟩ := vrs1 h
  obtain ⟨ds, e, q⟩ := seqD_of q
  rcases e with e | e
  · obtain ⟨a, vs, rfl, ha, da⟩ := R.items h0 e
    exact ⟨a, vs, rfl, .inl ⟨.inl (.inl ha), fun l hl => hP _ _ (R.newT hl da q)⟩⟩
  · obtain ⟨a, vs, rfl, ha, da⟩ := R.titems h0 e
    exact ⟨a, vs, rfl, .inr ⟨Evl.ex_t R.fin.sub ha, hP _ _ (R.dat (.tup ha da) q)⟩⟩⟩
/-- sum, all, any of a list -/
def intsL : List PyData → Option (List Int)
  | [] => some []
  | .int i :: ds => (intsL ds).map (i :: ·)
  | _ :: _ => none
theorem intsL_of : ∀ {ds : List PyData} {ns : List Int}, intsL ds = some ns → ds = ns.map PyData.int
  | [], ns, e => by cases e; rfl
  | .int i :: ds, ns, e => by
    unfold intsL at e
    cases h : intsL ds with
    | none => rw [h] at e; cases e
    | some ms => rw [h] at e; cases e; rw [intsL_of h]; rfl
  | .none :: _, _, e => by cases e
  | .bool _ :: _, _, e => by cases e
  | .str _ :: _, _, e => by cases e
  | .list _ :: _, _, e => by cases e
  | .tuple _ :: _, _, e => by cases e
  | .dict _ :: _, _, e => by cases e
theorem intsL_map : ∀ ns : List Int, intsL (ns.map PyData.int) = some ns
  | [] => rfl
  | n :: ns => by rw [List.map_cons]; unfold intsL; rw [intsL_map ns]; rfl
def boolsL : List PyData → Option (List Bool)
  | [] => some []
  | .bool i :: ds => (boolsL ds).map (i :: ·)
  | _ :: _ => none
theorem boolsL_of : ∀ {ds : List PyData} {ns : List Bool}, boolsL ds = some ns → ds = ns.map PyData.bool
  | [], ns, e => by cases e; rfl
  | .bool i :: ds, ns, e => by
    unfold boolsL at e
    cases h : boolsL ds with
    | none => rw [h] at e; cases e
    | some ms => rw [h] at e; cases e; rw [boolsL_of h]; rfl
  | .none :: _, _, e => by cases e
  | .int _ :: _, _, e => by cases e
  | .str _ :: _, _, e => by cases e
  | .list _ :: _, _, e => by cases e
  | .tuple _ :: _, _, e => by cases e
  | .dict _ :: _, _, e => by cases e
theorem boolsL_map : ∀ ns : List Bool, boolsL (ns.map PyData.bool) = some ns
  | [] => rfl
  | n :: ns => by rw [List.map_cons]; unfold boolsL; rw [boolsL_map ns]; rfl
theorem daAll_bools {K : PySem.W.Frag} {H : Hp} : ∀ {ns : List Bool} {vs : List V}, DaAll K H vs (ns.map PyData.bool) → vs = ns.map V.bl
  | [], _, .nil => rfl
  | n :: ns, _, .cons h r => by
    cases h
    rw [daAll_bools r]; rfl
def lsD (k : List PyData → Prop) : Option PyData → Prop
  | some (.list ds) => k ds
  | _ => False
theorem lsD_of {k : List PyData → Prop} {a : Option PyData} (h : lsD k a) : ∃ ds, a = some (.list ds) ∧ k ds := by
  unfold lsD at h
  split at h
  · exact ⟨_, rfl, h⟩
  · cases h
def oSum : RA G := fun rs ρ g Q => one (fun r => lsD (fun ds => opK (intsL ds) fun ns => Q (.dt (.int ns.sum)) ρ g) (rd r ρ)) rs
theorem k_sum (hc : X.calm = true := by rfl) (hK : K = X.K := by rfl) : CallR X (.builtin "sum") (rSum K) ∧ SimC Z (rSum K) (oSum (G := G)) := ⟨by rw [hK]; exact cr_sum hc, fun f F ad ρ g σ H vs rs Q R h q P hP => by
  obtain ⟨r, rfl, q⟩ := one_of q
  obtain ⟨v, rfl, h0⟩ := vrs1 h
  obtain ⟨ds, e, q⟩ := lsD_of q
  obtain ⟨ns, ei, q⟩ := opK_e q
  obtain ⟨a, vs, rfl, ha, da⟩ := R.items h0 e
  rw [intsL_of ei] at da
  have ev := daAll_ints da
  subst ev
  exact ⟨a, ns, rfl, .inl (.inl ha), hP _ _ (R.dat (.int _) q)⟩⟩
end L3
end
section
namespace L2
open PySem PySem.Spec PyProof.Rows
section
variable {prog : Program} {w : World} {A : Around} {E : Value → Shared → Prop} {s : Shared}
theorem draw_lst {it t : Addr} {items : Array Value} (hne : t ≠ it) : ∀ (n i : Nat) (s : Shared) (Q : List Value → Shared → Prop), s.heap.IsListIter it t i → s.heap.IsList t items → i + n ≤ items.size →
    (∀ h', h'.IsListIter it t (i + n) → Heap.SameBut it s.heap h' → Q ((items.toList.drop i).take n) { s with heap := h' }) → wpAny (model prog w) A (draw (.ref it) n) Q E s
  | 0, i, s, Q, hit, _, _, hQ => by
    show wpAny _ _ (pure []) Q E s
    exact wpAny_pure (by simpa using hQ s.heap hit (Heap.SameBut.refl ..))
  | n + 1, i, s, Q, hit, ht, hle, hQ => by
    have hlt : i < items.size := by omega
    show wpAny _ _ (pyNext (.ref it) >>= _) Q E s
    refine wpAny_bind (wpAny_pyNext_list_item hit ht (x := items[i]) (by simp [hlt]) fun h1 hit1 hs1 => ?_)
    refine wpAny_bind (wpAny_holding (draw_lst hne n (i + 1) _ _ hit1 (ht.extBut hs1.extBut hne) (by omega) fun h2 hit2 hs2 => wpAny_pure ?_))
    have hd : items.toList.drop i = items[i] :: items.toList.drop (i + 1) := by simp [List.drop_eq_getElem_cons, hlt]
    have := hQ h2 (by rw [show i + (n + 1) = i + 1 + n by omega]; exact hit2) (hs1.trans hs2)
    rw [hd, List.take_succ_cons] at this
    exact this
theorem unpackItems_lst {t : Addr} {items : Array Value} {Q : List Value → Shared → Prop} (hh : A.handled = none) (ht : s.heap.IsList t items)
    (hQ : ∀ h', Heap.ExtBut s.heap.objs.size s.heap h' → Q items.toList { s with heap := h' }) : wpAny (model prog w) A (unpackItems (.ref t) items.size none) Q E s := by
  have hlt : t ≠ s.heap.objs.size := by obtain ⟨o, ho, _⟩ := ht; exact Nat.ne_of_lt (Heap.lt_size ho)
  unfold unpackItems
  refine wpAny_bind ?_
  · unfold notIterableAtAll
    refine wpAny_bind (wpAny_specialOf ht.typeIs slot_list_iter.lookup ?_)
    refine wpAny_pure ?_
    simp only [Bool.false_eq_true, if_false]
    refine wpAny_bind (wpAny_holding (wpAny_pyIter_list ht ?_))
    refine wpAny_bind (wpAny_holding (draw_lst hlt items.size 0 _ _ ⟨_, Heap.get?_push_size _ rfl, rfl, rfl⟩ (ht.push _) (by omega) fun h1 hit1 hs1 => ?_))
    have hall : List.take items.size (List.drop 0 items.toList) = items.toList := by
      rw [List.drop_zero]; exact List.take_of_length_le (by simp)
    rw [hall]
    rw [if_neg (by simp)]
    have ht1 : h1.IsList t items := (ht.push _).extBut hs1.extBut hlt
    refine wpAny_bind (wpAny_holding (wpAny_pyNext_list_end hh hit1 ht1 (by simp) fun h2 he2 => ?_))
    simp only [Option.isSome_none, Bool.false_eq_true, if_false]
    refine wpAny_pure (hQ h2 fun b o hb e => he2 b o hb (hs1.extBut b o hb (Heap.get?_push_of_some _ e)))
theorem assign_Tuple_lst {env : Env} {elts : List Expr} {x1} {pos : Pos} {t : Addr} {items : Array Value} {Q : Unit → Shared → Prop} (hh : A.handled = none) (ht : s.heap.IsList t items)
    (hn : (assignEach elts env).length = items.size) (hstar : (assignEach elts env).findIdx? (·.1) = none)
    (h : ∀ h', Heap.ExtBut s.heap.objs.size s.heap h' → wpAny (model prog w) A (assignInOrder ((assignEach elts env).map (·.2)) items.toList) Q E { s with heap := h' }) :
    wpAny (model prog w) A (assign (.Tuple elts x1 pos) env (.ref t)) Q E s := by
  rw [assign_Tuple]
  refine wpAny_bind (wpAny_standAt ?_)
  unfold unpack
  rw [hn, hstar]
  exact wpAny_bind (wpAny_holding (unpackItems_lst hh ht h))
end
/-- (a, b, ..) = a list or a tuple of that length -/
def gSeq (K : PySem.W.Frag) (n : Nat) (t : TGs) : TG := fun v σ H Q => ∃ a xs, v = .ref a ∧ (SqL K H a xs ∨ SqT K H a xs) ∧ xs.length = n ∧ t xs σ H Q
theorem pg_seq {X : Cx} {es : List Expr} {k : Nat} {t : TGs} {n : Nat} {pos : Pos} (hc : X.calm = true) (h : PGs X es t)
    (hn : (assignEach es X.env).length = n := by rfl) (hst : (assignEach es X.env).findIdx? (·.1) = none := by rfl) : PG X (.Tuple es k pos) (gSeq X.K n t) := by
  refine ⟨fun pins s σ H v u Q I r hw => ?_⟩
  obtain ⟨a, xs, e1, hq, hl, hw⟩ := hw
  rcases hq with hq | hq
  · subst e1
    cases r
    obtain ⟨its, rv, ht, hz⟩ := I.list hq
    refine assign_Tuple_lst (I.ok.hd hc) ht.isList (by simp [hn, ← hl, rv.length]) hst fun h' hx => ?_
    have I1 : Inv X pins σ H { s with heap := h' } := I.kept (t' := s.toks) fun b o e => hx b o (Nat.ne_of_lt (Heap.lt_size e)) e
    exact h.run pins _ σ H xs _ Q I1 (by simpa using rv) hw
  · exact (pg_tup hc h hn hst).run pins s σ H v u Q I r ⟨a, xs, e1, hq, hl, hw⟩
def SqB (K : PySem.W.Frag) (H : Hp) : Bool → Addr → List V → Prop
  | true, a, xs => SqT K H a xs
  | false, a, xs => SqL K H a xs
def IsB (h : Heap) : Bool → Addr → Array Value → Prop
  | true, a, xs => h.IsTuple a xs
  | false, a, xs => h.IsList a xs
def IterB (h : Heap) : Bool → Addr → Addr → Nat → Prop
  | true, it, a, i => h.IsTupleIter it a i
  | false, it, a, i => h.IsListIter it a i
def itO : Bool → Addr → Obj
  | true, a => { cls := .type "tuple_iterator", data := .fields #[.ref a, .int 0 0] }
  | false, a => { cls := .type "list_iterator", data := .fields #[.ref a, .int 0 0] }
theorem drawsB {prog : Program} {w : World} {A : Around} (hh : A.handled = none) (b : Bool) (it a : Addr) (hne : a ≠ it) (items : Array Value) :
    Draws prog w A it [it, a] items.size (fun i v => items[i]? = some v) (fun i h => IterB h b it a i ∧ IsB h b a items) := by
  cases b with
  | true => exact Draws.tuple hh it a hne items
  | false => exact Draws.list hh it a hne items
theorem beginsB (b : Bool) (a : Addr) (items : Array Value) : Begins (.ref a) (itO b a) fun h => IsB h b a items := by
  cases b with
  | true => exact begins_tuple a items
  | false => exact begins_list a items
theorem IterB.at' {h h' : Heap} {b : Bool} {it a : Addr} {i : Nat} (x : IterB h b it a i) (k : ∀ o, h.get? it = some o → h'.get? it = some o) : IterB h' b it a i := by
  cases b with
  | true => exact Heap.IsTupleIter.at (show h.IsTupleIter it a i from x) k
  | false => exact Heap.IsListIter.at (show h.IsListIter it a i from x) k
theorem IterB.obj {h : Heap} {b : Bool} {it a : Addr} {i : Nat} (x : IterB h b it a i) : ∃ o, h.get? it = some o ∧ ∀ v, o.data ≠ .cell v := by
  cases b with
  | true => obtain ⟨o, e, _, d⟩ := x; exact ⟨o, e, fun v q => by rw [d] at q; cases q⟩
  | false => obtain ⟨o, e, _, d⟩ := x; exact ⟨o, e, fun v q => by rw [d] at q; cases q⟩
theorem IterB.new {h : Heap} {b : Bool} {it a : Addr} (e : h.get? it = some (itO b a)) : IterB h b it a 0 := by
  cases b with
  | true => exact ⟨_, e, rfl, rfl⟩
  | false => exact ⟨_, e, rfl, rfl⟩
theorem IsB.keep {h h' : Heap} {b : Bool} {a : Addr} {xs : Array Value} (x : IsB h b a xs) (k : ∀ o, h.get? a = some o → h'.get? a = some o) : IsB h' b a xs := by
  cases b with
  | true => obtain ⟨o, e, r⟩ := x; exact ⟨o, k o e, r⟩
  | false => obtain ⟨o, e, r⟩ := x; exact ⟨o, k o e, r⟩
section
variable {X : Cx} {pins : List (Addr × Obj)} {σ : St} {H : Hp} {s : Shared}
theorem Inv.seqB (I : Inv X pins σ H s) {b : Bool} {a : Addr} {xs : List V} (h : SqB X.K H b a xs) : ∃ its : List Value, Vals xs its ∧ IsB s.heap b a its.toArray ∧ a < s.heap.objs.size := by
  cases b with
  | true =>
    obtain ⟨its, rv, p, _⟩ := I.tuple h
    exact ⟨its, rv, p, p.lt⟩
  | false =>
    obtain ⟨its, rv, p, _⟩ := I.list h
    exact ⟨its, rv, p.isList, p.lt⟩
theorem Inv.seqB_inj (I : Inv X pins σ H s) {b : Bool} {a : Addr} {xs ys : List V} (h : SqB X.K H b a xs) (h' : SqB X.K H b a ys) : xs = ys := by
  cases b with
  | true => exact I.tuple_inj h h'
  | false => exact I.list_inj h h'
end
theorem fp_of {X : Cx} {pins : List (Addr × Obj)} {H : Hp} {L : List Addr} {s : Shared} {σ : St} (I : Inv X pins σ H s) (h : ∀ c ∈ L, s.heap.objs.size ≤ c) : ∀ c ∈ L, FpOk X pins H c :=
  fun c hc => I.fpOk (h c hc) (I.hok.fresh (h c hc))
theorem lt_one {a N : Nat} (h : a < N) : ∀ b ∈ [a], b < N := fun b hb => by
  have z : b = a := by simpa using hb
  rw [z]; exact h
def IteB (K : PySem.W.Frag) (b : Bool) (a : Addr) : It :=
  ⟨fun i H => ∃ (xs : List V) (x : V), SqB K H b a xs ∧ xs[i]? = some x, fun i H v H' => ∃ T x, v = .ref T ∧ H T = none ∧ H' = upd H T (.tup [.int (i : Nat), x]) ∧ ∀ xs, SqB K H b a xs → xs[i]? = some x, fun i H => ∃ xs : List V, SqB K H b a xs ∧ xs.length = i⟩
theorem turn_enumB {P : Program} {w : World} {K : PySem.W.Frag} {elts : List Expr} {kk : Nat} {tpos : Pos} (b : Bool) (a e it : Addr) :
    Turn P w K (.Tuple elts kk tpos) (IteB K b a) [e, it] e (fun i h => (∃ old, IsEnum h e it ((i : Nat) : Int) old) ∧ IterB h b it a i ∧ e ≠ it ∧ a ≠ it ∧ a ≠ e) where
  mem := by simp
  obj := fun i h st c hc => by
    obtain ⟨⟨old, he⟩, hi, _⟩ := st
    have e' : c = e ∨ c = it := by simpa using hc
    rcases e' with z | z
    · rw [z]; exact ⟨_, he, fun v q => nomatch q⟩
    · rw [z]; exact hi.obj
  keep := fun i h h' st k => let ⟨⟨old, he⟩, hi, hne⟩ := st; ⟨⟨old, k e (by simp) _ he⟩, hi.at' fun o q => k it (by simp) o q, hne⟩
  item := by
    intro X hP hw hK hc i pins s σ H E I hf st hg
    subst hP hw hK
    obtain ⟨⟨old, he⟩, hit, hne, hai, hae⟩ := st
    obtain ⟨xs, x, hq, hx⟩ := hg
    obtain ⟨its, rv, p, hal⟩ := I.seqB hq
    obtain ⟨u, hu, ru⟩ := rv.get hx
    have hel : e < s.heap.objs.size := Heap.lt_size he
    have hil : it < s.heap.objs.size := by obtain ⟨_, q, _⟩ := hit.obj; exact Heap.lt_size q
    have hlt : i < its.toArray.size := by rw [List.size_toArray]; exact (List.getElem?_eq_some_iff.mp hu).1
    refine wpAny_pyNext_enum_itemD (drawsB (show X.A.in1.handled = none from I.ok.hd hc) b it a hai its.toArray) he ⟨hit, p⟩ hlt hne (by simp [hne, Ne.symm hae]) fun u' h' tk hu' ho hst' hT hsz hk => ?_
    have eu : u' = u := by
      have z : its[i]? = some u' := by simpa using hu'
      rw [hu] at z
      exact (Option.some.inj z).symm
    subst eu
    refine ⟨_, rfl, wpAny_letOwnedTupleGo_enum (s := { s with heap := h', toks := tk + 1 }) ho fun h'' he' sb => ?_⟩
    have hT2 : h''.get? s.heap.objs.size = some { cls := .type "tuple", data := .seq #[.int i tk, u'] } := (sb.2 _ (Nat.ne_of_gt hel)).trans hT
    have new : ObjOk X.prog X.w (upd H s.heap.objs.size (.tup [.int (i : Nat), x])) h'' s.heap.objs.size (.tup [.int (i : Nat), x]) :=
      ⟨by show 2 ≤ sizeLine; decide, [.int i tk, u'], .cons ⟨_, rfl⟩ (.cons ru .nil), ⟨_, hT2, rfl, _, rfl⟩⟩
    have I1 : Inv X pins σ (upd H s.heap.objs.size (.tup [.int (i : Nat), x])) { s with heap := h'', toks := tk + 1 } :=
      I.turnedNew (ch := [e, it]) (fun c ob hb q => (sb.2 c (fun z => hb (by simp [z]))).trans (hk c ob (fun z => hb (by simp [z])) (fun z => hb (by simp [z])) q)) hf (Nat.le_refl _) new
    refine ⟨.ref s.heap.objs.size, _, I1, rfl, ⟨_, x, rfl, I.hok.fresh (Nat.le_refl _), rfl, fun ys hy => by rw [I.seqB_inj hy hq]; exact hx⟩, ⟨⟨u', ?_⟩, hst'.1.at' fun o q => (sb.2 it (Ne.symm hne)).trans q, hne, hai, hae⟩, fun c hb => ?_⟩
    · have e1 : ((i + 1 : Nat) : Int) = (i : Int) + 1 := by omega
      rw [e1]; exact he'
    · have hb' : c < s.heap.objs.size := by
        have e' : c = e ∨ c = it := by simpa using hb
        rcases e' with z | z
        · rw [z]; exact hel
        · rw [z]; exact hil
      rw [upd_ne (Nat.ne_of_lt hb')]
      exact (hf c hb).1
  done := by
    intro X hP hw hK hc i pins s σ H E I hf st hg
    subst hP hw hK
    obtain ⟨⟨old, he⟩, hit, hne, hai, hae⟩ := st
    obtain ⟨xs, hq, hx⟩ := hg
    obtain ⟨its, rv, p, hal⟩ := I.seqB hq
    obtain ⟨f0, f1, f2, f3, f4, f5⟩ := hf it (by simp)
    have hl : i = its.toArray.size := by rw [List.size_toArray, ← rv.length]; exact hx.symm
    subst hl
    exact wpAny_pyNext_enum_endD (drawsB (show X.A.in1.handled = none from I.ok.hd hc) b it a hai its.toArray) he ⟨hit, p⟩ fun h' eb => ⟨rfl, I.turned (t' := s.toks) (fun c o hb q => eb c o hb q) f0 f1 f3 f4 f5⟩
  self := fun A i s Q E st h => let ⟨⟨_, he⟩, _⟩ := st; wpAny_pyIter_enum he h
theorem meets_enumerate_newB1 {v : Value} {o : Obj} {H : Heap → Prop} (B : Begins v o H) :
    Meets (Builtin.«enumerate.__new__» ⟨[.type "enumerate", v], []⟩) (fun _ R s => H s.heap ∧
      R (.ok (.ret (.ref (s.heap.push o).objs.size))) { s with heap := (s.heap.push o).push { cls := .type "enumerate", data := .fields #[.none, .bool false, .ref s.heap.objs.size, rawInt 0, .none, .none] } }) :=
  .of_wp fun prog w A R s h => by
    obtain ⟨hp, g, d, tk, os⟩ := s; obtain ⟨h1, h⟩ := h
    have hsub := sub_enumerate
    have q1 : ∀ {A' : Around} {E : Value → Shared → Prop} {Q : Value → Shared → Prop}, Q (.ref hp.objs.size) ⟨hp.push o, g, d, tk, os⟩ → wpAny (model prog w) A' (pyIter v) Q E ⟨hp, g, d, tk, os⟩ :=
      fun q => B.iter prog w _ _ ⟨hp, g, d, tk, os⟩ _ h1 q
    wp_walk using q1
    refine wpAny_stack_any fun st => wpAny_pure ?_
    split
    · rename_i c _ _ _ _ _
      cases (c == Value.type "enumerate")
      · wp_walk using q1
        exact ⟨_, rfl, h⟩
      · wp_walk using q1
        exact ⟨_, rfl, h⟩
    · wp_walk using q1
      exact ⟨_, rfl, h⟩
theorem enum_begins1 {prog : Program} {w : World} {A : Around} {E : Value → Shared → Prop} {s : Shared} {v : Value} {o : Obj} {H : Heap → Prop} {Q : Value → Shared → Prop} (B : Begins v o H) (h1 : H s.heap)
    (h : ∀ h', IsEnum h' (s.heap.objs.size + 1) s.heap.objs.size 0 .none → h'.get? s.heap.objs.size = some o → h'.objs.size = s.heap.objs.size + 2 →
      (∀ b o, s.heap.get? b = some o → h'.get? b = some o) → Q (.ref (s.heap.objs.size + 1)) { s with heap := h' }) :
    wpAny (model prog w) A (call (.type "enumerate") [v]) Q E s := by
  refine callType_new F.called_enumerate (by decide) (F.typeCall_enumerate_1 _) (F.newCall_enumerate_1 _) (fun obj => F.args_object_init_2 obj _) F.entry_enumerate_new
    (meets_enumerate_newB1 B) ⟨h1, ?_⟩
  have hz : (s.heap.push o).objs.size = s.heap.objs.size + 1 := Heap.size_push ..
  show _ ∧ _
  rw [hz]
  have he : IsEnum ((s.heap.push o).push { cls := .type "enumerate", data := .fields #[.none, .bool false, .ref s.heap.objs.size, rawInt 0, .none, .none] }) (s.heap.objs.size + 1) s.heap.objs.size 0 .none := by
    have := Heap.get?_push_size (s.heap.push o) (o := { cls := .type "enumerate", data := .fields #[.none, .bool false, .ref s.heap.objs.size, rawInt 0, .none, .none] }) rfl
    rw [hz] at this; exact this
  refine ⟨⟨_, he, rfl⟩, h _ he (Heap.get?_push_of_some _ (Heap.get?_push_size _ B.free)) (by rw [Heap.size_push, hz]) fun b o x => Heap.get?_push_of_some _ (Heap.get?_push_of_some _ x)⟩
def iEnumB (K : PySem.W.Frag) (ta : TA) : TI := fun σ H R => ta σ H fun vs H1 => ∃ b a xs, vs = [.ref a] ∧ SqB K H1 b a xs ∧ R (IteB K b a) H1
theorem pi_enumB {X : Cx} {e : Expr} {ta : TA} {p pos tpos : Pos} {elts : List Expr} {kk : Nat} (hg : Gl X "enumerate") (hm : X.mg "enumerate" = none) (ha : PA X [e] ta) (hs : starEach [e] X.env = [(false, eval e X.env)] := by rfl) :
    PI X (.Tuple elts kk tpos) (.Call (.Name "enumerate" p) [e] [] pos) (iEnumB X.K ta) := by
  refine ⟨fun pins s σ H R I h => ?_⟩
  refine Call_ (ld_blt I hg hm boot_enumerate (PyProof.Rows.callWith_type1 (thn (ha.run pos pins s σ H _ I h) fun us s1 ⟨vs, H1, I1, r1, q1⟩ => ?_) hs rfl))
  obtain ⟨b, a, xs, ex, hq, q⟩ := q1
  subst ex
  cases r1 with
  | cons r rr =>
    cases rr
    cases r
    obtain ⟨its, rv, p', hal⟩ := I1.seqB hq
    refine enum_begins1 (beginsB b a its.toArray) p' fun h' he hit hsz hk => wpAny_pyIter_enum he ?_
    have I2 : Inv X pins σ H1 { s1 with heap := h' } := I1.kept (t' := s1.toks) hk
    have n1 : a ≠ s1.heap.objs.size := Nat.ne_of_lt hal
    have n2 : a ≠ s1.heap.objs.size + 1 := Nat.ne_of_lt (Nat.lt_succ_of_lt hal)
    refine ⟨s1.heap.objs.size + 1, [s1.heap.objs.size + 1, s1.heap.objs.size], _, _, H1, rfl, I2, turn_enumB b a (s1.heap.objs.size + 1) s1.heap.objs.size, ⟨⟨.none, he⟩, .new hit, Nat.succ_ne_self _, n1, n2⟩, fp_of I1 fun c hc => ?_, q⟩
    have e' : c = s1.heap.objs.size + 1 ∨ c = s1.heap.objs.size := by simpa using hc
    rcases e' with z | z
    · rw [z]; exact Nat.le_add_right _ _
    · rw [z]; exact Nat.le_refl _
def ItzB (K : PySem.W.Frag) (b1 : Bool) (a1 : Addr) (b2 : Bool) (a2 : Addr) : It :=
  ⟨fun i H => ∃ (xs ys : List V) (x y : V), SqB K H b1 a1 xs ∧ SqB K H b2 a2 ys ∧ xs[i]? = some x ∧ ys[i]? = some y,
    fun i H v H' => ∃ T x y, v = .ref T ∧ H T = none ∧ H' = upd H T (.tup [x, y]) ∧ (∀ xs, SqB K H b1 a1 xs → xs[i]? = some x) ∧ ∀ ys, SqB K H b2 a2 ys → ys[i]? = some y,
    fun i H => ∃ xs ys : List V, SqB K H b1 a1 xs ∧ SqB K H b2 a2 ys ∧ i = min xs.length ys.length⟩
theorem turn_zipB {P : Program} {w : World} {K : PySem.W.Frag} {elts : List Expr} {kk : Nat} {tpos : Pos} {b1 b2 : Bool} {a1 a2 z TI TO i1 i2 : Addr} (D : ZipSep2 z TI TO i1 i2 [i1, a1] [i2, a2]) :
    Turn P w K (.Tuple elts kk tpos) (ItzB K b1 a1 b2 a2) [z, TI, TO, i1, i2] z (fun i h => IsZip h z TI TO .none ∧ IsTupOf2 h TI (.ref i1) (.ref i2) ∧ (∃ x y, IsTupOf2 h TO x y) ∧ IterB h b1 i1 a1 i ∧ IterB h b2 i2 a2 i ∧ a1 ≠ i1 ∧ a2 ≠ i2) where
  mem := by simp
  obj := fun i h st c hc => by
    obtain ⟨hz, hTI, ⟨x, y, hTO⟩, h1, h2, _⟩ := st
    have e' : c = z ∨ c = TI ∨ c = TO ∨ c = i1 ∨ c = i2 := by simpa using hc
    rcases e' with q | q | q | q | q
    · rw [q]; exact ⟨_, hz, fun v q => nomatch q⟩
    · rw [q]; exact ⟨_, hTI, fun v q => nomatch q⟩
    · rw [q]; exact ⟨_, hTO, fun v q => nomatch q⟩
    · rw [q]; exact h1.obj
    · rw [q]; exact h2.obj
  keep := fun i h h' st k => by
    obtain ⟨hz, hTI, ⟨x, y, hTO⟩, h1, h2, ne⟩ := st
    exact ⟨k z (by simp) _ hz, k TI (by simp) _ hTI, ⟨x, y, k TO (by simp) _ hTO⟩, h1.at' fun o q => k i1 (by simp) o q, h2.at' fun o q => k i2 (by simp) o q, ne⟩
  item := by
    intro X hP hw hK hc i pins s σ H E I hf st hg
    subst hP hw hK
    obtain ⟨hz, hTI, ⟨x0, y0, hTO⟩, h1, h2, n1, n2⟩ := st
    obtain ⟨xs, ys, x, y, hqx, hqy, hx, hy⟩ := hg
    obtain ⟨its, rv, p, _⟩ := I.seqB hqx
    obtain ⟨its2, rv2, p2, _⟩ := I.seqB hqy
    obtain ⟨u, hu, ru⟩ := rv.get hx
    obtain ⟨u2, hu2, ru2⟩ := rv2.get hy
    have hzl : z < s.heap.objs.size := Heap.lt_size hz
    have l1 : i < its.toArray.size := by rw [List.size_toArray]; exact (List.getElem?_eq_some_iff.mp hu).1
    have l2 : i < its2.toArray.size := by rw [List.size_toArray]; exact (List.getElem?_eq_some_iff.mp hu2).1
    refine wpAny_pyNext_zipD2_item D (drawsB (show X.A.in1.handled = none from I.ok.hd hc) b1 i1 a1 n1 its.toArray) (drawsB (show X.A.in1.handled = none from I.ok.hd hc) b2 i2 a2 n2 its2.toArray) hz hTI hTO ⟨h1, p⟩ ⟨h2, p2⟩ l1 l2 fun v1 v2 h' tk e1 e2 z' TO' h1' h2' hT hsz hk => ?_
    have q1 : v1 = u := by
      have q : its[i]? = some v1 := by simpa using e1
      rw [hu] at q; exact (Option.some.inj q).symm
    have q2 : v2 = u2 := by
      have q : its2[i]? = some v2 := by simpa using e2
      rw [hu2] at q; exact (Option.some.inj q).symm
    subst q1 q2
    refine ⟨_, rfl, wpAny_letOwnedTupleGo_zip (s := { s with heap := h', toks := tk }) z' fun h'' z'' sb => ?_⟩
    have hT2 : h''.get? s.heap.objs.size = some { cls := .type "tuple", data := .seq #[v1, v2] } := (sb.2 _ (Nat.ne_of_gt hzl)).trans hT
    have new : ObjOk X.prog X.w (upd H s.heap.objs.size (.tup [x, y])) h'' s.heap.objs.size (.tup [x, y]) :=
      ⟨by show 2 ≤ sizeLine; decide, [v1, v2], .cons ru (.cons ru2 .nil), ⟨_, hT2, rfl, _, rfl⟩⟩
    have I1 : Inv X pins σ (upd H s.heap.objs.size (.tup [x, y])) { s with heap := h'', toks := tk } :=
      I.turnedNew (t' := tk) (ch := [z, TI, TO, i1, i2]) (fun c o hb q => (sb.2 c (fun q' => hb (by simp [q']))).trans (hk c o (fun q' => hb (by simp [q'])) (fun q' => hb (by simp [q'])) (fun q' => hb (by simp [q'])) (fun q' => hb (by simp [q'])) q)) hf (Nat.le_refl _) new
    refine ⟨.ref s.heap.objs.size, _, I1, rfl, ⟨_, x, y, rfl, I.hok.fresh (Nat.le_refl _), rfl, fun l hl => by rw [I.seqB_inj hl hqx]; exact hx, fun l hl => by rw [I.seqB_inj hl hqy]; exact hy⟩, ⟨z'', ?_, ⟨v1, v2, ?_⟩, ?_, ?_, n1, n2⟩, fun c hcm => ?_⟩
    · exact (sb.2 _ D.TIz).trans (hk _ _ D.TIz D.TITO D.TIi1 D.TIi2 hTI)
    · exact (sb.2 _ D.TOz).trans TO'
    · exact h1'.1.at' fun o q => (sb.2 _ (Ne.symm D.zi1)).trans q
    · exact h2'.1.at' fun o q => (sb.2 _ (Ne.symm D.zi2)).trans q
    · have hlt : c < s.heap.objs.size := by
        have e' : c = z ∨ c = TI ∨ c = TO ∨ c = i1 ∨ c = i2 := by simpa using hcm
        rcases e' with q | q | q | q | q
        · rw [q]; exact hzl
        · rw [q]; exact Heap.lt_size hTI
        · rw [q]; exact Heap.lt_size hTO
        · rw [q]; obtain ⟨_, e1, _⟩ := h1.obj; exact Heap.lt_size e1
        · rw [q]; obtain ⟨_, e2, _⟩ := h2.obj; exact Heap.lt_size e2
      rw [upd_ne (Nat.ne_of_lt hlt)]
      exact (hf c hcm).1
  done := by
    intro X hP hw hK hc i pins s σ H E I hf st hg
    subst hP hw hK
    obtain ⟨hz, hTI, ⟨x0, y0, hTO⟩, h1, h2, n1, n2⟩ := st
    obtain ⟨xs, ys, hqx, hqy, hend⟩ := hg
    obtain ⟨its, rv, p, _⟩ := I.seqB hqx
    obtain ⟨its2, rv2, p2, _⟩ := I.seqB hqy
    have l1 : xs.length = its.toArray.size := by rw [List.size_toArray, rv.length]
    have l2 : ys.length = its2.toArray.size := by rw [List.size_toArray, rv2.length]
    exact wpAny_pyNext_zipD2_end D (drawsB (show X.A.in1.handled = none from I.ok.hd hc) b1 i1 a1 n1 its.toArray) (drawsB (show X.A.in1.handled = none from I.ok.hd hc) b2 i2 a2 n2 its2.toArray) hz hTI hTO ⟨h1, p⟩ ⟨h2, p2⟩ (by omega) (by omega) (by omega) fun h' tk hk => ⟨rfl, I.turnedL (t' := tk) (ch := [z, TI, TO, i1, i2]) (fun c o hb q =>
      hk c o (fun q' => hb (by simp [q'])) (fun q' => hb (by simp [q'])) (fun q' => hb (by simp [q'])) (fun q' => hb (by simp [q'])) q) hf⟩
  self := fun A i s Q E st h => wpAny_pyIter_zip st.1 h
def iZipB (K : PySem.W.Frag) (ta : TA) : TI := fun σ H R => ta σ H fun vs H1 => ∃ b1 b2 a1 a2 xs ys, vs = [.ref a1, .ref a2] ∧ SqB K H1 b1 a1 xs ∧ SqB K H1 b2 a2 ys ∧ R (ItzB K b1 a1 b2 a2) H1
theorem pi_zipB {X : Cx} {e e2 : Expr} {ta : TA} {p pos tpos : Pos} {elts : List Expr} {kk : Nat} (hg : Gl X "zip") (hm : X.mg "zip" = none) (ha : PA X [e, e2] ta)
    (hs : starEach [e, e2] X.env = (false, eval e X.env) :: starEach [e2] X.env := by rfl) (hpl : (backTo pos (starEach [e2] X.env)).any (·.1) = false := by rfl) :
    PI X (.Tuple elts kk tpos) (.Call (.Name "zip" p) [e, e2] [] pos) (iZipB X.K ta) := by
  refine ⟨fun pins s σ H R I h => ?_⟩
  refine Call_ (ld_blt I hg hm PyProof.Rows.boot_zip (PyProof.Rows.callWith_type1 (thn (ha.run pos pins s σ H _ I h) fun us s1 ⟨vs, H1, I1, r1, q1⟩ => ?_) hs hpl))
  obtain ⟨b1, b2, a1, a2, xs, ys, ex, hqx, hqy, q⟩ := q1
  subst ex
  cases r1 with
  | cons r rr =>
    cases rr with
    | cons r' rr =>
      cases rr
      cases r
      cases r'
      obtain ⟨its, rv, p1, la⟩ := I1.seqB hqx
      obtain ⟨its2, rv2, p2, lb⟩ := I1.seqB hqy
      refine zip_begins2 (beginsB b1 a1 its.toArray) (beginsB b2 a2 its2.toArray) p1 p2 fun h' hz hTI hTO h1 h2 hsz hk => wpAny_pyIter_zip hz ?_
      have I2 : Inv X pins σ H1 { s1 with heap := h' } := I1.kept (t' := s1.toks) hk
      refine ⟨s1.heap.objs.size + 4, [s1.heap.objs.size + 4, s1.heap.objs.size + 2, s1.heap.objs.size + 3, s1.heap.objs.size, s1.heap.objs.size + 1], _, _, H1, rfl, I2, turn_zipB (zip_sep2 (fp1 := [a1]) (fp2 := [a2]) (lt_one la) (lt_one lb)), ⟨hz, hTI, ⟨_, _, hTO⟩, .new h1, .new h2, Nat.ne_of_lt la, Nat.ne_of_lt (Nat.lt_succ_of_lt lb)⟩, fp_of I1 fun c hcm => ?_, q⟩
      have e' : c = s1.heap.objs.size + 4 ∨ c = s1.heap.objs.size + 2 ∨ c = s1.heap.objs.size + 3 ∨ c = s1.heap.objs.size ∨ c = s1.heap.objs.size + 1 := by simpa using hcm
      rcases e' with z | z | z | z | z <;> rw [z] <;> first | exact Nat.le_add_right _ _ | exact Nat.le_refl _
end L2
end
section
namespace L3
open PySem PySem.Spec PyProof.Rows L2
structure RoomG (n : Nat) (B : Around) : Prop where
  rm : Room n B
  gd : B.guards = some []
theorem RoomG.mono {m n : Nat} {B : Around} (r : RoomG n B) (le : m ≤ n) : RoomG m B := ⟨r.rm.mono le, r.gd⟩
theorem RoomG.deeper {n : Nat} {B : Around} (r : RoomG (n + 1) B) (en : Env) : RoomG n (B.deeper en) := ⟨r.rm.deeper en, r.gd⟩
theorem RoomG.units {n : Nat} {B : Around} (r : RoomG n B) : B.units + 64 < cLine := r.rm.units
theorem RoomG.wide {n : Nat} {B : Around} (r : RoomG n B) : B.units + 200 < cLine := by have := r.rm.un; omega
theorem RoomG.make {n : Nat} {B : Around} (r : RoomG (n + 1) B) (D : Addr) (us : List Value) (kw : List (Str × Value)) : RoomG n (B.under (.builtin "type.__call__" ⟨.ref D :: us, kw⟩)) :=
  ⟨r.rm.make D us kw, by
    have := r.gd
    first
      | (simpa [Around.under, Code.guards, pushGuards] using this)
      | (simp [Around.under, pushGuards, this]; rfl)⟩
structure FnG (P : Program) (w : World) (K : PySem.W.Frag) (mg : Str → Option Value) (base : Heap) (CC : CXT) (n : Nat) (fa : Addr) (fd : FuncData) (qs : List Str) (sp : Sp) : Prop where
  len : ∀ us H Q E, sp us H Q E → us.length = qs.length
  run : ∀ (B : Around) (oe : List Env) (s : Shared) (H : Hp) (as : Args) (us : List Value) (vs : List V) (Q : VK) (E : XK), RoomG n B → Env0 P w K mg base B oe s H → BindsTo s fd as (qs.zip us) → Vals vs us → sp vs H Q E →
    codeAny (model P w) B (.call (.ref fa) as) (CR CC oe P w H s Q E) s
section
variable {P : Program} {w : World} {K : PySem.W.Frag} {mg : Str → Option Value} {base : Heap} {CC : CXT}
theorem FnG.mono {m n : Nat} {fa : Addr} {fd : FuncData} {qs : List Str} {sp : Sp} (F : FnG P w K mg base CC m fa fd qs sp) (le : m ≤ n) : FnG P w K mg base CC n fa fd qs sp :=
  ⟨F.len, fun B oe s H as us vs Q E r => F.run B oe s H as us vs Q E (r.mono le)⟩
/-- a def by its body -/
theorem funG {x qual : Str} {st : Stmt} {fa : Addr} {fd : FuncData} {N qs : List Str} {n : Nat} {sp : Sp} (Fu : Fun K x qual st fa fd) (Sc : FnScope N qs (defScope st)) (len : ∀ us H Q E, sp us H Q E → us.length = qs.length)
    (body : ∀ (cdv : Value) (B : Around) (oe : List Env) (s : Shared) (H : Hp) (vs : List V) (Q : VK) (E : XK), RoomG n (B.deeper (PyProof.Rows.envOfC qual (defScope st) s.heap.objs.size fa cdv)) → sp vs H Q E →
      ∃ t, PSs (cxOf CC P w K mg base N qual (defScope st) fa cdv B oe s H E) (defBody st) t ∧ t { nx := fun _ H' => Q .non H', rt := Q } (L2.start N vs) H) : FnG P w K mg base CC (n + 1) fa fd qs sp := by
  obtain ⟨oc, od, kV, doc, pm, an, cdv, ct, osl, rfl, lk, hcd⟩ := Fu.ex
  refine ⟨len, fun B oe s H as us vs Q E hr c0 hb r hsp => ?_⟩
  have vl := len _ _ _ _ hsp
  have kin : K.In s.heap := c0.mod.kin.keeps fun b o q => (c0.bs b o q).1
  have nol : s.heap.NoLimit := c0.mod.nolimit.keeps fun b o q => (c0.bs b o q).1
  have kinds : ∀ y ∈ qs.zip us, (defScope st).names.lookup y.1 = some .local ∨ ((defScope st).names.lookup y.1 = some .cell ∧ ((cellsFrom (s.heap.objs.size + 1) (defScope st).names []).lookup y.1).isSome = true) := fun ⟨m, v⟩ hy => by
    rcases Sc.par m (List.of_mem_zip hy).1 with q | q
    · exact .inl q
    · exact .inr ⟨q, PySem.W.cellsFrom_some _ _ _ (.inl q)⟩
  refine codeAny_call_function hr.rm.depth (kin _ _ lk) rfl Sc.co Sc.gen rfl (PySem.W.codeRec_of kin hcd) (hb _ _ _ _ ?_)
  refine wpAny_newFunctionEnv_cells Sc.kind kinds fun en he s1 y => ?_
  subst he
  refine ⟨nol.keeps y.toInCall.keep, codeAny_func ?_⟩
  obtain ⟨t, ht, hq⟩ := body cdv B oe s H vs Q E (hr.deeper _) hsp
  have J : Inv (cxOf CC P w K mg base N qual (defScope st) fa cdv B oe s H E) [] (L2.start N vs) H s1 := inv_start Sc hr.rm.hd c0 vl r y
  refine wpAny_mono (ht.run [] s1 (L2.start N vs) H _ J hq) (fun fl s' hs => ?_) fun e s' hs => hs
  cases fl with
  | ret u => obtain ⟨v, σ', H', I, rv, q⟩ := hs; exact ⟨v, H', I.os, I.bare, I.base, I.hok, rv, q⟩
  | next => obtain ⟨σ', H', I, q⟩ := hs; exact ⟨.non, H', I.os, I.bare, I.base, I.hok, rfl, q⟩
  | brk => obtain ⟨_, _, _, q⟩ := hs; exact q.elim
  | cont => obtain ⟨_, _, _, q⟩ := hs; exact q.elim
end
section
variable {X : Cx} {CC : CXT} {n : Nat} {fa : Addr} {fd : FuncData} {qs : List Str} {sp : Sp} {dvs : List V} {ds : List Value} {E : XK} {x : Str} {p pos : Pos} {e : Expr} {es : List Expr} {t : TA}
theorem run_fnG {pins : List (Addr × Obj)} {σ : L2.St} {H : Hp} {s : Shared} {Q : VK} {us : List Value} {vs : List V} (F : FnG X.prog X.w X.K X.mg X.base CC n fa fd qs sp) (hr : RoomG n X.A) (hb : Binds X.K fd qs ds) (hd : Vals dvs ds) (hx : PassesAt CC X σ E)
    (I : Inv X pins σ H s) (r : Vals vs us) (h : sp (vs ++ dvs) H Q E) : wpAny (model X.prog X.w) X.A (call (.ref fa) us) (EP X pins σ Q) X.xe s := by
  have rr : Vals (vs ++ dvs) (us ++ ds) := r.append hd
  have ul : (us ++ ds).length = qs.length := by rw [← rr.length]; exact F.len _ _ _ _ h
  refine wpAny_call (codeAny_mono (F.run X.A X.stack s H ⟨us, []⟩ (us ++ ds) (vs ++ dvs) Q E hr I.env0 (hb s us I.kIn ul) rr h) fun res s' hq => ?_)
  cases res with
  | error er => exact hx pins H s er s' I hq
  | ok fl =>
    cases fl with
    | ret u => exact I.after hq
    | next => exact hq.elim
    | brk => exact hq.elim
    | cont => exact hq.elim
/-- f(..), the wish of errors at the slots -/
def tCallE (sp : Sp) (dvs : List V) (E : L2.St → XK) (t : TA) : TE := fun σ H Q => t σ H fun vs H1 => sp (vs ++ dvs) H1 Q (E σ)
theorem pe_callG {E : L2.St → XK} (F : FnG X.prog X.w X.K X.mg X.base CC n fa fd qs sp) (hr : RoomG n X.A) (hg : Gl X x) (hm : X.mg x = some (.ref fa)) (hk : PySem.W.keepIn X.K (.ref fa) = true) (hb : Binds X.K fd qs ds) (hd : Vals dvs ds) (hx : ∀ σ, PassesAt CC X σ (E σ))
    (ha : PA X (e :: es) t) (hdb : (x == ("__debug__" : Str)) = false := by decide) (he : starEach (e :: es) X.env = (false, eval e X.env) :: starEach es X.env := by rfl) (hpl : (backTo pos (starEach es X.env)).any (·.1) = false := by rfl) :
    PE X (.Call (.Name x p) (e :: es) [] pos) (tCallE sp dvs E t) := by
  refine ⟨fun pins s σ H Q I h => wpAny_Call_Name_kw (ld_glob I hg hm ?_ hdb)⟩
  exact PySem.W.callWith_K (h₀ := X.base) I.ok.mod.kin hk (thn (ha.run pos pins s σ H _ I h) fun us s1 ⟨vs, H1, I1, r, q⟩ => ⟨I1.kIn, run_fnG F hr hb hd (hx σ) I1 r q⟩) he hpl
/-- nothing is let out -/
theorem passN {σ : L2.St} : PassesAt (L2.CX X.prog X.w) X σ E0 := fun _ _ _ _ _ _ h => by
  obtain ⟨_, _, _, _, _, _, _, _, _, _, _, _, z⟩ := h
  exact z.elim
end
theorem leave0 (P : Program) (w : World) (H : Hp) (s : Shared) (e : Value) (t : Shared) (h : L2.CX P w [] H s (fun _ _ _ => False) e t) : False := by
  obtain ⟨_, _, _, _, _, _, _, _, _, _, _, _, z⟩ := h
  exact z
end L3
end
section
namespace L3
open PySem L2
variable {G : Type} {K : PySem.W.Frag} {X : Cx} {Z : Zx K G}
/-- arguments, state, what is wanted of the answer, what is wanted of an error (class, fields) -/
abbrev XU (G : Type) := Value → List (Str × PyData) → G → Prop
abbrev Spec (G : Type) := List Rs → G → (Rs → G → Prop) → XU G → Prop
structure Frm (Z : Zx K G) (F H : Hp) (g : G) (F' H' : Hp) (g' : G) : Prop where
  ex : Ex F F'
  keep : ∀ b o, H b = some o → b ∉ Z.fp g → H' b = some o
  keepN : ∀ b, H b ≠ none → H' b ≠ none
  new : ∀ b o, F' b = some o → F b = some o ∨ H b = none
  sub : Ex F' H'
  res : Z.R g' F' H'
  fpF : ∀ a ∈ Z.fp g', F' a = none
  fpB : ∀ a ∈ Z.fp g', a ∈ Z.fp g ∨ H a = none
def VRet (Z : Zx K G) (F' H H' : Hp) (g' : G) (v : V) : Rs → Prop
  | .dt d => Da K F' v d
  | .nl ds => ∃ a vs, v = .ref a ∧ H a = none ∧ F' a = none ∧ a ∉ Z.fp g' ∧ H' a = some (.lst vs) ∧ DaAll K F' vs ds
  | .nd ks => ∃ a vs, v = .ref a ∧ H a = none ∧ F' a = none ∧ a ∉ Z.fp g' ∧ H' a = some (.dK vs) ∧ KvAll K F' vs ks
  | .br _ => False
  | .rs n => v = .ref (Z.ra g' n)
  | .vv u => v = u
def ArgV (Z : Zx K G) (F : Hp) (g : G) (v : V) : Rs → Prop
  | .dt d => Da K F v d
  | .rs n => v = .ref (Z.ra g n)
  | .vv u => v = u
  | _ => False
abbrev ArgR (Z : Zx K G) (F : Hp) (g : G) : List V → List Rs → Prop := Paired (ArgV Z F g)
def spZ (Z : Zx K G) (S : Spec G) : Sp := fun vs H Q E => ∃ F g as T U, Ex F H ∧ Z.R g F H ∧ (∀ a ∈ Z.fp g, F a = none) ∧ ArgR Z F g vs as ∧ S as g T U ∧
  (∀ v r F' g' H', Frm Z F H g F' H' g' → Z.ra g' = Z.ra g → VRet Z F' H H' g' v r → T r g' → Q v H') ∧
  (∀ c fs dx F' g' H', Frm Z F H g F' H' g' → Z.ra g' = Z.ra g → XR K F' H' dx fs → U c fs g' → E c dx H')
def fzR : Rs → En → Option (Rs × En)
  | .rs n, ρ => some (.rs n, ρ)
  | .vv v, ρ => some (.vv v, ρ)
  | .dt d, ρ => some (.dt d, ρ)
  | r, ρ => (fz r ρ).map fun p => (.dt p.1, p.2)
def fzRA : List Rs → En → Option (List Rs × En)
  | [], ρ => some ([], ρ)
  | r :: rs, ρ => (fzR r ρ).bind fun p => (fzRA rs p.2).map fun q => (p.1 :: q.1, q.2)
section
variable {f : Fx} {F F' : Hp} {ad : Nat → Addr} {ρ ρ' : En} {g g' : G} {σ : St} {H H' : Hp}
theorem ArgV.mono {v : V} {r : Rs} (h : ArgV Z F g v r) (e : Ex F F') : ArgV Z F' g v r := by
  cases r <;> first | exact h | exact da_mono e h
theorem Rel.hfzR {v : V} {r q : Rs} (R : Rel Z f F ad ρ g σ H) (h : VR Z f F ad ρ g σ H v r) (e : fzR r ρ = some (q, ρ')) : ∃ F', Ex F F' ∧ Rel Z f F' ad ρ' g σ H ∧ ArgV Z F' g v q := by
  have go : (fz r ρ).map (fun p : PyData × En => (Rs.dt p.1, p.2)) = some (q, ρ') → ∃ F', Ex F F' ∧ Rel Z f F' ad ρ' g σ H ∧ ArgV Z F' g v q := fun e => by
    cases e1 : fz r ρ with
    | none => rw [e1] at e; cases e
    | some p =>
      obtain ⟨d, ρ1⟩ := p
      rw [e1] at e
      cases e
      exact R.hfz h e1
  cases r with
  | rs n => cases e; exact ⟨F, Evl.Ex.refl F, R, h⟩
  | vv n => cases e; exact ⟨F, Evl.Ex.refl F, R, h⟩
  | dt n => cases e; exact ⟨F, Evl.Ex.refl F, R, h⟩
  | nl n => exact go e
  | nd n => exact go e
  | br n => exact go e
theorem Rel.hfzRA : ∀ {vs : List V} {rs : List Rs} {F : Hp} {ρ : En} {qs : List Rs} {ρ' : En}, Rel Z f F ad ρ g σ H → VRs Z f F ad ρ g σ H vs rs → fzRA rs ρ = some (qs, ρ') → ∃ F', Ex F F' ∧ Rel Z f F' ad ρ' g σ H ∧ ArgR Z F' g vs qs
  | _, [], F, ρ, qs, ρ', R, .nil, e => by cases e; exact ⟨F, Evl.Ex.refl F, R, .nil⟩
  | _, r :: rs, F, ρ, qs, ρ', R, .cons h t, e => by
    obtain ⟨r0, rfl, h⟩ := h
    unfold fzRA at e
    cases e1 : fzR (st r0) ρ with
    | none => rw [e1] at e; cases e
    | some p =>
      obtain ⟨d, ρ1⟩ := p
      rw [e1] at e
      cases e2 : fzRA rs ρ1 with
      | none => simp [e2] at e
      | some p2 =>
        obtain ⟨ds2, ρ2⟩ := p2
        simp [e2] at e
        obtain ⟨rfl, rfl⟩ := e
        obtain ⟨F1, x1, R1, d1⟩ := R.hfzR h e1
        obtain ⟨F2, x2, R2, d2⟩ := Rel.hfzRA R1 (Paired.mapP t fun v r ⟨r0, er, z⟩ => ⟨r0, er, z.held x1 rfl⟩) e2
        exact ⟨F2, x1.trans x2, R2, .cons (d1.mono x2) d2⟩
/-- behind a call -/
theorem Rel.called (R : Rel Z f F ad ρ g σ H) (h : Frm Z F H g F' H' g') (er : Z.ra g' = Z.ra g) : Rel Z f F' ad ρ g' σ H' := by
  have nfp : ∀ b, f.B b ≠ none → b ∉ f.fp0 → b ∉ Z.fp g := fun b hb h0 hm => by
    rcases R.fin.fpB b hm with q | q
    · exact h0 q
    · exact hb q
  have own : ∀ i s, ρ[i]? = some s → s.own = true → OwnA Z f F g (ad i) ∧ H (ad i) ≠ none := fun i s hi ho => by
    have q := R.slot i s hi
    cases s with
    | ls ds => obtain ⟨_, q2, vs, q3, _⟩ := q; exact ⟨q2, by rw [q3]; intro z; cases z⟩
    | dk ds => obtain ⟨_, q2, vs, q3, _⟩ := q; exact ⟨q2, by rw [q3]; intro z; cases z⟩
    | _ => cases ho
  have own' : ∀ i s, ρ[i]? = some s → s.own = true → OwnA Z f F' g' (ad i) := fun i s hi ho => by
    obtain ⟨q, hn⟩ := own i s hi ho
    refine ⟨?_, q.2.1, fun hm => ?_⟩
    · cases e : F' (ad i) with
      | none => rfl
      | some o =>
        rcases h.new _ _ e with z | z
        · rw [q.1] at z; cases z
        · exact absurd z hn
    · rcases h.fpB _ hm with z | z
      · exact q.2.2 z
      · exact hn z
  refine ⟨⟨⟨R.fin.base.trans h.ex, h.sub, fun b o hb h0 => h.keep b o (R.fin.keep b o hb h0) (nfp b (by rw [hb]; intro z; cases z) h0), fun b hb => h.keepN b (R.fin.keepN b hb), fun b o hb => ?_, h.res, h.fpF, fun a ha => ?_, R.fin.fpo⟩, R.len, fun i s hi => ?_, R.inj⟩, er ▸ R.lx⟩
  · rcases h.new b o hb with z | z
    · exact R.fin.new b o z
    · right
      cases e : f.B b with
      | none => rfl
      | some u => exact absurd z (R.fin.keepN b (by rw [e]; intro y; cases y))
  · rcases h.fpB a ha with z | z
    · exact R.fin.fpB a z
    · right
      cases e : f.B a with
      | none => rfl
      | some u => exact absurd z (R.fin.keepN a (by rw [e]; intro y; cases y))
  · have q := R.slot i s hi
    cases s with
    | un => trivial
    | dt d => obtain ⟨v, q1, q2⟩ := q; exact ⟨v, q1, da_mono h.ex q2⟩
    | ls ds => obtain ⟨q1, q2, vs, q3, q4⟩ := q; exact ⟨q1, own' i _ hi rfl, vs, h.keep _ _ q3 q2.2.2, daAll_mono h.ex q4⟩
    | dk ds => obtain ⟨q1, q2, vs, q3, q4⟩ := q; exact ⟨q1, own' i _ hi rfl, vs, h.keep _ _ q3 q2.2.2, kv_mono h.ex q4⟩
    | rs n => exact (show σ[i]? = some (some (.ref (Z.ra g n))) from q).trans (by rw [er])
    | vv u => exact q
theorem Rel.ret (R : Rel Z f F ad ρ g σ H) (h : Frm Z F H g F' H' g') {v : V} {r : Rs} (hv : VRet Z F' H H' g' v r) : VR Z f F' ad ρ g' σ H' v r := by
  have ne : ∀ a, H a = none → ∀ i s, ρ[i]? = some s → s.own = true → ad i ≠ a := fun a ha i s hi ho e => by
    have q := R.slot i s hi
    cases s with
    | ls ds => obtain ⟨_, q2, vs, q3, _⟩ := q; rw [e, ha] at q3; cases q3
    | dk ds => obtain ⟨_, q2, vs, q3, _⟩ := q; rw [e, ha] at q3; cases q3
    | _ => cases ho
  have hB : ∀ a, H a = none → f.B a = none := fun a ha => by
    cases e : f.B a with
    | none => rfl
    | some u => exact absurd ha (R.fin.keepN a (by rw [e]; intro y; cases y))
  cases r with
  | dt d => exact hv
  | nl ds => obtain ⟨a, vs, rfl, h1, h2, h3, h4, h5⟩ := hv; exact ⟨a, vs, rfl, ⟨⟨h2, hB a h1, h3⟩, ne a h1⟩, h4, h5⟩
  | nd ds => obtain ⟨a, vs, rfl, h1, h2, h3, h4, h5⟩ := hv; exact ⟨a, vs, rfl, ⟨⟨h2, hB a h1, h3⟩, ne a h1⟩, h4, h5⟩
  | br i => cases hv
  | rs n => exact hv
  | vv u => exact hv
/-- a pure callee's frame is one of the caller's -/
theorem Frm.pure (R : Rel Z f F ad ρ g σ H) {u : Unit} (h : Frm (Z0 K) F H u F' H' u) : Frm Z F H g F' H' g where
  ex := h.ex
  keep := fun b o e _ => h.keep b o e (by intro z; cases z)
  keepN := h.keepN
  new := h.new
  sub := h.sub
  res := Z.loc R.fin.res h.ex fun a ha => by
    cases e : H a with
    | none => exact absurd e (Z.there R.fin.res a ha)
    | some o => exact h.keep a o e (by intro z; cases z)
  fpF := fun a ha => by
    cases e : F' a with
    | none => rfl
    | some o =>
      rcases h.new a o e with z | z
      · rw [R.fin.fpF a ha] at z; cases z
      · exact absurd z (Z.there R.fin.res a ha)
  fpB := fun a ha => .inl ha
theorem VRet.pure (R : Rel Z f F ad ρ g σ H) {u : Unit} (h : Frm (Z0 K) F H u F' H' u) {v : V} {r : Rs} (hr : ∀ n, r ≠ .rs n) (hv : VRet (Z0 K) F' H H' u v r) : VRet Z F' H H' g v r := by
  have nf : ∀ a, H a = none → a ∉ Z.fp g := fun a ha hm => Z.there R.fin.res a hm ha
  cases r with
  | dt d => exact hv
  | nl ds => obtain ⟨a, vs, rfl, h1, h2, h3, h4, h5⟩ := hv; exact ⟨a, vs, rfl, h1, h2, nf a h1, h4, h5⟩
  | nd ds => obtain ⟨a, vs, rfl, h1, h2, h3, h4, h5⟩ := hv; exact ⟨a, vs, rfl, h1, h2, nf a h1, h4, h5⟩
  | br i => exact hv
  | rs n => exact absurd rfl (hr n)
  | vv u => exact hv
end
/-- f(..) with the same resource -/
def fr1S (ρ : En) (i : Nat) (k : Rs → En → Prop) : Option Sl → Prop
  | some (.dt d) => k (.dt d) ρ
  | some (.ls ds) => k (.dt (.list ds)) (ρ.set i (.dt (.list ds)))
  | some (.dk ds) => k (.dt (.dict ds)) (ρ.set i (.dt (.dict ds)))
  | _ => False
def fr1 (r : Rs) (ρ : En) (k : Rs → En → Prop) : Prop := match r with
  | .dt d => k (.dt d) ρ
  | .nl ds => k (.dt (.list ds)) ρ
  | .br i => fr1S ρ i k ρ[i]?
  | .rs n => k (.rs n) ρ
  | .vv v => k (.vv v) ρ
  | .nd ds => k (.dt (.dict ds)) ρ
theorem fr1_of {r : Rs} {ρ : En} {k : Rs → En → Prop} (h : fr1 r ρ k) : ∃ d ρ', fzR r ρ = some (d, ρ') ∧ k d ρ' := by
  cases r with
  | dt d => exact ⟨_, ρ, rfl, h⟩
  | nl d => exact ⟨_, ρ, rfl, h⟩
  | rs d => exact ⟨_, ρ, rfl, h⟩
  | vv d => exact ⟨_, ρ, rfl, h⟩
  | br i =>
    have h1 : fr1S ρ i k ρ[i]? := h
    cases e : ρ[i]? with
    | none => rw [e] at h1; exact h1.elim
    | some s =>
      rw [e] at h1
      cases s with
      | dt d => exact ⟨_, ρ, by show (fzS ρ i ρ[i]?).map _ = _; rw [e]; rfl, h1⟩
      | ls d => exact ⟨_, _, by show (fzS ρ i ρ[i]?).map _ = _; rw [e]; rfl, h1⟩
      | dk d => exact ⟨_, _, by show (fzS ρ i ρ[i]?).map _ = _; rw [e]; rfl, h1⟩
      | _ => exact h1.elim
  | nd d => exact ⟨_, ρ, rfl, h⟩
def frK : List Rs → En → (List Rs → En → Prop) → Prop
  | [], ρ, k => k [] ρ
  | r :: rs, ρ, k => fr1 r ρ fun d ρ1 => frK rs ρ1 fun ds ρ2 => k (d :: ds) ρ2
theorem frK_of : ∀ {rs : List Rs} {ρ : En} {k : List Rs → En → Prop}, frK rs ρ k → ∃ ds ρ2, fzRA rs ρ = some (ds, ρ2) ∧ k ds ρ2
  | [], ρ, k, h => ⟨[], ρ, rfl, h⟩
  | r :: rs, ρ, k, h => by
    obtain ⟨d, ρ1, e, h⟩ := fr1_of h
    obtain ⟨ds, ρ2, e2, h⟩ := frK_of h
    exact ⟨d :: ds, ρ2, by rw [fzRA, e]; show (fzRA rs ρ1).map _ = _; rw [e2]; rfl, h⟩
/-- no error is let out; errors go where this body's do -/
abbrev Un {G : Type} : UX G := fun _ _ _ _ => False
/-- a wish of errors at data, and at the heap -/
def LeW (Z : Zx K G) (U : UX G) (E : St → XK) : Prop := ∀ f F ad ρ g σ H c dx fs, Rel Z f F ad ρ g σ H → XR K F H dx fs → U c fs ρ g → E σ c dx H
theorem leW_n : LeW Z Un (fun _ => E0) := fun _ _ _ _ _ _ _ _ _ _ _ _ h => h.elim
theorem leW_z : LeW Z Z.U (WE Z.W) := fun f F ad ρ g σ H c dx fs R h u => R.lx F ad ρ g σ H c dx fs rfl R.toRel0 h u
def dCall (U : UX G) (S : Spec G) (das : List Rs) (a : DA G) : DT G := fun ρ g Q => a ρ g fun rs ρ1 g1 => frK rs ρ1 fun qs ρ2 => S (qs ++ das) g1 (fun r g' => Q r ρ2 g') (fun c fs g' => U c fs ρ2 g')
/-- f(..) of a def without a resource -/
def noR (r : Rs) (p : Prop) : Prop := match r with
  | .rs _ => False
  | _ => p
def noRs : List Rs → Bool
  | [] => true
  | .rs _ :: _ => false
  | _ :: r => noRs r
theorem noRs_of : ∀ {qs : List Rs}, noRs qs = true → ∀ q ∈ qs, noR q True
  | [], _, _, h => by cases h
  | .rs _ :: _, e, _, _ => by cases e
  | .dt _ :: r, e, q, h => by
    rcases List.mem_cons.mp h with rfl | h
    · trivial
    · exact noRs_of (qs := r) e q h
  | .nl _ :: r, e, q, h => by
    rcases List.mem_cons.mp h with rfl | h
    · trivial
    · exact noRs_of (qs := r) e q h
  | .nd _ :: r, e, q, h => by
    rcases List.mem_cons.mp h with rfl | h
    · trivial
    · exact noRs_of (qs := r) e q h
  | .br _ :: r, e, q, h => by
    rcases List.mem_cons.mp h with rfl | h
    · trivial
    · exact noRs_of (qs := r) e q h
  | .vv _ :: r, e, q, h => by
    rcases List.mem_cons.mp h with rfl | h
    · trivial
    · exact noRs_of (qs := r) e q h
def dCall0 (U : UX G) (S : Spec Unit) (das : List Rs) (a : DA G) : DT G := fun ρ g Q => a ρ g fun rs ρ1 g1 => frK rs ρ1 fun qs ρ2 => tt (noRs qs) (S (qs ++ das) () (fun r _ => noR r (Q r ρ2 g1)) (fun c fs _ => U c fs ρ2 g1))
theorem argR_append {F : Hp} {g : G} : ∀ {vs ws : List V} {as bs : List Rs}, ArgR Z F g vs as → ArgR Z F g ws bs → ArgR Z F g (vs ++ ws) (as ++ bs)
  | _, _, _, _, .nil, h => h
  | _, _, _, _, .cons a r, h => .cons a (argR_append r h)
theorem argR_pure {F : Hp} {g : G} : ∀ {vs : List V} {as : List Rs}, ArgR Z F g vs as → (∀ q ∈ as, noR q True) → ArgR (Z0 K) F () vs as
  | _, [], .nil, _ => .nil
  | _, r :: rs, .cons h t, hq => .cons (by
      have z := hq r List.mem_cons_self
      cases r <;> first | exact h | exact z.elim) (argR_pure t fun q hm => hq q (List.mem_cons_of_mem _ hm))
theorem sim_call {U : UX G} {E : St → XK} (hU : LeW Z U E) {S : Spec G} {dvs : List V} {das : List Rs} {ta : TA} {a : DA G} (hd : ∀ F g, ArgR Z F g dvs das) (ha : SimA Z ta a) : Sim Z (tCallE (spZ Z S) dvs E ta) (dCall U S das a) := fun f F ad ρ g σ H Q R q P hP => by
  refine ha f F ad ρ g σ H _ R q _ fun vs H1 q => ?_
  obtain ⟨F1, ad1, ρ1, g1, rs, e1, eg1, R1, v1, q⟩ := q
  obtain ⟨qs, ρ2, ef, q⟩ := frK_of q
  obtain ⟨F2, e2, R2, da⟩ := R1.hfzRA v1 ef
  refine ⟨F2, g1, qs ++ das, _, _, R2.fin.sub, R2.fin.res, R2.fin.fpF, argR_append da (hd F2 g1), q, fun v r F' g' H' fr er hv hT => ?_, fun c fs dx F' g' H' fr er hx hu => hU _ _ _ _ _ _ _ _ _ _ (R2.called fr er) hx hu⟩
  exact hP v H' ⟨F', ad1, ρ2, g', r, (e1.trans e2).trans fr.ex, er.trans eg1, R2.called fr er, R2.ret fr hv, hT⟩
theorem sim_call0 {U : UX G} {E : St → XK} (hU : LeW Z U E) {S : Spec Unit} {dvs : List V} {das : List Rs} {ta : TA} {a : DA G} (hd : ∀ F, ArgR (Z0 K) F () dvs das) (ha : SimA Z ta a) : Sim Z (tCallE (spZ (Z0 K) S) dvs E ta) (dCall0 U S das a) := fun f F ad ρ g σ H Q R q P hP => by
  refine ha f F ad ρ g σ H _ R q _ fun vs H1 q => ?_
  obtain ⟨F1, ad1, ρ1, g1, rs, e1, eg1, R1, v1, q⟩ := q
  obtain ⟨qs, ρ2, ef, q⟩ := frK_of q
  obtain ⟨hq, q⟩ := tt_e q
  replace hq := noRs_of hq
  obtain ⟨F2, e2, R2, da⟩ := R1.hfzRA v1 ef
  refine ⟨F2, (), qs ++ das, _, _, R2.fin.sub, trivial, (fun a ha => nomatch ha), argR_append (argR_pure da hq) (hd F2), q, fun v r F' g' H' fr er hv hT => ?_, fun c fs dx F' g' H' fr er hx hu => hU _ _ _ _ _ _ _ _ _ _ (R2.called (Frm.pure R2 fr) rfl) hx hu⟩
  have fr' : Frm Z F2 H1 g1 F' H' g1 := Frm.pure R2 fr
  have hr : (∀ n, r ≠ .rs n) ∧ Q r ρ2 g1 := by
    cases r <;> first | exact ⟨(fun n z => by cases z), hT⟩ | exact hT.elim
  exact hP v H' ⟨F', ad1, ρ2, g1, r, (e1.trans e2).trans fr.ex, eg1, R2.called fr' rfl, R2.ret fr' (VRet.pure R2 fr hr.1 hv), hr.2⟩
/-- the heap has grown, nothing that stood there has changed -/
theorem Rel.grown {f : Fx} {F : Hp} {ad : Nat → Addr} {ρ : En} {g : G} {σ : St} {H H' : Hp} (R : Rel Z f F ad ρ g σ H) (k : ∀ b o, H b = some o → H' b = some o) : Rel Z f F ad ρ g σ H' := by
  refine ⟨⟨⟨R.fin.base, fun b o e => k b o (R.fin.sub b o e), fun b o e h0 => k b o (R.fin.keep b o e h0), fun b hb => ?_, R.fin.new, Z.loc R.fin.res (fun _ _ h => h) fun a ha => ?_, R.fin.fpF, R.fin.fpB, R.fin.fpo⟩, R.len, fun i s hi => ?_, R.inj⟩, R.lx⟩
  · cases e : H b with
    | none => exact absurd e (R.fin.keepN b hb)
    | some o => rw [k b o e]; intro z; cases z
  · cases e : H a with
    | none => exact absurd e (Z.there R.fin.res a ha)
    | some o => exact k a o e
  · have q := R.slot i s hi
    cases s with
    | ls ds => obtain ⟨q1, q2, vs, q3, q4⟩ := q; exact ⟨q1, q2, vs, k _ _ q3, q4⟩
    | dk ds => obtain ⟨q1, q2, vs, q3, q4⟩ := q; exact ⟨q1, q2, vs, k _ _ q3, q4⟩
    | _ => exact q
structure D3 (G : Type) where
  nx : En → G → Prop
  rt : Rs → G → Prop
  bk : En → G → Prop := fun _ _ => False
  ct : En → G → Prop := fun _ _ => False
abbrev DS (G : Type) := D3 G → En → G → Prop
/-- an answer, when the def is left -/
def VFin (Z : Zx K G) (f : Fx) (F : Hp) (g : G) (H : Hp) (v : V) : Rs → Prop
  | .dt d => Da K F v d
  | .nl ds => ∃ a vs, v = .ref a ∧ OwnA Z f F g a ∧ H a = some (.lst vs) ∧ DaAll K F vs ds
  | .nd ks => ∃ a vs, v = .ref a ∧ OwnA Z f F g a ∧ H a = some (.dK vs) ∧ KvAll K F vs ks
  | .br _ => False
  | .rs n => v = .ref (Z.ra g n)
  | .vv u => v = u
structure Le (Z : Zx K G) (f : Fx) (ra0 : Nat → Addr) (D : D3 G) (D2 : Ends) : Prop where
  nx : ∀ F ad ρ g σ H, Z.ra g = ra0 → Rel Z f F ad ρ g σ H → D.nx ρ g → D2.nx σ H
  rt : ∀ F g H v r, Z.ra g = ra0 → Fin Z f F g H → VFin Z f F g H v r → D.rt r g → D2.rt v H
  bk : ∀ F ad ρ g σ H, Z.ra g = ra0 → Rel Z f F ad ρ g σ H → D.bk ρ g → D2.bk σ H
  ct : ∀ F ad ρ g σ H, Z.ra g = ra0 → Rel Z f F ad ρ g σ H → D.ct ρ g → D2.ct σ H
def SimS (Z : Zx K G) (ts : TS) (t : DS G) : Prop := ∀ f F ad ρ g σ H D, Rel Z f F ad ρ g σ H → t D ρ g → ∀ D2 : Ends, Le Z f (Z.ra g) D D2 → ts D2 σ H
structure DSt (X : Cx) (Z : Zx K G) (s : Stmt) (ts : TS) (t : DS G) : Prop where
  ps : PS X s ts
  sim : SimS Z ts t
structure DSs (X : Cx) (Z : Zx K G) (s : List Stmt) (ts : TS) (t : DS G) : Prop where
  ps : PSs X s ts
  sim : SimS Z ts t
def dNext : DS G := fun D ρ g => D.nx ρ g
def dSeq (t u : DS G) : DS G := fun D ρ g => t { D with nx := fun ρ1 g1 => u D ρ1 g1 } ρ g
theorem sim_next : SimS Z tNext (dNext (G := G)) := fun f F ad ρ g σ H D R h D2 le => le.nx F ad ρ g σ H rfl R h
theorem sim_seq {t u : TS} {a b : DS G} (ha : SimS Z t a) (hb : SimS Z u b) : SimS Z (tSeq t u) (dSeq a b) := fun f F ad ρ g σ H D R h D2 le => by
  refine ha f F ad ρ g σ H _ R h _ ⟨fun F1 ad1 ρ1 g1 σ1 H1 er R1 h1 => ?_, le.rt, le.bk, le.ct⟩
  exact hb f F1 ad1 ρ1 g1 σ1 H1 D R1 h1 D2 (by rw [er]; exact le)
theorem s_nil : DSs X Z [] tNext (dNext (G := G)) := ⟨pss_nil, sim_next⟩
theorem s_cons {s : Stmt} {ss : List Stmt} {t u : TS} {a b : DS G} (h : DSt X Z s t a) (k : DSs X Z ss u b) : DSs X Z (s :: ss) (tSeq t u) (dSeq a b) := ⟨pss_cons h.ps k.ps, sim_seq h.sim k.sim⟩
theorem s_one {s : Stmt} {t : TS} {a : DS G} (h : DSt X Z s t a) : DSs X Z [s] t a := ⟨pss_one h.ps, h.sim⟩
/-- x = e -/
def asgS (i j : Nat) (ρ : En) : Option Sl → Option En
  | some (.dt d) => some (ρ.set j (.dt d))
  | some (.ls ds) => some ((ρ.set i (.dt (.list ds))).set j (.dt (.list ds)))
  | some (.dk ds) => some ((ρ.set i (.dt (.dict ds))).set j (.dt (.dict ds)))
  | _ => none
def asg (j : Nat) : Rs → En → Option En
  | .dt d, ρ => some (ρ.set j (.dt d))
  | .nl ds, ρ => some (ρ.set j (.ls ds))
  | .nd ks, ρ => some (ρ.set j (.dk ks))
  | .br i, ρ => asgS i j ρ ρ[i]?
  | .rs n, ρ => some (ρ.set j (.rs n))
  | .vv v, ρ => some (ρ.set j (.vv v))
section
variable {f : Fx} {F F' : Hp} {ad : Nat → Addr} {ρ ρ' : En} {g g' : G} {σ : St} {H H' : Hp}
theorem Rel.setD (R : Rel Z f F ad ρ g σ H) {j : Nat} {v : V} {d : PyData} (hj : j < σ.length) (h : Da K F v d) : Rel Z f F (adS ad j 0) (ρ.set j (.dt d)) g (σ.set j (some v)) H :=
  R.setSl ⟨v, by rw [List.getElem?_set_self hj], h⟩ fun ho => by cases ho
theorem Rel.hasg (R : Rel Z f F ad ρ g σ H) {j : Nat} {v : V} {r : Rs} (hj : j < σ.length) (h : VR Z f F ad ρ g σ H v r) (e : asg j r ρ = some ρ') : ∃ F' ad', Rel Z f F' ad' ρ' g (σ.set j (some v)) H := by
  cases r with
  | dt d => cases e; exact ⟨F, _, R.setD hj h⟩
  | nl ds =>
    cases e
    obtain ⟨a, vs, rfl, n, h1, h2⟩ := h
    refine ⟨F, _, R.setSl (a := a) ?_ fun _ i t hi ho _ => n.2 i t hi ho⟩
    exact ⟨by rw [List.getElem?_set_self hj, adS_same], by rw [adS_same]; exact n.1, vs, by rw [adS_same]; exact h1, h2⟩
  | nd ds =>
    cases e
    obtain ⟨a, vs, rfl, n, h1, h2⟩ := h
    refine ⟨F, _, R.setSl (a := a) ?_ fun _ i t hi ho _ => n.2 i t hi ho⟩
    exact ⟨by rw [List.getElem?_set_self hj, adS_same], by rw [adS_same]; exact n.1, vs, by rw [adS_same]; exact h1, h2⟩
  | br i =>
    have e1 : asgS i j ρ ρ[i]? = some ρ' := e
    cases hi : ρ[i]? with
    | none => rw [hi] at e1; cases e1
    | some s =>
      rw [hi] at e1
      have q := R.slot i _ hi
      cases s with
      | dt d =>
        cases e1
        obtain ⟨w, q1, q2⟩ := q
        have z : some (some w) = some (some v) := q1.symm.trans h
        cases z
        exact ⟨F, _, R.setD hj q2⟩
      | ls ds =>
        cases e1
        obtain ⟨F', e, R', dl⟩ := R.fzOwn hi
        have z : some (some (V.ref (ad i))) = some (some v) := q.1.symm.trans h
        cases z
        exact ⟨F', _, R'.setD hj dl⟩
      | dk ds =>
        cases e1
        obtain ⟨F', e, R', dl⟩ := R.fzOwnD hi
        have z : some (some (V.ref (ad i))) = some (some v) := q.1.symm.trans h
        cases z
        exact ⟨F', _, R'.setD hj dl⟩
      | _ => cases e1
  | rs n => cases e; cases (show v = .ref (Z.ra g n) from h); exact ⟨F, _, R.setSl (a := 0) (by show _ = _; rw [List.getElem?_set_self hj]) fun ho => by cases ho⟩
  | vv u => cases e; cases (show v = u from h); exact ⟨F, _, R.setSl (a := 0) (by show _ = _; rw [List.getElem?_set_self hj]) fun ho => by cases ho⟩
end
def dAsg (a : DT G) (j : Nat) : DS G := fun D ρ g => a ρ g fun r ρ1 g1 => opK (asg j r ρ1) fun ρ2 => ltK j ρ1.length (D.nx ρ2 g1)
theorem sim_asg {te : TE} {a : DT G} {j : Nat} (ha : Sim Z te a) : SimS Z (tAsg te (gName j)) (dAsg a j) := fun f F ad ρ g σ H D R h D2 le => by
  refine ha f F ad ρ g σ H _ R h _ fun x H1 q => ?_
  obtain ⟨F1, ad1, ρ1, g1, r1, e1, eg1, R1, v1, q⟩ := q
  obtain ⟨ρ2, ea, q⟩ := opK_e q
  obtain ⟨hj, q⟩ := ltK_e q
  obtain ⟨F2, ad2, R2⟩ := R1.hasg (by rw [← R1.len]; exact hj) v1 ea
  exact le.nx F2 ad2 ρ2 g1 _ H1 eg1 R2 q
theorem s_set (j : Nat) {x : Str} {e : Expr} {te : TE} {a : DT G} {pos pos' : Pos} (hN : X.N.Nodup) (he : DE X Z e te a) (hx : Loc X.env.scope x := by first | exact Or.inl rfl | exact Or.inr rfl) (hi : X.N[j]? = some x := by rfl) (hs : swapsWith e (some (.Name x pos')) pos.line X.env = pure false := by rfl)
    (hf : X.fn x = true ∨ X.env.scope.names.lookup x = some .local := by first | exact .inl rfl | exact .inr rfl | assumption) : DSt X Z (.Assign [.Name x pos'] e pos) (tAsg te (gName j)) (dAsg a j) :=
  ⟨ps_set hN hi hx he.pe hs hf, sim_asg he.sim⟩
def dDrop (a : DT G) : DS G := fun D ρ g => a ρ g fun _ ρ1 g1 => D.nx ρ1 g1
theorem s_expr {e : Expr} {te : TE} {a : DT G} {pos : Pos} (he : DE X Z e te a) (hs : swapsWith e none pos.line X.env = pure false := by rfl) : DSt X Z (.Expr e pos) (tDrop te) (dDrop a) := ⟨ps_expr he.pe hs, fun f F ad ρ g σ H D R h D2 le => by
  refine he.sim f F ad ρ g σ H _ R h _ fun x H1 q => ?_
  obtain ⟨F1, ad1, ρ1, g1, r1, e1, eg1, R1, v1, q⟩ := q
  exact le.nx F1 ad1 ρ1 g1 σ H1 eg1 R1 q⟩
def retS : Option Sl → Option Rs
  | some (.dt d) => some (.dt d)
  | some (.ls ds) => some (.nl ds)
  | some (.dk ks) => some (.nd ks)
  | _ => none
def retR : Rs → En → Option Rs
  | .br i, ρ => retS ρ[i]?
  | r, _ => some r
theorem Rel.hret {f : Fx} {F : Hp} {ad : Nat → Addr} {ρ : En} {g : G} {σ : St} {H : Hp} {v : V} {r q : Rs} (R : Rel Z f F ad ρ g σ H) (h : VR Z f F ad ρ g σ H v r) (e : retR r ρ = some q) : VFin Z f F g H v q := by
  cases r with
  | dt d => cases e; exact h
  | nl ds => cases e; obtain ⟨a, vs, rfl, n, h1, h2⟩ := h; exact ⟨a, vs, rfl, n.1, h1, h2⟩
  | nd ds => cases e; obtain ⟨a, vs, rfl, n, h1, h2⟩ := h; exact ⟨a, vs, rfl, n.1, h1, h2⟩
  | br i =>
    have e1 : retS ρ[i]? = some q := e
    cases hi : ρ[i]? with
    | none => rw [hi] at e1; cases e1
    | some s =>
      rw [hi] at e1
      have z := R.slot i _ hi
      cases s with
      | dt d =>
        cases e1
        obtain ⟨w, q1, q2⟩ := z
        have z : some (some w) = some (some v) := q1.symm.trans h
        cases z
        exact q2
      | ls ds =>
        cases e1
        obtain ⟨q1, q2, vs, q3, q4⟩ := z
        have z : some (some (V.ref (ad i))) = some (some v) := q1.symm.trans h
        cases z
        exact ⟨_, vs, rfl, q2, q3, q4⟩
      | dk ds =>
        cases e1
        obtain ⟨q1, q2, vs, q3, q4⟩ := z
        have z : some (some (V.ref (ad i))) = some (some v) := q1.symm.trans h
        cases z
        exact ⟨_, vs, rfl, q2, q3, q4⟩
      | _ => cases e1
  | rs n => cases e; exact h
  | vv u => cases e; exact h
def dRet (a : DT G) : DS G := fun D ρ g => a ρ g fun r ρ1 g1 => opK (retR r ρ1) fun q => D.rt q g1
theorem s_ret {e : Expr} {te : TE} {a : DT G} {pos : Pos} (he : DE X Z e te a) : DSt X Z (.Return (some e) pos) (tRet te) (dRet a) := ⟨ps_ret he.pe, fun f F ad ρ g σ H D R h D2 le => by
  refine he.sim f F ad ρ g σ H _ R h _ fun x H1 q => ?_
  obtain ⟨F1, ad1, ρ1, g1, r1, e1, eg1, R1, v1, q⟩ := q
  obtain ⟨q, er, hq⟩ := opK_e q
  exact le.rt F1 g1 H1 x q eg1 R1.fin (R1.hret v1 er) hq⟩
def dIfS (c : DB G) (t u : DS G) : DS G := fun D ρ g => c ρ g fun b ρ1 g1 => ifb b (t D ρ1 g1) (u D ρ1 g1)
theorem s_if {c : Expr} {tc : TT} {dc : DB G} {a b : List Stmt} {t u : TS} {da db : DS G} {pos : Pos} (hc : DTe X Z c tc dc) (ha : DSs X Z a t da) (hb : DSs X Z b u db) : DSt X Z (.If c a b pos) (tIfS tc t u) (dIfS dc da db) := ⟨ps_if hc.pt ha.ps hb.ps, fun f F ad ρ g σ H D R h D2 le => by
  refine hc.sim f F ad ρ g σ H _ R h _ fun x H1 q => ?_
  obtain ⟨F1, ad1, ρ1, g1, e1, eg1, R1, q⟩ := q
  cases x with
  | true =>
    rw [if_pos rfl]
    replace q := ifb_t q
    exact ha.sim f F1 ad1 ρ1 g1 σ H1 D R1 q D2 (by rw [eg1]; exact le)
  | false =>
    rw [if_neg Bool.false_ne_true]
    replace q := ifb_f q
    exact hb.sim f F1 ad1 ρ1 g1 σ H1 D R1 q D2 (by rw [eg1]; exact le)⟩
/-- while: an invariant with its measure -/
structure WhileP (c : DB G) (b : DS G) (D : D3 G) (ρ0 : En) (g0 : G) : Prop where
  ex : ∃ W : Nat → En → G → Prop, (∃ m, W m ρ0 g0) ∧ ∀ m ρ g, W m ρ g →
    c ρ g fun k ρ1 g1 => ifb k (b { D with nx := fun ρ2 g2 => ∃ m', m' < m ∧ W m' ρ2 g2, ct := fun ρ2 g2 => ∃ m', m' < m ∧ W m' ρ2 g2, bk := D.nx } ρ1 g1) (D.nx ρ1 g1)
def dWhile (c : DB G) (b : DS G) : DS G := fun D ρ g => WhileP c b D ρ g
theorem s_while {c : Expr} {body : List Stmt} {tc : TT} {tb : TS} {dc : DB G} {db : DS G} {pos : Pos} (hc : DTe X Z c tc dc) (hb : DSs X Z body tb db) (hp : PassesOwn (model X.prog X.w) X.A X.env X.xe := by exact PassesOwn.never) : DSt X Z (.While c body [] pos) (tWhile tc tb) (dWhile dc db) := ⟨ps_while hp hc.pt hb.ps, fun f F ad ρ g σ H D R h D2 le => by
  obtain ⟨⟨W, ⟨m0, h0⟩, hs⟩⟩ := h
  refine ⟨fun m σ H => ∃ F ad ρ g', Z.ra g' = Z.ra g ∧ Rel Z f F ad ρ g' σ H ∧ W m ρ g', ⟨m0, F, ad, ρ, g, rfl, R, h0⟩, fun m σ1 H1 hW => ?_⟩
  obtain ⟨F1, ad1, ρ1, g1, eg1, R1, w1⟩ := hW
  refine hc.sim f F1 ad1 ρ1 g1 σ1 H1 _ R1 (hs m ρ1 g1 w1) _ fun k H2 q => ?_
  obtain ⟨F2, ad2, ρ2, g2, e2, eg2, R2, q⟩ := q
  cases k with
  | true =>
    rw [if_pos rfl]
    replace q := ifb_t q
    refine ⟨fun σ' H' => ∃ m', m' < m ∧ ∃ F ad ρ g', Z.ra g' = Z.ra g ∧ Rel Z f F ad ρ g' σ' H' ∧ W m' ρ g', fun σ' H' z => z, ?_⟩
    refine hb.sim f F2 ad2 ρ2 g2 σ1 H2 _ R2 q _ ⟨fun F3 ad3 ρ3 g3 σ3 H3 er R3 h3 => ?_, fun F3 g3 H3 v r er => le.rt F3 g3 H3 v r (er.trans (eg2.trans eg1)), fun F3 ad3 ρ3 g3 σ3 H3 er => le.nx F3 ad3 ρ3 g3 σ3 H3 (er.trans (eg2.trans eg1)), fun F3 ad3 ρ3 g3 σ3 H3 er R3 h3 => ?_⟩
    · obtain ⟨m', hm, w⟩ := h3
      exact ⟨m', hm, F3, ad3, ρ3, g3, er.trans (eg2.trans eg1), R3, w⟩
    · obtain ⟨m', hm, w⟩ := h3
      exact ⟨m', hm, F3, ad3, ρ3, g3, er.trans (eg2.trans eg1), R3, w⟩
  | false =>
    rw [if_neg Bool.false_ne_true]
    replace q := ifb_f q
    exact le.nx F2 ad2 ρ2 g2 σ1 H2 (eg2.trans eg1) R2 q⟩
def slOf : Rs → Sl
  | .dt d => .dt d
  | .rs n => .rs n
  | .vv v => .vv v
  | _ => .un
def entry (N : List Str) (as : List Rs) : En := as.map slOf ++ List.replicate (N.length - as.length) .un
theorem argR_len {F : Hp} {g : G} {vs : List V} {as : List Rs} (h : ArgR Z F g vs as) : vs.length = as.length := Paired.length h
theorem argR_get {F : Hp} {g : G} : ∀ {vs : List V} {as : List Rs} {i : Nat} {r : Rs}, ArgR Z F g vs as → as[i]? = some r → ∃ v, vs[i]? = some v ∧ ArgV Z F g v r
  | _, _, _, _, .nil, e => by simp at e
  | _, _, 0, _, .cons h _, e => by simp at e; subst e; exact ⟨_, rfl, h⟩
  | _, _, i + 1, _, .cons _ t, e => by
    obtain ⟨v, h1, h2⟩ := argR_get (i := i) t (by simpa using e)
    exact ⟨v, by simpa using h1, h2⟩
theorem rel_entry {N : List Str} {vs : List V} {as : List Rs} {F H : Hp} {g : G} (h1 : Ex F H) (h2 : Z.R g F H) (h3 : ∀ a ∈ Z.fp g, F a = none) (h4 : ArgR Z F g vs as) (hN : as.length ≤ N.length) (lx : LeX Z ⟨H, F, Z.fp g⟩ (Z.ra g)) : Rel Z ⟨H, F, Z.fp g⟩ F (fun _ => 0) (entry N as) g (L2.start N vs) H := by
  have hl := argR_len h4
  have get : ∀ (i : Nat) (s : Sl), (entry N as)[i]? = some s → (i < as.length ∧ ∃ r, as[i]? = some r ∧ s = slOf r) ∨ s = .un := fun i s hi => by
    unfold entry at hi
    by_cases hlt : i < as.length
    · rw [List.getElem?_append_left (by rw [List.length_map]; exact hlt), List.getElem?_map] at hi
      cases e : as[i]? with
      | none => rw [e] at hi; cases hi
      | some r => rw [e] at hi; cases hi; exact .inl ⟨hlt, r, rfl, rfl⟩
    · rw [List.getElem?_append_right (by rw [List.length_map]; omega), List.getElem?_replicate] at hi
      split at hi
      · cases hi; exact .inr rfl
      · cases hi
  have nown : ∀ (i : Nat) (s : Sl), (entry N as)[i]? = some s → s.own = false := fun i s hi => by
    rcases get i s hi with ⟨_, r, _, rfl⟩ | rfl
    · cases r <;> rfl
    · rfl
  refine ⟨⟨⟨Evl.Ex.refl F, h1, fun b o e _ => e, fun b hb => hb, fun b o e => .inl e, h2, h3, fun a ha => .inl ha, fun a ha => Z.there h2 a ha⟩, ?_, fun i s hi => ?_, fun i j s t hi hj hs => ?_⟩, lx⟩
  · unfold entry L2.start
    rw [List.length_append, List.length_map, List.length_replicate, List.length_append, List.length_map, List.length_replicate, hl]
  · rcases get i s hi with ⟨hlt, r, hr, rfl⟩ | rfl
    · obtain ⟨v, hv, av⟩ := argR_get h4 hr
      have hst : (L2.start N vs)[i]? = some (some v) := by
        unfold L2.start
        rw [List.getElem?_append_left (by rw [List.length_map, hl]; exact hlt), List.getElem?_map, hv]; rfl
      cases r with
      | dt d => exact ⟨v, hst, av⟩
      | rs n => cases (show v = .ref (Z.ra g n) from av); exact hst
      | vv u => cases (show v = u from av); exact hst
      | _ => exact av.elim
    · trivial
  · rw [nown i s hi] at hs; cases hs
section
variable {P : Program} {w : World} {K : PySem.W.Frag} {mg : Str → Option Value} {base : Heap}
/-- what a body has to show -/
theorem body3 {Z : Zx K G} {W : WXH} {U' : UX G} {N : List Str} {H : Hp} {vs : List V} {Q : VK} {ts : TS} {t : DS G} {F : Hp} {g : G} {as : List Rs} {T : Rs → G → Prop} {n : Nat}
    (h1 : Ex F H) (h2 : Z.R g F H) (h3 : ∀ a ∈ Z.fp g, F a = none) (h4 : ArgR Z F g vs as) (hn : as.length = n) (hN : n ≤ N.length) (lx : LeX (Z.wish W U') ⟨H, F, Z.fp g⟩ (Z.ra g))
    (h6 : ∀ v r F' g' H', Frm Z F H g F' H' g' → Z.ra g' = Z.ra g → VRet Z F' H H' g' v r → T r g' → Q v H') (hd : SimS (Z.wish W U') ts t) (hb : t { nx := fun _ g' => T (.dt .none) g', rt := T } (entry N as) g) :
    ts { nx := fun _ H' => Q .non H', rt := Q } (L2.start N vs) H := by
  have fr : ∀ {F' : Hp} {g' : G} {H' : Hp}, Fin (Z.wish W U') ⟨H, F, Z.fp g⟩ F' g' H' → Frm Z F H g F' H' g' := fun {F' g' H'} r =>
    ⟨r.base, r.keep, r.keepN, r.new, r.sub, r.res, r.fpF, r.fpB⟩
  have R0 := rel_entry (Z := Z.wish W U') (N := N) h1 h2 h3 h4 (by rw [hn]; exact hN) lx
  refine hd ⟨H, F, Z.fp g⟩ F (fun _ => 0) (entry N as) g (L2.start N vs) H _ R0 hb _ ⟨fun F' ad ρ g' σ H' er R hT => ?_, fun F' g' H' v r er R hv hT => ?_, fun _ _ _ _ _ _ _ _ z => z.elim, fun _ _ _ _ _ _ _ _ z => z.elim⟩
  · exact h6 .non (.dt .none) F' g' H' (fr R.fin) er .non hT
  · refine h6 v r F' g' H' (fr R) er ?_ hT
    cases r with
    | dt d => exact hv
    | nl ds => obtain ⟨a, vs, rfl, n, q1, q2⟩ := hv; exact ⟨a, vs, rfl, n.2.1, n.1, n.2.2, q1, q2⟩
    | nd ds => obtain ⟨a, vs, rfl, n, q1, q2⟩ := hv; exact ⟨a, vs, rfl, n.2.1, n.1, n.2.2, q1, q2⟩
    | br i => exact hv
    | rs n => exact hv
    | vv u => exact hv
/-- THE RULE for a def that lets no error out -/
theorem fun3 {Z : Zx K G} {x qual : Str} {st : Stmt} {fa : Addr} {fd : FuncData} {N ps : List Str} {k : Nat} {S : Spec G} (Fu : Fun K x qual st fa fd) (Sc : FnScope N ps (defScope st)) (hS : ∀ as g T U, S as g T U → as.length = ps.length) (hN : ps.length ≤ N.length)
    (body : ∀ (cdv : Value) (A : Around) (outer : List Env) (s : Shared) (H : Hp) (E : XK), RoomG k (A.deeper (PyProof.Rows.envOfC qual (defScope st) s.heap.objs.size fa cdv)) →
      ∃ ts t, DSs (cxOf (L2.CX P w) P w K mg base N qual (defScope st) fa cdv A outer s H E).nox (Z.wish (fun _ _ _ _ => False) Un) (defBody st) ts t ∧ ∀ as g T U, S as g T U → t { nx := fun _ g' => T (.dt .none) g', rt := T } (entry N as) g) : FnG P w K mg base (L2.CX P w) (k + 1) fa fd ps (spZ Z S) := by
  refine funG Fu Sc (fun vs H Q E h => ?_) (fun cdv A outer s H vs Q E hr h => ?_)
  · obtain ⟨F, g, as, T, U, h1, h2, h3, h4, h5, _⟩ := h
    rw [argR_len h4]
    exact hS as g T U h5
  · obtain ⟨F, g, as, T, U, h1, h2, h3, h4, h5, h6, h7⟩ := h
    obtain ⟨ts, t, hd, hb⟩ := body cdv A outer s H E hr
    exact ⟨ts, hd.ps.nox, body3 h1 h2 h3 h4 (hS as g T U h5) hN (fun _ _ _ _ _ _ _ _ _ _ _ _ z => z.elim) h6 hd.sim (hb as g T U h5)⟩
/-- THE RULE for a def that may raise -/
theorem fun3X {Z : Zx K G} {x qual : Str} {st : Stmt} {fa : Addr} {fd : FuncData} {N ps : List Str} {k : Nat} {S : Spec G} (Fu : Fun K x qual st fa fd) (Sc : FnScope N ps (defScope st)) (hS : ∀ as g T U, S as g T U → as.length = ps.length) (hN : ps.length ≤ N.length)
    (body : ∀ (cdv : Value) (A : Around) (outer : List Env) (s : Shared) (H : Hp) (E : XK) (U : XU G), RoomG k (A.deeper (PyProof.Rows.envOfC qual (defScope st) s.heap.objs.size fa cdv)) →
      Takes (cxOf (L2.CX P w) P w K mg base N qual (defScope st) fa cdv A outer s H E) (fun c d _ H => E c d H) →
      PassesOwn (model P w) (A.deeper (PyProof.Rows.envOfC qual (defScope st) s.heap.objs.size fa cdv)) (PyProof.Rows.envOfC qual (defScope st) s.heap.objs.size fa cdv) (cxOf (L2.CX P w) P w K mg base N qual (defScope st) fa cdv A outer s H E).xe →
      ∃ ts t, DSs (cxOf (L2.CX P w) P w K mg base N qual (defScope st) fa cdv A outer s H E) (Z.wish (fun c d _ H => E c d H) (fun c fs _ g => U c fs g)) (defBody st) ts t ∧ ∀ as g T, S as g T U → t { nx := fun _ g' => T (.dt .none) g', rt := T } (entry N as) g) : FnG P w K mg base (L2.CX P w) (k + 1) fa fd ps (spZ Z S) := by
  refine funG Fu Sc (fun vs H Q E h => ?_) (fun cdv A outer s H vs Q E hr h => ?_)
  · obtain ⟨F, g, as, T, U, h1, h2, h3, h4, h5, _⟩ := h
    rw [argR_len h4]
    exact hS as g T U h5
  · obtain ⟨F, g, as, T, U, h1, h2, h3, h4, h5, h6, h7⟩ := h
    obtain ⟨ts, t, hd, hb⟩ := body cdv A outer s H E U hr (takes_of rfl rfl rfl rfl) (passes_of rfl)
    refine ⟨ts, hd.ps, body3 h1 h2 h3 h4 (hS as g T U h5) hN (fun F' ad ρ g' σ H' c dx fs er R hx hu => ?_) h6 hd.sim (hb as g T h5)⟩
    exact h7 c fs dx F' g' H' ⟨R.fin.base, R.fin.keep, R.fin.keepN, R.fin.new, R.fin.sub, R.fin.res, R.fin.fpF, R.fin.fpB⟩ er hx hu
end
end L3
end
section
namespace L2
open PySem PySem.Spec PyProof.Rows
def iSeq (K : PySem.W.Frag) (tl : TE) : TI := fun σ H R => tl σ H fun x H1 => (∃ a, x = .ref a ∧ (∃ xs, SqL K H1 a xs) ∧ R (Itl K a) H1) ∨ (∃ a, x = .ref a ∧ (∃ xs, SqT K H1 a xs) ∧ R (Itt K a) H1)
theorem pi_seq {X : Cx} {tg l : Expr} {tl : TE} (hl : PE X l tl) : PI X tg l (iSeq X.K tl) := by
  refine ⟨fun pins s σ H R I h => ?_⟩
  refine thn (hl.run pins s σ H _ I h) fun v s1 ⟨x, H1, I1, r1, q1⟩ => ?_
  rcases q1 with ⟨a, e, ⟨xs, hq⟩, q⟩ | ⟨a, e, ⟨xs, hq⟩, q⟩
  · subst e
    cases r1
    obtain ⟨its, rv, p, hz⟩ := I1.list hq
    refine wpAny_pyIter_list p.isList ?_
    exact ⟨s1.heap.objs.size, [s1.heap.objs.size], _, _, H1, rfl, I1.kept (t' := s1.toks) fun b o e => Heap.get?_push_of_some _ e, turn_list a _, ⟨_, Heap.get?_push_size _ rfl, rfl, rfl⟩, fp_of I1 (by simp), q⟩
  · subst e
    cases r1
    obtain ⟨its, rv, p, hz⟩ := I1.tuple hq
    refine wpAny_pyIter_tuple p ?_
    exact ⟨s1.heap.objs.size, [s1.heap.objs.size], _, _, H1, rfl, I1.kept (t' := s1.toks) fun b o e => Heap.get?_push_of_some _ e, turn_tuple a _, ⟨_, Heap.get?_push_size _ rfl, rfl, rfl⟩, fp_of I1 (by simp), q⟩
end L2
namespace L3
open PySem L2
variable {G : Type} {K : PySem.W.Frag} {X : Cx} {Z : Zx K G}
abbrev DG (G : Type) := PyData → En → G → (En → G → Prop) → Prop
abbrev DGs (G : Type) := List PyData → En → G → (En → G → Prop) → Prop
def SimG (Z : Zx K G) (tg : TG) (t : DG G) : Prop := ∀ f F ad ρ g σ H v d Q, Rel Z f F ad ρ g σ H → Da K F v d → t d ρ g Q → ∀ P : St → Hp → Prop,
  (∀ F' ad' ρ' g' σ' H', Ex F F' → Z.ra g' = Z.ra g → Rel Z f F' ad' ρ' g' σ' H' → Q ρ' g' → P σ' H') → tg v σ H P
def SimGs (Z : Zx K G) (tg : TGs) (t : DGs G) : Prop := ∀ f F ad ρ g σ H vs ds Q, Rel Z f F ad ρ g σ H → DaAll K F vs ds → t ds ρ g Q → ∀ P : St → Hp → Prop,
  (∀ F' ad' ρ' g' σ' H', Ex F F' → Z.ra g' = Z.ra g → Rel Z f F' ad' ρ' g' σ' H' → Q ρ' g' → P σ' H') → tg vs σ H P
structure DGt (X : Cx) (Z : Zx K G) (e : Expr) (tg : TG) (t : DG G) : Prop where
  pg : PG X e tg
  sim : SimG Z tg t
structure DGts (X : Cx) (Z : Zx K G) (es : List Expr) (tg : TGs) (t : DGs G) : Prop where
  pgs : PGs X es tg
  sim : SimGs Z tg t
def dN (j : Nat) : DG G := fun d ρ g Q => ltK j ρ.length (Q (ρ.set j (.dt d)) g)
theorem g_name (j : Nat) {x : Str} {pos : Pos} (hN : X.N.Nodup) (hx : Loc X.env.scope x := by first | exact Or.inl rfl | exact Or.inr rfl) (hi : X.N[j]? = some x := by rfl) (hf : X.fn x = true ∨ X.env.scope.names.lookup x = some .local := by first | exact .inl rfl | exact .inr rfl | assumption) :
    DGt X Z (.Name x pos) (gName j) (dN (G := G) j) := ⟨pg_name hN hi hx hf, fun f F ad ρ g σ H v d Q R h q P hP => hP F _ _ g _ H (Evl.Ex.refl F) rfl (R.setD (by rw [← R.len]; exact (ltK_e q).1) h) (ltK_e q).2⟩
def dGnil : DGs G := fun ds ρ g Q => match ds with
  | [] => Q ρ g
  | _ => False
def dGcons (t : DG G) (u : DGs G) : DGs G := fun ds ρ g Q => match ds with
  | d :: r => t d ρ g fun ρ1 g1 => u r ρ1 g1 Q
  | [] => False
theorem gs_nil : DGts X Z [] gNil (dGnil (G := G)) := ⟨pgs_nil, fun f F ad ρ g σ H vs ds Q R h q P hP => by
  cases h with
  | nil => exact ⟨rfl, hP F ad ρ g σ H (Evl.Ex.refl F) rfl R q⟩
  | cons _ _ => cases q⟩
theorem gs_cons {e : Expr} {es : List Expr} {t : TG} {u : TGs} {a : DG G} {b : DGs G} (h1 : DGt X Z e t a) (h2 : DGts X Z es u b) (hs : (assignEach (e :: es) X.env).map (·.2) = assign e X.env :: (assignEach es X.env).map (·.2) := by rfl) :
    DGts X Z (e :: es) (gCons t u) (dGcons a b) := ⟨pgs_cons h1.pg h2.pgs hs, fun f F ad ρ g σ H vs ds Q R h q P hP => by
  cases h with
  | nil => cases q
  | cons h r =>
    refine ⟨_, _, rfl, h1.sim f F ad ρ g σ H _ _ _ R h q _ fun F1 ad1 ρ1 g1 σ1 H1 e1 er1 R1 q1 => ?_⟩
    exact h2.sim f F1 ad1 ρ1 g1 σ1 H1 _ _ _ R1 (daAll_mono e1 r) q1 P fun F2 ad2 ρ2 g2 σ2 H2 e2 er2 R2 q2 => hP F2 ad2 ρ2 g2 σ2 H2 (e1.trans e2) (er2.trans er1) R2 q2⟩
def dGt (n : Nat) (t : DGs G) : DG G := fun d ρ g Q => match d with
  | .tuple ds => tt (Nat.beq ds.length n) (t ds ρ g Q)
  | .list ds => tt (Nat.beq ds.length n) (t ds ρ g Q)
  | _ => False
theorem g_tup {es : List Expr} {k : Nat} {t : TGs} {a : DGs G} {n : Nat} {pos : Pos} (h : DGts X Z es t a) (hc : X.calm = true := by rfl) (hn : (assignEach es X.env).length = n := by rfl) (hst : (assignEach es X.env).findIdx? (·.1) = none := by rfl) (hK : K = X.K := by rfl) :
    DGt X Z (.Tuple es k pos) (gSeq K n t) (dGt n a) := ⟨by rw [hK]; exact pg_seq hc h.pgs hn hst, fun f F ad ρ g σ H v d Q R hd q P hP => by
  cases hd with
  | lst h1 h2 => exact ⟨_, _, rfl, .inl (.inl (.inl (R.fin.sub _ _ h1))), h2.length.trans (Nat.eq_of_beq_eq_true (tt_e q).1), h.sim f F ad ρ g σ H _ _ Q R h2 (tt_e q).2 P hP⟩
  | tup h1 h2 => exact ⟨_, _, rfl, .inr (Evl.ex_t R.fin.sub h1), h2.length.trans (Nat.eq_of_beq_eq_true (tt_e q).1), h.sim f F ad ρ g σ H _ _ Q R h2 (tt_e q).2 P hP⟩
  | _ => cases q⟩
/-- a, b = e -/
def dAsgT (a : DT G) (t : DG G) : DS G := fun D ρ g => a ρ g fun r ρ1 g1 => fz1 r ρ1 fun d ρ2 => t d ρ2 g1 D.nx
theorem s_asg {tg e : Expr} {te : TE} {a : DT G} {gt : TG} {t : DG G} {pos : Pos} (he : DE X Z e te a) (hg : DGt X Z tg gt t) (hs : swapsWithSole [tg] e pos.line X.env = pure false := by rfl) (hw : swappedStores [tg] e X.env = pure none := by rfl)
    (h1 : (assignEach [tg] X.env).map (·.2) = [assign tg X.env] := by rfl) : DSt X Z (.Assign [tg] e pos) (tAsg te gt) (dAsgT a t) := ⟨ps_asg he.pe hg.pg hs hw h1, fun f F ad ρ g σ H D R h D2 le => by
  refine he.sim f F ad ρ g σ H _ R h _ fun x H1 q => ?_
  obtain ⟨F1, ad1, ρ1, g1, r1, e1, eg1, R1, v1, q⟩ := q
  obtain ⟨d, ρ2, ef, q⟩ := fz1_of q
  obtain ⟨F2, e2, R2, da⟩ := R1.hfz v1 ef
  exact hg.sim f F2 ad1 ρ2 g1 σ H1 x d _ R2 da q _ fun F3 ad3 ρ3 g3 σ3 H3 e3 er3 R3 q3 => le.nx F3 ad3 ρ3 g3 σ3 H3 (er3.trans eg1) R3 q3⟩
/-- a, b = x, y: both sides written -/
def prD (ds : List PyData) (k : PyData → PyData → Prop) : Prop := match ds with
  | [d, e] => k d e
  | _ => False
theorem prD_of {ds : List PyData} {k : PyData → PyData → Prop} (h : prD ds k) : ∃ d e, ds = [d, e] ∧ k d e := by
  unfold prD at h
  split at h
  · exact ⟨_, _, rfl, h⟩
  · exact h.elim
def dPar (i j : Nat) (t : DA G) : DS G := fun D ρ g => t ρ g fun rs ρ1 g1 => fzK rs ρ1 fun ds ρ2 => prD ds fun d e => ltK i ρ2.length (ltK j ρ2.length (D.nx ((ρ2.set i (.dt d)).set j (.dt e)) g1))
theorem s_par (i j : Nat) {x y : Str} {a b : Expr} {ta : TA} {t : DA G} {px py pt : Pos} {kt k2 pt2} {pos : Pos} (hN : X.N.Nodup) (ha : DAs X Z [a, b] ta t) (hi : X.N[i]? = some x := by rfl) (hj : X.N[j]? = some y := by rfl) (hij : i ≠ j := by decide)
    (hx : X.env.scope.names.lookup x = some .local := by rfl) (hy : X.env.scope.names.lookup y = some .local := by rfl) (hc : X.calm = true := by rfl)
    (hw : swappedStores [.Tuple [.Name x px, .Name y py] kt pt] (.Tuple [a, b] k2 pt2) X.env = pure (some [x, y]) := by rfl)
    (hs : swapsWithSole [.Tuple [.Name x px, .Name y py] kt pt] (.Tuple [a, b] k2 pt2) pos.line X.env = pure false := by rfl) : DSt X Z (.Assign [.Tuple [.Name x px, .Name y py] kt pt] (.Tuple [a, b] k2 pt2) pos) (tPar i j ta) (dPar i j t) :=
  ⟨by first | exact ps_par hc hN hi hj hij hx hy ha.pa hw hs | exact ps_par hc hN hi hj hij hx hy ha.pa hw, fun f F ad ρ g σ H D R h D2 le => by
    refine ha.sim f F ad ρ g σ H _ R h _ fun vs H1 q => ?_
    obtain ⟨F1, ad1, ρ1, g1, rs, e1, eg1, R1, v1, q⟩ := q
    obtain ⟨ds, ρ2, ef, q⟩ := fzK_of q
    obtain ⟨d, e, rfl, q⟩ := prD_of q
    obtain ⟨hi, q⟩ := ltK_e q
    obtain ⟨hj, q⟩ := ltK_e q
    obtain ⟨F2, e2, R2, da⟩ := R1.hfzA v1 ef
    cases da with
    | cons h1 t1 =>
      cases t1 with
      | cons h2 t2 =>
        cases t2
        refine ⟨_, _, rfl, ?_⟩
        have R3 := R2.setD (by rw [← R2.len]; exact hi) h1
        exact le.nx F2 _ _ g1 _ H1 eg1 (R3.setD (by rw [List.length_set, ← R2.len]; exact hj) h2) q⟩
abbrev DI (G : Type) := En → G → (List PyData → En → G → Prop) → Prop
def Wk (Z : Zx K G) (f : Fx) (F : Hp) (J : It) (items : List PyData) : Prop := ∀ f1 F1 ad ρ g σ H, Ex F F1 → Rel Z f1 F1 ad ρ g σ H → J.stop items.length H ∧ ∀ i, i < items.length → J.go i H ∧
  ∀ x H', J.yld i H x H' → ∃ F2 d, items[i]? = some d ∧ Ex F1 F2 ∧ Rel Z f1 F2 ad ρ g σ H' ∧ Da K F2 x d
def SimI (Z : Zx K G) (wi : TI) (t : DI G) : Prop := ∀ f F ad ρ g σ H Q, Rel Z f F ad ρ g σ H → t ρ g Q → ∀ R : It → Hp → Prop,
  (∀ J H' F' ad' ρ' g' items, Ex F F' → Z.ra g' = Z.ra g → Rel Z f F' ad' ρ' g' σ H' → Wk Z f F' J items → Q items ρ' g' → R J H') → wi σ H R
structure DIt (X : Cx) (Z : Zx K G) (tg e : Expr) (wi : TI) (t : DI G) : Prop where
  pi : PI X tg e wi
  sim : SimI Z wi t
def dSeqI (a : DT G) : DI G := fun ρ g Q => a ρ g fun r ρ1 g1 => fz1 r ρ1 fun d ρ2 => seqD (fun ds => Q ds ρ2 g1) (some d)
theorem wk_list {f : Fx} {F : Hp} {a : Addr} {vs : List V} {ds : List PyData} (h : F a = some (.lst vs)) (da : DaAll K F vs ds) : Wk Z f F (Itl K a) ds := fun f1 F1 ad ρ g σ H e R => by
  have hs : SqL K H a vs := .inl (.inl (R.fin.sub _ _ (e _ _ h)))
  refine ⟨⟨vs, hs, by rw [da.length]; exact Nat.le_refl _⟩, fun i hi => ?_⟩
  have hi2 : i < vs.length := by rw [da.length]; exact hi
  refine ⟨⟨vs, vs[i], hs, by simp [hi2]⟩, fun x H' y => ?_⟩
  obtain ⟨rfl, hx⟩ := y
  obtain ⟨d, hd, dv⟩ := da.getV (hx vs hs)
  exact ⟨F1, d, hd, Evl.Ex.refl F1, R, da_mono e dv⟩
theorem wk_tup {f : Fx} {F : Hp} {a : Addr} {vs : List V} {ds : List PyData} (h : SqT K F a vs) (da : DaAll K F vs ds) : Wk Z f F (Itt K a) ds := fun f1 F1 ad ρ g σ H e R => by
  have hs : SqT K H a vs := Evl.ex_t R.fin.sub (Evl.ex_t e h)
  refine ⟨⟨vs, hs, by rw [da.length]; exact Nat.le_refl _⟩, fun i hi => ?_⟩
  have hi2 : i < vs.length := by rw [da.length]; exact hi
  refine ⟨⟨vs, vs[i], hs, by simp [hi2]⟩, fun x H' y => ?_⟩
  obtain ⟨rfl, hx⟩ := y
  obtain ⟨d, hd, dv⟩ := da.getV (hx vs hs)
  exact ⟨F1, d, hd, Evl.Ex.refl F1, R, da_mono e dv⟩
theorem i_seq {tg e : Expr} {te : TE} {a : DT G} (h : DE X Z e te a) (hK : K = X.K := by rfl) : DIt X Z tg e (iSeq K te) (dSeqI a) := ⟨by rw [hK]; exact pi_seq h.pe, fun f F ad ρ g σ H Q R q P hP => by
  refine h.sim f F ad ρ g σ H _ R q _ fun x H1 q => ?_
  obtain ⟨F1, ad1, ρ1, g1, r1, e1, eg1, R1, v1, q⟩ := q
  obtain ⟨d, ρ2, ef, q⟩ := fz1_of q
  obtain ⟨F2, e2, R2, dv⟩ := R1.hfz v1 ef
  obtain ⟨ds, hd, q⟩ := seqD_of q
  rcases hd with hd | hd
  · cases hd
    cases dv with
    | lst h1 h2 => exact .inl ⟨_, rfl, ⟨_, .inl (.inl (R2.fin.sub _ _ h1))⟩, hP _ _ F2 ad1 ρ2 g1 ds (e1.trans e2) eg1 R2 (wk_list h1 h2) q⟩
  · cases hd
    cases dv with
    | tup h1 h2 => exact .inr ⟨_, rfl, ⟨_, Evl.ex_t R2.fin.sub h1⟩, hP _ _ F2 ad1 ρ2 g1 ds (e1.trans e2) eg1 R2 (wk_tup h1 h2) q⟩⟩
/-- range -/
def rngD (lo : Int) (n : Nat) : List PyData := (List.range n).map fun i => .int (lo + (i : Nat))
theorem rngD_len (lo : Int) (n : Nat) : (rngD lo n).length = n := by unfold rngD; rw [List.length_map, List.length_range]
theorem rngD_get (lo : Int) {n i : Nat} (h : i < n) : (rngD lo n)[i]? = some (.int (lo + (i : Nat))) := by
  unfold rngD
  rw [List.getElem?_map, List.getElem?_range h]; rfl
theorem wk_rng {f : Fx} {F : Hp} {lo : Int} {n : Nat} : Wk Z f F (Itr lo n) (rngD lo n) := fun f1 F1 ad ρ g σ H e R => by
  rw [rngD_len]
  refine ⟨Nat.le_refl _, fun i hi => ⟨hi, fun x H' y => ?_⟩⟩
  obtain ⟨rfl, rfl⟩ := y
  exact ⟨F1, _, rngD_get lo hi, Evl.Ex.refl F1, R, .int _⟩
def small62 (j : Int) : Bool := match j with
  | .ofNat n => Nat.ble (n + 1) 4611686018427387904
  | .negSucc n => Nat.ble (n + 1) 4611686018427387904
def rgK (n : Int) (p : Prop) : Prop := gd (small62 n) (-(2 ^ 62) ≤ n ∧ n < 2 ^ 62) p
theorem rgK_e {n : Int} {p : Prop} (h : rgK n p) : (-(2 ^ 62) ≤ n ∧ n < 2 ^ 62) ∧ p := gd_e (fun e => by
  cases n with
  | ofNat n => have := Nat.le_of_ble_eq_true e; constructor <;> (simp only [Int.ofNat_eq_natCast]; omega)
  | negSucc n => have := Nat.le_of_ble_eq_true e; constructor <;> omega) h
theorem rgK_of {n : Int} {p : Prop} (h0 : -(2 ^ 62) ≤ n) (h1 : n < 2 ^ 62) (hp : p) : rgK n p := gd_of ⟨h0, h1⟩ hp
def dRng1 (t : DA G) : DI G := fun ρ g Q => t ρ g fun rs ρ1 g1 => one (fun r => iiU (fun n => rgK n (Q (rngD 0 n.toNat) ρ1 g1)) (rd r ρ1)) rs
theorem i_rng1 {tg a : Expr} {ta : TA} {t : DA G} {p pos : Pos} (hm : X.mg "range" = none) (ha : DAs X Z [a] ta t) (hg : Gl X "range" := by rfl) (hs : starEach [a] X.env = [(false, eval a X.env)] := by rfl) : DIt X Z tg (.Call (.Name "range" p) [a] [] pos) (iRng1 ta) (dRng1 t) :=
  ⟨pi_range1 hg hm ha.pa hs, fun f F ad ρ g σ H Q R q P hP => by
    refine ha.sim f F ad ρ g σ H _ R q _ fun vs H1 q => ?_
    obtain ⟨F1, ad1, ρ1, g1, rs, e1, eg1, R1, v1, q⟩ := q
    obtain ⟨r, rfl, q⟩ := one_of q
    obtain ⟨v, rfl, h0⟩ := vrs1 v1
    obtain ⟨n, e, q⟩ := iiU_of q
    obtain ⟨⟨b1, b2⟩, q⟩ := rgK_e q
    exact ⟨n, by rw [R1.rInt h0 e], b1, b2, hP _ _ F1 ad1 ρ1 g1 _ e1 eg1 R1 wk_rng q⟩⟩
/-- enumerate, zip -/
def enumD (ds : List PyData) : List PyData := (List.range ds.length).zipWith (fun (i : Nat) d => .tuple [.int (i : Nat), d]) ds
theorem enumD_len (ds : List PyData) : (enumD ds).length = ds.length := by unfold enumD; rw [List.length_zipWith, List.length_range, Nat.min_self]
theorem enumD_get {ds : List PyData} {i : Nat} {d : PyData} (h : ds[i]? = some d) : (enumD ds)[i]? = some (.tuple [.int (i : Nat), d]) := by
  have hi : i < ds.length := (List.getElem?_eq_some_iff.mp h).1
  unfold enumD
  rw [List.getElem?_zipWith, h, List.getElem?_range hi]
def zipD (ds es : List PyData) : List PyData := List.zipWith (fun d e => .tuple [d, e]) ds es
theorem zipD_len (ds es : List PyData) : (zipD ds es).length = min ds.length es.length := by unfold zipD; rw [List.length_zipWith]
theorem zipD_get {ds es : List PyData} {i : Nat} {d e : PyData} (h : ds[i]? = some d) (h2 : es[i]? = some e) : (zipD ds es)[i]? = some (.tuple [d, e]) := by
  unfold zipD
  rw [List.getElem?_zipWith, h, h2]
def SqF (K : PySem.W.Frag) (F : Hp) : Bool → Addr → List V → Prop
  | true, a, xs => SqT K F a xs
  | false, a, xs => F a = some (.lst xs)
theorem sqF_B {K : PySem.W.Frag} {F H : Hp} (e : Ex F H) {b : Bool} {a : Addr} {xs : List V} (h : SqF K F b a xs) : SqB K H b a xs := by
  cases b with
  | true => exact Evl.ex_t e h
  | false => exact .inl (.inl (e _ _ h))
theorem da_seq {K : PySem.W.Frag} {F : Hp} {v : V} {d : PyData} {k : List PyData → Prop} (h : Da K F v d) (q : seqD k (some d)) : ∃ ds b a vs, v = .ref a ∧ SqF K F b a vs ∧ DaAll K F vs ds ∧ k ds := by
  obtain ⟨ds, hd, q⟩ := seqD_of q
  rcases hd with hd | hd
  · cases hd
    cases h with
    | lst h1 h2 => exact ⟨ds, false, _, _, rfl, h1, h2, q⟩
  · cases hd
    cases h with
    | tup h1 h2 => exact ⟨ds, true, _, _, rfl, h1, h2, q⟩
theorem wk_pair {f1 : Fx} {F1 : Hp} {ad : Nat → Addr} {ρ : En} {g : G} {σ : St} {H : Hp} (R : Rel Z f1 F1 ad ρ g σ H) {T : Addr} {x y : V} {d e : PyData} (hT : H T = none) (hx : Da K F1 x d) (hy : Da K F1 y e) :
    ∃ F2, Ex F1 F2 ∧ Rel Z f1 F2 ad ρ g σ (upd H T (.tup [x, y])) ∧ Da K F2 (.ref T) (.tuple [d, e]) := by
  obtain ⟨R', n⟩ := R.laid (o := .tup [x, y]) hT
  obtain ⟨R2, ee⟩ := R'.froze n upd_same
  exact ⟨_, ee, R2, .tup (.inl (.inl upd_same)) (.cons (da_mono ee hx) (.cons (da_mono ee hy) .nil))⟩
def dEnum (t : DA G) : DI G := fun ρ g Q => t ρ g fun rs ρ1 g1 => one (fun r => fz1 r ρ1 fun d ρ2 => seqD (fun ds => Q (enumD ds) ρ2 g1) (some d)) rs
def dZip (t : DA G) : DI G := fun ρ g Q => t ρ g fun rs ρ1 g1 => fzK rs ρ1 fun ls ρ2 => prD ls fun d e => seqD (fun ds => seqD (fun es => Q (zipD ds es) ρ2 g1) (some e)) (some d)
theorem i_enum {e : Expr} {ta : TA} {t : DA G} {p pos tpos : Pos} {elts : List Expr} {kk : Nat} (hm : X.mg "enumerate" = none) (ha : DAs X Z [e] ta t) (hg : Gl X "enumerate" := by rfl) (hs : starEach [e] X.env = [(false, eval e X.env)] := by rfl) (hK : K = X.K := by rfl) :
    DIt X Z (.Tuple elts kk tpos) (.Call (.Name "enumerate" p) [e] [] pos) (iEnumB K ta) (dEnum t) := ⟨by rw [hK]; exact pi_enumB hg hm ha.pa hs, fun f F ad ρ g σ H Q R q P hP => by
  refine ha.sim f F ad ρ g σ H _ R q _ fun vs H1 q => ?_
  obtain ⟨F1, ad1, ρ1, g1, rs, e1, eg1, R1, v1, q⟩ := q
  obtain ⟨r, rfl, q2⟩ := one_of q
  obtain ⟨d, ρ2, ef, q⟩ := fz1_of q2
  obtain ⟨v, rfl, h0⟩ := vrs1 v1
  obtain ⟨F2, e2, R2, dv⟩ := R1.hfz h0 ef
  obtain ⟨ds, b, a, vs, rfl, hs, da, q⟩ := da_seq dv q
  refine ⟨b, a, vs, rfl, sqF_B R2.fin.sub hs, hP _ _ F2 ad1 ρ2 g1 _ (e1.trans e2) eg1 R2 ?_ q⟩
  intro f3 F3 ad3 ρ3 g3 σ3 H3 e3 R3
  have hs3 : SqB K H3 b a vs := sqF_B (e3.trans R3.fin.sub) hs
  rw [enumD_len]
  refine ⟨⟨vs, hs3, da.length⟩, fun i hi => ?_⟩
  have hi2 : i < vs.length := by rw [da.length]; exact hi
  refine ⟨⟨vs, vs[i], hs3, by simp [hi2]⟩, fun x H' y => ?_⟩
  obtain ⟨T, y, rfl, hT, rfl, hy⟩ := y
  obtain ⟨d, hd, dv⟩ := da.getV (hy vs hs3)
  obtain ⟨F4, e4, R4, dt⟩ := wk_pair R3 hT (.int (i : Nat)) (da_mono e3 dv)
  exact ⟨F4, _, enumD_get hd, e4, R4, dt⟩⟩
theorem i_zip {e e2 : Expr} {ta : TA} {t : DA G} {p pos tpos : Pos} {elts : List Expr} {kk : Nat} (hm : X.mg "zip" = none) (ha : DAs X Z [e, e2] ta t) (hg : Gl X "zip" := by rfl) (hs : starEach [e, e2] X.env = (false, eval e X.env) :: starEach [e2] X.env := by rfl)
    (hpl : (backTo pos (starEach [e2] X.env)).any (·.1) = false := by rfl) (hK : K = X.K := by rfl) : DIt X Z (.Tuple elts kk tpos) (.Call (.Name "zip" p) [e, e2] [] pos) (iZipB K ta) (dZip t) := ⟨by rw [hK]; exact pi_zipB hg hm ha.pa hs hpl, fun f F ad ρ g σ H Q R q P hP => by
  refine ha.sim f F ad ρ g σ H _ R q _ fun vs H1 q => ?_
  obtain ⟨F1, ad1, ρ1, g1, rs, e1, eg1, R1, v1, q⟩ := q
  obtain ⟨ls, ρ2, ef, q⟩ := fzK_of q
  obtain ⟨d, e, rfl, q⟩ := prD_of q
  obtain ⟨F2, e2, R2, dal⟩ := R1.hfzA v1 ef
  cases dal with
  | cons dv1 t1 =>
    cases t1 with
    | cons dv2 t2 =>
      cases t2
      obtain ⟨ds, b1, a1, vs1, rfl, hs1, da1, q⟩ := da_seq dv1 q
      obtain ⟨es, b2, a2, vs2, rfl, hs2, da2, q⟩ := da_seq dv2 q
      refine ⟨b1, b2, a1, a2, vs1, vs2, rfl, sqF_B R2.fin.sub hs1, sqF_B R2.fin.sub hs2, hP _ _ F2 ad1 ρ2 g1 _ (e1.trans e2) eg1 R2 ?_ q⟩
      intro f3 F3 ad3 ρ3 g3 σ3 H3 e3 R3
      have hs3 : SqB K H3 b1 a1 vs1 := sqF_B (e3.trans R3.fin.sub) hs1
      have hs4 : SqB K H3 b2 a2 vs2 := sqF_B (e3.trans R3.fin.sub) hs2
      have l1 := da1.length
      have l2 := da2.length
      rw [zipD_len]
      refine ⟨⟨vs1, vs2, hs3, hs4, by rw [l1, l2]⟩, fun i hi => ?_⟩
      have hi1 : i < vs1.length := by omega
      have hi2 : i < vs2.length := by omega
      refine ⟨⟨vs1, vs2, vs1[i], vs2[i], hs3, hs4, by simp [hi1], by simp [hi2]⟩, fun x H' y => ?_⟩
      obtain ⟨T, x1, x2, rfl, hT, rfl, hx1, hx2⟩ := y
      obtain ⟨d1, hd1, dw1⟩ := da1.getV (hx1 vs1 hs3)
      obtain ⟨d2, hd2, dw2⟩ := da2.getV (hx2 vs2 hs4)
      obtain ⟨F4, e4, R4, dt⟩ := wk_pair R3 hT (da_mono e3 dw1) (da_mono e3 dw2)
      exact ⟨F4, _, zipD_get hd1 hd2, e4, R4, dt⟩⟩
theorem Fin.back {f : Fx} {F F1 : Hp} {g g1 : G} {H H1 : Hp} (a : Fin Z f F g H) (b : Fin Z ⟨f.B, F, f.fp0⟩ F1 g1 H1) : Fin Z f F1 g1 H1 where
  base := a.base.trans b.base
  sub := b.sub
  keep := b.keep
  keepN := b.keepN
  new := fun c o h => by
    rcases b.new c o h with z | z
    · exact a.new c o z
    · exact .inr z
  res := b.res
  fpF := b.fpF
  fpB := b.fpB
  fpo := b.fpo
theorem Rel0.back {f : Fx} {F F1 : Hp} {ad : Nat → Addr} {ρ : En} {g g1 : G} {σ : St} {H H1 : Hp} (a : Fin Z f F g H) (R : Rel0 Z ⟨f.B, F, f.fp0⟩ F1 ad ρ g1 σ H1) : Rel0 Z f F1 ad ρ g1 σ H1 :=
  ⟨a.back R.fin, R.len, fun i s h => by
    have q := R.slot i s h
    cases s <;> exact q, R.inj⟩
theorem Rel.back {f : Fx} {F F1 : Hp} {ad ad0 : Nat → Addr} {ρ ρ0 : En} {g g1 : G} {σ σ0 : St} {H H1 : Hp} (a : Rel Z f F ad0 ρ0 g σ0 H) (er : Z.ra g1 = Z.ra g) (R : Rel Z ⟨f.B, F, f.fp0⟩ F1 ad ρ g1 σ H1) : Rel Z f F1 ad ρ g1 σ H1 :=
  ⟨Rel0.back a.fin R.toRel0, er ▸ a.lx⟩
theorem Rel.fwd {f : Fx} {F : Hp} {ad : Nat → Addr} {ρ : En} {g : G} {σ : St} {H : Hp} (R : Rel Z f F ad ρ g σ H) : Rel Z ⟨f.B, F, f.fp0⟩ F ad ρ g σ H :=
  ⟨⟨⟨Evl.Ex.refl F, R.fin.sub, R.fin.keep, R.fin.keepN, fun b o h => .inl h, R.fin.res, R.fin.fpF, R.fin.fpB, R.fin.fpo⟩, R.len, fun i s h => by
    have q := R.slot i s h
    cases s <;> exact q, R.inj⟩, fun F' ad' ρ' g' σ' H' c dx fs er R' => R.lx F' ad' ρ' g' σ' H' c dx fs er (Rel0.back R.fin R')⟩
theorem VFin.back {f : Fx} {F F1 : Hp} {g : G} {H : Hp} {v : V} {r : Rs} (h : VFin Z ⟨f.B, F, f.fp0⟩ F1 g H v r) : VFin Z f F1 g H v r := by cases r <;> exact h
structure ForP (items : List PyData) (tg : DG G) (b : DS G) (D : D3 G) (ρ1 : En) (g1 : G) : Prop where
  ex : ∃ I : Nat → En → G → Prop, I 0 ρ1 g1 ∧ (∀ k d ρ' g', items[k]? = some d → I k ρ' g' → tg d ρ' g' fun ρ2 g2 => b { D with nx := I (k + 1), ct := I (k + 1), bk := D.nx } ρ2 g2) ∧ (∀ ρ' g', I items.length ρ' g' → D.nx ρ' g')
def dFor (i : DI G) (tg : DG G) (b : DS G) : DS G := fun D ρ g => i ρ g fun items ρ1 g1 => ForP items tg b D ρ1 g1
theorem s_for {iter tgE : Expr} {body : List Stmt} {wi : TI} {gt : TG} {tb : TS} {di : DI G} {dg : DG G} {db : DS G} {pos : Pos} (hi : DIt X Z tgE iter wi di) (hg : DGt X Z tgE gt dg) (hb : DSs X Z body tb db) (hc : X.calm = true := by rfl) (hp : PassesOwn (model X.prog X.w) X.A X.env X.xe := by exact PassesOwn.never) (hs : ∀ x, foldedSetIterable iter X.env x = pure x := by intro _; rfl) :
    DSt X Z (.For tgE iter body [] pos) (tFor wi gt tb) (dFor di dg db) := ⟨ps_for hp hc hi.pi hg.pg hb.ps hs, fun f F ad ρ g σ H D R h D2 le => by
  refine hi.sim f F ad ρ g σ H _ R h _ fun J H1 F1 ad1 ρ1 g1 items e1 eg1 R1 wk q => ?_
  obtain ⟨⟨I, h0, hs, hd⟩⟩ := q
  refine ⟨fun i m σ' H' => m = items.length - i ∧ i ≤ items.length ∧ ∃ F2 ad2 ρ2 g2, Z.ra g2 = Z.ra g ∧ Rel Z ⟨f.B, F1, f.fp0⟩ F2 ad2 ρ2 g2 σ' H' ∧ I i ρ2 g2, ⟨items.length, rfl, Nat.zero_le _, F1, ad1, ρ1, g1, eg1, R1.fwd, h0⟩, fun i m σ2 H2 hW => ?_⟩
  obtain ⟨rfl, hle, F2, ad2, ρ2, g2, eg2, R2, hI⟩ := hW
  obtain ⟨stop, go⟩ := wk _ F2 ad2 ρ2 g2 σ2 H2 R2.fin.base R2
  by_cases hlt : i < items.length
  · obtain ⟨hgo, hy⟩ := go i hlt
    refine .inr ⟨hgo, fun σ' H' => ∃ F2 ad2 ρ2 g2, Z.ra g2 = Z.ra g ∧ Rel Z ⟨f.B, F1, f.fp0⟩ F2 ad2 ρ2 g2 σ' H' ∧ I (i + 1) ρ2 g2, fun σ' H' z => ⟨items.length - (i + 1), by omega, rfl, hlt, z⟩, fun x H' y => ?_⟩
    obtain ⟨F3, d, hd3, e3, R3, dv⟩ := hy x H' y
    refine hg.sim _ F3 ad2 ρ2 g2 σ2 H' x d _ R3 dv (hs i d ρ2 g2 hd3 hI) _ fun F4 ad4 ρ4 g4 σ4 H4 e4 er4 R4 q4 => ?_
    have er : Z.ra g4 = Z.ra g := er4.trans eg2
    exact hb.sim _ F4 ad4 ρ4 g4 σ4 H4 _ R4 q4 _ ⟨fun F5 ad5 ρ5 g5 σ5 H5 er5 R5 q5 => ⟨F5, ad5, ρ5, g5, er5.trans er, R5, q5⟩, fun F5 g5 H5 v r er5 R5 hv q5 => le.rt F5 g5 H5 v r (er5.trans er) (R1.fin.back R5) hv.back q5,
      fun F5 ad5 ρ5 g5 σ5 H5 er5 R5 q5 => le.nx F5 ad5 ρ5 g5 σ5 H5 (er5.trans er) (Rel.back R1 ((er5.trans er).trans eg1.symm) R5) q5, fun F5 ad5 ρ5 g5 σ5 H5 er5 R5 q5 => ⟨F5, ad5, ρ5, g5, er5.trans er, R5, q5⟩⟩
  · have e : i = items.length := by omega
    subst e
    exact .inl ⟨stop, le.nx F2 ad2 ρ2 g2 σ2 H2 eg2 (Rel.back R1 (eg2.trans eg1.symm) R2) (hd ρ2 g2 hI)⟩⟩
def wipeE (ρ : En) : List Nat → En
  | [] => ρ
  | v :: vs => (wipeE ρ vs).set v .un
theorem wipeE_len (ρ : En) : ∀ vs : List Nat, (wipeE ρ vs).length = ρ.length
  | [] => rfl
  | v :: vs => by unfold wipeE; rw [List.length_set, wipeE_len ρ vs]
theorem wipeE_out {ρ : En} {i : Nat} : ∀ {vs : List Nat}, i ∉ vs → (wipeE ρ vs)[i]? = ρ[i]?
  | [], _ => rfl
  | v :: vs, h => by
    unfold wipeE
    rw [List.getElem?_set_ne (fun e => h (by rw [e]; exact List.mem_cons_self)), wipeE_out fun z => h (List.mem_cons_of_mem _ z)]
theorem wipeE_in {ρ : En} {i : Nat} : ∀ {vs : List Nat}, i ∈ vs → i < ρ.length → (wipeE ρ vs)[i]? = some .un
  | v :: vs, h, hl => by
    unfold wipeE
    by_cases e : v = i
    · subst e; rw [List.getElem?_set_self (by rw [wipeE_len]; exact hl)]
    · rw [List.getElem?_set_ne e]
      rcases List.mem_cons.mp h with z | z
      · exact absurd z.symm e
      · exact wipeE_in z hl
theorem Rel.slots {f : Fx} {F : Hp} {ad : Nat → Addr} {ρ ρ' : En} {g : G} {σ σ' : St} {H : Hp} (R : Rel Z f F ad ρ g σ H) (hl : ρ'.length = σ'.length) (h : ∀ (i : Nat) (s : Sl), ρ'[i]? = some s → s = .un ∨ (ρ[i]? = some s ∧ σ'[i]? = σ[i]?)) : Rel Z f F ad ρ' g σ' H :=
  ⟨⟨R.fin, hl, fun i s hi => by
    rcases h i s hi with rfl | ⟨h1, h2⟩
    · trivial
    · have q := R.slot i s h1
      cases s with
      | un => trivial
      | dt d => obtain ⟨v, q1, q2⟩ := q; exact ⟨v, by rw [h2]; exact q1, q2⟩
      | ls d => obtain ⟨q1, q2⟩ := q; exact ⟨by rw [h2]; exact q1, q2⟩
      | dk d => obtain ⟨q1, q2⟩ := q; exact ⟨by rw [h2]; exact q1, q2⟩
      | rs n => exact h2.trans q
      | vv v => exact h2.trans q,
  fun i j s t hi hj hs ht e => by
    rcases h i s hi with rfl | ⟨h1, _⟩
    · cases hs
    · rcases h j t hj with rfl | ⟨h2, _⟩
      · cases ht
      · exact R.inj i j s t h1 h2 hs ht e⟩, R.lx⟩
theorem Rel.wipe {f : Fx} {F : Hp} {ad : Nat → Addr} {ρ : En} {g : G} {σ : St} {H : Hp} (R : Rel Z f F ad ρ g σ H) (vs : List Nat) : Rel Z f F ad (wipeE ρ vs) g (wipe σ vs) H :=
  R.slots (by rw [wipeE_len, wipe_length]; exact R.len) fun i s hi => by
    by_cases hm : i ∈ vs
    · have hl : i < ρ.length := by
        have := (List.getElem?_eq_some_iff.mp hi).1
        rwa [wipeE_len] at this
      rw [wipeE_in hm hl] at hi
      cases hi
      exact .inl rfl
    · rw [wipeE_out hm] at hi
      exact .inr ⟨hi, wipe_out hm⟩
theorem Rel0.unhide {f : Fx} {F F1 : Hp} {ad1 : Nat → Addr} {ρ1 : En} {g g1 : G} {σ1 : St} {H H1 : Hp} (a : Fin Z f F g H) {D : Addr} {o : HO} (n : OwnA Z f F g D) (h0 : D ∉ f.fp0) (R : Rel0 Z ⟨upd f.B D o, F, f.fp0⟩ F1 ad1 ρ1 g1 σ1 H1) :
    Rel0 Z f F1 ad1 ρ1 g1 σ1 H1 ∧ NewA Z f F1 ad1 ρ1 g1 D ∧ H1 D = some o := by
  have hF : F1 D = none := by
    cases e : F1 D with
    | none => rfl
    | some u =>
      rcases R.fin.new D u e with z | z
      · have z : F D = some u := z
        rw [n.1] at z; cases z
      · have z : upd f.B D o D = none := z
        rw [upd_same] at z; cases z
  have hfp : D ∉ Z.fp g1 := fun hm => by
    rcases R.fin.fpB D hm with z | z
    · exact h0 z
    · have z : upd f.B D o D = none := z
      rw [upd_same] at z; cases z
  have back : ∀ {b}, (upd f.B D o) b = none → f.B b = none ∧ b ≠ D := fun {b} z => by
    by_cases e : b = D
    · subst e; rw [upd_same] at z; cases z
    · rw [upd_ne e] at z; exact ⟨z, e⟩
  have nB : ∀ {b u}, f.B b = some u → b ≠ D := fun {b u} z e => by rw [e, n.2.1] at z; cases z
  refine ⟨⟨⟨a.base.trans R.fin.base, R.fin.sub, fun b u hb hf => R.fin.keep b u (by show upd f.B D o b = some u; rw [upd_ne (nB hb)]; exact hb) hf, fun b hb => R.fin.keepN b ?_, fun b u h => ?_, R.fin.res, R.fin.fpF, fun c hc => ?_, a.fpo⟩, R.len, fun i s hi => ?_, R.inj⟩, ⟨⟨hF, n.2.1, hfp⟩, fun i s hi hs => ?_⟩, R.fin.keep D o upd_same h0⟩
  · cases e : f.B b with
    | none => exact absurd e hb
    | some u => show upd f.B D o b ≠ none; rw [upd_ne (nB e), e]; intro z; cases z
  · rcases R.fin.new b u h with z | z
    · exact a.new b u z
    · exact .inr (back z).1
  · rcases R.fin.fpB c hc with z | z
    · exact .inl z
    · exact .inr (back z).1
  · have q := R.slot i s hi
    cases s with
    | ls ds => obtain ⟨q1, ⟨z1, z2, z3⟩, q3⟩ := q; exact ⟨q1, ⟨z1, (back z2).1, z3⟩, q3⟩
    | dk ds => obtain ⟨q1, ⟨z1, z2, z3⟩, q3⟩ := q; exact ⟨q1, ⟨z1, (back z2).1, z3⟩, q3⟩
    | _ => exact q
  · have q := R.slot i s hi
    cases s with
    | ls ds => obtain ⟨q1, ⟨z1, z2, z3⟩, q3⟩ := q; exact (back z2).2
    | dk ds => obtain ⟨q1, ⟨z1, z2, z3⟩, q3⟩ := q; exact (back z2).2
    | _ => cases hs
/-- the list that is being made lies apart: it is taken to the caller's -/
theorem Rel.hide {f : Fx} {F : Hp} {ad : Nat → Addr} {ρ : En} {g : G} {σ : St} {H : Hp} (R : Rel Z f F ad ρ g σ H) {D : Addr} {o : HO} (n : NewA Z f F ad ρ g D) (h0 : D ∉ f.fp0) (hD : H D = some o) : Rel Z ⟨upd f.B D o, F, f.fp0⟩ F ad ρ g σ H := by
  refine ⟨⟨⟨Evl.Ex.refl F, R.fin.sub, fun b u hb hf => ?_, fun b hb => ?_, fun b u h => .inl h, R.fin.res, R.fin.fpF, fun a ha => ?_, fun a ha => ?_⟩, R.len, fun i s hi => ?_, R.inj⟩, fun F' ad' ρ' g' σ' H' c dx fs er R' => R.lx F' ad' ρ' g' σ' H' c dx fs er (Rel0.unhide R.fin n.1 h0 R').1⟩
  · have hb : upd f.B D o b = some u := hb
    by_cases e : b = D
    · subst e; rw [upd_same] at hb; cases hb; exact hD
    · rw [upd_ne e] at hb; exact R.fin.keep b u hb hf
  · have hb : upd f.B D o b ≠ none := hb
    by_cases e : b = D
    · subst e; rw [hD]; intro z; cases z
    · rw [upd_ne e] at hb; exact R.fin.keepN b hb
  · rcases R.fin.fpB a ha with z | z
    · exact .inl z
    · right
      show upd f.B D o a = none
      rw [upd_ne fun e => n.1.2.2 (by rw [← e]; exact ha)]
      exact z
  · show upd f.B D o a ≠ none
    by_cases e : a = D
    · subst e; exact absurd ha h0
    · rw [upd_ne e]; exact R.fin.fpo a ha
  · have q := R.slot i s hi
    cases s with
    | ls ds => obtain ⟨q1, ⟨z1, z2, z3⟩, q3⟩ := q; exact ⟨q1, ⟨z1, by show upd f.B D o (ad i) = none; rw [upd_ne (n.2 i _ hi rfl)]; exact z2, z3⟩, q3⟩
    | dk ds => obtain ⟨q1, ⟨z1, z2, z3⟩, q3⟩ := q; exact ⟨q1, ⟨z1, by show upd f.B D o (ad i) = none; rw [upd_ne (n.2 i _ hi rfl)]; exact z2, z3⟩, q3⟩
    | _ => exact q
theorem Rel.unhide {f : Fx} {F F1 : Hp} {ad ad1 : Nat → Addr} {ρ ρ1 : En} {g g1 : G} {σ σ1 : St} {H H1 : Hp} (a : Rel Z f F ad ρ g σ H) (er : Z.ra g1 = Z.ra g) {D : Addr} {o : HO} (n : OwnA Z f F g D) (h0 : D ∉ f.fp0) (R : Rel Z ⟨upd f.B D o, F, f.fp0⟩ F1 ad1 ρ1 g1 σ1 H1) :
    Rel Z f F1 ad1 ρ1 g1 σ1 H1 ∧ NewA Z f F1 ad1 ρ1 g1 D ∧ H1 D = some o := by
  obtain ⟨h1, h2⟩ := Rel0.unhide a.fin n h0 R.toRel0
  exact ⟨⟨h1, er ▸ a.lx⟩, h2⟩
structure DTs (X : Cx) (Z : Zx K G) (ifs : List Expr) (tt : TT) (t : DB G) : Prop where
  pts : PTs X ifs tt
  sim : SimT Z tt t
def dYes : DB G := fun ρ g Q => Q true ρ g
theorem ts_nil : DTs X Z [] tYes (dYes (G := G)) := ⟨pts_nil, fun f F ad ρ g σ H Q R h P hP => hP true H ⟨F, ad, ρ, g, Evl.Ex.refl F, rfl, R, h⟩⟩
theorem ts_one {c : Expr} {tt : TT} {t : DB G} (h : DTe X Z c tt t) : DTs X Z [c] tt t := ⟨pts_one h.pt, h.sim⟩
theorem wipe_wipe (σ : St) (vs : List Nat) : wipe (wipe σ vs) vs = wipe σ vs := by
  apply List.ext_getElem?
  intro i
  by_cases hm : i ∈ vs
  · have key : ∀ (vs : List Nat) (τ : St), i ∈ vs → (wipe τ vs)[i]? = if i < τ.length then some none else none := by
      intro vs
      induction vs with
      | nil => intro τ h; cases h
      | cons v r ih =>
        intro τ h
        unfold wipe
        by_cases e : v = i
        · subst e
          by_cases hl : v < τ.length
          · rw [List.getElem?_set_self (by rw [wipe_length]; exact hl), if_pos hl]
          · rw [List.getElem?_eq_none (by rw [List.length_set, wipe_length]; omega), if_neg hl]
        · rw [List.getElem?_set_ne e]
          rcases List.mem_cons.mp h with z | z
          · exact absurd z.symm e
          · exact ih τ z
    rw [key vs _ hm, key vs _ hm, wipe_length]
  · rw [wipe_out hm]
/-- the target of a comprehension's sets its own slots alone -/
def GOwn (gt : TG) (vs : List Nat) : Prop := ∀ v σ H (P P' : St → Hp → Prop), (∀ σ' H', wipe σ' vs = wipe σ vs → P σ' H' → P' σ' H') → gt v σ H P → gt v σ H P'
def unAll (ρ : En) : List Nat → Prop
  | [] => True
  | i :: r => ρ[i]? = some .un ∧ unAll ρ r
theorem unAll_of {ρ : En} : ∀ {vs : List Nat}, unAll ρ vs → ∀ i ∈ vs, ρ[i]? = some .un
  | _ :: _, h, i, hm => by
    rcases List.mem_cons.mp hm with rfl | hm
    · exact h.1
    · exact unAll_of h.2 i hm
structure LcP (items : List PyData) (tg : DG G) (c : DB G) (e : DT G) (vs : List Nat) (ρ1 : En) (g1 : G) (Q : Rs → En → G → Prop) : Prop where
  ex : ∃ I : Nat → List PyData → En → G → Prop, I 0 [] (wipeE ρ1 vs) g1 ∧
    (∀ k d acc ρ' g', items[k]? = some d → I k acc ρ' g' → tg d ρ' g' fun ρ2 g2 => c ρ2 g2 fun b ρ3 g3 => ifb b (e ρ3 g3 fun r ρ4 g4 => fz1 r ρ4 fun d' ρ5 => I (k + 1) (acc ++ [d']) (wipeE ρ5 vs) g4) (I (k + 1) acc (wipeE ρ3 vs) g3)) ∧
    (∀ acc ρ' g', I items.length acc ρ' g' → unAll ρ' vs ∧ Q (.nl acc) ρ' g')
def dLc (i : DI G) (tg : DG G) (c : DB G) (e : DT G) (vs : List Nat) : DT G := fun ρ g Q => i ρ g fun items ρ1 g1 => leK items.length 16777216 (LcP items tg c e vs ρ1 g1 Q)
theorem sim_lc {wi : TI} {gt : TG} {tt : TT} {te : TE} {i : DI G} {tg : DG G} {c : DB G} {e : DT G} {vs : List Nat} (hi : SimI Z wi i) (hg : SimG Z gt tg) (ho : GOwn gt vs) (hc : SimT Z tt c) (he : Sim Z te e) : Sim Z (tLc wi gt tt te vs) (dLc i tg c e vs) := fun f F ad ρ g σ H Q R h P hP => by
  refine hi f F ad ρ g σ H _ R h _ fun J H1 F1 ad1 ρ1 g1 items e1 eg1 R1 wk q D hD => ?_
  obtain ⟨hlen, ⟨I, h0, hs, hd⟩⟩ := leK_e q
  have hD0 : D ∉ f.fp0 := fun hm => R1.fin.keepN D (R1.fin.fpo D hm) hD
  obtain ⟨R1', n1⟩ := R1.laid (o := .lst []) hD
  have nw : ∀ {F2 : Hp} {ad2 : Nat → Addr} {ρ2 : En} {g2 : G}, NewA Z f F2 ad2 ρ2 g2 D → NewA Z f F2 ad2 (wipeE ρ2 vs) g2 D := fun {F2 ad2 ρ2 g2} n => ⟨n.1, fun j s hj hs => by
    by_cases hm : j ∈ vs
    · have hl : j < ρ2.length := by
        have := (List.getElem?_eq_some_iff.mp hj).1
        rwa [wipeE_len] at this
      rw [wipeE_in hm hl] at hj; cases hj; cases hs
    · rw [wipeE_out hm] at hj; exact n.2 j s hj hs⟩
  refine ⟨fun k m H' => m = items.length - k ∧ k ≤ items.length ∧ ∃ F2 ad2 ρ2 g2 av acc, Ex F1 F2 ∧ Z.ra g2 = Z.ra g ∧ Rel Z f F2 ad2 ρ2 g2 (wipe σ vs) H' ∧ NewA Z f F2 ad2 ρ2 g2 D ∧ H' D = some (.lst av) ∧ DaAll K F2 av acc ∧ acc.length ≤ k ∧ I k acc ρ2 g2,
    ⟨items.length, rfl, Nat.zero_le _, F1, ad1, wipeE ρ1 vs, g1, [], [], Evl.Ex.refl F1, eg1, R1'.wipe vs, nw n1, upd_same, .nil, Nat.le_refl _, h0⟩, fun k m H2 hW => ?_⟩
  obtain ⟨rfl, hle, F2, ad2, ρ2, g2, av, acc, e2, eg2, R2, n2, hD2, da2, hal, hI⟩ := hW
  obtain ⟨stop, go⟩ := wk _ F2 ad2 ρ2 g2 (wipe σ vs) H2 e2 R2
  by_cases hlt : k < items.length
  · obtain ⟨hgo, -⟩ := go k hlt
    have Rh := R2.hide n2 hD0 hD2
    obtain ⟨-, hy⟩ := (wk _ F2 ad2 ρ2 g2 (wipe σ vs) H2 e2 Rh).2 k hlt
    refine .inr ⟨hgo, fun H' => ∃ F2 ad2 ρ2 g2 av acc, Ex F1 F2 ∧ Z.ra g2 = Z.ra g ∧ Rel Z f F2 ad2 ρ2 g2 (wipe σ vs) H' ∧ NewA Z f F2 ad2 ρ2 g2 D ∧ H' D = some (.lst av) ∧ DaAll K F2 av acc ∧ acc.length ≤ k + 1 ∧ I (k + 1) acc ρ2 g2,
      fun H' z => ⟨items.length - (k + 1), by omega, rfl, hlt, z⟩, fun x H3 y => ?_⟩
    obtain ⟨F3, d, hd3, e3, R3, dv⟩ := hy x H3 y
    refine ho x (wipe σ vs) H3 (fun σ4 H4 => wipe σ4 vs = wipe σ vs → _) _ (fun σ4 H4 hw hp => ⟨hw.trans (wipe_wipe σ vs), hp (hw.trans (wipe_wipe σ vs))⟩) (hg _ F3 ad2 ρ2 g2 (wipe σ vs) H3 x d _ R3 dv (hs k d acc ρ2 g2 hd3 hI) _ fun F4 ad4 ρ4 g4 σ4 H4 e4 er4 R4 q4 hw => ?_)
    refine hc _ F4 ad4 ρ4 g4 σ4 H4 _ R4 q4 _ fun b H5 q5 => ?_
    obtain ⟨F5, ad5, ρ5, g5, e5, er5, R5, q5⟩ := q5
    have eA : Ex F1 F5 := (e2.trans e3).trans (e4.trans e5)
    cases b with
    | false =>
      rw [if_neg Bool.false_ne_true]
      replace q5 := ifb_f q5
      obtain ⟨R6, n6, hD6⟩ := Rel.unhide R2 (er5.trans er4) n2.1 hD0 R5
      have R7 := R6.wipe vs
      rw [hw] at R7
      exact ⟨F5, ad5, _, g5, av, acc, eA, er5.trans (er4.trans eg2), R7, nw n6, hD6, daAll_mono ((e3.trans e4).trans e5) da2, by omega, q5⟩
    | true =>
      rw [if_pos rfl]
      replace q5 := ifb_t q5
      refine he _ F5 ad5 ρ5 g5 σ4 H5 _ R5 q5 _ fun v H6 q6 => ?_
      obtain ⟨F6, ad6, ρ6, g6, r6, e6, er6, R6, v6, q6⟩ := q6
      obtain ⟨d', ρ7, ef, q6⟩ := fz1_of q6
      obtain ⟨F7, e7, R7, dv7⟩ := R6.hfz v6 ef
      obtain ⟨R8, n8, hD8⟩ := Rel.unhide R2 (er6.trans (er5.trans er4)) n2.1 hD0 R7
      have eB : Ex F2 F7 := ((e3.trans e4).trans e5).trans (e6.trans e7)
      refine ⟨av, hD8, by rw [sizeLine_eq, da2.length]; omega, ?_⟩
      have hw9 : OwnA Z f F7 g6 D := n8.1
      have R9 : Rel Z f F7 ad6 ρ7 g6 σ4 (upd H6 D (.lst (av ++ [v]))) := by
        refine ⟨⟨R8.fin.upd hw9, R8.len, fun j s hj => ?_, R8.inj⟩, R8.lx⟩
        have q := R8.slot j s hj
        cases s with
        | ls ds => obtain ⟨q1, q2, vs', q3, q4⟩ := q; exact ⟨q1, q2, vs', by rw [upd_ne (n8.2 j _ hj rfl)]; exact q3, q4⟩
        | dk ds => obtain ⟨q1, q2, vs', q3, q4⟩ := q; exact ⟨q1, q2, vs', by rw [upd_ne (n8.2 j _ hj rfl)]; exact q3, q4⟩
        | _ => exact q
      have R10 := R9.wipe vs
      rw [hw] at R10
      exact ⟨F7, ad6, _, g6, av ++ [v], acc ++ [d'], (e2.trans eB), er6.trans (er5.trans (er4.trans eg2)), R10, nw n8, upd_same, (daAll_mono eB da2).append (.cons dv7 .nil), by rw [List.length_append]; show acc.length + 1 ≤ k + 1; omega, q6⟩
  · have e : k = items.length := by omega
    subst e
    obtain ⟨hun, q⟩ := hd acc ρ2 g2 hI
    replace hun := unAll_of hun
    refine .inl ⟨stop, hP _ H2 ⟨F2, ad2, ρ2, g2, .nl acc, e1.trans e2, eg2, R2.slots (by rw [R2.len, wipe_length]) fun j s hj => ?_, ⟨D, av, rfl, n2, hD2, da2⟩, q⟩⟩
    by_cases hm : j ∈ vs
    · rw [hun j hm] at hj; cases hj; exact .inl rfl
    · exact .inr ⟨hj, (wipe_out hm).symm⟩
end L3
end
section
namespace L3
open PySem L2
variable {G : Type} {K : PySem.W.Frag} {X : Cx} {Z : Zx K G}
theorem wipe_set {σ : St} {j : Nat} {x : Option V} {vs : List Nat} (h : j ∈ vs) : wipe (σ.set j x) vs = wipe σ vs := by
  have key : ∀ (vs : List Nat) (τ : St) (i : Nat), i ∈ vs → (wipe τ vs)[i]? = if i < τ.length then some none else none := by
    intro vs
    induction vs with
    | nil => intro τ i h; cases h
    | cons v r ih =>
      intro τ i h
      unfold wipe
      by_cases e : v = i
      · subst e
        by_cases hl : v < τ.length
        · rw [List.getElem?_set_self (by rw [wipe_length]; exact hl), if_pos hl]
        · rw [List.getElem?_eq_none (by rw [List.length_set, wipe_length]; omega), if_neg hl]
      · rw [List.getElem?_set_ne e]
        rcases List.mem_cons.mp h with z | z
        · exact absurd z.symm e
        · exact ih τ i z
  apply List.ext_getElem?
  intro i
  by_cases hm : i ∈ vs
  · rw [key vs _ i hm, key vs _ i hm, List.length_set]
  · rw [wipe_out hm, wipe_out hm, List.getElem?_set_ne fun e => hm (by rw [← e]; exact h)]
theorem own_name {j : Nat} {vs : List Nat} (h : j ∈ vs) : GOwn (gName j) vs := fun v σ H P P' k q => k _ _ (wipe_set h) q
def GsOwn (gt : TGs) (vs : List Nat) : Prop := ∀ ws σ H (P P' : St → Hp → Prop), (∀ σ' H', wipe σ' vs = wipe σ vs → P σ' H' → P' σ' H') → gt ws σ H P → gt ws σ H P'
theorem owns_nil {vs : List Nat} : GsOwn gNil vs := fun ws σ H P P' k q => ⟨q.1, k σ H rfl q.2⟩
theorem owns_cons {t : TG} {u : TGs} {vs : List Nat} (h : GOwn t vs) (h2 : GsOwn u vs) : GsOwn (gCons t u) vs := fun ws σ H P P' k q => by
  obtain ⟨v, r, e, q⟩ := q
  exact ⟨v, r, e, h v σ H _ _ (fun σ1 H1 w1 q1 => h2 r σ1 H1 _ _ (fun σ2 H2 w2 q2 => k σ2 H2 (w2.trans w1) q2) q1) q⟩
theorem own_seq {K : PySem.W.Frag} {n : Nat} {t : TGs} {vs : List Nat} (h : GsOwn t vs) : GOwn (gSeq K n t) vs := fun v σ H P P' k q => by
  obtain ⟨a, xs, e, hq, hl, q⟩ := q
  exact ⟨a, xs, e, hq, hl, h xs σ H _ _ k q⟩
/-- [elt for target in iter if ..] -/
theorem e_lc {elt tg iter : Expr} {ifs : List Expr} {scope : Scope} (own : List (Str × Nat)) {pos : Pos} {wi : TI} {gt : TG} {tt : TT} {te : TE} {i : DI G} {dg : DG G} {c : DB G} {e : DT G} (hN : X.N.Nodup) (hi : DIt X Z tg iter wi i)
    (hg : ∀ (s : Shared) (H : Hp) (C : Addr) (cl : List (Str × Addr)) (fp : List Addr), DGt (X.blk s H scope (compEnvC scope cl C X.env) fp) Z tg gt dg) (ho : GOwn gt (own.map (·.2)))
    (ht : ∀ (s : Shared) (H : Hp) (C : Addr) (cl : List (Str × Addr)) (fp : List Addr), DTs (X.blk s H scope (compEnvC scope cl C X.env) fp) Z ifs tt c)
    (he : ∀ (s : Shared) (H : Hp) (C : Addr) (cl : List (Str × Addr)) (fp : List Addr), DE (X.blk s H scope (compEnvC scope cl C X.env) fp) Z elt te e)
    (ok : BlkOk X.N X.env.scope scope own := by exact blkOk_by (by kernel_rfl)) (hc : X.calm = true := by rfl) (hs : ∀ x, foldedSetIterable iter X.env x = pure x := by intro _; rfl) :
    DE X Z (.ListComp elt [⟨tg, iter, ifs, 0⟩] scope pos) (tLc wi gt tt te (own.map (·.2))) (dLc i dg c e (own.map (·.2))) :=
  have s0 : Shared := {}
  ⟨pe_lc hc hN hi.pi ok (fun s H C cl fp => (hg s H C cl fp).pg) (fun s H C cl fp => (ht s H C cl fp).pts) (fun s H C cl fp => (he s H C cl fp).pe) hs,
    sim_lc hi.sim (hg s0 (fun _ => none) 0 [] []).sim ho (ht s0 (fun _ => none) 0 [] []).sim (he s0 (fun _ => none) 0 [] []).sim⟩
/-- y = [..] on one line, y a plain local: the other form of the assignment -/
theorem s_setLc (j : Nat) {y : Str} {py : Pos} {elt tg iter : Expr} {ifs : List Expr} {scope : Scope} (own : List (Str × Nat)) {pos spos : Pos} {wi : TI} {gt : TG} {tt : TT} {te : TE} {i : DI G} {dg : DG G} {c : DB G} {e : DT G} (hN : X.N.Nodup) (hi : DIt X Z tg iter wi i)
    (hg : ∀ (s : Shared) (H : Hp) (C : Addr) (cl : List (Str × Addr)) (fp : List Addr), DGt (X.blk s H scope (compEnvC scope cl C X.env) fp) Z tg gt dg) (ho : GOwn gt (own.map (·.2)))
    (ht : ∀ (s : Shared) (H : Hp) (C : Addr) (cl : List (Str × Addr)) (fp : List Addr), DTs (X.blk s H scope (compEnvC scope cl C X.env) fp) Z ifs tt c)
    (he : ∀ (s : Shared) (H : Hp) (C : Addr) (cl : List (Str × Addr)) (fp : List Addr), DE (X.blk s H scope (compEnvC scope cl C X.env) fp) Z elt te e)
    (hy : X.N[j]? = some y := by rfl) (hyl : X.env.scope.names.lookup y = some .local := by rfl) (hsw : swapsWith (.ListComp elt [⟨tg, iter, ifs, 0⟩] scope pos) (some (.Name y py)) spos.line X.env = pure true := by exact sw_true rfl rfl rfl (by decide +kernel))
    (ok : BlkOk X.N X.env.scope scope own := by exact blkOk_by (by kernel_rfl)) (hc : X.calm = true := by rfl) (hs : ∀ x, foldedSetIterable iter X.env x = pure x := by intro _; rfl) :
    DSt X Z (.Assign [.Name y py] (.ListComp elt [⟨tg, iter, ifs, 0⟩] scope pos) spos) (tAsg (tLc wi gt tt te (own.map (·.2))) (gName j)) (dAsg (dLc i dg c e (own.map (·.2))) j) :=
  have s0 : Shared := {}
  ⟨ps_setLc hc hN hy hyl hsw hi.pi ok (fun s H C cl fp => (hg s H C cl fp).pg) (fun s H C cl fp => (ht s H C cl fp).pts) (fun s H C cl fp => (he s H C cl fp).pe) hs,
    sim_asg (sim_lc hi.sim (hg s0 (fun _ => none) 0 [] []).sim ho (ht s0 (fun _ => none) 0 [] []).sim (he s0 (fun _ => none) 0 [] []).sim)⟩
/-- x.m(e): x an own list in slot i -/
def dMl (i : Nat) (t : DA G) (k : Nat → List PyData → List Rs → En → G → (Rs → List PyData → En → G → Prop) → Prop) : DT G := fun ρ g Q => lsD (fun _ => t ρ g fun rs ρ1 g1 => lsD (fun ds => k i ds rs ρ1 g1 fun r ds' ρ2 g2 => Q r (ρ2.set i (.ls ds')) g2) (ownL ρ1 i)) (ownL ρ i)
where ownL (ρ : En) (i : Nat) : Option PyData := match ρ[i]? with
  | some (.ls ds) => some (.list ds)
  | _ => none
theorem ownL_of {ρ : En} {i : Nat} {ds : List PyData} (h : dMl.ownL ρ i = some (.list ds)) : ρ[i]? = some (.ls ds) := by
  unfold dMl.ownL at h
  split at h
  · rename_i es e
    cases h
    exact e
  · cases h
/-- a method of a list: on the list's values and the arguments -/
def SimL (Z : Zx K G) (r : V → List V → Hp → VK → Prop) (k : Nat → List PyData → List Rs → En → G → (Rs → List PyData → En → G → Prop) → Prop) : Prop :=
  ∀ f F ad ρ g σ H i vs ws ds rs Q, Rel Z f F ad ρ g σ H → ρ[i]? = some (.ls ds) → H (ad i) = some (.lst vs) → DaAll K F vs ds → VRs Z f F ad ρ g σ H ws rs → k i ds rs ρ g Q → ∀ P : VK,
    (∀ F' ρ' v vs' ds' r, Ex F F' → Rel Z f F' ad ρ' g σ H → ρ'[i]? = some (.ls ds) → DaAll K F' vs' ds' → Da K F' v (match r with | .dt d => d | _ => .none) → (∃ d, r = .dt d) → Q r ds' ρ' g → P v (upd H (ad i) (.lst vs'))) → r (.ref (ad i)) ws H P
theorem sim_ml {i : Nat} {ta : TA} {t : DA G} {r : V → List V → Hp → VK → Prop} {k : Nat → List PyData → List Rs → En → G → (Rs → List PyData → En → G → Prop) → Prop} (ha : SimA Z ta t) (hm : SimL Z r k) : Sim Z (tBM K "list" r (tVar i) ta) (dMl i t k) := fun f F ad ρ g σ H Q R h P hP => by
  obtain ⟨ds0, e0, h⟩ := lsD_of h
  have hi0 := ownL_of e0
  have q0 := R.slot i _ hi0
  obtain ⟨z1, z2, vs0, z3, z4⟩ := q0
  refine ⟨.ref (ad i), z1, .inl ⟨rfl, _, .inl (.inl z3)⟩, ha f F ad ρ g σ H _ R h _ fun ws H1 q => ?_⟩
  obtain ⟨F1, ad1, ρ1, g1, rs, e1, eg1, R1, v1, q⟩ := q
  obtain ⟨ds, e, q⟩ := lsD_of q
  have hi := ownL_of e
  obtain ⟨y1, y2, vs, y3, y4⟩ := R1.slot i _ hi
  have ea : ad1 i = ad i := by
    have z : some (some (V.ref (ad1 i))) = some (some (V.ref (ad i))) := y1.symm.trans z1
    injection z with z; injection z with z; injection z
  rw [← ea]
  refine hm f F1 ad1 ρ1 g1 σ H1 i vs ws ds rs _ R1 hi y3 y4 v1 q P fun F' ρ' v vs' ds' r ee R' hi' da dv hr q => ?_
  obtain ⟨d, rfl⟩ := hr
  refine hP v _ ⟨F', ad1, _, g1, .dt d, e1.trans ee, eg1, R'.wrote (s' := .ls ds') hi' rfl ?_, dv, q⟩
  have w := R'.slot i _ hi'
  exact ⟨w.1, w.2.1, vs', upd_same, da⟩
abbrev KL (G : Type) := Nat → List PyData → List Rs → En → G → (Rs → List PyData → En → G → Prop) → Prop
def slK (o : Option Sl) (k : List PyData → Prop) : Prop := match o with
  | some (.ls es) => k es
  | _ => False
theorem slK_e {o : Option Sl} {k : List PyData → Prop} (h : slK o k) : ∃ es, o = some (.ls es) ∧ k es := by
  unfold slK at h
  split at h
  · exact ⟨_, rfl, h⟩
  · exact h.elim
theorem fz_keep {r : Rs} {ρ ρ' : En} {d : PyData} {i : Nat} {ds es : List PyData} (e : fz r ρ = some (d, ρ')) (h : ρ[i]? = some (.ls ds)) (h2 : ρ'[i]? = some (.ls es)) : es = ds := by
  cases r with
  | dt x => cases e; rw [h] at h2; cases h2; rfl
  | nl x => cases e; rw [h] at h2; cases h2; rfl
  | br j =>
    have e1 : fzS ρ j ρ[j]? = some (d, ρ') := e
    cases hj : ρ[j]? with
    | none => rw [hj] at e1; cases e1
    | some s =>
      rw [hj] at e1
      cases s with
      | dt x => cases e1; rw [h] at h2; cases h2; rfl
      | ls x =>
        cases e1
        by_cases q : j = i
        · subst q
          have hl : j < ρ.length := (List.getElem?_eq_some_iff.mp hj).1
          rw [List.getElem?_set_self hl] at h2; cases h2
        · rw [List.getElem?_set_ne q, h] at h2; cases h2; rfl
      | dk x =>
        cases e1
        by_cases q : j = i
        · subst q
          rw [hj] at h; cases h
        · rw [List.getElem?_set_ne q, h] at h2; cases h2; rfl
      | _ => cases e1
  | nd x => cases e; rw [h] at h2; cases h2; rfl
  | _ => cases e
def nilK (rs : List Rs) (p : Prop) : Prop := match rs with
  | [] => p
  | _ => False
theorem nilK_e {rs : List Rs} {p : Prop} (h : nilK rs p) : rs = [] ∧ p := by
  cases rs with
  | nil => exact ⟨rfl, h⟩
  | cons _ _ => exact h.elim
def kApp : KL G := fun i ds rs ρ g Q => one (fun r => fz1 r ρ fun d ρ' => slK ρ'[i]? fun es => ltK es.length 16777216 (Q (.dt .none) (es ++ [d]) ρ' g)) rs
theorem m_app : SimL Z rAppend (kApp (G := G)) := fun f F ad ρ g σ H i vs ws ds rs Q R hi hH da hv q P hP => by
  obtain ⟨r, rfl, q2⟩ := one_of q
  obtain ⟨d, ρ', ef, q⟩ := fz1_of q2
  obtain ⟨es, hi', q⟩ := slK_e q
  cases fz_keep ef hi hi'
  obtain ⟨hl, q⟩ := ltK_e q
  obtain ⟨v, rfl, h0⟩ := vrs1 hv
  obtain ⟨F2, e2, R2, dv⟩ := R.hfz h0 ef
  exact ⟨_, vs, v, rfl, rfl, hH, by rw [sizeLine_eq, da.length]; exact hl, hP F2 ρ' .non _ _ (.dt .none) e2 R2 hi' ((daAll_mono e2 da).append (.cons dv .nil)) .non ⟨_, rfl⟩ q⟩
def kPop : KL G := fun i ds rs ρ g Q => nilK rs (opK ds[ds.length - 1]? fun d => Q (.dt d) ds.dropLast ρ g)
theorem m_pop : SimL Z rPop (kPop (G := G)) := fun f F ad ρ g σ H i vs ws ds rs Q R hi hH da hv q P hP => by
  obtain ⟨rfl, q⟩ := nilK_e q
  obtain ⟨d, hd, q⟩ := opK_e q
  cases hv
  obtain ⟨v, hv, dv⟩ := da.get hd
  exact ⟨_, vs, v, rfl, rfl, hH, by rw [da.length]; exact hv, hP F ρ v _ _ (.dt d) (Evl.Ex.refl F) R hi da.dropLast dv ⟨_, rfl⟩ q⟩
/-- x.m() -/
theorem sim_dnil : SimA Z tNil (dNil (G := G)) := fun f F ad ρ g σ H Q R h P hP => hP [] H ⟨F, ad, ρ, g, [], Evl.Ex.refl F, rfl, R, .nil, h⟩
end L3
end
section
namespace L3
open PySem L2
variable {G : Type} {K : PySem.W.Frag} {X : Cx} {Z : Zx K G}
section
variable {id : String} {r : V → List V → Hp → VK → Prop} {k : KL G} {i : Nat} {x name : Str} {px apos cpos : Pos} {e : Expr} {es : List Expr} {ta : TA} {a : DA G}
theorem e_ml (slot : Slot "list" name id) (hty : typeOf (.builtin id) = pure (.type "method_descriptor")) (hm : MtR X id r) (hs : SimL Z r k) (i : Nat) (ha : DAs X Z (e :: es) ta a) (hN : X.N[i]? = some x := by rfl)
    (hv : Vis X.env.scope x := by first | exact Or.inl rfl | exact Or.inr (Or.inl rfl) | exact Or.inr (Or.inr rfl)) (hd : (x == ("__debug__" : Str)) = false := by decide) (hcd : (x == ("__classdict__" : Str)) = false := by decide) (hK : K = X.K := by rfl)
    (hbase : attributeBase (.Name x px) name X.env (eval (.Name x px) X.env) = eval (.Name x px) X.env := by rfl)
    (hfew : ((backTo cpos (starEach (e :: es) X.env)).all (fun x => !x.1) && (backToKw cpos (keywordEach [] X.env)).all (fun x => x.1.isSome)
      && decide ((e :: es).length + ([] : List Keyword).length + (if ([] : List Keyword).isEmpty then 0 else 1) < 30)) = true := by rfl)
    (hline : (apos.endLine == cpos.line) = true := by rfl) (hst : starEach (e :: es) X.env = (false, eval e X.env) :: starEach es X.env := by rfl) (hplain : (backTo cpos (starEach es X.env)).any (·.1) = false := by rfl) :
    DE X Z (.Call (.Attribute (.Name x px) name apos) (e :: es) [] cpos) (tBM K "list" r (tVar i) ta) (dMl i a k) :=
  ⟨by rw [hK]; exact pe_bm PySem.F.plainAttrs_list slot hty hm (pe_var hN hv hd hcd) ha.pa hbase hfew hline hst hplain, sim_ml ha.sim hs⟩
theorem e_ml0 (slot : Slot "list" name id) (hty : typeOf (.builtin id) = pure (.type "method_descriptor")) (hm : MtR X id r) (hs : SimL Z r k) (i : Nat) (hN : X.N[i]? = some x := by rfl)
    (hv : Vis X.env.scope x := by first | exact Or.inl rfl | exact Or.inr (Or.inl rfl) | exact Or.inr (Or.inr rfl)) (hd : (x == ("__debug__" : Str)) = false := by decide) (hcd : (x == ("__classdict__" : Str)) = false := by decide) (hK : K = X.K := by rfl)
    (hbase : attributeBase (.Name x px) name X.env (eval (.Name x px) X.env) = eval (.Name x px) X.env := by rfl) (hline : (apos.endLine == cpos.line) = true := by rfl) :
    DE X Z (.Call (.Attribute (.Name x px) name apos) [] [] cpos) (tBM0 K "list" r (tVar i)) (dMl i dNil k) :=
  ⟨by rw [hK]; exact pe_bm0 PySem.F.plainAttrs_list slot hty hm (pe_var hN hv hd hcd) hbase hline, fun f F ad ρ g σ H Q R h P hP => sim_ml sim_dnil hs f F ad ρ g σ H Q R h P hP⟩
end
def dSetIx (i : Nat) (a b : DT G) : DS G := fun D ρ g => a ρ g fun r1 ρ1 g1 => ifh r1 (lsD (fun _ => b ρ1 g1 fun r2 ρ2 g2 => iiU (fun n => fz1 (st r1) ρ2 fun d ρ3 => lsD (fun ds => opK (ixN ds.length n) fun k => D.nx (ρ3.set i (.ls (ds.set k d))) g2) (dMl.ownL ρ3 i)) (rd r2 ρ2)) (dMl.ownL ρ1 i))
theorem sim_setIx {i : Nat} {ta tb : TE} {a b : DT G} (ha : Sim Z ta a) (hb : Sim Z tb b) : SimS Z (tAsg ta (gSub (tVar i) tb rSetL)) (dSetIx i a b) := fun f F ad ρ g σ H D R h D2 le => by
  refine ha f F ad ρ g σ H _ R h _ fun x H1 q => ?_
  obtain ⟨F1, ad1, ρ1, g1, r1, e1, eg1, R1, v1, q⟩ := q
  replace q := ifh_of q
  obtain ⟨F1', e1', R1', v1'⟩ := R1.hst v1
  obtain ⟨ds0, e0, q⟩ := lsD_of q
  have hi0 := ownL_of e0
  obtain ⟨z1, z2, vs0, z3, z4⟩ := R1'.slot i _ hi0
  refine ⟨.ref (ad1 i), z1, hb f F1' ad1 ρ1 g1 σ H1 _ R1' q _ fun y H2 q2 => ?_⟩
  obtain ⟨F2, ad2, ρ2, g2, r2, e2, eg2, R2, v2, q⟩ := q2
  obtain ⟨n, en, q⟩ := iiU_of q
  obtain ⟨d, ρ3, ef, q⟩ := fz1_of q
  obtain ⟨ds, el, q⟩ := lsD_of q
  obtain ⟨k, hk, q⟩ := opK_e q
  obtain ⟨F3, e3, R3, dv⟩ := R2.hfz (v1'.held e2 eg2) ef
  have hi := ownL_of el
  obtain ⟨y1, y2, vs, y3, y4⟩ := R3.slot i _ hi
  have ea : ad2 i = ad1 i := by
    have z : some (some (V.ref (ad2 i))) = some (some (V.ref (ad1 i))) := y1.symm.trans z1
    injection z with z; injection z with z; injection z
  rw [← ea]
  refine ⟨_, vs, n, k, rfl, R2.rInt v2 en, y3, by rw [y4.length]; exact hk, ?_⟩
  refine le.nx F3 ad2 _ g2 σ _ (eg2.trans eg1) (R3.wrote (s' := .ls (ds.set k d)) hi rfl ?_) q
  exact ⟨y1, y2, _, upd_same, y4.set dv k⟩
theorem s_setIx (i : Nat) {x : Str} {e j : Expr} {te tj : TE} {a b : DT G} {px ps pos : Pos} (he : DE X Z e te a) (hj : DE X Z j tj b) (hN : X.N[i]? = some x := by rfl)
    (hv : Vis X.env.scope x := by first | exact Or.inl rfl | exact Or.inr (Or.inl rfl) | exact Or.inr (Or.inr rfl)) (hd : (x == ("__debug__" : Str)) = false := by decide) (hcd : (x == ("__classdict__" : Str)) = false := by decide)
    (ha : ∀ v, assign (.Subscript (.Name x px) j ps) X.env v = (do
      let ov ← holding [v] (eval (.Name x px) X.env)
      let iv ← holding [v, ov] (eval j X.env)
      standAt ps
      holding [v, ov, iv] (setItem ov iv v)
      release [v, ov, iv] []) := by intro _; rfl)
    (hs : swapsWithSole [.Subscript (.Name x px) j ps] e pos.line X.env = pure false := by rfl) (hw : swappedStores [.Subscript (.Name x px) j ps] e X.env = pure none := by rfl)
    (h1 : (assignEach [.Subscript (.Name x px) j ps] X.env).map (·.2) = [assign (.Subscript (.Name x px) j ps) X.env] := by rfl) :
    DSt X Z (.Assign [.Subscript (.Name x px) j ps] e pos) (tAsg te (gSub (tVar i) tj rSetL)) (dSetIx i a b) :=
  ⟨ps_asg he.pe (pg_sub (pe_var hN hv hd hcd) hj.pe set_list ha) hs hw h1, sim_setIx he.sim hj.sim⟩
def dV (v : V) : DT G := fun ρ g Q => Q (.vv v) ρ g
end L3
end
section
namespace L3
open PySem L2
variable {G : Type} {K : PySem.W.Frag} {X : Cx} {Z : Zx K G}
/-- a def that stands in the module -/
def Dfn (K : PySem.W.Frag) (mg : Str → Option Value) (x : Str) (s : Stmt) (ps : List Str) : Prop := ∃ fa fd, Fun K x x s fa fd ∧ mg x = some (.ref fa) ∧ Binds K fd ps []
/-- a def that keeps its promise -/
def Ok (P : Program) (w : World) (K : PySem.W.Frag) (mg : Str → Option Value) (base : Heap) (k : Nat) (x : Str) (ps : List Str) (sp : Sp) : Prop :=
  ∃ fa fd, mg x = some (.ref fa) ∧ PySem.W.keepIn K (.ref fa) = true ∧ Binds K fd ps [] ∧ (∃ oc od osl, K.lookup fa = some ⟨oc, od, .func fd, osl⟩) ∧ FnG P w K mg base (L2.CX P w) k fa fd ps sp
section
variable {P : Program} {w : World} {K : PySem.W.Frag} {mg : Str → Option Value} {base : Heap}
theorem Ok.up {j : Nat} {x : Str} {ps : List Str} {sp : Sp} (h : Ok P w K mg base j x ps sp) {k : Nat} (hk : j ≤ k) : Ok P w K mg base k x ps sp := by
  obtain ⟨fa, fd, h1, h2, h3, h0, h4⟩ := h
  exact ⟨fa, fd, h1, h2, h3, h0, h4.mono hk⟩
theorem Fun.at_ {x qual : Str} {s : Stmt} {fa : Addr} {fd : FuncData} (F : Fun K x qual s fa fd) : ∃ oc od osl, K.lookup fa = some ⟨oc, od, .func fd, osl⟩ := by
  obtain ⟨oc, od, kV, doc, pm, an, cdv, ct, osl, rfl, h, _⟩ := F.ex
  exact ⟨oc, od, osl, h⟩
/-- for the end: the function's object is known -/
theorem Ok.fn {k : Nat} {x : Str} {ps : List Str} {sp : Sp} (h : Ok P w K mg base k x ps sp) {fa : Addr} {fd : FuncData} {oc : Value} {od : Option Addr} {osl : Array (Option Value)} (hm : mg x = some (.ref fa)) (hl : K.lookup fa = some ⟨oc, od, .func fd, osl⟩) : FnG P w K mg base (L2.CX P w) k fa fd ps sp := by
  obtain ⟨fa', fd', h1, _, _, ⟨_, _, _, h0⟩, h4⟩ := h
  rw [hm] at h1
  cases h1
  rw [hl] at h0
  cases h0
  exact h4
theorem Dfn.ok {x : Str} {s : Stmt} {N ps : List Str} {k : Nat} {Z : Zx K G} {S : Spec G} (D : Dfn K mg x s ps) (Sc : FnScope N ps (defScope s)) (hS : ∀ as g T U, S as g T U → as.length = ps.length) (hN : ps.length ≤ N.length)
    (body : ∀ (fa : Addr) (cdv : Value) (A : Around) (outer : List Env) (s' : Shared) (H : Hp) (E : XK), RoomG k (A.deeper (PyProof.Rows.envOfC x (defScope s) s'.heap.objs.size fa cdv)) →
      ∃ ts t, DSs (cxOf (L2.CX P w) P w K mg base N x (defScope s) fa cdv A outer s' H E).nox (Z.wish (fun _ _ _ _ => False) Un) (defBody s) ts t ∧ ∀ as g T U, S as g T U → t { nx := fun _ g' => T (.dt .none) g', rt := T } (entry N as) g) : Ok P w K mg base (k + 1) x ps (spZ Z S) := by
  obtain ⟨fa, fd, Fu, hm, hb⟩ := D
  exact ⟨fa, fd, hm, Fu.kp, hb, Fun.at_ Fu, fun3 Fu Sc hS hN (body fa)⟩
/-- the same of a def that may raise -/
theorem Dfn.okX {x : Str} {s : Stmt} {N ps : List Str} {k : Nat} {Z : Zx K G} {S : Spec G} (D : Dfn K mg x s ps) (Sc : FnScope N ps (defScope s)) (hS : ∀ as g T U, S as g T U → as.length = ps.length) (hN : ps.length ≤ N.length)
    (body : ∀ (fa : Addr) (cdv : Value) (A : Around) (outer : List Env) (s' : Shared) (H : Hp) (E : XK) (U : XU G), RoomG k (A.deeper (PyProof.Rows.envOfC x (defScope s) s'.heap.objs.size fa cdv)) →
      Takes (cxOf (L2.CX P w) P w K mg base N x (defScope s) fa cdv A outer s' H E) (fun c d _ H => E c d H) →
      PassesOwn (model P w) (A.deeper (PyProof.Rows.envOfC x (defScope s) s'.heap.objs.size fa cdv)) (PyProof.Rows.envOfC x (defScope s) s'.heap.objs.size fa cdv) (cxOf (L2.CX P w) P w K mg base N x (defScope s) fa cdv A outer s' H E).xe →
      ∃ ts t, DSs (cxOf (L2.CX P w) P w K mg base N x (defScope s) fa cdv A outer s' H E) (Z.wish (fun c d _ H => E c d H) (fun c fs _ g => U c fs g)) (defBody s) ts t ∧ ∀ as g T, S as g T U → t { nx := fun _ g' => T (.dt .none) g', rt := T } (entry N as) g) : Ok P w K mg base (k + 1) x ps (spZ Z S) := by
  obtain ⟨fa, fd, Fu, hm, hb⟩ := D
  exact ⟨fa, fd, hm, Fu.kp, hb, Fun.at_ Fu, fun3X Fu Sc hS hN (body fa)⟩
/-- a promise that is never asked -/
theorem Dfn.none {x : Str} {s : Stmt} {ps : List Str} {k : Nat} {Z : Zx K G} {S : Spec G} (D : Dfn K mg x s ps) (h0 : ∀ as g T U, ¬ S as g T U) : Ok P w K mg base k x ps (spZ Z S) := by
  obtain ⟨fa, fd, Fu, hm, hb⟩ := D
  exact ⟨fa, fd, hm, Fu.kp, hb, Fun.at_ Fu, fun vs H Q E h => by obtain ⟨_, _, as, T, U, _, _, _, _, h, _⟩ := h; exact absurd h (h0 as _ T U), fun A outer s' H args us vs Q E _ _ _ _ h => by obtain ⟨_, _, as, T, U, _, _, _, _, h, _⟩ := h; exact absurd h (h0 as _ T U)⟩
/-- the same over the heap, no data layer -/
theorem Dfn.raw {x : Str} {s : Stmt} {N ps : List Str} {k : Nat} {sp : Sp} (D : Dfn K mg x s ps) (Sc : FnScope N ps (defScope s)) (hS : ∀ vs H Q E, sp vs H Q E → vs.length = ps.length)
    (body : ∀ (fa : Addr) (cdv : Value) (A : Around) (outer : List Env) (s' : Shared) (H : Hp) (vs : List V) (Q : VK) (E : XK), RoomG k (A.deeper (PyProof.Rows.envOfC x (defScope s) s'.heap.objs.size fa cdv)) → sp vs H Q E →
      ∃ t, PSs (cxOf (L2.CX P w) P w K mg base N x (defScope s) fa cdv A outer s' H E).nox (defBody s) t ∧ t { nx := fun _ H' => Q .non H', rt := Q } (L2.start N vs) H) : Ok P w K mg base (k + 1) x ps sp := by
  obtain ⟨fa, fd, Fu, hm, hb⟩ := D
  refine ⟨fa, fd, hm, Fu.kp, hb, Fun.at_ Fu, funG Fu Sc hS fun cdv A outer s' H vs Q E hr h => ?_⟩
  obtain ⟨t, h1, h2⟩ := body fa cdv A outer s' H vs Q E hr h
  exact ⟨t, h1.nox, h2⟩
end
section
variable {k : Nat} {ps : List Str} {x : Str} {p pos : Pos} {e : Expr} {es : List Expr} {ta : TA} {a : DA G}
/-- how a call's errors go: nowhere, or where the body's go -/
structure Let (X : Cx) (Z : Zx K G) (U : UX G) (E : St → XK) : Prop where
  pa : ∀ σ, PassesAt (L2.CX X.prog X.w) X σ (E σ)
  lw : LeW Z U E
theorem let_n : Let X Z Un (fun _ => E0) := ⟨fun _ => passN, leW_n⟩
/-- where the body's errors go -/
theorem let_w {W : WXH} {U : UX G} (tk : Takes X W) : Let X (Z.wish W U) U (WE W) := ⟨fun σ => passAt tk σ, leW_z (Z := Z.wish W U)⟩
/-- f(..) with the resource -/
theorem e_fnU {U : UX G} {E : St → XK} (L : Let X Z U E) {S : Spec G} {Z' : Zx K G} (F : Ok X.prog X.w X.K X.mg X.base k x ps (spZ Z' S)) (hr : RoomG k X.A) (ha : DAs X Z (e :: es) ta a) (hz : spZ Z' S = spZ Z S := by rfl) (hg : Gl X x := by rfl) (hdb : (x == ("__debug__" : Str)) = false := by decide)
    (he : starEach (e :: es) X.env = (false, eval e X.env) :: starEach es X.env := by rfl) (hpl : (backTo pos (starEach es X.env)).any (·.1) = false := by rfl) : DE X Z (.Call (.Name x p) (e :: es) [] pos) (tCallE (spZ Z' S) [] E ta) (dCall U S [] a) := by
  obtain ⟨fa, fd, hm, hk, hb, _, Fk⟩ := F
  exact ⟨pe_callG Fk hr hg hm hk hb .nil L.pa ha.pa hdb he hpl, by rw [hz]; exact sim_call L.lw (fun _ _ => .nil) ha.sim⟩
/-- f(..) of a def without one -/
theorem e_fn0U {U : UX G} {E : St → XK} (L : Let X Z U E) {S : Spec Unit} (F : Ok X.prog X.w X.K X.mg X.base k x ps (spZ (Z0 K) S)) (hr : RoomG k X.A) (ha : DAs X Z (e :: es) ta a) (hg : Gl X x := by rfl) (hdb : (x == ("__debug__" : Str)) = false := by decide)
    (he : starEach (e :: es) X.env = (false, eval e X.env) :: starEach es X.env := by rfl) (hpl : (backTo pos (starEach es X.env)).any (·.1) = false := by rfl) : DE X Z (.Call (.Name x p) (e :: es) [] pos) (tCallE (spZ (Z0 K) S) [] E ta) (dCall0 U S [] a) := by
  obtain ⟨fa, fd, hm, hk, hb, _, Fk⟩ := F
  exact ⟨pe_callG Fk hr hg hm hk hb .nil L.pa ha.pa hdb he hpl, sim_call0 L.lw (fun _ => .nil) ha.sim⟩
/-- f(..) at the heap -/
theorem pe_fn {sp : Sp} {ta : TA} (F : Ok X.prog X.w X.K X.mg X.base k x ps sp) (hr : RoomG k X.A) (ha : PA X (e :: es) ta) (hg : Gl X x := by rfl) (hdb : (x == ("__debug__" : Str)) = false := by decide)
    (he : starEach (e :: es) X.env = (false, eval e X.env) :: starEach es X.env := by rfl) (hpl : (backTo pos (starEach es X.env)).any (·.1) = false := by rfl) : PE X (.Call (.Name x p) (e :: es) [] pos) (tCallE sp [] (fun _ => E0) ta) := by
  obtain ⟨fa, fd, hm, hk, hb, _, Fk⟩ := F
  exact pe_callG Fk hr hg hm hk hb .nil (fun _ => passN) ha hdb he hpl
end
theorem tb {G : Type} {T : Rs → G → Prop} {g : G} {b c : Bool} (h : T (.dt (.bool b)) g) (e : b = c) : T (.dt (.bool c)) g := e ▸ h
theorem td {G : Type} {T : Rs → G → Prop} {g : G} {b c : PyData} (h : T (.dt b) g) (e : b = c) : T (.dt c) g := e ▸ h
mutual
/-- no list or tuple in it is too long -/
def smD : PyData → Bool
  | .list ds => decide (ds.length ≤ 16777216) && smDs ds
  | .tuple ds => decide (ds.length ≤ 16777216) && smDs ds
  | .dict _ => false
  | _ => true
def smDs : List PyData → Bool
  | [] => true
  | d :: r => smD d && smDs r
end
theorem boolsF {α : Type} (f : α → Bool) (xs : List α) : boolsL (xs.map fun x => PyData.bool (f x)) = some (xs.map f) := by
  have := boolsL_map (xs.map f)
  rwa [List.map_map] at this
theorem intsF {α : Type} (f : α → Int) (xs : List α) : intsL (xs.map fun x => PyData.int (f x)) = some (xs.map f) := by
  have := intsL_map (xs.map f)
  rwa [List.map_map] at this
theorem rngD_inv {lo : Int} {n k : Nat} {d : PyData} (h : (rngD lo n)[k]? = some d) : d = .int (lo + (k : Nat)) ∧ k < n := by
  have hk : k < n := by
    have := (List.getElem?_eq_some_iff.mp h).1
    rwa [rngD_len] at this
  rw [rngD_get lo hk] at h
  cases h
  exact ⟨rfl, hk⟩
theorem atI_mem {α : Type} {xs : List α} {i : Int} (h0 : 0 ≤ i) (h1 : i < xs.length) : ∃ x, x ∈ xs ∧ atI xs i = some x := by
  obtain ⟨n, rfl⟩ := Int.eq_ofNat_of_zero_le h0
  have hn : n < xs.length := by omega
  refine ⟨xs[n], List.getElem_mem hn, ?_⟩
  exact atI_nat (List.getElem?_eq_getElem hn)
theorem atI_int {zs : List Int} {i : Int} (h0 : 0 ≤ i) (h1 : i < zs.length) : ∃ z, z ∈ zs ∧ atI (zs.map PyData.int) i = some (.int z) := by
  obtain ⟨n, rfl⟩ := Int.eq_ofNat_of_zero_le h0
  have hn : n < zs.length := by omega
  refine ⟨zs[n], List.getElem_mem hn, ?_⟩
  exact atI_nat (by rw [List.getElem?_map, List.getElem?_eq_getElem hn]; rfl)
theorem atI_gen {ds : List PyData} {i : Int} {K : PyData → Prop} (h0 : 0 ≤ i) (h1 : i < ds.length) (k : ∀ d ∈ ds, K d) : opK (atI ds i) K := by
  obtain ⟨d, hd, e⟩ := atI_mem h0 h1
  exact opK_of e (k d hd)
theorem pk_of {i m : Int} {p : Prop} (h0 : 0 < m) (h1 : m < 2 ^ 64) (hp : p) : dvK i m p := dvK_of ⟨h0, log_small h0 h1⟩ hp
theorem mull {i j : Int} (h : -(2 ^ 64) < i ∧ i < 2 ^ 64 := by decide) : MulOk i j := .inl (.inl h)
end L3
end
section
namespace L3
open PySem L2
variable {G : Type} {K : PySem.W.Frag} {X : Cx} {Z : Zx K G}
def kOf : PyData → Option Key
  | .int i => some (.inl i)
  | .str x => some (.inr x)
  | _ => none
def kq (d e : PyData) : Bool := match d, e with
  | .int i, .int j => decide (i = j)
  | .str x, .str y => decide (x = y)
  | _, _ => false
/-- what a dict holds at a key; with another value there -/
def lookD (kvs : List (PyData × PyData)) (k : PyData) : Option PyData := match kvs with
  | [] => none
  | p :: r => match kq p.1 k with
    | true => some p.2
    | false => lookD r k
def putD (kvs : List (PyData × PyData)) (k v : PyData) : List (PyData × PyData) := match kvs with
  | [] => [(k, v)]
  | p :: r => match kq p.1 k with
    | true => (p.1, v) :: r
    | false => p :: putD r k v
theorem kq_kD (a b : Key) : kq (kD a) (kD b) = decide (a = b) := by
  cases a <;> cases b <;> simp [kq, kD]
theorem putK_cons_pos {p : Key × V} {r : List (Key × V)} {k : Key} {v : V} (h : p.1 = k) (nd : valV r k = none) : putK (p :: r) k v = (p.1, v) :: r := by
  unfold putK
  rw [if_pos (by simp [h])]
  rw [List.map_cons, if_pos h]
  congr 1
  have := valV_any k r
  rw [nd] at this
  simp only [Option.isSome_none, List.any_eq_false, decide_eq_true_eq] at this
  conv => rhs; rw [← List.map_id r]
  apply List.map_congr_left
  intro q hq
  rw [if_neg (this q hq)]; rfl
theorem putK_cons_neg {p : Key × V} {r : List (Key × V)} {k : Key} {v : V} (h : ¬ p.1 = k) : putK (p :: r) k v = p :: putK r k v := by
  unfold putK
  rw [List.any_cons, decide_eq_false h, Bool.false_or]
  by_cases q : (r.any fun kv => decide (kv.1 = k)) = true
  · rw [if_pos q, if_pos q, List.map_cons, if_neg h]
  · rw [if_neg q, if_neg q]; rfl
theorem daKv_look {K : PySem.W.Frag} {F : Hp} : ∀ {vs : List (Key × V)} {ds : List (PyData × PyData)} (k : Key), DaKv K F vs ds → (∀ d, lookD ds (kD k) = some d → ∃ v, valV vs k = some v ∧ Da K F v d) ∧ (lookD ds (kD k) = none → valV vs k = none)
  | _, _, k, .nil => ⟨fun d e => (by cases e), fun _ => rfl⟩
  | _, _, k, @DaKv.cons _ _ k' v vs d ds h r => by
    obtain ⟨i1, i2⟩ := daKv_look k r
    by_cases e : k' = k
    · subst e
      rw [lookD, kq_kD, decide_eq_true rfl]
      exact ⟨fun d' e' => ⟨v, valV_pos rfl, by cases e'; exact h⟩, fun e' => by cases e'⟩
    · rw [lookD, kq_kD, decide_eq_false e, valV_neg (p := (k', v)) e]
      exact ⟨i1, i2⟩
theorem daKv_len {K : PySem.W.Frag} {F : Hp} : ∀ {vs : List (Key × V)} {ds : List (PyData × PyData)}, DaKv K F vs ds → vs.length = ds.length
  | _, _, .nil => rfl
  | _, _, .cons _ r => by rw [List.length_cons, List.length_cons, daKv_len r]
/-- a dict's data: the keys differ -/
def ndD : List (PyData × PyData) → Bool
  | [] => true
  | p :: r => (lookD r p.1).isNone && ndD r
theorem daKv_put {K : PySem.W.Frag} {F : Hp} {v : V} {d : PyData} (hv : Da K F v d) (k : Key) : ∀ (vs : List (Key × V)) (ds : List (PyData × PyData)), ndD ds = true → DaKv K F vs ds → DaKv K F (putK vs k v) (putD ds (kD k) d)
  | [], ds, _, h => by cases h; exact DaKv.cons (k := k) (vs := []) (ds := []) hv .nil
  | (k', v') :: vs, ds, nd, h => by
    cases h with
    | cons h r =>
      rw [ndD, Bool.and_eq_true] at nd
      by_cases e : k' = k
      · subst e
        rw [putD, kq_kD, decide_eq_true rfl, putK_cons_pos rfl ((daKv_look k' r).2 (by simpa using nd.1))]
        exact DaKv.cons (k := k') hv r
      · rw [putD, kq_kD, decide_eq_false e, putK_cons_neg (p := (k', v')) e]
        exact DaKv.cons (k := k') h (daKv_put hv k vs _ nd.2 r)
section
variable {f : Fx} {F F' : Hp} {ad : Nat → Addr} {ρ : En} {g : G} {σ : St} {H H' : Hp} {Q : Rs → En → G → Prop}
theorem Rel.key (R : Rel Z f F ad ρ g σ H) {v : V} {r : Rs} {d : PyData} {k : Key} (h : VR Z f F ad ρ g σ H v r) (e : rd r ρ = some d) (hk : kOf d = some k) : v = kV k ∧ d = kD k := by
  have q := R.hrd h e
  cases d <;> first | (cases hk; cases q; exact ⟨rfl, rfl⟩) | cases hk
theorem Rel.ditems (R : Rel Z f F ad ρ g σ H) {v : V} {r : Rs} {ds : List (PyData × PyData)} (h : VR Z f F ad ρ g σ H v r) (e : rd r ρ = some (.dict ds)) : ∃ a vs, v = .ref a ∧ H a = some (.dK vs) ∧ DaKv K F vs ds := by
  cases r with
  | dt d => cases e; cases h; rename_i a vs h1 h2; exact ⟨a, vs, rfl, R.fin.sub _ _ h1, h2⟩
  | nd ds => obtain ⟨a, vs, rfl, _, h1, h2⟩ := h; cases e; exact ⟨a, vs, rfl, h1, h2⟩
  | br i =>
    have e1 : rdS ρ[i]? = some (.dict ds) := e
    cases hi : ρ[i]? with
    | none => rw [hi] at e1; cases e1
    | some s =>
      rw [hi] at e1
      have q := R.slot i _ hi
      cases s with
      | dt d' =>
        cases e1
        obtain ⟨w, q1, q2⟩ := q
        have z : some (some w) = some (some v) := q1.symm.trans h
        cases z
        cases q2
        rename_i a vs h1 h2
        exact ⟨a, vs, rfl, R.fin.sub _ _ h1, h2⟩
      | dk ds =>
        cases e1
        obtain ⟨q1, _, vs, q3, q4⟩ := q
        have z : some (some (V.ref (ad i))) = some (some v) := q1.symm.trans h
        cases z
        exact ⟨_, vs, rfl, q3, q4⟩
      | _ => cases e1
  | _ => cases e
theorem Rel.dget (R : Rel Z f F ad ρ g σ H) {v y : V} {r r2 : Rs} {ds : List (PyData × PyData)} {k : PyData} {kk : Key} (h : VR Z f F ad ρ g σ H v r) (e : rd r ρ = some (.dict ds)) (h2 : VR Z f F ad ρ g σ H y r2) (e2 : rd r2 ρ = some k) (hk : kOf k = some kk) :
    ∃ a o, v = .ref a ∧ DGet H a y o ∧ (∀ d, lookD ds k = some d → ∃ w, o = some w ∧ Da K F w d) ∧ (lookD ds k = none → o = none) := by
  obtain ⟨a, vs, rfl, ha, da⟩ := R.ditems h e
  obtain ⟨rfl, rfl⟩ := R.key h2 e2 hk
  obtain ⟨l1, l2⟩ := daKv_look kk da
  exact ⟨a, _, rfl, DGet.k ha, l1, l2⟩
end
/-- {k: v} -/
def dDict1 (a b : DT G) : DT G := fun ρ g Q => a ρ g fun r1 ρ1 g1 => b ρ1 g1 fun r2 ρ2 g2 => fz1 r2 ρ2 fun d ρ3 => opK (rd (st r1) ρ3) fun k => opK (kOf k) fun _ => Q (.nd [(k, d)]) ρ3 g2
theorem e_dict1 {k v : Expr} {tk tv : TE} {a b : DT G} {pos : Pos} (hk : DE X Z k tk a) (hv : DE X Z v tv b) : DE X Z (.Dict [some k] [v] pos) (tDisp [(tk, tv)]) (dDict1 a b) :=
  ⟨pe_disp (pps_cons hk.pe hv.pe pps_nil) rfl rfl (by simp) (by simp), fun f F ad ρ g σ H Q R q P hP => by
    intro p hp
    obtain ⟨R0, n0⟩ := R.laid (o := .dK []) hp
    have h0 : p ∉ f.fp0 := fun hm => by
      have := R.fin.fpo p hm
      exact this n0.1.2.1
    have Rh := R0.hide n0 h0 upd_same
    refine hk.sim _ F ad ρ g σ _ _ Rh q _ fun x H1 q1 => ?_
    obtain ⟨F1, ad1, ρ1, g1, r1, e1, eg1, R1, v1, q1⟩ := q1
    obtain ⟨F1', e1', R1', v1'⟩ := R1.hst v1
    refine hv.sim _ F1' ad1 ρ1 g1 σ H1 _ R1' q1 _ fun y H2 q2 => ?_
    obtain ⟨F2, ad2, ρ2, g2, r2, e2, eg2, R2, v2, q2⟩ := q2
    obtain ⟨d, ρ3, ef, q2⟩ := fz1_of q2
    obtain ⟨kd, ek, q2⟩ := opK_e q2
    obtain ⟨kk, eo, q2⟩ := opK_e q2
    obtain ⟨F3, e3, R3, dv⟩ := R2.hfz v2 ef
    obtain ⟨rfl, rfl⟩ := R3.key (v1'.held (ad1 := ad2) (ρ1 := ρ3) (H1 := H2) (e2.trans e3) eg2) ek eo
    obtain ⟨R4, n4, hp4⟩ := Rel.unhide R0 (eg2.trans eg1) n0.1 h0 R3
    refine ⟨hp4, [(kk, y)], rfl, by show 1 ≤ 15; decide, hP _ _ ⟨F3, ad2, ρ3, g2, .nd [(kD kk, d)], (e1.trans e1').trans (e2.trans e3), eg2.trans eg1, ⟨⟨R4.fin.upd n4.1, R4.len, fun i s hi => ?_, R4.inj⟩, R4.lx⟩, ⟨p, [(kk, y)], rfl, n4, upd_same, .cons dv .nil⟩, q2⟩⟩
    have z := R4.slot i s hi
    cases s with
    | ls ds => obtain ⟨z1, z2, vs', z3, z4⟩ := z; exact ⟨z1, z2, vs', by rw [upd_ne (n4.2 i _ hi rfl)]; exact z3, z4⟩
    | dk ds => obtain ⟨z1, z2, vs', z3, z4⟩ := z; exact ⟨z1, z2, vs', by rw [upd_ne (n4.2 i _ hi rfl)]; exact z3, z4⟩
    | _ => exact z⟩
/-- d[k] = v, d an own dict in slot i -/
def ownD (ρ : En) (i : Nat) : Option (List (PyData × PyData)) := match ρ[i]? with
  | some (.dk ds) => some ds
  | _ => none
theorem ownD_of {ρ : En} {i : Nat} {ds : List (PyData × PyData)} (h : ownD ρ i = some ds) : ρ[i]? = some (.dk ds) := by
  unfold ownD at h
  split at h
  · rename_i es e; cases h; exact e
  · cases h
def dDPut (i : Nat) (a b : DT G) : DS G := fun D ρ g => a ρ g fun r1 ρ1 g1 => opK (ownD ρ1 i) fun _ => b ρ1 g1 fun r2 ρ2 g2 => fz1 (st r1) ρ2 fun d ρ3 => opK (rd r2 ρ3) fun k => opK (kOf k) fun _ => opK (ownD ρ3 i) fun ds => ltK ds.length 16777216 (ndD ds = true ∧ D.nx (ρ3.set i (.dk (putD ds k d))) g2)
theorem fz_rd {f : Fx} {F F' : Hp} {ad : Nat → Addr} {ρ ρ' : En} {g : G} {σ : St} {H : Hp} {v : V} {r : Rs} (h : VR Z f F ad ρ g σ H v r) (e : Ex F F') (R' : Rel Z f F' ad ρ' g σ H) {d : PyData} {k : Key} (e1 : rd r ρ' = some d) (hk : kOf d = some k) : v = kV k ∧ d = kD k := by
  cases r with
  | dt x =>
    cases e1
    cases d <;> first | (cases hk; cases (show Da K F _ _ from h); exact ⟨rfl, rfl⟩) | cases hk
  | br i => exact R'.key (r := .br i) (show VR Z f F' ad ρ' g σ H v (.br i) from h) e1 hk
  | nl x => cases e1; cases hk
  | nd x => cases e1; cases hk
  | _ => cases e1
theorem sim_dput {i : Nat} {ta tb : TE} {a b : DT G} (ha : Sim Z ta a) (hb : Sim Z tb b) : SimS Z (sDPut (tVar i) tb ta) (dDPut i a b) := fun f F ad ρ g σ H D R h D2 le => by
  refine ha f F ad ρ g σ H _ R h _ fun x H1 q => ?_
  obtain ⟨F1, ad1, ρ1, g1, r1, e1, eg1, R1, v1, q⟩ := q
  obtain ⟨F1', e1', R1', v1'⟩ := R1.hst v1
  obtain ⟨ds0, e0, q⟩ := opK_e q
  have hi0 := ownD_of e0
  obtain ⟨z1, z2, vs0, z3, z4⟩ := R1'.slot i _ hi0
  refine ⟨.ref (ad1 i), z1, hb f F1' ad1 ρ1 g1 σ H1 _ R1' q _ fun y H2 q2 => ?_⟩
  obtain ⟨F2, ad2, ρ2, g2, r2, e2, eg2, R2, v2, q⟩ := q2
  obtain ⟨d, ρ3, ef, q⟩ := fz1_of q
  obtain ⟨kd, ek, q⟩ := opK_e q
  obtain ⟨kk, eo, q⟩ := opK_e q
  obtain ⟨ds, ed, q⟩ := opK_e q
  obtain ⟨hl, nd, q⟩ := ltK_e q
  obtain ⟨F3, e3, R3, dv⟩ := R2.hfz (v1'.held e2 eg2) ef
  obtain ⟨rfl, rfl⟩ := fz_rd v2 e3 R3 ek eo
  have hi := ownD_of ed
  obtain ⟨y1, y2, vs, y3, y4⟩ := R3.slot i _ hi
  have ea : ad2 i = ad1 i := by
    have z : some (some (V.ref (ad2 i))) = some (some (V.ref (ad1 i))) := y1.symm.trans z1
    injection z with z; injection z with z; injection z
  rw [← ea]
  refine ⟨_, _, rfl, DPut.k y3 (by rw [sizeLine_eq, daKv_len y4]; exact hl), ?_⟩
  refine le.nx F3 ad2 _ g2 σ _ (eg2.trans eg1) (R3.wrote (s' := .dk (putD ds (kD kk) d)) hi rfl ?_) q
  exact ⟨y1, y2, _, upd_same, daKv_put dv kk _ _ nd y4⟩
theorem s_dput (hu : X.A.units + 64 < cLine) (i : Nat) {x : Str} {e j : Expr} {te tj : TE} {a b : DT G} {px ps pos : Pos} (he : DE X Z e te a) (hj : DE X Z j tj b) (hN : X.N[i]? = some x := by rfl)
    (hv : Vis X.env.scope x := by first | exact Or.inl rfl | exact Or.inr (Or.inl rfl) | exact Or.inr (Or.inr rfl)) (hd : (x == ("__debug__" : Str)) = false := by decide) (hcd : (x == ("__classdict__" : Str)) = false := by decide)
    (hs : swapsWith e (some (.Subscript (.Name x px) j ps)) pos.line X.env = pure false := by rfl) : DSt X Z (.Assign [.Subscript (.Name x px) j ps] e pos) (sDPut (tVar i) tj te) (dDPut i a b) :=
  ⟨ps_dput (by omega) (pe_var hN hv hd hcd) hj.pe he.pe hs, sim_dput he.sim hj.sim⟩
def rIxD : R2 := fun x y H Q => ∃ a v, x = .ref a ∧ DGet H a y (some v) ∧ Q v H
theorem ix_dict (hu : X.A.units + 1 < cLine) : IxR X rIxD := by
  intro value slice pins s σ H x y v u Q I rx ry h hs
  obtain ⟨a, w, rfl, gt, q⟩ := h
  cases rx
  have hT := dict_typeIs I gt
  unfold PyProof.Rows.subscriptTail
  refine wpAny_bind ?_
  rw [getitemInPython_of_ne hT.not_modules]
  refine wpAny_bind (wpAny_specialOf hT PySem.F.slot_dict_getitem.lookup ?_)
  have last : wpAny (model X.prog X.w) X.A (subscripted slice false (.ref a) u) (fun r t => wpAny (model X.prog X.w) X.A (letTemporaryGo value (.ref a) r >>= fun _ => pure r) (EP X pins σ Q) X.xe t) X.xe s := by
    rw [hs]
    exact wpAny_operating (wpAny_mono (d_getItem hu I gt ry fun w' s' I' rw' => ⟨w, H, I', rw', q⟩) (fun r t ht => wpAny_bind (wpAny_letTemporaryGo (wpAny_pure ht))) fun _ _ z => z)
  first
    | exact wpAny_pure (wpAny_bind last)
    | exact wpAny_bind (wpAny_pure (wpAny_bind last))
    | exact wpAny_bind last
def ixX (ρ : En) (g : G) (Q : Rs → En → G → Prop) : Option PyData → Option PyData → Prop
  | some (.list ds), some (.int i) => opK (atI ds i) fun d => Q (.dt d) ρ g
  | some (.tuple ds), some (.int i) => opK (atI ds i) fun d => Q (.dt d) ρ g
  | some (.str z), some (.int i) => z.length ≤ sizeLine ∧ opK (atI z.cps.toList i) fun c => Q (.dt (.str ⟨#[c]⟩)) ρ g
  | some (.dict ds), some k => opK (kOf k) fun _ => opK (lookD ds k) fun d => Q (.dt d) ρ g
  | _, _ => False
def oIxX : RO G := fun r1 r2 ρ g Q => ixX ρ g Q (rd r1 ρ) (rd r2 ρ)
def rIxX (K : PySem.W.Frag) : R2 := fun x y H Q => rIx K x y H Q ∨ rIxD x y H Q
theorem sim_ixX : SimO Z (rIxX K) (oIxX (G := G)) := fun f F ad ρ g σ H x y r1 r2 Q R h1 h2 q P hP => by
  have q' : ixX ρ g Q (rd r1 ρ) (rd r2 ρ) := q
  unfold ixX at q'
  split at q'
  · rename_i ds i e1 e2
    exact .inl (sim_ix f F ad ρ g σ H x y r1 r2 Q R h1 h2 (show ixD ρ g Q (rd r1 ρ) (rd r2 ρ) by rw [e1, e2]; exact q') P hP)
  · rename_i ds i e1 e2
    exact .inl (sim_ix f F ad ρ g σ H x y r1 r2 Q R h1 h2 (show ixD ρ g Q (rd r1 ρ) (rd r2 ρ) by rw [e1, e2]; exact q') P hP)
  · rename_i ds i e1 e2
    exact .inl (sim_ix f F ad ρ g σ H x y r1 r2 Q R h1 h2 (show ixD ρ g Q (rd r1 ρ) (rd r2 ρ) by rw [e1, e2]; exact q') P hP)
  · rename_i ds k e1 e2
    obtain ⟨kk, ek, q'⟩ := opK_e q'
    obtain ⟨d, el, q'⟩ := opK_e q'
    obtain ⟨a, o, rfl, gt, l1, _⟩ := R.dget h1 e1 h2 e2 ek
    obtain ⟨w, rfl, dw⟩ := l1 d el
    exact .inr ⟨a, w, rfl, gt, hP _ _ (R.dat dw q')⟩
  · cases q'
theorem e_ixX (hu : X.A.units + 64 < cLine) {ea eb : Expr} {ta tb : TE} {a b : DT G} {pos : Pos} (ha : DE X Z ea ta a) (hb : DE X Z eb tb b) (hs : PlainIx eb := by exact fun _ _ => rfl) (hK : K = X.K := by rfl) : DE X Z (.Subscript ea eb pos) (tOp (rIxX K) ta tb) (dOp oIxX a b) :=
  ⟨pe_ix (by rw [hK]; exact ix_seq.or (ix_dict (by omega))) ha.pe hb.pe hs, sim_op sim_ixX ha.sim hb.sim⟩
def rInX (neg : Bool) : R2 := fun x y H Q => ∃ a o, y = .ref a ∧ DGet H a x o ∧ Q (.bl (xor neg o.isSome)) H
theorem op_inX (hu : X.A.units + 1 < cLine) : OpR X (compareOp .In) (rInX false) := by
  intro pins s σ H x y v u Q I rx ry h
  obtain ⟨a, o, rfl, gt, q⟩ := h
  cases ry
  exact d_in hu I gt rx fun s' I' => ⟨.bl o.isSome, H, I', rfl, by rw [Bool.false_xor] at q; exact q⟩
theorem op_ninX (hu : X.A.units + 1 < cLine) : OpR X (compareOp .NotIn) (rInX true) := by
  intro pins s σ H x y v u Q I rx ry h
  obtain ⟨a, o, rfl, gt, q⟩ := h
  cases ry
  exact d_notIn hu I gt rx fun s' I' => ⟨.bl (!o.isSome), H, I', rfl, by rw [Bool.true_xor] at q; exact q⟩
def inDX (neg : Bool) (ρ : En) (g : G) (Q : Rs → En → G → Prop) : Option PyData → Option PyData → Prop
  | some (.list a), some (.list ds) => SeqAt.shaped (.list a) = true ∧ SeqAt.shaped (.list ds) = true ∧ Q (.dt (.bool (xor neg (ds.any fun z => PyData.eqv z (.list a))))) ρ g
  | some (.tuple a), some (.list ds) => SeqAt.shaped (.tuple a) = true ∧ SeqAt.shaped (.list ds) = true ∧ Q (.dt (.bool (xor neg (ds.any fun z => PyData.eqv z (.tuple a))))) ρ g
  | some .none, some (.list ds) => SeqAt.shaped (.list ds) = true ∧ Q (.dt (.bool (xor neg (ds.any fun z => PyData.eqv z .none)))) ρ g
  | some (.str a), some (.str b) => Q (.dt (.bool (xor neg (!(Builtin.Str.occurrences b a 0 b.length 1).isEmpty)))) ρ g
  | some x, some (.list ds) => flatD x = true ∧ ds.all flatD = true ∧ Q (.dt (.bool (xor neg (inD x ds)))) ρ g
  | some x, some (.tuple ds) => flatD x = true ∧ ds.all flatD = true ∧ Q (.dt (.bool (xor neg (inD x ds)))) ρ g
  | some k, some (.dict ds) => opK (kOf k) fun _ => Q (.dt (.bool (xor neg (lookD ds k).isSome))) ρ g
  | _, _ => False
def oInX (neg : Bool) : RO G := fun r1 r2 ρ g Q => inDX neg ρ g Q (rd r1 ρ) (rd r2 ρ)
def rInT (neg : Bool) : R2 := fun x y H Q => ∃ i j, x = .str i ∧ y = .str j ∧ Q (.bl (xor neg (!(Builtin.Str.occurrences j i 0 j.length 1).isEmpty))) H
def rInE (K : PySem.W.Frag) (neg : Bool) : R2 := fun x y H Q => ∃ d ds, Dp K H x d ∧ Dp K H y (.list ds) ∧ SeqAt.shaped d = true ∧ SeqAt.shaped (.list ds) = true ∧ Q (.bl (xor neg (ds.any fun z => PyData.eqv z d))) H
def rInA (K : PySem.W.Frag) (neg : Bool) : R2 := fun x y H Q => rIn K neg x y H Q ∨ (rInX neg x y H Q ∨ (rInT neg x y H Q ∨ rInE K neg x y H Q))
theorem op_inT : OpR X (compareOp .In) (rInT false) := by
  intro pins s σ H x y v u Q I rx ry h
  obtain ⟨i, j, e1, e2, q⟩ := h
  exact op_in_str pins s σ H x y v u Q I rx ry ⟨i, j, e1, e2, by rw [Bool.false_xor] at q; exact q⟩
theorem op_ninT : OpR X (compareOp .NotIn) (rInT true) := by
  intro pins s σ H x y v u Q I rx ry h
  obtain ⟨i, j, e1, e2, q⟩ := h
  exact op_notin_str pins s σ H x y v u Q I rx ry ⟨i, j, e1, e2, by rw [Bool.true_xor] at q; exact q⟩
theorem op_inE (hu : X.A.units + 65 < cLine) : OpR X (compareOp .In) (rInE X.K false) := by
  intro pins s σ H x y v u Q I rx ry h
  obtain ⟨d, ds, e1, e2, e3, e4, q⟩ := h
  exact op_inD hu pins s σ H x y v u Q I rx ry ⟨d, ds, e1, e2, e3, e4, by rw [Bool.false_xor] at q; exact q⟩
theorem op_ninE (hu : X.A.units + 65 < cLine) : OpR X (compareOp .NotIn) (rInE X.K true) := by
  intro pins s σ H x y v u Q I rx ry h
  obtain ⟨d, ds, e1, e2, e3, e4, q⟩ := h
  exact op_notInD hu pins s σ H x y v u Q I rx ry ⟨d, ds, e1, e2, e3, e4, by rw [Bool.true_xor] at q; exact q⟩
theorem sim_inX {neg : Bool} : SimO Z (rInA K neg) (oInX (G := G) neg) := fun f F ad ρ g σ H x y r1 r2 Q R h1 h2 q P hP => by
  have q' : inDX neg ρ g Q (rd r1 ρ) (rd r2 ρ) := q
  have deep : ∀ {d : PyData} {ds : List PyData}, rd r1 ρ = some d → rd r2 ρ = some (.list ds) → SeqAt.shaped d = true → SeqAt.shaped (.list ds) = true → Q (.dt (.bool (xor neg (ds.any fun z => PyData.eqv z d)))) ρ g → rInA K neg x y H P := fun e1 e2 c1 c2 q =>
    .inr (.inr (.inr ⟨_, _, (R.hrd h1 e1).dp (SeqAt.canLay_of_shaped c1), (R.hrd h2 e2).dp (SeqAt.canLay_of_shaped c2), c1, c2, hP _ _ (R.dat (.bl _) q)⟩))
  unfold inDX at q'
  split at q'
  · rename_i a ds e1 e2
    exact deep e1 e2 q'.1 q'.2.1 q'.2.2
  · rename_i a ds e1 e2
    exact deep e1 e2 q'.1 q'.2.1 q'.2.2
  · rename_i ds e1 e2
    exact deep e1 e2 rfl q'.1 q'.2
  · rename_i a b e1 e2
    exact .inr (.inr (.inl ⟨a, b, R.rStr h1 e1, R.rStr h2 e2, hP _ _ (R.dat (.bl _) q')⟩))
  · rename_i d ds _ _ _ e1 e2
    exact .inl (sim_in f F ad ρ g σ H x y r1 r2 Q R h1 h2 (show inDD neg ρ g Q (rd r1 ρ) (rd r2 ρ) by rw [e1, e2]; exact q') P hP)
  · rename_i d ds e1 e2
    exact .inl (sim_in f F ad ρ g σ H x y r1 r2 Q R h1 h2 (show inDD neg ρ g Q (rd r1 ρ) (rd r2 ρ) by rw [e1, e2]; exact q') P hP)
  · rename_i k ds e1 e2
    obtain ⟨kk, ek, q'⟩ := opK_e q'
    obtain ⟨a, o, rfl, gt, l1, l2⟩ := R.dget h2 e2 h1 e1 ek
    refine .inr (.inl ⟨a, o, rfl, gt, hP _ _ (R.dat (.bl _) ?_)⟩)
    cases el : lookD ds k with
    | none => rw [l2 el]; rw [el] at q'; exact q'
    | some d => obtain ⟨w, rfl, _⟩ := l1 d el; rw [el] at q'; exact q'
  · cases q'
theorem c_inX (hu : X.A.units + 200 < cLine) (hK : K = X.K := by rfl) : OpR X (compareOp .In) (rInA K false) ∧ SimO Z (rInA K false) (oInX (G := G) false) := ⟨by rw [hK]; exact op_in_seq.or ((op_inX (by omega)).or (op_inT.or (op_inE (by omega)))), sim_inX⟩
theorem c_ninX (hu : X.A.units + 200 < cLine) (hK : K = X.K := by rfl) : OpR X (compareOp .NotIn) (rInA K true) ∧ SimO Z (rInA K true) (oInX (G := G) true) := ⟨by rw [hK]; exact op_notIn_seq.or ((op_ninX (by omega)).or (op_ninT.or (op_ninE (by omega)))), sim_inX⟩
end L3
end
section
namespace L3
open PySem L2
variable {G : Type} {K : PySem.W.Frag} {X : Cx} {Z : Zx K G}
structure ShOk (d : PyData) : Prop where
  sh : d.showable = true
  nd : d.hasDict = false
  dp : d.depth ≤ 150
  sz : d.shown.length ≤ 16777216
mutual
theorem da_reads {K : PySem.W.Frag} {H : Hp} : ∀ {v : V} {d : PyData}, d.hasDict = false → Da K H v d → Dp K H v d
  | _, _, _, .non => .non
  | _, _, _, .bl b => .bl b
  | _, _, _, .int i => .int i
  | _, _, _, .str x => .str x
  | _, _, c, .lst h r => .lst (.inl (.inl h)) (daAll_reads (by rwa [PyData.hasDict] at c) r)
  | _, _, c, .tup h r => .tup h (daAll_reads (by rwa [PyData.hasDict] at c) r)
  | _, _, c, .dct h r => by rw [PyData.hasDict] at c; cases c
theorem daAll_reads {K : PySem.W.Frag} {H : Hp} : ∀ {vs : List V} {ds : List PyData}, PyData.hasDictAll ds = false → DaAll K H vs ds → DpAll K H vs ds
  | _, _, _, .nil => .nil
  | _, _, c, .cons h r => by
    rw [PyData.hasDictAll, Bool.or_eq_false_iff] at c
    exact .cons (da_reads c.1 h) (daAll_reads c.2 r)
end
def rReprX (K : PySem.W.Frag) : List V → Hp → VK → Prop := fun xs H Q => ∃ v d, xs = [v] ∧ Dp K H v d ∧ ShOk d ∧ Q (.str d.shown) H
theorem call_reprX (hr : RoomG 0 X.A) : CallR X (.builtin "repr") (rReprX X.K) := by
  intro pins s σ H xs us Q I r h
  obtain ⟨v, d, rfl, dp, ok, q⟩ := h
  obtain ⟨u, rfl, ru⟩ := vals1 r
  obtain ⟨as, rd⟩ := Dp.reads I d v u dp ru
  have hz : d.shown.length ≤ sizeLine := by rw [sizeLine_eq]; exact ok.sz
  have hun : X.A.units + (d.depth + 1) < cLine := by
    have h1 := hr.rm.un
    have h2 := ok.dp
    omega
  have obj : ∀ {a : Addr}, Reads s.heap (.ref a) d as → wpAny (model X.prog X.w) X.A (call (.builtin "repr") [.ref a]) (EP X pins σ Q) X.xe s := fun {a} rd =>
    repr_of_reads' rd ok.sh (PyData.noDict_hsm ok.nd) hr.gd hun (fun _ _ e => e) (fun h' w tk keep => ⟨.str d.shown, H, I.kept keep, ⟨_, rfl⟩, q⟩) hz
  cases dp with
  | non =>
    cases ru
    exact PySem.P.repr_of_none ⟨.str _, H, I.tok _, ⟨_, rfl⟩, q⟩
  | bl b =>
    cases ru
    exact PySem.P.repr_of_bool ⟨.str _, H, I.tok _, ⟨_, rfl⟩, q⟩
  | int i =>
    obtain ⟨t, rfl⟩ := ru
    exact PySem.P.repr_of_int (by have := ok.sh; simpa [PyData.showable] using this) ⟨.str _, H, I.tok _, ⟨_, rfl⟩, by rw [PyData.shown_int] at q; exact q⟩
  | str x =>
    obtain ⟨t, rfl⟩ := ru
    exact PySem.P.repr_of_str ⟨.str _, H, I.tok _, ⟨_, rfl⟩, by rw [PyData.shown_str] at q; exact q⟩ (by rw [PyData.shown_str] at hz; exact hz)
  | lst h1 h2 => cases ru; exact obj rd
  | tup h1 h2 => cases ru; exact obj rd
/-- repr(x): what is asked stands as it is, to be seen by hand -/
structure ShK (d : PyData) (p : Prop) : Prop where
  ok : ShOk d
  p : p
def oRepr : RA G := fun rs ρ g Q => one (fun r => opK (rd r ρ) fun d => ShK d (Q (.dt (.str d.shown)) ρ g)) rs
theorem k_reprX {k : Nat} (hr : RoomG k X.A) (hK : K = X.K := by rfl) : CallR X (.builtin "repr") (rReprX K) ∧ SimC Z (rReprX K) (oRepr (G := G)) := ⟨by rw [hK]; exact call_reprX (hr.mono (Nat.zero_le _)), fun f F ad ρ g σ H vs rs Q R h q P hP => by
  obtain ⟨r, rfl, q2⟩ := one_of q
  obtain ⟨v, rfl, h0⟩ := vrs1 h
  obtain ⟨d, e, q3⟩ := opK_e q2
  exact ⟨v, d, rfl, da_reads q3.ok.nd (R.hrd h0 e), q3.ok, hP _ _ (R.dat (.str _) q3.p)⟩⟩
mutual
def wd : PyData → Nat
  | .none => 4
  | .bool _ => 5
  | .int i => i.natAbs.log2 + 3
  | .str x => 10 * x.length + 2
  | .list xs => wdAll xs + 2
  | .tuple xs => wdAll xs + 3
  | .dict _ => 0
def wdAll : List PyData → Nat
  | [] => 0
  | x :: xs => wd x + 2 + wdAll xs
end
mutual
def okTx : PyData → Bool
  | .none => true
  | .bool _ => true
  | .int i => decide (i.natAbs.log2 < 1920)
  | .str x => x.cps.toList.all fun c => decide (c < 4294967296)
  | .list xs => okTxs xs
  | .tuple xs => okTxs xs
  | .dict _ => false
def okTxs : List PyData → Bool
  | [] => true
  | x :: xs => okTx x && okTxs xs
end
theorem strlen_append (x y : Str) : (x ++ y).length = x.length + y.length := by
  show (x.cps ++ y.cps).size = _
  rw [Array.size_append]; rfl
theorem join_le (ts : List Str) : (Str.join ", " ts).length ≤ piled ts := by
  by_cases h : ts = []
  · subst h; exact Nat.zero_le _
  · have := join_length_add ts h
    omega
theorem txt_len (i : Int) : ((toString i : String) : Str).length ≤ i.natAbs.log2 + 3 := by
  have h1 := int_text_length_le (a := i) (k := i.natAbs.log2 + 1) (by omega) (by omega)
  rw [ofString_length]
  omega
mutual
theorem wd_shown : ∀ d : PyData, okTx d = true → d.shown.length ≤ wd d
  | .none, _ => by rw [PyData.shown_none]; decide
  | .bool b, _ => by rw [PyData.shown_bool]; cases b <;> decide
  | .int i, h => by
    rw [PyData.shown_int]
    exact txt_len i
  | .str x, h => by
    rw [PyData.shown_str]
    rw [okTx, List.all_eq_true] at h
    exact PySem.StrLaws.reprText_len x fun c hc => by have := of_decide_eq_true (h c hc); omega
  | .list xs, h => by
    rw [okTx] at h
    rw [PyData.shown_list, strlen_append, strlen_append]
    have := Nat.le_trans (join_le _) (wdAll_shown xs h)
    show 1 + _ + 1 ≤ wdAll xs + 2
    omega
  | .tuple xs, h => by
    rw [okTx] at h
    rw [PyData.shown_tuple, strlen_append, strlen_append]
    have := Nat.le_trans (join_le _) (wdAll_shown xs h)
    have e : (((if xs.length == 1 then ",)" else ")" : String) : Str)).length ≤ 2 := by split <;> decide
    show 1 + _ + _ ≤ wdAll xs + 3
    omega
  | .dict _, h => by cases h
theorem wdAll_shown : ∀ ds : List PyData, okTxs ds = true → piled (PyData.shownAll ds) ≤ wdAll ds
  | [], _ => by rw [PyData.shownAll_nil]; exact Nat.zero_le _
  | x :: xs, h => by
    rw [okTxs, Bool.and_eq_true] at h
    rw [PyData.shownAll_cons, piled_cons, wdAll]
    have h1 := wd_shown x h.1
    have h2 := wdAll_shown xs h.2
    omega
end
theorem shOk_of {d : PyData} (h1 : d.showable = true) (h2 : d.hasDict = false) (h3 : d.depth ≤ 150) (h4 : okTx d = true) (h5 : wd d ≤ 16777216) : ShOk d := ⟨h1, h2, h3, Nat.le_trans (wd_shown d h4) h5⟩
theorem shK_of {d : PyData} {p : Prop} (h : ShOk d) (hp : p) : ShK d p := ⟨h, hp⟩
end L3
end
section
namespace L3
open PySem L2
variable {G : Type} {K : PySem.W.Frag} {X : Cx} {Z : Zx K G}
/-- the class that a name of the module holds -/
def cv (mg : Str → Option Value) (x : Str) : Value := (mg x).getD .none
structure ExX (K : PySem.W.Frag) (mg : Str → Option Value) (x : Str) : Prop where
  ex : ∃ C, mg x = some (.ref C) ∧ PySem.W.excIn K C [.type "ValueError", .type "Exception", .type "BaseException", .type "object"] "ValueError.__new__" = true ∧ PySem.W.keepIn K (.ref C) = true ∧
    PySem.W.subIn K (.ref C) (.type "BaseException") = some true ∧ PySem.W.typeIn K (.ref C) = some (.type "type") ∧ PySem.W.hasDictIn K C = true
def SubX (K : PySem.W.Frag) (mg : Str → Option Value) (x y : Str) (b : Bool) : Prop := PySem.W.subIn K (cv mg x) (cv mg y) = some b
theorem cv_of {mg : Str → Option Value} {x : Str} {v : Value} (h : mg x = some v) : cv mg x = v := by unfold cv; rw [h]; rfl
/-- what an except clause for y asks of a class -/
def Takes1 (K : PySem.W.Frag) (mg : Str → Option Value) (c : Value) (y : Str) (b : Bool) : Prop := PySem.W.exmOne K c (cv mg y) = some b
theorem takes1_of {mg : Str → Option Value} {x y : Str} {b : Bool} (e : ExX K mg y) (h : SubX K mg x y b) : Takes1 K mg (cv mg x) y b := by
  obtain ⟨C, h1, _, _, h2, h3, h4⟩ := e.ex
  unfold Takes1
  unfold SubX at h
  rw [cv_of h1] at h ⊢
  exact PySem.W.exm_ref h2 h4 h3 h
def dRaise (U : UX G) (c : Value) : DS G := fun _ ρ g => U c [] ρ g
theorem s_raise {W : WXH} {U : UX G} {x m : Str} {j : Nat} {p p2 p3 pos : Pos} (e : ExX X.K X.mg x) (tk : Takes X W) (hc : X.calm = true := by rfl) (hg : Gl X x := by rfl) (hdb : (x == ("__debug__" : Str)) = false := by decide) :
    DSt X (Z.wish W U) (.Raise (some (.Call (.Name x p) [.Constant (.str m) j p2] [] p3)) none pos) (fun _ σ H => W (cv X.mg x) none σ H) (dRaise U (cv X.mg x)) := by
  obtain ⟨C, h1, h2, h3, h4, h5, h6⟩ := e.ex
  rw [cv_of h1]
  exact ⟨ps_raise hc tk (pmk_own PySem.F.excBase_ValueError h2 h1 h3 (raises_own h4 h5) hg hdb), fun f F ad ρ g σ H D R h D2 le => R.lx F ad ρ g σ H (.ref C) none [] rfl R.toRel0 (.inl ⟨rfl, rfl⟩) h⟩
theorem Fin.wish {f : Fx} {F : Hp} {g : G} {H : Hp} {W W' : WXH} {U U' : UX G} (R : Fin (Z.wish W U) f F g H) : Fin (Z.wish W' U') f F g H := ⟨R.base, R.sub, R.keep, R.keepN, R.new, R.res, R.fpF, R.fpB, R.fpo⟩
theorem Rel0.wish {f : Fx} {F : Hp} {ad : Nat → Addr} {ρ : En} {g : G} {σ : St} {H : Hp} {W W' : WXH} {U U' : UX G} (R : Rel0 (Z.wish W U) f F ad ρ g σ H) : Rel0 (Z.wish W' U') f F ad ρ g σ H :=
  ⟨R.fin.wish, R.len, fun i s hi => by
    have q := R.slot i s hi
    cases s <;> exact q, R.inj⟩
theorem Rel.wish {f : Fx} {F : Hp} {ad : Nat → Addr} {ρ : En} {g : G} {σ : St} {H : Hp} {W W' : WXH} {U U' : UX G} (R : Rel (Z.wish W U) f F ad ρ g σ H) (lx : LeX (Z.wish W' U') f (Z.ra g)) : Rel (Z.wish W' U') f F ad ρ g σ H := ⟨R.toRel0.wish, lx⟩
theorem VFin.wish {f : Fx} {F : Hp} {g : G} {H : Hp} {v : V} {r : Rs} {W W' : WXH} {U U' : UX G} (h : VFin (Z.wish W U) f F g H v r) : VFin (Z.wish W' U') f F g H v r := by cases r <;> exact h
theorem Le.wish {f : Fx} {ra0 : Nat → Addr} {D : D3 G} {D2 : Ends} {W W' : WXH} {U U' : UX G} (h : Le (Z.wish W U) f ra0 D D2) (lx : LeX (Z.wish W U) f ra0) : Le (Z.wish W' U') f ra0 D D2 :=
  ⟨fun F ad ρ g σ H e R => h.nx F ad ρ g σ H e (R.wish (by rw [show Z.ra g = ra0 from e]; exact lx)), fun F g H v r e R hv => h.rt F g H v r e R.wish hv.wish, fun F ad ρ g σ H e R => h.bk F ad ρ g σ H e (R.wish (by rw [show Z.ra g = ra0 from e]; exact lx)), fun F ad ρ g σ H e R => h.ct F ad ρ g σ H e (R.wish (by rw [show Z.ra g = ra0 from e]; exact lx))⟩
/-- the data's reading, at the heap -/
def dTS (Z : Zx K G) (t : DS G) : TS := fun D2 σ H => ∃ f F ad ρ g D, Rel Z f F ad ρ g σ H ∧ t D ρ g ∧ Le Z f (Z.ra g) D D2
theorem DSs.imp {st : List Stmt} {ts : TS} {t : DS G} (h : DSs X Z st ts t) : PSs X st (dTS Z t) := ⟨fun pins s σ H D I q => by
  obtain ⟨f, F, ad, ρ, g, D1, R, q, le⟩ := q
  exact h.ps.run pins s σ H D I (h.sim f F ad ρ g σ H D1 R q D le)⟩
end L3
end
section
namespace L3
open PySem L2
variable {G : Type} {K : PySem.W.Frag} {X : Cx} {Z : Zx K G}
theorem daAll_rg {F : Hp} (a b : Int) : DaAll K F (rgV a b) (rngD a (b - a).toNat) := by
  have : ∀ l : List Nat, DaAll K F (l.map fun i => V.int (a + (i : Nat))) (l.map fun i => PyData.int (a + (i : Nat))) := fun l => by
    induction l with
    | nil => exact .nil
    | cons x r ih => exact .cons (.int _) ih
  exact this _
def sz24 (n : Int) : Bool := match n with
  | .ofNat m => Nat.ble m 16777216
  | .negSucc _ => true
def szK (n : Int) (p : Prop) : Prop := gd (sz24 n) (n ≤ 16777216) p
theorem szK_e {n : Int} {p : Prop} (h : szK n p) : n ≤ 16777216 ∧ p := gd_e (fun e => by
  cases n with
  | ofNat m => have := Nat.le_of_ble_eq_true e; simp only [Int.ofNat_eq_natCast]; omega
  | negSucc m => omega) h
theorem szK_of {n : Int} {p : Prop} (hc : n ≤ 16777216) (hp : p) : szK n p := gd_of hc hp
def dLR1 (a : DT G) : DT G := fun ρ g Q => a ρ g fun r ρ1 g1 => iiU (fun n => rgK n (szK n (Q (.nl (rngD 0 n.toNat)) ρ1 g1))) (rd r ρ1)
theorem e_lr1 {e : Expr} {te : TE} {a : DT G} {p p1 p2 pos : Pos} (hl : X.mg "list" = none) (hr : X.mg "range" = none) (he : DE X Z e te a) (hc : X.calm = true := by rfl) (hg : Gl X "list" := by rfl) (hg2 : Gl X "range" := by rfl)
    (na : starEach [e] X.env = (false, eval e X.env) :: starEach [] X.env := by rfl) (na2 : starEach [.Call (.Name "range" p1) [e] [] p2] X.env = (false, eval (.Call (.Name "range" p1) [e] [] p2) X.env) :: starEach [] X.env := by rfl) :
    DE X Z (.Call (.Name "list" p) [.Call (.Name "range" p1) [e] [] p2] [] pos) (tLstRg (tRg1 te)) (dLR1 a) :=
  ⟨pe_listRg hc hg hl (prg_1 hg2 hr he.pe na) na2, fun f F ad ρ g σ H Q R q P hP => by
    refine he.sim f F ad ρ g σ H _ R q _ fun x H1 q => ?_
    obtain ⟨F1, ad1, ρ1, g1, r1, e1, eg1, R1, v1, q⟩ := q
    obtain ⟨n, en, q⟩ := iiU_of q
    obtain ⟨⟨b1, b2⟩, q⟩ := rgK_e q
    obtain ⟨b3, q⟩ := szK_e q
    refine ⟨n, R1.rInt v1 en, ⟨by decide, by decide, b1, b2, by omega⟩, fun p hp => hP _ _ ((R1.newL hp (daAll_rg 0 n) ?_).mono e1 eg1)⟩
    rw [Int.sub_zero]; exact q⟩
def dLR2 (a b : DT G) : DT G := fun ρ g Q => a ρ g fun r ρ1 g1 => b ρ1 g1 fun r2 ρ2 g2 => ii (fun lo n => rgK lo (rgK n (szK (n - lo) (Q (.nl (rngD lo (n - lo).toNat)) ρ2 g2)))) (rd (st r) ρ2) (rd r2 ρ2)
theorem e_lr2 {e h : Expr} {te th : TE} {a b : DT G} {p p1 p2 pos : Pos} (hl : X.mg "list" = none) (hr : X.mg "range" = none) (he : DE X Z e te a) (hh : DE X Z h th b) (hc : X.calm = true := by rfl) (hg : Gl X "list" := by rfl) (hg2 : Gl X "range" := by rfl)
    (na : starEach [e, h] X.env = (false, eval e X.env) :: starEach [h] X.env := by rfl) (nb : starEach [h] X.env = (false, eval h X.env) :: starEach [] X.env := by rfl) (np : ((backTo p2 (starEach [h] X.env)).any fun y => y.1) = false := by rfl) (na2 : starEach [.Call (.Name "range" p1) [e, h] [] p2] X.env = (false, eval (.Call (.Name "range" p1) [e, h] [] p2) X.env) :: starEach [] X.env := by rfl) :
    DE X Z (.Call (.Name "list" p) [.Call (.Name "range" p1) [e, h] [] p2] [] pos) (tLstRg (tRg2 te th)) (dLR2 a b) :=
  ⟨pe_listRg hc hg hl (prg_2 hg2 hr he.pe hh.pe na nb np) na2, fun f F ad ρ g σ H Q R q P hP => by
    refine he.sim f F ad ρ g σ H _ R q _ fun x H1 q => ?_
    obtain ⟨F1, ad1, ρ1, g1, r1, e1, eg1, R1, v1, q⟩ := q
    obtain ⟨F1', e1', R1', v1'⟩ := R1.hst v1
    refine hh.sim f F1' ad1 ρ1 g1 σ H1 _ R1' q _ fun y H2 q2 => ?_
    obtain ⟨F2, ad2, ρ2, g2, r2, e2, eg2, R2, v2, q⟩ := q2
    obtain ⟨lo, n, el, en, q⟩ := ii_of q
    obtain ⟨⟨c1, c2⟩, q⟩ := rgK_e q
    obtain ⟨⟨b1, b2⟩, q⟩ := rgK_e q
    obtain ⟨b3, q⟩ := szK_e q
    exact ⟨lo, n, R2.rInt (v1'.held e2 eg2) el, R2.rInt v2 en, ⟨c1, c2, b1, b2, by omega⟩, fun p hp => hP _ _ ((R2.newL hp (daAll_rg lo n) q).mono ((e1.trans e1').trans e2) (eg2.trans eg1))⟩⟩
end L3
end
section
namespace L3
open PySem L2
structure DLG where
  da : Addr
  es : List (Key × Addr)
  ls : Addr → List PyData
def DLG.adr (g : DLG) (k : Key) : Option Addr := (g.es.find? fun p => decide (p.1 = k)).map (·.2)
def DLG.look (g : DLG) (k : Key) : Option (List PyData) := (g.adr k).map g.ls
def DLG.fp (g : DLG) : List Addr := g.da :: g.es.map (·.2)
section
variable {K : PySem.W.Frag} {X : Cx} {W : WXH} {U : UX DLG}
/-- one of the resource's cells is written -/
theorem Rel.upR {G : Type} {Z : Zx K G} {f : Fx} {F : Hp} {ad : Nat → Addr} {ρ : En} {g g' : G} {σ : St} {H : Hp} (R : Rel Z f F ad ρ g σ H) {a : Addr} {o : HO} (ha : a ∈ Z.fp g) (hf : Z.fp g' = Z.fp g) (hr : Z.ra g' = Z.ra g) (hR : Z.R g' F (L2.upd H a o)) : Rel Z f F ad ρ g' σ (L2.upd H a o) := by
  have ne : ∀ i s, ρ[i]? = some s → s.own = true → ad i ≠ a := fun i s hi ho e => by
    have q := R.slot i s hi
    cases s with
    | ls ds => exact q.2.1.2.2 (by rw [e]; exact ha)
    | dk ds => exact q.2.1.2.2 (by rw [e]; exact ha)
    | _ => cases ho
  refine ⟨⟨⟨R.fin.base, fun b u e => ?_, fun b u e h0 => ?_, fun b hb => ?_, R.fin.new, hR, by rw [hf]; exact R.fin.fpF, by rw [hf]; exact R.fin.fpB, R.fin.fpo⟩, R.len, fun i s hi => ?_, R.inj⟩, by rw [hr]; exact R.lx⟩
  · rw [upd_ne fun z => by rw [z, R.fin.fpF a ha] at e; cases e]
    exact R.fin.sub b u e
  · rw [upd_ne fun z => ?_]
    · exact R.fin.keep b u e h0
    · rcases R.fin.fpB a ha with h | h
      · exact h0 (by rw [z]; exact h)
      · rw [z, h] at e; cases e
  · by_cases z : b = a
    · rw [z, upd_same]; intro y; cases y
    · rw [upd_ne z]; exact R.fin.keepN b hb
  · have q := R.slot i s hi
    cases s with
    | un => trivial
    | dt d => exact q
    | ls ds => obtain ⟨q1, q2, vs, q3, q4⟩ := q; exact ⟨q1, ⟨q2.1, q2.2.1, by rw [hf]; exact q2.2.2⟩, vs, by rw [upd_ne (ne i _ hi rfl)]; exact q3, q4⟩
    | dk ds => obtain ⟨q1, q2, vs, q3, q4⟩ := q; exact ⟨q1, ⟨q2.1, q2.2.1, by rw [hf]; exact q2.2.2⟩, vs, by rw [upd_ne (ne i _ hi rfl)]; exact q3, q4⟩
    | rs n => exact (show σ[i]? = some (some (.ref (Z.ra g n))) from q).trans (by rw [hr])
    | vv v => exact q
/-- a new object is taken into the resource -/
theorem Rel.inR {G : Type} {Z : Zx K G} {f : Fx} {F : Hp} {ad : Nat → Addr} {ρ : En} {g g' : G} {σ : St} {H : Hp} (R : Rel Z f F ad ρ g σ H) {p : Addr} (n : NewA Z f F ad ρ g p) (h0 : p ∉ f.fp0) (hf : ∀ a, a ∈ Z.fp g' ↔ a ∈ Z.fp g ∨ a = p) (hr : Z.ra g' = Z.ra g) (hR : Z.R g' F H) : Rel Z f F ad ρ g' σ H := by
  refine ⟨⟨⟨R.fin.base, R.fin.sub, R.fin.keep, R.fin.keepN, R.fin.new, hR, fun a ha => ?_, fun a ha => ?_, R.fin.fpo⟩, R.len, fun i s hi => ?_, R.inj⟩, by rw [hr]; exact R.lx⟩
  · rcases (hf a).mp ha with h | rfl
    · exact R.fin.fpF a h
    · exact n.1.1
  · rcases (hf a).mp ha with h | rfl
    · exact R.fin.fpB a h
    · exact .inr n.1.2.1
  · have q := R.slot i s hi
    have nin : ∀ s, ρ[i]? = some s → s.own = true → ad i ∉ Z.fp g → ad i ∉ Z.fp g' := fun s hi ho h1 h2 => by
      rcases (hf _).mp h2 with h | h
      · exact h1 h
      · exact n.2 i s hi ho h
    cases s with
    | un => trivial
    | dt d => exact q
    | ls ds => obtain ⟨q1, q2, q3⟩ := q; exact ⟨q1, ⟨q2.1, q2.2.1, nin _ hi rfl q2.2.2⟩, q3⟩
    | dk ds => obtain ⟨q1, q2, q3⟩ := q; exact ⟨q1, ⟨q2.1, q2.2.1, nin _ hi rfl q2.2.2⟩, q3⟩
    | rs n => exact (show σ[i]? = some (some (.ref (Z.ra g n))) from q).trans (by rw [hr])
    | vv v => exact q
/-- d[k] = a new list, k the name in slot j, not yet there -/
def nlK (r : Rs) (k : List PyData → Prop) : Prop := match r with
  | .nl ds => k ds
  | _ => False
theorem nlK_e {r : Rs} {k : List PyData → Prop} (h : nlK r k) : ∃ ds, r = .nl ds ∧ k ds := by
  cases r <;> first | exact ⟨_, rfl, h⟩ | exact h.elim
end
end L3
namespace L3
open PySem L2
end L3
end
section
namespace L3
open PySem L2
def kCl : Key := .inr "cells"
def kRs : Key := .inr "rest"
def kSd : Key := .inr "seed"
def kTn : Key := .inr "turn"
def kMs : Key := .inr "most"
def mostKv : Option Int → List (Key × V)
  | none => []
  | some m => [(kMs, .int m)]
def jarKv (m : Option Int) (cl : Addr) (r s t : Int) : List (Key × V) := (kCl, .ref cl) :: (kRs, .int r) :: (kSd, .int s) :: (kTn, .int t) :: mostKv m
/-- the jar at ja, its cells at cl -/
def JAt (ja cl : Addr) (m : Option Int) (cells : List Int) (r s t : Int) (H : Hp) : Prop := H ja = some (.dK (jarKv m cl r s t)) ∧ H cl = some (.lst (cells.map V.int)) ∧ ja ≠ cl
/-- what is left as it was but for the jar -/
structure JF (ja cl : Addr) (H H' : Hp) : Prop where
  keep : ∀ b o, H b = some o → b ≠ ja → b ≠ cl → H' b = some o
  keepN : ∀ b, H b ≠ none → H' b ≠ none
section
variable {ja cl : Addr} {m : Option Int} {cells : List Int} {r s t : Int} {H H' H2 : Hp}
theorem JF.refl : JF ja cl H H := ⟨fun _ _ e _ _ => e, fun _ h => h⟩
theorem JF.trans (a : JF ja cl H H') (b : JF ja cl H' H2) : JF ja cl H H2 := ⟨fun x o e n1 n2 => b.keep x o (a.keep x o e n1 n2) n1 n2, fun x h => b.keepN x (a.keepN x h)⟩
theorem JF.same (e : ∀ b o, H b = some o → H' b = some o) : JF ja cl H H' := ⟨fun b o h _ _ => e b o h, fun b h => by
  cases q : H b with
  | none => exact absurd q h
  | some o => rw [e b o q]; intro z; cases z⟩
theorem JF.dict {o : HO} : JF ja cl H (upd H ja o) := ⟨fun b x e n1 _ => by rw [upd_ne n1]; exact e, fun b h => by
  by_cases e : b = ja
  · subst e; rw [upd_same]; intro z; cases z
  · rw [upd_ne e]; exact h⟩
theorem JF.lst {o : HO} : JF ja cl H (upd H cl o) := ⟨fun b x e _ n2 => by rw [upd_ne n2]; exact e, fun b h => by
  by_cases e : b = cl
  · subst e; rw [upd_same]; intro z; cases z
  · rw [upd_ne e]; exact h⟩
theorem JF.new {p : Addr} {o : HO} (h : H p = none) : JF ja cl H (upd H p o) := .same fun b x e => by rw [upd_ne (ne_of_none e h)]; exact e
theorem jar_len (m : Option Int) {cl : Addr} {r s t : Int} : (jarKv m cl r s t).length < sizeLine := by cases m <;> (show (_ : Nat) < _; first | (show 4 < sizeLine; decide) | (show 5 < sizeLine; decide))
theorem JAt.keep (j : JAt ja cl m cells r s t H) (e : ∀ b o, H b = some o → H' b = some o) : JAt ja cl m cells r s t H' := ⟨e _ _ j.1, e _ _ j.2.1, j.2.2⟩
theorem JAt.put {r' s' t' : Int} (j : JAt ja cl m cells r s t H) : JAt ja cl m cells r' s' t' (upd H ja (.dK (jarKv m cl r' s' t'))) := ⟨upd_same, by rw [upd_ne j.2.2.symm]; exact j.2.1, j.2.2⟩
theorem JAt.putS {x : Int} (j : JAt ja cl m cells r s t H) : DPut H ja (.str "seed") (.int x) (upd H ja (.dK (jarKv m cl r x t))) := by cases m <;> (have := DPut.k (k := kSd) (v := .int x) j.1 (jar_len _); exact this)
end
end L3
namespace L3
open PySem
theorem canLay_ints : ∀ ns : List Int, PyData.canLayAll0 (ns.map PyData.int) = true
  | [] => rfl
  | n :: ns => by
    rw [List.map_cons, PyData.canLayAll0, canLay_ints ns]; rfl
theorem depth_ints : ∀ ns : List Int, PyData.depthAll (ns.map PyData.int) = 0
  | [] => rfl
  | n :: ns => by
    rw [List.map_cons, PyData.depthAll, depth_ints ns]; rfl
theorem shaped_ints (ns : List Int) : SeqAt.shaped (.list (ns.map PyData.int)) = true := by
  unfold SeqAt.shaped
  rw [Bool.and_eq_true]
  refine ⟨?_, ?_⟩
  · rw [PyData.canLay0]; exact canLay_ints ns
  · rw [PyData.depth, depth_ints]; rfl
end L3
namespace L3
open PySem L2
theorem cut_ints (ns : List Int) (lo hi : Option Int) : ∃ ms : List Int, cutV (ns.map V.int) lo hi = ms.map V.int := by
  unfold cutV
  rw [← List.map_drop, ← List.map_take]
  exact ⟨_, rfl⟩
end L3
namespace L3
open PySem L2
def lawD (G : Type) : D3 G := { nx := fun _ _ => False, rt := fun r _ => r = .dt (.bool true) }
def lawE (N : List Str) (j : Nat) : En := (List.replicate N.length .un).set j (.rs 0)
theorem law_rel {G : Type} {K : PySem.W.Frag} {Z : Zx K G} {N : List Str} {j : Nat} {g : G} {H : Hp} {σ : St} (hR : Z.R g (fun _ => none) H) (hl : σ.length = N.length) (hj : σ[j]? = some (some (.ref (Z.ra g 0)))) (hU : ∀ c fs ρ g, ¬ Z.U c fs ρ g) : Rel Z ⟨H, fun _ => none, Z.fp g⟩ (fun _ => none) (fun _ => 0) (lawE N j) g σ H := by
  refine ⟨⟨⟨Evl.Ex.refl _, fun b o e => (by cases e), fun b o e _ => e, fun b h => h, fun b o e => (by cases e), hR, fun a _ => rfl, fun a h => .inl h, fun a ha => Z.there hR a ha⟩, by unfold lawE; rw [List.length_set, List.length_replicate, hl], fun i s hi => ?_, fun i i2 s t hi hi2 hs ht => ?_⟩, fun _ _ _ _ _ _ c fs _ _ _ _ z => (hU _ _ _ _ z).elim⟩
  · unfold lawE at hi
    by_cases e : j = i
    · subst e
      have hlt := (List.getElem?_eq_some_iff.mp hi).1
      rw [List.length_set] at hlt
      rw [List.getElem?_set_self hlt] at hi
      cases hi
      exact hj
    · rw [List.getElem?_set_ne e, List.getElem?_replicate] at hi
      split at hi
      · cases hi; trivial
      · cases hi
  · unfold lawE at hi
    by_cases e : j = i
    · subst e
      have hlt := (List.getElem?_eq_some_iff.mp hi).1
      rw [List.length_set] at hlt
      rw [List.getElem?_set_self hlt] at hi
      cases hi
      cases hs
    · rw [List.getElem?_set_ne e, List.getElem?_replicate] at hi
      split at hi
      · cases hi; cases hs
      · cases hi
end L3
end
section
namespace L3
open PySem L2
/-- a statement that the stepper leaves alone -/
structure Hold (p : Prop) : Prop where
  h : p
  t : True
theorem hold {p : Prop} (h : p) : Hold p := ⟨h, trivial⟩
structure Way where
  a : Int
  b : Int
  gs : List Int
structure Book where
  rooms : Int
  purses : Int
  ways : List Way
def Way.d (w : Way) : PyData := .tuple [.int w.a, .int w.b, .tuple (w.gs.map PyData.int)]
def Book.d (b : Book) : PyData := .tuple [.int b.rooms, .int b.purses, .tuple (b.ways.map Way.d)]
structure Way.Ok (w : Way) (rooms purses : Int) : Prop where
  a0 : 0 ≤ w.a
  a1 : w.a < rooms
  b0 : 0 ≤ w.b
  b1 : w.b < rooms
  len : (w.gs.length : Int) = purses
  g : ∀ x ∈ w.gs, -99 ≤ x ∧ x ≤ 99
structure Book.Ok (b : Book) (mr mw : Int) : Prop where
  r0 : 1 ≤ b.rooms
  r1 : b.rooms ≤ mr
  p0 : 1 ≤ b.purses
  p1 : b.purses ≤ 6
  n : (b.ways.length : Int) ≤ mw
  w : ∀ x ∈ b.ways, x.Ok b.rooms b.purses
theorem atI_map {α β : Type} (f : α → β) {xs : List α} {i : Int} {x : α} (h : atI xs i = some x) : atI (xs.map f) i = some (f x) := by
  unfold atI at h ⊢
  rw [List.length_map]
  cases e : ixN xs.length i with
  | none => rw [e] at h; cases h
  | some j =>
    rw [e] at h
    show (xs.map f)[j]? = some (f x)
    rw [List.getElem?_map, show xs[j]? = some x from h]; rfl
theorem atI_at {α : Type} {xs : List α} {i : Int} (h0 : 0 ≤ i) (h1 : i < xs.length) : ∃ (h : i.toNat < xs.length), atI xs i = some xs[i.toNat] := by
  obtain ⟨n, rfl⟩ := Int.eq_ofNat_of_zero_le h0
  have hn : n < xs.length := by omega
  exact ⟨hn, atI_nat (List.getElem?_eq_getElem hn)⟩
theorem ixN_at {n : Nat} {i : Int} (h0 : 0 ≤ i) (h1 : i < n) : ixN n i = some i.toNat := by
  obtain ⟨m, rfl⟩ := Int.eq_ofNat_of_zero_le h0
  unfold ixN
  first
    | (rw [if_pos h0, if_pos h1]; done)
    | (simp; omega)
end L3
namespace L3
open PySem L2
variable {G : Type}
theorem eqv_nil (xs : List PyData) : PyData.eqv (.list xs) (.list []) = xs.isEmpty := by cases xs <;> rfl
theorem shaped_tints (ns : List Int) : SeqAt.shaped (.tuple (ns.map PyData.int)) = true := by
  unfold SeqAt.shaped
  rw [Bool.and_eq_true]
  exact ⟨by rw [PyData.canLay0]; exact canLay_ints ns, by rw [PyData.depth, depth_ints]; rfl⟩
/-- slices -/
def cutL {α : Type} (xs : List α) (lo hi : Option Int) : List α := (xs.drop (HT.sIx xs.length 0 lo)).take (HT.sIx xs.length xs.length hi - HT.sIx xs.length 0 lo)
theorem cutD_map {α : Type} (f : α → PyData) (xs : List α) (lo hi : Option Int) : L3.cutD (xs.map f) lo hi = (cutL xs lo hi).map f := by
  unfold L3.cutD cutL
  rw [List.length_map, List.map_take, List.map_drop]
theorem sIx_int {n d : Nat} {i : Int} (h : 0 ≤ i) : HT.sIx n d (some i) = min i.toNat n := by
  unfold HT.sIx
  simp
  intro h2
  omega
theorem cutL_drop {α : Type} {xs : List α} {i : Int} (h : 0 ≤ i) : cutL xs (some i) none = xs.drop i.toNat := by
  unfold cutL
  rw [sIx_int h, HT.sIx_none]
  rw [List.take_of_length_le (by rw [List.length_drop]; exact Nat.le_refl _)]
  by_cases h2 : i.toNat ≤ xs.length
  · rw [Nat.min_eq_left h2]
  · rw [Nat.min_eq_right (by omega), List.drop_of_length_le (Nat.le_refl _), List.drop_of_length_le (by omega)]
theorem cutL_take {α : Type} {xs : List α} {i : Int} (h : 0 ≤ i) : cutL xs none (some i) = xs.take i.toNat := by
  unfold cutL
  rw [sIx_int h, HT.sIx_none, List.drop_zero, Nat.sub_zero]
  by_cases h2 : i.toNat ≤ xs.length
  · rw [Nat.min_eq_left h2]
  · rw [Nat.min_eq_right (by omega), List.take_of_length_le (Nat.le_refl _), List.take_of_length_le (by omega)]
theorem zipD_map {α β : Type} (f : α → PyData) (g : β → PyData) : ∀ (xs : List α) (ys : List β), zipD (xs.map f) (ys.map g) = (xs.zip ys).map fun p => .tuple [f p.1, g p.2]
  | [], _ => rfl
  | _ :: _, [] => rfl
  | x :: xs, y :: ys => by
    have := zipD_map f g xs ys
    unfold zipD at this ⊢
    rw [List.map_cons, List.map_cons, List.zipWith_cons_cons, this]; rfl
theorem enumD_map {α : Type} (f : α → PyData) (xs : List α) : enumD (xs.map f) = (List.zip (List.range xs.length) xs).map fun p => .tuple [.int (p.1 : Nat), f p.2] := by
  unfold enumD
  rw [List.length_map, List.zipWith_map_right]
  rw [show (List.zip (List.range xs.length) xs).map (fun p => PyData.tuple [.int (p.1 : Nat), f p.2]) = List.zipWith (fun (a : Nat) b => PyData.tuple [.int (a : Nat), f b]) (List.range xs.length) xs from by rw [List.zip, List.map_zipWith]]
theorem rngD_map (lo : Int) (n : Nat) : rngD lo n = (List.range n).map fun i => .int (lo + (i : Nat)) := rfl
/-- a comprehension over a mapped list -/
theorem lc_fmL {α : Type} {L : List α} {h : α → PyData} {tg : DG G} {c : DB G} {e : DT G} {vs : List Nat} {ρ0 ρ1 : En} {g0 : G} {Q : Rs → En → G → Prop} (φ : α → Option PyData) (hw : wipeE ρ1 vs = ρ0 := by rfl)
    (hs : ∀ p ∈ L, ∀ (C1 : PyData → En → G → Prop) (C0 : En → G → Prop), (match φ p with | some d' => C1 d' ρ0 g0 | none => C0 ρ0 g0) →
      tg (h p) ρ0 g0 fun ρ2 g2 => c ρ2 g2 fun b ρ3 g3 => ifb b (e ρ3 g3 fun r ρ4 g4 => fz1 r ρ4 fun d' ρ5 => C1 d' (wipeE ρ5 vs) g4) (C0 (wipeE ρ3 vs) g3))
    (hQ : Q (.nl (L.filterMap φ)) ρ0 g0) (hU : unAll ρ0 vs := by first | exact ⟨rfl, trivial⟩ | exact ⟨rfl, rfl, trivial⟩ | exact ⟨rfl, rfl, rfl, trivial⟩) : LcP (L.map h) tg c e vs ρ1 g0 Q := by
  subst hw
  refine ⟨⟨fun k acc ρ' g' => acc = (L.take k).filterMap φ ∧ ρ' = wipeE ρ1 vs ∧ g' = g0, ⟨rfl, rfl, rfl⟩, fun k d acc ρ' g' hd hI => ?_, fun acc ρ' g' hI => ?_⟩⟩
  · obtain ⟨rfl, rfl, rfl⟩ := hI
    rw [List.getElem?_map] at hd
    obtain ⟨p, hp, rfl⟩ := Option.map_eq_some_iff.mp hd
    refine hs p (List.mem_of_getElem? hp) (fun d' ρ' g'' => List.filterMap φ (L.take k) ++ [d'] = (L.take (k + 1)).filterMap φ ∧ ρ' = wipeE ρ1 vs ∧ g'' = g') (fun ρ' g'' => List.filterMap φ (L.take k) = (L.take (k + 1)).filterMap φ ∧ ρ' = wipeE ρ1 vs ∧ g'' = g') ?_
    rw [List.take_add_one, hp]
    cases h : φ p with
    | none => simp [h]
    | some d' => simp [h]
  · obtain ⟨rfl, rfl, rfl⟩ := hI
    rw [List.length_map, List.take_length]
    exact ⟨hU, hQ⟩
theorem lc_mapL {α : Type} {L : List α} {h : α → PyData} {tg : DG G} {c : DB G} {e : DT G} {vs : List Nat} {ρ0 ρ1 : En} {g0 : G} {Q : Rs → En → G → Prop} (φ : α → PyData) (hw : wipeE ρ1 vs = ρ0 := by rfl)
    (hs : ∀ p ∈ L, ∀ (C1 : PyData → En → G → Prop) (C0 : En → G → Prop), C1 (φ p) ρ0 g0 →
      tg (h p) ρ0 g0 fun ρ2 g2 => c ρ2 g2 fun b ρ3 g3 => ifb b (e ρ3 g3 fun r ρ4 g4 => fz1 r ρ4 fun d' ρ5 => C1 d' (wipeE ρ5 vs) g4) (C0 (wipeE ρ3 vs) g3))
    (hQ : Q (.nl (L.map φ)) ρ0 g0) (hU : unAll ρ0 vs := by first | exact ⟨rfl, trivial⟩ | exact ⟨rfl, rfl, trivial⟩ | exact ⟨rfl, rfl, rfl, trivial⟩) : LcP (L.map h) tg c e vs ρ1 g0 Q :=
  lc_fmL (fun d => some (φ d)) hw hs (by rw [show List.filterMap (fun d => some (φ d)) L = L.map φ from by rw [← List.filterMap_eq_map]; rfl]; exact hQ) hU
theorem fm_if {α β : Type} (p : α → Bool) (φ : α → β) : ∀ L : List α, (L.filterMap fun x => if p x = true then some (φ x) else none) = (L.filter p).map φ
  | [] => rfl
  | x :: r => by
    have ih := fm_if p φ r
    cases e : p x with
    | true => simp [e, ih]
    | false => simp [e, ih]
/-- [h x for x in L if p x] -/
theorem lc_filL {α : Type} {L : List α} {h : α → PyData} {tg : DG G} {c : DB G} {e : DT G} {vs : List Nat} {ρ0 ρ1 : En} {g0 : G} {Q : Rs → En → G → Prop} (p : α → Bool) (φ : α → PyData) (hw : wipeE ρ1 vs = ρ0 := by rfl)
    (hs : ∀ x ∈ L, ∀ (C1 : PyData → En → G → Prop) (C0 : En → G → Prop), (p x = true → C1 (φ x) ρ0 g0) → (p x = false → C0 ρ0 g0) →
      tg (h x) ρ0 g0 fun ρ2 g2 => c ρ2 g2 fun b ρ3 g3 => ifb b (e ρ3 g3 fun r ρ4 g4 => fz1 r ρ4 fun d' ρ5 => C1 d' (wipeE ρ5 vs) g4) (C0 (wipeE ρ3 vs) g3))
    (hQ : Q (.nl ((L.filter p).map φ)) ρ0 g0) (hU : unAll ρ0 vs := by first | exact ⟨rfl, trivial⟩ | exact ⟨rfl, rfl, trivial⟩ | exact ⟨rfl, rfl, rfl, trivial⟩) : LcP (L.map h) tg c e vs ρ1 g0 Q :=
  lc_fmL (fun x => if p x = true then some (φ x) else none) hw (fun x hx C1 C0 q => hs x hx C1 C0 (fun e => by rw [if_pos e] at q; exact q) (fun e => by rw [if_neg (by rw [e]; exact Bool.false_ne_true)] at q; exact q))
    (by rw [fm_if]; exact hQ) hU
end L3
namespace L3
open PySem L2
theorem canLayAll_of {ds : List PyData} (h : ∀ d ∈ ds, d.canLay0 = true) : PyData.canLayAll0 ds = true := by
  induction ds with
  | nil => rfl
  | cons d r ih => rw [PyData.canLayAll0, h d List.mem_cons_self, ih fun x hx => h x (List.mem_cons_of_mem _ hx)]; rfl
theorem depthAll_of {ds : List PyData} {n : Nat} (h : ∀ d ∈ ds, d.depth ≤ n) : PyData.depthAll ds ≤ n := by
  induction ds with
  | nil => exact Nat.zero_le _
  | cons d r ih =>
    rw [PyData.depthAll]
    exact Nat.max_le.mpr ⟨h d List.mem_cons_self, ih fun x hx => h x (List.mem_cons_of_mem _ hx)⟩
theorem Way.lay (w : Way) : w.d.canLay0 = true ∧ w.d.depth ≤ 2 := by
  unfold Way.d
  refine ⟨?_, ?_⟩
  · rw [PyData.canLay0]
    simp [PyData.canLayAll0, PyData.canLay0, canLay_ints]
  · rw [PyData.depth]
    simp [PyData.depthAll, PyData.depth, depth_ints]
theorem shaped_ways (ws : List Way) : SeqAt.shaped (.tuple (ws.map Way.d)) = true := by
  unfold SeqAt.shaped
  rw [Bool.and_eq_true]
  refine ⟨?_, ?_⟩
  · rw [PyData.canLay0]
    refine canLayAll_of fun d hd => ?_
    obtain ⟨w, _, rfl⟩ := List.mem_map.mp hd
    exact w.lay.1
  · rw [PyData.depth]
    have : PyData.depthAll (ws.map Way.d) ≤ 2 := depthAll_of fun d hd => by
      obtain ⟨w, _, rfl⟩ := List.mem_map.mp hd
      exact w.lay.2
    exact decide_eq_true (by omega)
end L3
namespace L3
open PySem
end L3
namespace L3
open PySem
theorem sh_of {d e : PyData} {p : Prop} (h1 : SeqAt.shaped d = true) (h2 : SeqAt.shaped e = true) (hp : p) : SeqAt.shaped d = true ∧ SeqAt.shaped e = true ∧ p := ⟨h1, h2, hp⟩
end L3
end
section
namespace L3
open PySem L2
theorem rep_flat {α : Type} (x : α) : ∀ n : Nat, (List.replicate n [x]).flatten = List.replicate n x
  | 0 => rfl
  | n + 1 => by rw [List.replicate_succ, List.flatten_cons, rep_flat x n, List.replicate_succ]; rfl
def wAt (B : Book) (k : Int) : Way := B.ways.getD k.toNat ⟨0, 0, []⟩
def inW (B : Book) (k : Int) : Bool := decide (0 ≤ k) && decide (k < (B.ways.length : Int))
theorem wAt_at {B : Book} {k : Int} (h : inW B k = true) : atI (B.ways.map Way.d) k = some (wAt B k).d := by
  simp [inW] at h
  obtain ⟨hl, e⟩ := atI_at (xs := B.ways) h.1 h.2
  rw [atI_map Way.d e]
  unfold wAt
  rw [List.getD_eq_getElem?_getD, List.getElem?_eq_getElem hl]; rfl
/-- the ways of a list can be gone one behind the other -/
def chainW (B : Book) : List Int → Bool
  | [] => true
  | [k] => inW B k
  | k :: l :: r => inW B k && decide ((wAt B k).b = (wAt B l).a) && chainW B (l :: r)
def optD : Option Int → PyData
  | some h => .int h
  | none => .none
theorem ints_of_get {acc : List PyData} {p : Int → Prop} (h : ∀ (k : Nat) (d : PyData), acc[k]? = some d → ∃ z, d = .int z ∧ p z) : ∃ zs : List Int, acc = zs.map PyData.int ∧ ∀ z ∈ zs, p z := by
  induction acc with
  | nil => exact ⟨[], rfl, fun z hz => by cases hz⟩
  | cons d r ih =>
    obtain ⟨z, rfl, hz⟩ := h 0 d rfl
    obtain ⟨zs, rfl, hs⟩ := ih fun k d e => h (k + 1) d (by simpa using e)
    exact ⟨z :: zs, rfl, fun x hx => by
      rcases List.mem_cons.mp hx with rfl | hx
      · exact hz
      · exact hs x hx⟩
def addL (xs ys : List Int) : List Int := List.zipWith (· + ·) xs ys
def gainL (B : Book) (ns : List Int) : List Int := ns.foldl (fun acc k => addL acc (wAt B k).gs) (List.replicate B.purses.toNat 0)
theorem gainL_push (B : Book) (ns : List Int) (k : Int) : gainL B (ns ++ [k]) = addL (gainL B ns) (wAt B k).gs := by
  unfold gainL
  rw [List.foldl_append]; rfl
theorem gainL_len {B : Book} {ns : List Int} (h : ∀ k ∈ ns, ((wAt B k).gs.length : Int) = B.purses) : (gainL B ns).length = B.purses.toNat := by
  have key : ∀ (ns : List Int) (acc : List Int), acc.length = B.purses.toNat → (∀ k ∈ ns, ((wAt B k).gs.length : Int) = B.purses) → (ns.foldl (fun acc k => addL acc (wAt B k).gs) acc).length = B.purses.toNat := by
    intro ns
    induction ns with
    | nil => intro acc h _; exact h
    | cons k r ih =>
      intro acc ha hk
      refine ih _ ?_ fun x hx => hk x (List.mem_cons_of_mem _ hx)
      have := hk k List.mem_cons_self
      show (List.zipWith (· + ·) acc (wAt B k).gs).length = _
      rw [List.length_zipWith]
      omega
  exact key ns _ (List.length_replicate ..) h
def colSum (B : Book) (ns : List Int) (p : Nat) : Int := (ns.map fun k => (wAt B k).gs.getD p 0).sum
theorem gainL_col {B : Book} : ∀ {ns : List Int}, (∀ k ∈ ns, ((wAt B k).gs.length : Int) = B.purses) → ∀ p, p < B.purses.toNat → (gainL B ns)[p]? = some (colSum B ns p) := by
  intro ns
  have key : ∀ (ns : List Int) (acc : List Int), acc.length = B.purses.toNat → (∀ k ∈ ns, ((wAt B k).gs.length : Int) = B.purses) → ∀ p, p < B.purses.toNat → (ns.foldl (fun acc k => addL acc (wAt B k).gs) acc)[p]? = some (acc.getD p 0 + colSum B ns p) := by
    intro ns
    induction ns with
    | nil =>
      intro acc ha _ p hp
      have hlt : p < acc.length := by omega
      show acc[p]? = _
      rw [List.getElem?_eq_getElem hlt, List.getD_eq_getElem?_getD, List.getElem?_eq_getElem hlt]
      show some acc[p] = some (acc[p] + 0)
      rw [Int.add_zero]
    | cons k r ih =>
      intro acc ha hk p hp
      have hg := hk k List.mem_cons_self
      have hlen : (addL acc (wAt B k).gs).length = B.purses.toNat := by
        show (List.zipWith (· + ·) acc (wAt B k).gs).length = _
        rw [List.length_zipWith]
        omega
      have h1 : p < acc.length := by omega
      have h2 : p < (wAt B k).gs.length := by omega
      have e : (addL acc (wAt B k).gs).getD p 0 = acc.getD p 0 + (wAt B k).gs.getD p 0 := by
        simp only [List.getD_eq_getElem?_getD, addL, List.getElem?_zipWith, List.getElem?_eq_getElem h1, List.getElem?_eq_getElem h2]
        rfl
      show (List.foldl _ (addL acc (wAt B k).gs) r)[p]? = _
      rw [ih _ hlen (fun x hx => hk x (List.mem_cons_of_mem _ hx)) p hp, e]
      unfold colSum
      rw [List.map_cons, List.sum_cons, Int.add_assoc]
  intro h p hp
  have := key ns (List.replicate B.purses.toNat 0) (List.length_replicate ..) h p hp
  rw [show (List.replicate B.purses.toNat (0 : Int)).getD p 0 = 0 from by simp [List.getD_eq_getElem?_getD, List.getElem?_replicate]; split <;> rfl, Int.zero_add] at this
  exact this
theorem wAt_mem {B : Book} {k : Int} (h : inW B k = true) : wAt B k ∈ B.ways := by
  simp [inW] at h
  unfold wAt
  rw [List.getD_eq_getElem?_getD, List.getElem?_eq_getElem (show k.toNat < B.ways.length by omega)]
  exact List.getElem_mem _
theorem atI_getD {xs : List Int} {k : Nat} (h : k < xs.length) : atI (xs.map PyData.int) (k : Nat) = some (.int (xs.getD k 0)) := by
  refine atI_nat ?_
  rw [List.getElem?_map, List.getElem?_eq_getElem h, List.getD_eq_getElem?_getD, List.getElem?_eq_getElem h]; rfl
def minI (a b : Int) : Int := if b < a then b else a
def minL (xs ys : List Int) : List Int := List.zipWith minI xs ys
/-- where a walk stands and the least numbers on the way -/
def stepN (B : Book) (s : List Int × List Int) (k : Int) : List Int × List Int := (addL s.1 (wAt B k).gs, minL s.2 (addL s.1 (wAt B k).gs))
def zeros (B : Book) : List Int := List.replicate B.purses.toNat 0
def needS (B : Book) (ns : List Int) : List Int × List Int := ns.foldl (stepN B) (zeros B, zeros B)
def needL (B : Book) (ns : List Int) : List Int := (needS B ns).2.map fun x => 0 - x
theorem addL_len {xs ys : List Int} {n : Nat} (h1 : xs.length = n) (h2 : ys.length = n) : (addL xs ys).length = n := by
  show (List.zipWith _ xs ys).length = n
  rw [List.length_zipWith]; omega
theorem minL_len {xs ys : List Int} {n : Nat} (h1 : xs.length = n) (h2 : ys.length = n) : (minL xs ys).length = n := by
  show (List.zipWith _ xs ys).length = n
  rw [List.length_zipWith]; omega
theorem needS_len {B : Book} {ns : List Int} (h : ∀ k ∈ ns, ((wAt B k).gs.length : Int) = B.purses) : (needS B ns).1.length = B.purses.toNat ∧ (needS B ns).2.length = B.purses.toNat := by
  have key : ∀ (ns : List Int) (s : List Int × List Int), s.1.length = B.purses.toNat ∧ s.2.length = B.purses.toNat → (∀ k ∈ ns, ((wAt B k).gs.length : Int) = B.purses) → (ns.foldl (stepN B) s).1.length = B.purses.toNat ∧ (ns.foldl (stepN B) s).2.length = B.purses.toNat := by
    intro ns
    induction ns with
    | nil => intro s h _; exact h
    | cons k r ih =>
      intro s hs hk
      have hg := hk k List.mem_cons_self
      have h1 : (addL s.1 (wAt B k).gs).length = B.purses.toNat := addL_len hs.1 (by omega)
      exact ih _ ⟨h1, minL_len hs.2 h1⟩ fun x hx => hk x (List.mem_cons_of_mem _ hx)
  exact key ns _ ⟨List.length_replicate .., List.length_replicate ..⟩ h
end L3
end
section
namespace L3
open PySem L2
/-- what the way k puts to the purse p -/
def gC (B : Book) (p : Nat) (k : Int) : Int := (wAt B k).gs.getD p 0
def mxI (a : Int) : Int := if a > 0 then a else 0
theorem mxI_nn (a : Int) : 0 ≤ mxI a := by unfold mxI; split <;> omega
/-- what a purse needs -/
def dueC (B : Book) (p : Nat) : List Int → Int
  | [] => 0
  | k :: r => mxI (dueC B p r - gC B p k)
theorem dueC_nn (B : Book) (p : Nat) : ∀ ns : List Int, 0 ≤ dueC B p ns
  | [] => Int.le_refl 0
  | _ :: _ => mxI_nn _
def dueL (B : Book) (ns : List Int) : List Int := (List.range B.purses.toNat).map fun p => dueC B p ns
def GsOk (B : Book) (ns : List Int) : Prop := ∀ k ∈ ns, ((wAt B k).gs.length : Int) = B.purses
theorem addL_getD {xs ys : List Int} {p : Nat} (h1 : p < xs.length) (h2 : p < ys.length) : (addL xs ys).getD p 0 = xs.getD p 0 + ys.getD p 0 := by
  simp only [List.getD_eq_getElem?_getD, addL, List.getElem?_zipWith, List.getElem?_eq_getElem h1, List.getElem?_eq_getElem h2]
  rfl
theorem minL_getD {xs ys : List Int} {p : Nat} (h1 : p < xs.length) (h2 : p < ys.length) : (minL xs ys).getD p 0 = minI (xs.getD p 0) (ys.getD p 0) := by
  simp only [List.getD_eq_getElem?_getD, minL, List.getElem?_zipWith, List.getElem?_eq_getElem h1, List.getElem?_eq_getElem h2]
  rfl
theorem ext_getD {xs ys : List Int} (hl : xs.length = ys.length) (h : ∀ p, p < xs.length → xs.getD p 0 = ys.getD p 0) : xs = ys := by
  apply List.ext_getElem hl
  intro p h1 h2
  have := h p h1
  simpa [List.getD_eq_getElem?_getD, List.getElem?_eq_getElem h1, List.getElem?_eq_getElem h2] using this
theorem needS_low {B : Book} : ∀ (ns : List Int) (s : List Int × List Int), s.1.length = B.purses.toNat → s.2.length = B.purses.toNat → GsOk B ns → ∀ p, p < B.purses.toNat → s.2.getD p 0 ≤ s.1.getD p 0 →
    (ns.foldl (stepN B) s).2.getD p 0 = minI (s.2.getD p 0) (s.1.getD p 0 - dueC B p ns)
  | [], s, _, _, _, p, _, h => by
    show s.2.getD p 0 = _
    unfold dueC minI
    split <;> omega
  | k :: r, s, h1, h2, hg, p, hp, h => by
    have hk := hg k List.mem_cons_self
    have l1 : (addL s.1 (wAt B k).gs).length = B.purses.toNat := addL_len h1 (by omega)
    have e1 : (addL s.1 (wAt B k).gs).getD p 0 = s.1.getD p 0 + gC B p k := addL_getD (by omega) (by omega)
    have e2 : (minL s.2 (addL s.1 (wAt B k).gs)).getD p 0 = minI (s.2.getD p 0) (s.1.getD p 0 + gC B p k) := by rw [minL_getD (by omega) (by omega), e1]
    show (r.foldl (stepN B) (stepN B s k)).2.getD p 0 = _
    rw [needS_low r (stepN B s k) l1 (minL_len h2 l1) (fun x hx => hg x (List.mem_cons_of_mem _ hx)) p hp (by
      show (minL s.2 (addL s.1 (wAt B k).gs)).getD p 0 ≤ (addL s.1 (wAt B k).gs).getD p 0
      rw [e1, e2]; unfold minI; split <;> omega)]
    show minI ((minL s.2 (addL s.1 (wAt B k).gs)).getD p 0) ((addL s.1 (wAt B k).gs).getD p 0 - dueC B p r) = _
    rw [e1, e2]
    have := dueC_nn B p r
    show _ = minI _ (_ - mxI (dueC B p r - gC B p k))
    unfold minI mxI
    split <;> split <;> split <;> split <;> omega
theorem zeros_getD (B : Book) (p : Nat) : (zeros B).getD p 0 = 0 := by
  unfold zeros
  rw [List.getD_eq_getElem?_getD, List.getElem?_replicate]
  split <;> rfl
theorem needL_due {B : Book} {ns : List Int} (hg : GsOk B ns) : needL B ns = dueL B ns := by
  have hl := needS_len hg
  refine ext_getD (by rw [needL, dueL, List.length_map, List.length_map, List.length_range]; exact hl.2) fun p hp => ?_
  have hp : p < B.purses.toNat := by rw [needL, List.length_map] at hp; omega
  have e := needS_low ns (zeros B, zeros B) (List.length_replicate ..) (List.length_replicate ..) hg p hp (Int.le_refl _)
  have e : (needS B ns).2.getD p 0 = minI ((zeros B).getD p 0) ((zeros B).getD p 0 - dueC B p ns) := e
  rw [zeros_getD] at e
  have h1 : (needL B ns).getD p 0 = 0 - (needS B ns).2.getD p 0 := by
    rw [needL, List.getD_eq_getElem?_getD, List.getElem?_map, List.getD_eq_getElem?_getD, List.getElem?_eq_getElem (by omega)]; rfl
  have h2 : (dueL B ns).getD p 0 = dueC B p ns := by
    rw [dueL, List.getD_eq_getElem?_getD, List.getElem?_map, List.getElem?_range hp]; rfl
  rw [h1, h2, e]
  have := dueC_nn B p ns
  unfold minI
  split <;> omega
theorem dueL_len (B : Book) (ns : List Int) : (dueL B ns).length = B.purses.toNat := by rw [dueL, List.length_map, List.length_range]
theorem dueL_getD {B : Book} {ns : List Int} {p : Nat} (hp : p < B.purses.toNat) : (dueL B ns).getD p 0 = dueC B p ns := by
  rw [dueL, List.getD_eq_getElem?_getD, List.getElem?_map, List.getElem?_range hp]; rfl
end L3
end
section
namespace L3
open PySem L2
inductive Rch (B : Book) (ws : List Int) : Int → Int → Prop
  | refl (a : Int) : Rch B ws a a
  | step {a k : Int} : Rch B ws a (wAt B k).a → k ∈ ws → Rch B ws a (wAt B k).b
theorem Rch.trans {B : Book} {ws : List Int} {a b c : Int} (h : Rch B ws a b) (k : Rch B ws b c) : Rch B ws a c := by
  induction k with
  | refl => exact h
  | step _ m ih => exact .step ih m
theorem Rch.one {B : Book} {ws : List Int} {k : Int} (h : k ∈ ws) : Rch B ws (wAt B k).a (wAt B k).b := .step (.refl _) h
theorem Rch.mono {B : Book} {ws vs : List Int} {a b : Int} (h : Rch B ws a b) (s : ∀ k ∈ ws, k ∈ vs) : Rch B vs a b := by
  induction h with
  | refl => exact .refl _
  | step _ m ih => exact .step ih (s _ m)
noncomputable def rch (B : Book) (ws : List Int) (a b : Int) : Bool := @decide (Rch B ws a b) (Classical.propDecidable _)
theorem rch_iff {B : Book} {ws : List Int} {a b : Int} : rch B ws a b = true ↔ Rch B ws a b := by
  unfold rch
  exact @decide_eq_true_iff (Rch B ws a b) (Classical.propDecidable _)
/-- a closed set of rooms with a in it holds all that is met -/
theorem rch_closed {B : Book} {ws : List Int} {a : Int} {ms : List Int} (ha : a ∈ ms) (hc : ∀ k ∈ ws, (wAt B k).a ∈ ms → (wAt B k).b ∈ ms) {x : Int} (h : Rch B ws a x) : x ∈ ms := by
  induction h with
  | refl => exact ha
  | step _ m ih => exact hc _ m ih
/-- no more than n numbers below n -/
theorem nodup_len : ∀ (n : Nat) {ms : List Int}, ms.Nodup → (∀ x ∈ ms, 0 ≤ x ∧ x < n) → ms.length ≤ n
  | 0, ms, _, h => by
    cases ms with
    | nil => exact Nat.le_refl _
    | cons x r => have := h x List.mem_cons_self; omega
  | n + 1, ms, nd, h => by
    by_cases e : (n : Int) ∈ ms
    · have nd2 := nd.erase (n : Int)
      have := nodup_len n nd2 fun x hx => by
        have h1 := h x (List.mem_of_mem_erase hx)
        have h2 : x ≠ (n : Int) := fun q => by
          subst q
          exact (List.Nodup.mem_erase_iff nd).mp hx |>.1 rfl
        omega
      rw [List.length_erase_of_mem e] at this
      omega
    · have := nodup_len n nd fun x hx => by
        have h1 := h x hx
        have h2 : x ≠ (n : Int) := fun q => e (by rw [← q]; exact hx)
        omega
      omega
def boolD (ms : List Int) : List (PyData × PyData) := ms.map fun r => (.int r, .bool true)
theorem lookD_bool (ms : List Int) (x : Int) : lookD (boolD ms) (.int x) = if x ∈ ms then some (.bool true) else none := by
  induction ms with
  | nil => rfl
  | cons m r ih =>
    show lookD ((.int m, .bool true) :: boolD r) (.int x) = _
    rw [lookD, show kq (PyData.int m, PyData.bool true).1 (.int x) = decide (m = x) from rfl]
    by_cases e : m = x
    · subst e
      simp
    · rw [decide_eq_false e]
      show lookD (boolD r) (.int x) = _
      rw [ih]
      simp [show ¬ x = m from fun q => e q.symm]
theorem putD_bool {ms : List Int} {x : Int} (h : x ∉ ms) : putD (boolD ms) (.int x) (.bool true) = boolD (ms ++ [x]) := by
  induction ms with
  | nil => rfl
  | cons m r ih =>
    show putD ((.int m, .bool true) :: boolD r) (.int x) (.bool true) = _
    rw [putD, show kq (PyData.int m, PyData.bool true).1 (.int x) = decide (m = x) from rfl, decide_eq_false fun q => h (by rw [q]; exact List.mem_cons_self)]
    show (PyData.int m, PyData.bool true) :: putD (boolD r) (.int x) (.bool true) = _
    rw [ih fun q => h (List.mem_cons_of_mem _ q)]; rfl
theorem ndD_bool {ms : List Int} (h : ms.Nodup) : ndD (boolD ms) = true := by
  induction ms with
  | nil => rfl
  | cons m r ih =>
    rw [List.nodup_cons] at h
    show ndD ((.int m, .bool true) :: boolD r) = true
    rw [ndD, ih h.2, lookD_bool, if_neg h.1]; rfl
noncomputable def onR (B : Book) (ws : List Int) (k : Int) : Bool := rch B ws (wAt B k).b (wAt B k).a
noncomputable def inRg (B : Book) (ws : List Int) (k j : Int) : Bool := rch B ws (wAt B k).b (wAt B j).a && rch B ws (wAt B j).b (wAt B k).a
noncomputable def ringOf (B : Book) (ws : List Int) (k : Int) : List Int := ws.filter (inRg B ws k)
noncomputable def ringStep (B : Book) (ws : List Int) (acc : List (List Int)) (k : Int) : List (List Int) := if onR B ws k = true ∧ ringOf B ws k ∉ acc then acc ++ [ringOf B ws k] else acc
noncomputable def ringsL (B : Book) (ws : List Int) : List (List Int) := ws.foldl (ringStep B ws) []
/-- what stands in the list of rings that are told so far -/
structure RingInv (B : Book) (ws done : List Int) (acc : List (List Int)) : Prop where
  sub : ∀ r ∈ acc, ∃ k ∈ done, onR B ws k = true ∧ r = ringOf B ws k
  all : ∀ k ∈ done, onR B ws k = true → ringOf B ws k ∈ acc
theorem RingInv.step {B : Book} {ws done : List Int} {acc : List (List Int)} {k : Int} (h : RingInv B ws done acc) : RingInv B ws (done ++ [k]) (ringStep B ws acc k) := by
  unfold ringStep
  split
  · rename_i q
    refine ⟨fun r hr => ?_, fun x hx ho => ?_⟩
    · rcases List.mem_append.mp hr with hr | hr
      · obtain ⟨y, hy, z⟩ := h.sub r hr
        exact ⟨y, List.mem_append_left _ hy, z⟩
      · rw [List.mem_singleton.mp hr]
        exact ⟨k, by simp, q.1, rfl⟩
    · rcases List.mem_append.mp hx with hx | hx
      · exact List.mem_append_left _ (h.all x hx ho)
      · rw [List.mem_singleton.mp hx]; simp
  · rename_i q
    refine ⟨fun r hr => ?_, fun x hx ho => ?_⟩
    · obtain ⟨y, hy, z⟩ := h.sub r hr
      exact ⟨y, List.mem_append_left _ hy, z⟩
    · rcases List.mem_append.mp hx with hx | hx
      · exact h.all x hx ho
      · rw [List.mem_singleton.mp hx] at ho ⊢
        exact Classical.byContradiction fun z => q ⟨ho, z⟩
end L3
namespace L3
open PySem L2
/-- what stands while rooms are being met -/
structure MetI (B : Book) (ns : List Int) (room : Int) (ms wl : List Int) (cl : Int → Int → Prop) : Prop where
  mem : room ∈ ms
  sub : ∀ x ∈ wl, x ∈ ms
  rc : ∀ x ∈ ms, Rch B ns room x
  cl : ∀ x ∈ ms, x ∉ wl → ∀ k ∈ ns, (wAt B k).a = x → cl x k → (wAt B k).b ∈ ms
  nd : ms.Nodup
  rg : ∀ x ∈ ms, 0 ≤ x ∧ x < B.rooms
theorem MetI.len {B : Book} {ns ms wl : List Int} {room : Int} {cl : Int → Int → Prop} (h : MetI B ns room ms wl cl) : ms.length ≤ B.rooms.toNat :=
  nodup_len _ h.nd fun x hx => by have := h.rg x hx; omega
theorem MetI.fin {B : Book} {ns ms : List Int} {room : Int} (h : MetI B ns room ms [] fun _ _ => True) (x : Int) : x ∈ ms ↔ Rch B ns room x :=
  ⟨h.rc x, fun q => rch_closed h.mem (fun k hk hm => h.cl _ hm (by simp) k hk rfl trivial) q⟩
theorem MetI.push {B : Book} {ns ms wl : List Int} {room k : Int} {cl cl2 : Int → Int → Prop} (h : MetI B ns room ms wl cl) (hk : k ∈ ns) (ha : (wAt B k).a ∈ ms) (hb : (wAt B k).b ∉ ms) (hr : 0 ≤ (wAt B k).b ∧ (wAt B k).b < B.rooms) (hc : ∀ x j, cl2 x j → cl x j ∨ (wAt B j).b = (wAt B k).b) : MetI B ns room (ms ++ [(wAt B k).b]) (wl ++ [(wAt B k).b]) cl2 where
  mem := List.mem_append_left _ h.mem
  sub := fun x hx => by
    rcases List.mem_append.mp hx with q | q
    · exact List.mem_append_left _ (h.sub x q)
    · exact List.mem_append_right _ q
  rc := fun x hx => by
    rcases List.mem_append.mp hx with q | q
    · exact h.rc x q
    · rw [List.mem_singleton.mp q]
      exact .step (h.rc _ ha) hk
  cl := fun x hx hw j hj e c => by
    have hw1 : x ∉ wl := fun q => hw (List.mem_append_left _ q)
    have hx1 : x ∈ ms := by
      rcases List.mem_append.mp hx with q | q
      · exact q
      · exact absurd (List.mem_append_right _ q) hw
    rcases hc x j c with c | c
    · exact List.mem_append_left _ (h.cl x hx1 hw1 j hj e c)
    · rw [c]; simp
  nd := by
    rw [List.nodup_append]
    refine ⟨h.nd, by simp, fun a ha b hb' => ?_⟩
    rw [List.mem_singleton.mp hb']
    exact fun q => hb (by rw [← q]; exact ha)
  rg := fun x hx => by
    rcases List.mem_append.mp hx with q | q
    · exact h.rg x q
    · rw [List.mem_singleton.mp q]; exact hr
theorem MetI.weak {B : Book} {ns ms wl : List Int} {room : Int} {cl cl2 : Int → Int → Prop} (h : MetI B ns room ms wl cl) (hc : ∀ x ∈ ms, ∀ k ∈ ns, (wAt B k).a = x → cl2 x k → cl x k ∨ (wAt B k).b ∈ ms) : MetI B ns room ms wl cl2 :=
  ⟨h.mem, h.sub, h.rc, fun x hx hw k hk e c => by
    rcases hc x hx k hk e c with c | c
    · exact h.cl x hx hw k hk e c
    · exact c, h.nd, h.rg⟩
/-- the last of the waiting is taken -/
theorem MetI.pop {B : Book} {ns ms wl : List Int} {room here : Int} (h : MetI B ns room ms (wl ++ [here]) fun _ _ => True) : MetI B ns room ms wl fun x _ => x ≠ here :=
  ⟨h.mem, fun x hx => h.sub x (List.mem_append_left _ hx), h.rc, fun x hx hw k hk e c => h.cl x hx (fun q => by
    rcases List.mem_append.mp q with q | q
    · exact hw q
    · exact c (List.mem_singleton.mp q)) k hk e trivial, h.nd, h.rg⟩
theorem pop_last {wl : List Int} (h : wl ≠ []) : ∃ (l : List Int) (x : Int), wl = l ++ [x] ∧ (wl.map PyData.int)[(wl.map PyData.int).length - 1]? = some (.int x) ∧ (wl.map PyData.int).dropLast = l.map PyData.int := by
  refine ⟨wl.dropLast, wl.getLast h, (List.dropLast_concat_getLast h).symm, ?_, by rw [List.map_dropLast]⟩
  rw [List.length_map, List.getElem?_map, ← List.getLast?_eq_getElem?, List.getLast?_eq_some_getLast h]
  rfl
end L3
namespace L3
open PySem L2
def upM (m : Nat → List Int) (k : Nat) (ms : List Int) : Nat → List Int := fun i => if i = k then ms else m i
end L3
namespace L3
end L3
namespace L3
open PySem L2
def intsLD (r : List Int) : PyData := .list (r.map PyData.int)
structure SetOk (B : Book) (ns : List Int) : Prop where
  w : ∀ k ∈ ns, inW B k = true ∧ (0 ≤ (wAt B k).a ∧ (wAt B k).a < B.rooms) ∧ 0 ≤ (wAt B k).b ∧ (wAt B k).b < B.rooms
  n : ns.length ≤ 100000
  r0 : 0 ≤ B.rooms
  r1 : B.rooms ≤ 100000
  l : B.ways.length ≤ 100000
theorem flat_ints (ns : List Int) : (ns.map PyData.int).all flatD = true := by
  rw [List.all_map, List.all_eq_true]
  intro x _
  rfl
theorem inD_ints (x : Int) (ns : List Int) : inD (.int x) (ns.map PyData.int) = decide (x ∈ ns) := by
  unfold inD
  rw [List.any_map, Bool.eq_iff_iff, List.any_eq_true, decide_eq_true_iff]
  constructor
  · rintro ⟨y, hy, e⟩
    have e2 : eqV (V.int y) (V.int x) = true := e
    have : y = x := by simpa [eqV] using e2
    rw [← this]; exact hy
  · intro h
    exact ⟨x, h, by show eqV (V.int x) (V.int x) = true; simp [eqV]⟩
/-- the lists of rooms met, as the resource holds them -/
def LK (m : Nat → List Int) (n : Nat) (g : DLG) : Prop := ∀ j, g.look j = match j with
  | .inl x => if 0 ≤ x ∧ x < n then some ((m x.toNat).map PyData.int) else none
  | .inr _ => none
theorem LK.put {m : Nat → List Int} {n : Nat} {g g' : DLG} (h : LK m n g) {ms : List Int} (e : ∀ x, g'.look x = if x = .inl (n : Nat) then some (ms.map PyData.int) else g.look x) : LK (upM m n ms) (n + 1) g' := fun j => by
  rw [e j, h j]
  cases j with
  | inl x =>
    by_cases q : x = (n : Int)
    · subst q
      rw [if_pos rfl]
      show _ = if (0 ≤ (n : Int) ∧ (n : Int) < (n + 1 : Nat)) then _ else _
      rw [if_pos (by omega)]
      unfold upM
      rw [if_pos (by omega)]
    · rw [if_neg fun z => q (Sum.inl.inj z)]
      show (if (0 ≤ x ∧ x < n) then _ else _) = if (0 ≤ x ∧ x < (n + 1 : Nat)) then _ else _
      by_cases c : 0 ≤ x ∧ x < n
      · rw [if_pos c, if_pos (by omega)]
        unfold upM
        rw [if_neg (by omega)]
      · rw [if_neg c, if_neg (by omega)]
  | inr x => rw [if_neg (by intro z; cases z)]
theorem LK.again {m : Nat → List Int} {n : Nat} {g g' : DLG} {a : Nat} (h : LK m n g) (ha : a < n) {ms : List Int} (e : ∀ x, g'.look x = if x = .inl (a : Nat) then some (ms.map PyData.int) else g.look x) : LK (upM m a ms) n g' := fun j => by
  rw [e j, h j]
  cases j with
  | inl x =>
    by_cases q : x = (a : Int)
    · subst q
      rw [if_pos rfl]
      show _ = if (0 ≤ (a : Int) ∧ (a : Int) < n) then _ else _
      rw [if_pos (by omega)]
      unfold upM
      rw [if_pos (by omega)]
    · rw [if_neg fun z => q (Sum.inl.inj z)]
      show (if (0 ≤ x ∧ x < n) then _ else _) = if (0 ≤ x ∧ x < n) then _ else _
      by_cases c : 0 ≤ x ∧ x < n
      · rw [if_pos c, if_pos c]
        unfold upM
        rw [if_neg (by omega)]
      · rw [if_neg c, if_neg c]
  | inr x => rw [if_neg (by intro z; cases z)]
theorem LK.at {m : Nat → List Int} {n : Nat} {g : DLG} (h : LK m n g) {x : Int} (h0 : 0 ≤ x) (h1 : x < n) : g.look (.inl x) = some ((m x.toNat).map PyData.int) := by
  rw [h (.inl x)]
  exact if_pos ⟨h0, h1⟩
theorem LK.no {m : Nat → List Int} {n : Nat} {g : DLG} (h : LK m n g) : g.look (.inl (n : Nat)) = none := by
  rw [h (.inl (n : Nat))]
  exact if_neg (by omega)
/-- rooms gathered by turns -/
structure TurnI (B : Book) (ns : List Int) (room : Int) (ms : List Int) : Prop where
  mem : room ∈ ms
  rc : ∀ x ∈ ms, Rch B ns room x
  nd : ms.Nodup
  rg : ∀ x ∈ ms, 0 ≤ x ∧ x < B.rooms
def ClsM (B : Book) (ks ms : List Int) : Prop := ∀ k ∈ ks, (wAt B k).a ∈ ms → (wAt B k).b ∈ ms
theorem TurnI.push {B : Book} {ns ms : List Int} {room k : Int} (h : TurnI B ns room ms) (hk : k ∈ ns) (ha : (wAt B k).a ∈ ms) (hb : (wAt B k).b ∉ ms) (hr : 0 ≤ (wAt B k).b ∧ (wAt B k).b < B.rooms) : TurnI B ns room (ms ++ [(wAt B k).b]) :=
  ⟨List.mem_append_left _ h.mem, fun x hx => by
    rcases List.mem_append.mp hx with q | q
    · exact h.rc x q
    · rw [List.mem_singleton.mp q]; exact .step (h.rc _ ha) hk, by
    rw [List.nodup_append]
    refine ⟨h.nd, by simp, fun a ha b hb' => ?_⟩
    rw [List.mem_singleton.mp hb']
    exact fun q => hb (by rw [← q]; exact ha), fun x hx => by
    rcases List.mem_append.mp hx with q | q
    · exact h.rg x q
    · rw [List.mem_singleton.mp q]; exact hr⟩
theorem TurnI.len {B : Book} {ns ms : List Int} {room : Int} (h : TurnI B ns room ms) : ms.length ≤ B.rooms.toNat :=
  nodup_len _ h.nd fun x hx => by have := h.rg x hx; omega
theorem TurnI.fin {B : Book} {ns ms : List Int} {room : Int} (h : TurnI B ns room ms) (c : B.rooms.toNat + 1 ≤ ms.length ∨ ClsM B ns ms) (x : Int) : x ∈ ms ↔ Rch B ns room x := by
  rcases c with c | c
  · have := h.len; omega
  · exact ⟨h.rc x, fun q => rch_closed h.mem c q⟩
end L3
namespace L3
open PySem L2
end L3
namespace L3
open PySem L2
end L3
end
section
namespace L3
open PySem L2
variable {G : Type} {K : PySem.W.Frag} {X : Cx} {Z : Zx K G}
theorem minOf_spec : ∀ (x : Int) (xs : List Int), PySem.W.minOf x xs ∈ x :: xs ∧ ∀ y ∈ x :: xs, PySem.W.minOf x xs ≤ y
  | x, [] => ⟨List.mem_singleton.mpr rfl, fun y hy => by rw [List.mem_singleton.mp hy]; exact Int.le_refl _⟩
  | x, y :: ys => by
    have e : PySem.W.minOf x (y :: ys) = PySem.W.minOf (if y < x then y else x) ys := by
      unfold PySem.W.minOf
      rw [List.foldl_cons]
      congr 1
      by_cases h : y < x <;> simp [PySem.W.DatumOrd.lt, h]
    obtain ⟨h1, h2⟩ := minOf_spec (if y < x then y else x) ys
    rw [e]
    refine ⟨?_, fun z hz => ?_⟩
    · rcases List.mem_cons.mp h1 with h | h
      · rw [h]; split <;> simp
      · exact List.mem_cons_of_mem _ (List.mem_cons_of_mem _ h)
    · have h0 := h2 _ List.mem_cons_self
      have h3 := fun z hz => h2 z (List.mem_cons_of_mem _ hz)
      clear h1 h2 e
      generalize hm : PySem.W.minOf _ ys = m at h0 h3 ⊢
      clear hm
      rcases List.mem_cons.mp hz with rfl | hz
      · split at h0 <;> omega
      · rcases List.mem_cons.mp hz with rfl | hz
        · split at h0 <;> omega
        · exact h3 z hz
def rMinT (K : PySem.W.Frag) : List V → Hp → VK → Prop := fun vs H Q => ∃ (a : Addr) (ns : List Int), vs = [V.ref a] ∧ SqT K H a (ns.map V.int) ∧ 0 < ns.length ∧ ∀ m, m ∈ ns → (∀ y, y ∈ ns → m ≤ y) → Q (.int m) H
theorem cr_minT (hc : X.calm = true) (hu : X.A.units + 64 < cLine) : CallR X (.builtin "min") (rMinT X.K) := by
  intro pins s σ H vs us Q I r h
  obtain ⟨a, ns, rfl, hs, hne, q⟩ := h
  obtain ⟨its, rv, hl, _⟩ := I.tuple hs
  rw [Vals.ref1 r]
  cases ns with
  | nil => simp at hne
  | cons x xs =>
    obtain ⟨h1, h2⟩ := minOf_spec x xs
    refine PySem.W.min_tuple_datum (I.ok.hd hc) hl (x := x) (xs := xs) (by simpa using PySem.W.HoldAll.of_ints rv.ints) (by show X.A.units + 1 + 0 < _; omega) fun i v h' tk hi hv hk => ?_
    obtain ⟨as, hv⟩ := hv
    cases hv
    exact ⟨.int _, H, I.kept hk, ⟨_, rfl⟩, q _ h1 h2⟩
def oMinX : RA G := fun rs ρ g Q => one (fun r => seqD (fun ds => opK (intsL ds) fun ns => 0 < ns.length ∧ ∀ m, m ∈ ns → (∀ y, y ∈ ns → m ≤ y) → Q (.dt (.int m)) ρ g) (rd r ρ)) rs
def rMinX (K : PySem.W.Frag) : List V → Hp → VK → Prop := fun vs H Q => rMin K vs H Q ∨ rMinT K vs H Q
theorem k_minX (hu : X.A.units + 64 < cLine) (hc : X.calm = true := by rfl) (hK : K = X.K := by rfl) : CallR X (.builtin "min") (rMinX K) ∧ SimC Z (rMinX K) (oMinX (G := G)) := ⟨by
  rw [hK]
  intro pins s σ H vs us Q I r h
  rcases h with h | h
  · exact cr_min hc pins s σ H vs us Q I r h
  · exact cr_minT hc hu pins s σ H vs us Q I r h, fun f F ad ρ g σ H vs rs Q R h q P hP => by
  obtain ⟨r, rfl, q2⟩ := one_of q
  obtain ⟨v, rfl, h0⟩ := vrs1 h
  obtain ⟨ds, e, q3⟩ := seqD_of q2
  obtain ⟨ns, ei, hn, q4⟩ := opK_e q3
  rcases e with e | e
  · obtain ⟨a, vs, rfl, ha, da⟩ := R.items h0 e
    rw [intsL_of ei] at da
    have ev := daAll_ints da
    subst ev
    exact .inl ⟨a, ns, rfl, .inl (.inl ha), hn, fun m h1 h2 => hP _ _ (R.dat (.int _) (q4 m h1 h2))⟩
  · obtain ⟨a, vs, rfl, ha, da⟩ := R.titems h0 e
    rw [intsL_of ei] at da
    have ev := daAll_ints da
    subst ev
    exact .inr ⟨a, ns, rfl, Evl.ex_t R.fin.sub ha, hn, fun m h1 h2 => hP _ _ (R.dat (.int _) (q4 m h1 h2))⟩⟩
end L3
end
section
namespace L3
open PySem L2
/-- a list of ways that leads from a to b -/
def Pth (B : Book) : Int → List Int → Int → Prop
  | a, [], b => a = b
  | a, k :: ns, b => inW B k = true ∧ (wAt B k).a = a ∧ Pth B (wAt B k).b ns b
theorem Pth.app {B : Book} {b c : Int} : ∀ {ns ms : List Int} {a : Int}, Pth B a ns b → Pth B b ms c → Pth B a (ns ++ ms) c
  | [], _, _, h, k => by cases h; exact k
  | _ :: _, _, _, h, k => ⟨h.1, h.2.1, Pth.app h.2.2 k⟩
theorem Pth.snoc {B : Book} {ns : List Int} {a b k : Int} (h : Pth B a ns b) (hk : inW B k = true) (e : (wAt B k).a = b) : Pth B a (ns ++ [k]) (wAt B k).b :=
  h.app ⟨hk, e, rfl⟩
theorem Pth.mem {B : Book} {b : Int} : ∀ {ns : List Int} {a : Int}, Pth B a ns b → ∀ k ∈ ns, inW B k = true
  | k :: ns, _, h, j, hj => by
    rcases List.mem_cons.mp hj with rfl | hj
    · exact h.1
    · exact Pth.mem h.2.2 j hj
/-- rooms with the paths to them, as a dict -/
def pathsD (kp : List (Int × List Int)) : List (PyData × PyData) := kp.map fun p => (.int p.1, intsLD p.2)
theorem lookD_paths : ∀ (kp : List (Int × List Int)) (x : Int), (lookD (pathsD kp) (.int x) = none ∧ x ∉ kp.map Prod.fst) ∨ ∃ ns, (x, ns) ∈ kp ∧ lookD (pathsD kp) (.int x) = some (intsLD ns)
  | [], x => .inl ⟨rfl, by simp⟩
  | p :: kp, x => by
    have e : lookD (pathsD (p :: kp)) (.int x) = match kq (.int p.1) (.int x) with | true => some (intsLD p.2) | false => lookD (pathsD kp) (.int x) := rfl
    by_cases h : p.1 = x
    · right
      refine ⟨p.2, by rw [← h]; exact List.mem_cons_self, ?_⟩
      rw [e]
      subst h
      simp [kq, kOf]
    · have hq : kq (.int p.1) (.int x) = false := by simp [kq, kOf, h]
      rw [e, hq]
      rcases lookD_paths kp x with ⟨h1, h2⟩ | ⟨ns, h1, h2⟩
      · left
        refine ⟨h1, ?_⟩
        rw [List.map_cons, List.mem_cons]
        rintro (h3 | h3)
        · exact h h3.symm
        · exact h2 h3
      · exact .inr ⟨ns, List.mem_cons_of_mem _ h1, h2⟩
structure BkI (B : Book) (first : Int) (kp : List (Int × List Int)) (wl : List Int) : Prop where
  nd : (kp.map Prod.fst).Nodup
  ok : ∀ p ∈ kp, (0 ≤ p.1 ∧ p.1 < B.rooms) ∧ Pth B first p.2 p.1 ∧ p.2.length < kp.length
  wt : ∀ x ∈ wl, x ∈ kp.map Prod.fst
theorem BkI.len {B : Book} {first : Int} {kp : List (Int × List Int)} {wl : List Int} (h : BkI B first kp wl) : kp.length ≤ B.rooms.toNat := by
  have := nodup_len B.rooms.toNat h.nd (fun x hx => by
    obtain ⟨p, hp, rfl⟩ := List.mem_map.mp hx
    have := (h.ok p hp).1
    omega)
  rwa [List.length_map] at this
theorem BkI.at {B : Book} {first : Int} {kp : List (Int × List Int)} {wl : List Int} (h : BkI B first kp wl) {x : Int} (hx : x ∈ kp.map Prod.fst) : ∃ ns, lookD (pathsD kp) (.int x) = some (intsLD ns) ∧ Pth B first ns x ∧ ns.length < kp.length := by
  rcases lookD_paths kp x with ⟨_, h2⟩ | ⟨ns, h1, h2⟩
  · exact absurd hx h2
  · exact ⟨ns, h2, (h.ok _ h1).2⟩
theorem BkI.push {B : Book} {first : Int} {kp : List (Int × List Int)} {wl ns : List Int} {x : Int} (h : BkI B first kp wl) (hx : x ∉ kp.map Prod.fst) (hr : 0 ≤ x ∧ x < B.rooms) (hp : Pth B first ns x) (hl : ns.length ≤ kp.length) : BkI B first (kp ++ [(x, ns)]) (wl ++ [x]) := by
  refine ⟨?_, fun p hp2 => ?_, fun y hy => ?_⟩
  · rw [List.map_append, List.nodup_append]
    exact ⟨h.nd, by simp, fun a ha b hb => by simp at hb; subst hb; exact fun e => hx (e ▸ ha)⟩
  · rw [List.length_append]
    rcases List.mem_append.mp hp2 with hp2 | hp2
    · obtain ⟨h1, h2, h3⟩ := h.ok p hp2
      exact ⟨h1, h2, by simp; omega⟩
    · rw [List.mem_singleton.mp hp2]
      exact ⟨hr, hp, by simp; omega⟩
  · rw [List.map_append]
    rcases List.mem_append.mp hy with hy | hy
    · exact List.mem_append_left _ (h.wt y hy)
    · rw [List.mem_singleton.mp hy]; exact List.mem_append_right _ (by simp)
/-- how often each way is counted: pairs of a count and a walk -/
def cntW (wk : List (Int × List Int)) (j : Int) : Int := (wk.map fun p => p.1 * ((p.2.count j : Nat) : Int)).sum
def cntL (n : Nat) (wk : List (Int × List Int)) : List Int := (List.range n).map fun i => cntW wk (i : Nat)
theorem cntL_get {n i : Nat} (wk : List (Int × List Int)) (h : i < n) : (cntL n wk)[i]? = some (cntW wk (i : Nat)) := by simp [cntL, h]
def tab (f : Int → Int) (n : Nat) : List Int := (List.range n).map fun i => f (i : Nat)
end L3
end
section
namespace L3
open PySem L2
variable {G : Type} {K : PySem.W.Frag} {X : Cx} {Z : Zx K G}
def rCnt (K : PySem.W.Frag) : V → List V → Hp → VK → Prop := fun x vs H Q => ∃ (a : Addr) (ns : List Int) (i : Int), x = .ref a ∧ vs = [.int i] ∧ SqL K H a (ns.map V.int) ∧ Q (.int ((ns.count i : Nat) : Int)) H
theorem mt_cnt (hu : X.A.units + 64 < cLine) : MtR X "list.count" (rCnt X.K) := by
  intro pins s σ H x xs v us Q I rx rxs h
  obtain ⟨a, ns, i, rfl, rfl, hs, q⟩ := h
  cases rx
  obtain ⟨u, rfl, ru⟩ := rxs.one
  obtain ⟨t, rfl⟩ := ru
  obtain ⟨its, rv, hl, _⟩ := I.list hs
  refine PySem.W.count_list_datum hl.isList (by simpa using PySem.W.HoldAll.of_ints rv.ints) (PySem.W.holds_int i t) (by show X.A.units + 1 + 0 < _; omega) ?_
  have e : (ns.countP fun y => decide (y = i)) = ns.count i := by
    unfold List.count
    congr 1
  refine ⟨.int _, H, I.tok _, ⟨_, rfl⟩, ?_⟩
  rw [e]
  exact q
def dCnt (a b : DT G) : DT G := fun ρ g Q => a ρ g fun r1 ρ1 g1 => lsD (fun _ => b ρ1 g1 fun r2 ρ2 g2 => lsD (fun ds => opK (intsL ds) fun ns => iiU (fun i => Q (.dt (.int ((ns.count i : Nat) : Int))) ρ2 g2) (rd r2 ρ2)) (rd (st r1) ρ2)) (rd r1 ρ1)
theorem sim_cnt {ta : TE} {tb : TA} {tb' : TE} {a b : DT G} (ha : Sim Z ta a) (hb : Sim Z tb' b) (e : tb = fun σ H Q => tb' σ H fun x H1 => Q [x] H1) : Sim Z (tBM K "list" (rCnt K) ta tb) (dCnt a b) := fun f F ad ρ g σ H Q R h P hP => by
  subst e
  refine ha f F ad ρ g σ H _ R h _ fun x H1 q => ?_
  obtain ⟨F1, ad1, ρ1, g1, r1, e1, eg1, R1, v1, q⟩ := q
  obtain ⟨ds0, e0, q⟩ := lsD_of q
  obtain ⟨a0, vs0, rfl, ha0, da0⟩ := R1.items v1 e0
  obtain ⟨F1', e1', R1', v1'⟩ := R1.hst v1
  refine ⟨.inl ⟨rfl, _, .inl (.inl ha0)⟩, hb f F1' ad1 ρ1 g1 σ H1 _ R1' q _ fun y H2 q2 => ?_⟩
  obtain ⟨F2, ad2, ρ2, g2, r2, e2, eg2, R2, v2, q⟩ := q2
  obtain ⟨ds, ed, q⟩ := lsD_of q
  obtain ⟨ns, ei, q⟩ := opK_e q
  obtain ⟨i, en, q⟩ := iiU_of q
  obtain ⟨a1, vs1, ea, ha1, da1⟩ := R2.items (v1'.held e2 eg2) ed
  cases ea
  rw [intsL_of ei] at da1
  have ev := daAll_ints da1
  subst ev
  exact ⟨a0, ns, i, rfl, by rw [R2.rInt v2 en], .inl (.inl ha1), hP _ _ ((R2.dat (.int _) q).mono ((e1.trans e1').trans e2) (eg2.trans eg1))⟩
theorem e_cnt (hu : X.A.units + 64 < cLine) {apos cpos : Pos} {o e : Expr} {to te : TE} {a b : DT G} (ho : DE X Z o to a) (he : DE X Z e te b) (hK : K = X.K := by rfl)
    (hbase : attributeBase o "count" X.env (eval o X.env) = eval o X.env := by rfl)
    (hfew : ((backTo cpos (starEach [e] X.env)).all (fun x => !x.1) && (backToKw cpos (keywordEach [] X.env)).all (fun x => x.1.isSome)
      && decide (([e] : List Expr).length + ([] : List Keyword).length + (if ([] : List Keyword).isEmpty then 0 else 1) < 30)) = true := by rfl)
    (hline : (apos.endLine == cpos.line) = true := by rfl) (hst : starEach [e] X.env = (false, eval e X.env) :: starEach [] X.env := by rfl) (hplain : (backTo cpos (starEach [] X.env)).any (·.1) = false := by rfl) :
    DE X Z (.Call (.Attribute o "count" apos) [e] [] cpos) (tBM K "list" (rCnt K) to (tCons te tNil)) (dCnt a b) :=
  ⟨by rw [hK]; exact pe_bm PySem.F.plainAttrs_list PySem.F.slot_list_count PySem.F.type_list_count (mt_cnt hu) ho.pe (pa_cons he.pe pa_nil hst) hbase hfew hline hst hplain, sim_cnt ho.sim he.sim rfl⟩
end L3
end
section
namespace L3
open PySem L2
theorem rngD_nat (n : Nat) : rngD 0 ((n : Nat) : Int).toNat = (List.range n).map fun i => PyData.int ((i : Nat) : Int) := by
  unfold rngD
  rw [Int.toNat_natCast]
  apply List.map_congr_left
  intro i _
  rw [Int.zero_add]
def posW (n : Nat) (cs : List Int) : List Int := ((List.range n).filter fun i => decide (cs.getD i 0 > 0)).map fun i => ((i : Nat) : Int)
theorem zip_rng (cs : List Int) : (List.range cs.length).zip cs = (List.range cs.length).map fun i => (i, cs.getD i 0) := by
  apply List.ext_getElem
  · simp
  · intro i h1 h2
    have h3 : i < cs.length := by simp at h1; omega
    simp [List.getD_eq_getElem?_getD, List.getElem?_eq_getElem h3]
theorem rings_one {B : Book} {ws : List Int} (hne : ws ≠ []) (h : ∀ k ∈ ws, ∀ j ∈ ws, Rch B ws (wAt B k).b (wAt B j).a) : ringsL B ws = [ws] := by
  have e : ∀ k ∈ ws, ringOf B ws k = ws := fun k hk => by
    unfold ringOf
    refine List.filter_eq_self.mpr fun j hj => ?_
    unfold inRg
    rw [rch_iff.mpr (h k hk j hj), rch_iff.mpr (h j hj k hk)]; rfl
  have o : ∀ k ∈ ws, onR B ws k = true := fun k hk => rch_iff.mpr (h k hk k hk)
  have key : ∀ ks : List Int, (∀ k ∈ ks, k ∈ ws) → ks.foldl (ringStep B ws) [ws] = [ws] := by
    intro ks
    induction ks with
    | nil => intro _; rfl
    | cons k r ih =>
      intro hk
      have : ringStep B ws [ws] k = [ws] := by
        unfold ringStep
        rw [e k (hk k List.mem_cons_self), if_neg (by simp)]
      rw [List.foldl_cons, this]
      exact ih fun x hx => hk x (List.mem_cons_of_mem _ hx)
  unfold ringsL
  obtain ⟨k, r, hr⟩ := List.exists_cons_of_ne_nil hne
  have hm : ∀ x ∈ k :: r, x ∈ ws := fun x hx => by rw [hr]; exact hx
  have s : ringStep B ws [] k = [ws] := by
    unfold ringStep
    rw [e k (hm k List.mem_cons_self), if_pos ⟨o k (hm k List.mem_cons_self), by simp⟩]
    rfl
  have : ws.foldl (ringStep B ws) [] = (k :: r).foldl (ringStep B ws) [] := by rw [← hr]
  rw [this, List.foldl_cons, s]
  exact key r fun x hx => hm x (List.mem_cons_of_mem _ hx)
end L3
end
section
namespace L3
open PySem L2
def Lay (n : Nat) (d : PyData) : Prop := d.canLay0 = true ∧ d.depth ≤ n
theorem Lay.up {n m : Nat} {d : PyData} (h : Lay n d) (k : n ≤ m) : Lay m d := ⟨h.1, Nat.le_trans h.2 k⟩
theorem lay_int (n : Nat) (i : Int) : Lay n (.int i) := ⟨rfl, Nat.zero_le _⟩
theorem lay_list {n : Nat} {ds : List PyData} (h : ∀ d ∈ ds, Lay n d) : Lay (n + 1) (.list ds) :=
  ⟨by rw [PyData.canLay0]; exact canLayAll_of fun d hd => (h d hd).1, by rw [PyData.depth]; exact Nat.succ_le_succ (depthAll_of fun d hd => (h d hd).2)⟩
theorem Lay.shaped {n : Nat} {d : PyData} (h : Lay n d) (k : n ≤ 64 := by decide) : SeqAt.shaped d = true := by
  unfold SeqAt.shaped
  rw [h.1, Bool.true_and]
  exact decide_eq_true (Nat.le_trans h.2 k)
def standD (r : Int) (xs : List Int) : PyData := .tuple [.int r, .tuple (xs.map PyData.int)]
def fitsW (w : Way) (r : Int) (xs : List Int) : Bool := decide (w.a = r) && (addL xs w.gs).all fun x => decide (0 ≤ x)
def canL (B : Book) (r : Int) (xs : List Int) : List Int := (((List.range B.ways.length).zip B.ways).filter fun p => fitsW p.2 r xs).map fun p => ((p.1 : Nat) : Int)
def geL (xs ys : List Int) : Bool := (xs.zip ys).all fun p => decide (p.1 ≥ p.2)
theorem all_getD {xs : List Int} {p : Int → Bool} : xs.all p = true ↔ ∀ i, i < xs.length → p (xs.getD i 0) = true := by
  rw [List.all_eq_true]
  constructor
  · intro h i hi
    rw [List.getD_eq_getElem?_getD, List.getElem?_eq_getElem hi]
    exact h _ (List.getElem_mem hi)
  · intro h x hx
    obtain ⟨i, hi, rfl⟩ := List.getElem_of_mem hx
    have := h i hi
    rwa [List.getD_eq_getElem?_getD, List.getElem?_eq_getElem hi] at this
theorem geL_iff {n : Nat} : ∀ {xs ys : List Int}, xs.length = n → ys.length = n → (geL xs ys = true ↔ ∀ p, p < n → ys.getD p 0 ≤ xs.getD p 0) := by
  intro xs ys h k
  unfold geL
  rw [List.all_eq_true]
  constructor
  · intro q p hp
    have hm : (xs.getD p 0, ys.getD p 0) ∈ xs.zip ys := by
      refine List.mem_iff_getElem?.mpr ⟨p, ?_⟩
      rw [List.getElem?_zip_eq_some]
      simp [List.getD_eq_getElem?_getD, List.getElem?_eq_getElem (show p < xs.length by omega), List.getElem?_eq_getElem (show p < ys.length by omega)]
    simpa using q _ hm
  · intro q p hp
    obtain ⟨i, hi⟩ := List.mem_iff_getElem?.mp hp
    rw [List.getElem?_zip_eq_some] at hi
    have h1 : i < n := by
      have := (List.getElem?_eq_some_iff.mp hi.1).1
      omega
    have := q i h1
    rw [List.getD_eq_getElem?_getD, List.getD_eq_getElem?_getD, hi.1, hi.2] at this
    simpa using this
theorem canL_mem {B : Book} {r k : Int} {xs : List Int} : k ∈ canL B r xs ↔ inW B k = true ∧ fitsW (wAt B k) r xs = true := by
  unfold canL
  rw [List.mem_map]
  constructor
  · rintro ⟨⟨i, w⟩, h, rfl⟩
    obtain ⟨h1, h2⟩ := List.mem_filter.mp h
    obtain ⟨j, hj⟩ := List.mem_iff_getElem?.mp h1
    rw [List.getElem?_zip_eq_some] at hj
    obtain ⟨e1, e2⟩ := hj
    obtain ⟨e3, e4⟩ := List.getElem?_eq_some_iff.mp e1
    obtain ⟨e5, e6⟩ := List.getElem?_eq_some_iff.mp e2
    simp at e4
    subst e4
    have e7 : wAt B ((j : Nat) : Int) = w := by
      unfold wAt
      rw [Int.toNat_natCast, List.getD_eq_getElem?_getD, List.getElem?_eq_getElem e5]
      exact e6
    refine ⟨by simp [inW]; omega, ?_⟩
    show fitsW (wAt B ((j : Nat) : Int)) r xs = true
    rw [e7]; exact h2
  · rintro ⟨h1, h2⟩
    simp [inW] at h1
    have h3 : k.toNat < B.ways.length := by omega
    refine ⟨(k.toNat, wAt B k), List.mem_filter.mpr ⟨List.mem_iff_getElem?.mpr ⟨k.toNat, ?_⟩, h2⟩, by show ((k.toNat : Nat) : Int) = k; omega⟩
    rw [List.getElem?_zip_eq_some]
    refine ⟨by simp [h3], ?_⟩
    unfold wAt
    rw [List.getD_eq_getElem?_getD, List.getElem?_eq_getElem h3]; rfl
theorem colSum_cons (B : Book) (k : Int) (ns : List Int) (p : Nat) : colSum B (k :: ns) p = gC B p k + colSum B ns p := rfl
def mx2 (a b : Int) : Int := if b > a then b else a
theorem dueC_app (B : Book) (p : Nat) (ms : List Int) : ∀ ns : List Int, dueC B p (ns ++ ms) = mx2 (dueC B p ns) (dueC B p ms - colSum B ns p)
  | [] => by
    have := dueC_nn B p ms
    show dueC B p ms = mx2 0 (dueC B p ms - 0)
    unfold mx2; split <;> omega
  | k :: ns => by
    show mxI (dueC B p (ns ++ ms) - gC B p k) = mx2 (mxI (dueC B p ns - gC B p k)) _
    rw [dueC_app B p ms ns, colSum_cons]
    unfold mx2 mxI
    split <;> split <;> split <;> omega
theorem dueC_sum (B : Book) (p : Nat) : ∀ ns : List Int, 0 ≤ dueC B p ns + colSum B ns p
  | [] => Int.le_refl 0
  | k :: ns => by
    have := dueC_sum B p ns
    rw [colSum_cons]
    show 0 ≤ mxI (dueC B p ns - gC B p k) + _
    unfold mxI; split <;> omega
theorem gainL_getD {B : Book} {ns : List Int} (h : GsOk B ns) {p : Nat} (hp : p < B.purses.toNat) : (gainL B ns).getD p 0 = colSum B ns p := by
  rw [List.getD_eq_getElem?_getD, gainL_col h p hp]; rfl
/-- a way more can be done just where it fits where the walk has come to -/
theorem ge_push {B : Book} {ns ys : List Int} {k : Int} (hl : ys.length = B.purses.toNat) (hg : GsOk B (ns ++ [k])) (h : geL ys (needL B ns) = true) :
    geL ys (needL B (ns ++ [k])) = (addL (addL ys (gainL B ns)) (wAt B k).gs).all fun x => decide (0 ≤ x) := by
  have hg1 : GsOk B ns := fun x hx => hg x (List.mem_append_left _ hx)
  have hk : (wAt B k).gs.length = B.purses.toNat := by have := hg k (by simp); omega
  have l1 : (gainL B ns).length = B.purses.toNat := gainL_len hg1
  have l2 : (addL ys (gainL B ns)).length = B.purses.toNat := addL_len hl l1
  have l3 : (addL (addL ys (gainL B ns)) (wAt B k).gs).length = B.purses.toNat := addL_len l2 hk
  rw [needL_due hg1] at h
  rw [needL_due hg, Bool.eq_iff_iff, geL_iff hl (dueL_len B _), all_getD, l3]
  have h := (geL_iff hl (dueL_len B _)).mp h
  refine forall_congr' fun p => forall_congr' fun hp => ?_
  have h := h p hp
  rw [dueL_getD hp] at h
  rw [dueL_getD hp, dueC_app, addL_getD (by omega) (by omega), addL_getD (by omega) (by omega), gainL_getD hg1 hp]
  have s := dueC_sum B p ns
  have e : dueC B p [k] = mxI (0 - gC B p k) := rfl
  have e2 : (wAt B k).gs.getD p 0 = gC B p k := rfl
  rw [e, e2, decide_eq_true_eq]
  unfold mx2 mxI
  split <;> split <;> omega
theorem gain_push (B : Book) (ns : List Int) (k : Int) (ys : List Int) (hl : ys.length = B.purses.toNat) (hg : GsOk B (ns ++ [k])) : addL ys (gainL B (ns ++ [k])) = addL (addL ys (gainL B ns)) (wAt B k).gs := by
  have hg1 : GsOk B ns := fun x hx => hg x (List.mem_append_left _ hx)
  have hk : (wAt B k).gs.length = B.purses.toNat := by have := hg k (by simp); omega
  have l1 : (gainL B ns).length = B.purses.toNat := gainL_len hg1
  have l2 : (addL ys (gainL B ns)).length = B.purses.toNat := addL_len hl l1
  rw [gainL_push]
  refine ext_getD ?_ fun p hp => ?_
  · rw [addL_len hl (addL_len l1 hk), addL_len l2 hk]
  · rw [addL_len hl (addL_len l1 hk)] at hp
    rw [addL_getD (by omega) (by rw [addL_len l1 hk]; exact hp), addL_getD (by omega) (by omega), addL_getD (by omega) (by omega), addL_getD (by omega) (by omega), Int.add_assoc]
/-- whether a walk can be done -/
def okW (B : Book) (r : Int) (xs ns : List Int) : Bool := match ns with
  | [] => false
  | k :: _ => decide (r = (wAt B k).a) && geL xs (needL B ns)
def endW (B : Book) (ns : List Int) : Int := match ns.getLast? with
  | none => 0
  | some k => (wAt B k).b
theorem okW_eq {B : Book} {r : Int} {xs ns : List Int} (h : ns ≠ []) : okW B r xs ns = (decide (r = (wAt B (ns.head h)).a) && geL xs (needL B ns)) := by
  cases ns with
  | nil => exact absurd rfl h
  | cons k ks => rfl
theorem pth_ends {B : Book} {b : Int} : ∀ {ns : List Int} {a : Int}, Pth B a ns b → ∀ h : ns ≠ [], chainW B ns = true ∧ (wAt B (ns.head h)).a = a ∧ (wAt B (ns.getLast h)).b = b
  | [k], a, h, _ => ⟨h.1, h.2.1, h.2.2⟩
  | k :: j :: ns, a, h, _ => by
    obtain ⟨h1, h2, h3⟩ := pth_ends h.2.2 (by simp)
    replace h2 : (wAt B j).a = (wAt B k).b := h2
    refine ⟨?_, h.2.1, by simpa using h3⟩
    show (inW B k && decide ((wAt B k).b = (wAt B j).a) && chainW B (j :: ns)) = true
    rw [h.1, h1, h2]
    simp
/-- a walk that was gone along from a stand -/
structure GoneI (B : Book) (f : Int) (ys ns : List Int) (r : Int) (xs : List Int) : Prop where
  p : Pth B f ns r
  l : ys.length = B.purses.toNat
  x : xs = addL ys (gainL B ns)
  n : geL ys (needL B ns) = true
theorem addL_zero {n : Nat} {ys : List Int} (h : ys.length = n) : addL ys (List.replicate n 0) = ys := by
  refine ext_getD (by rw [addL_len h (by simp)]; exact h.symm) fun p hp => ?_
  rw [addL_len h (by simp)] at hp
  rw [addL_getD (by omega) (by simp; exact hp)]
  rw [show (List.replicate n (0 : Int)).getD p 0 = 0 from by simp [List.getD_eq_getElem?_getD, List.getElem?_replicate]; split <;> rfl, Int.add_zero]
theorem GoneI.start {B : Book} {f : Int} {ys : List Int} (l : ys.length = B.purses.toNat) (h : ∀ y ∈ ys, 0 ≤ y) : GoneI B f ys [] f ys :=
  ⟨rfl, l, (addL_zero l).symm, (geL_iff l (by simp [needL, needS, zeros])).mpr fun p hp => by
    rw [needL_due (fun k hk => by cases hk), dueL_getD hp]
    show 0 ≤ ys.getD p 0
    rw [List.getD_eq_getElem?_getD, List.getElem?_eq_getElem (by omega)]
    exact h _ (List.getElem_mem _)⟩
theorem GoneI.gs {B : Book} {f r : Int} {ys ns xs : List Int} (h : GoneI B f ys ns r xs) (hB : ∀ w ∈ B.ways, w.gs.length = B.purses.toNat) (hp : 0 ≤ B.purses) {k : Int} (hk : inW B k = true) : GsOk B (ns ++ [k]) := fun x hx => by
  rcases List.mem_append.mp hx with hx | hx
  · have := hB _ (wAt_mem (h.p.mem x hx)); omega
  · rw [List.mem_singleton.mp hx]; have := hB _ (wAt_mem hk); omega
theorem GoneI.push {B : Book} {f r k : Int} {ys ns xs : List Int} (h : GoneI B f ys ns r xs) (hB : ∀ w ∈ B.ways, w.gs.length = B.purses.toNat) (hp : 0 ≤ B.purses) (hk : inW B k = true) (hf : fitsW (wAt B k) r xs = true) : GoneI B f ys (ns ++ [k]) (wAt B k).b (addL xs (wAt B k).gs) := by
  unfold fitsW at hf
  rw [Bool.and_eq_true, decide_eq_true_eq] at hf
  refine ⟨h.p.snoc hk hf.1, h.l, ?_, ?_⟩
  · rw [gain_push B ns k ys h.l (h.gs hB hp hk), h.x]
  · rw [ge_push h.l (h.gs hB hp hk) h.n, ← h.x]; exact hf.2
theorem GoneI.stuck {B : Book} {f r k : Int} {ys ns xs : List Int} (h : GoneI B f ys ns r xs) (hB : ∀ w ∈ B.ways, w.gs.length = B.purses.toNat) (hp : 0 ≤ B.purses) (hk : inW B k = true) (ha : (wAt B k).a = r) (hf : fitsW (wAt B k) r xs = false) : okW B f ys (ns ++ [k]) = false := by
  rw [okW_eq (by simp), ge_push h.l (h.gs hB hp hk) h.n, ← h.x]
  unfold fitsW at hf
  rw [decide_eq_true ha, Bool.true_and] at hf
  rw [hf, Bool.and_false]
theorem GoneI.len {B : Book} {f r : Int} {ys ns xs : List Int} (h : GoneI B f ys ns r xs) (hB : ∀ w ∈ B.ways, w.gs.length = B.purses.toNat) (hp : 0 ≤ B.purses) : (gainL B ns).length = B.purses.toNat ∧ xs.length = B.purses.toNat := by
  have hg : GsOk B ns := fun x hx => by have := hB _ (wAt_mem (h.p.mem x hx)); omega
  have l1 : (gainL B ns).length = B.purses.toNat := gainL_len hg
  exact ⟨l1, by rw [h.x, addL_len h.l l1]⟩
end L3
end
section
namespace L2
open PySem PySem.Spec PyProof.Rows
end L2
namespace L3
open PySem L2
end L3
end
section
namespace L3
open PySem L2
theorem Pth.split {B : Book} {c : Int} : ∀ {ns ms : List Int} {a : Int}, Pth B a (ns ++ ms) c → ∃ b, Pth B a ns b ∧ Pth B b ms c
  | [], _, a, h => ⟨a, rfl, h⟩
  | _ :: _, _, _, h => by
    obtain ⟨b, h1, h2⟩ := Pth.split h.2.2
    exact ⟨b, ⟨h.1, h.2.1, h1⟩, h2⟩
theorem gsOk_l {B : Book} {ns ms : List Int} (h : GsOk B (ns ++ ms)) : GsOk B ns := fun k hk => h k (List.mem_append_left _ hk)
theorem gsOk_r {B : Book} {ns ms : List Int} (h : GsOk B (ns ++ ms)) : GsOk B ms := fun k hk => h k (List.mem_append_right _ hk)
theorem needL_len' {B : Book} {ns : List Int} (h : GsOk B ns) : (needL B ns).length = B.purses.toNat := by rw [needL_due h, dueL_len]
theorem needL_getD {B : Book} {ns : List Int} (h : GsOk B ns) {p : Nat} (hp : p < B.purses.toNat) : (needL B ns).getD p 0 = dueC B p ns := by rw [needL_due h, dueL_getD hp]
end L3
end
section
namespace L3
open PySem L2
structure Nice (n w : Nat) (d : PyData) : Prop where
  sh : d.showable = true
  nd : d.hasDict = false
  dp : d.depth ≤ n
  tx : okTx d = true
  wd : wd d ≤ w
  sm : smD d = true
theorem Nice.mono {n m w v : Nat} {d : PyData} (h : Nice n w d) (k : n ≤ m) (l : w ≤ v) : Nice m v d := ⟨h.sh, h.nd, Nat.le_trans h.dp k, h.tx, Nat.le_trans h.wd l, h.sm⟩
theorem nice_int {i : Int} (h : i.natAbs.log2 ≤ 400) : Nice 0 403 (.int i) := ⟨by simp [PyData.showable]; omega, rfl, Nat.le_refl _, by rw [okTx]; exact decide_eq_true (by omega), by rw [L3.wd]; omega, rfl⟩
theorem nice_small {i : Int} (h1 : -1000000 ≤ i) (h2 : i ≤ 1000000) : Nice 0 403 (.int i) := nice_int (by
  have : i.natAbs < 2 ^ 20 := by omega
  by_cases z : i.natAbs = 0
  · rw [z]; decide
  · have := (Nat.log2_lt z).mpr this; omega)
theorem Nice.ok {n w : Nat} {d : PyData} (h : Nice n w d) (k : n ≤ 150) (l : w ≤ 16777216) : ShOk d := shOk_of h.sh h.nd (Nat.le_trans h.dp k) h.tx (Nat.le_trans h.wd l)
theorem nices_all {n w : Nat} : ∀ {ds : List PyData}, (∀ d ∈ ds, Nice n w d) → PyData.showableAll ds = true ∧ PyData.hasDictAll ds = false ∧ PyData.depthAll ds ≤ n ∧ okTxs ds = true ∧ wdAll ds ≤ ds.length * (w + 2) ∧ smDs ds = true
  | [], _ => ⟨rfl, rfl, Nat.zero_le _, rfl, Nat.zero_le _, rfl⟩
  | d :: ds, h => by
    have h0 := h d List.mem_cons_self
    obtain ⟨a1, a2, a3, a4, a5, a6⟩ := nices_all (ds := ds) fun x hx => h x (List.mem_cons_of_mem _ hx)
    refine ⟨by rw [PyData.showableAll, h0.sh, a1]; rfl, by rw [PyData.hasDictAll, h0.nd, a2]; rfl, by rw [PyData.depthAll]; exact Nat.max_le.mpr ⟨h0.dp, a3⟩, by rw [okTxs, h0.tx, a4]; rfl, ?_, by rw [smDs, h0.sm, a6]; rfl⟩
    have := h0.wd
    rw [wdAll, List.length_cons, Nat.add_mul]
    omega
theorem nice_tup {n w m : Nat} {ds : List PyData} (h : ∀ d ∈ ds, Nice n w d) (l : ds.length ≤ m) (hm : m ≤ 16777216 := by decide) : Nice (n + 1) (m * (w + 2) + 3) (.tuple ds) := by
  obtain ⟨a1, a2, a3, a4, a5, a6⟩ := nices_all h
  have := Nat.mul_le_mul_right (w + 2) l
  exact ⟨by rw [PyData.showable]; exact a1, by rw [PyData.hasDict]; exact a2, by rw [PyData.depth]; exact Nat.succ_le_succ a3, by rw [okTx]; exact a4, by rw [L3.wd]; omega, by rw [smD, a6, decide_eq_true (Nat.le_trans l hm)]; rfl⟩
theorem nice_list {n w m : Nat} {ds : List PyData} (h : ∀ d ∈ ds, Nice n w d) (l : ds.length ≤ m) (hm : m ≤ 16777216 := by decide) : Nice (n + 1) (m * (w + 2) + 3) (.list ds) := by
  obtain ⟨a1, a2, a3, a4, a5, a6⟩ := nices_all h
  have := Nat.mul_le_mul_right (w + 2) l
  exact ⟨by rw [PyData.showable]; exact a1, by rw [PyData.hasDict]; exact a2, by rw [PyData.depth]; exact Nat.succ_le_succ a3, by rw [okTx]; exact a4, by rw [L3.wd]; omega, by rw [smD, a6, decide_eq_true (Nat.le_trans l hm)]; rfl⟩
theorem nice_str (x : Str) (h : okTx (.str x) = true) (l : x.length ≤ 20) : Nice 0 202 (.str x) := ⟨rfl, rfl, Nat.le_refl _, h, by rw [L3.wd]; omega, rfl⟩
theorem nice_tupW {n v W : Nat} {ds : List PyData} (h : ∀ d ∈ ds, Nice n v d) (l : ds.length ≤ 16777216) (hW : wdAll ds ≤ W) : Nice (n + 1) (W + 3) (.tuple ds) := by
  have k := nice_tup (m := ds.length) h (Nat.le_refl _) l
  exact ⟨k.sh, k.nd, k.dp, k.tx, by rw [L3.wd]; omega, k.sm⟩
theorem nice_tiny {i : Int} (h1 : -127 ≤ i) (h2 : i ≤ 127) : Nice 0 9 (.int i) := by
  have hl : i.natAbs.log2 ≤ 6 := by
    by_cases z : i.natAbs = 0
    · rw [z]; decide
    · have := (Nat.log2_lt z).mpr (show i.natAbs < 2 ^ 7 by omega); omega
  have k := nice_int (i := i) (by omega)
  exact ⟨k.sh, k.nd, k.dp, k.tx, by rw [L3.wd]; omega, k.sm⟩
end L3
end
section
namespace L3
open PySem L2
end L3
end
section
namespace L3
open PySem L2
/-- gains and needs in all purses -/
def bhL (f g : List Int × List Int) : List Int × List Int := (addL f.1 g.1, (f.2.zip (g.2.zip f.1)).map fun p => mx2 p.1 (p.2.1 - p.2.2))
def clL (f : List Int × List Int) (n : Int) : List Int × List Int := (f.1.map fun x => n * x, (f.2.zip f.1).map fun p => mx2 p.1 (p.1 - (n - 1) * p.2))
end L3
namespace L3
open PySem L2
/-- what a law tells of a told walk: length, first and last room, gain, need -/
structure Fa where
  l : Int
  a : Int
  b : Int
  gs : List Int
  ns : List Int
def Fa.d (f : Fa) : PyData := .tuple [.int f.l, .int f.a, .int f.b, .tuple (f.gs.map PyData.int), .tuple (f.ns.map PyData.int)]
def bhF (f g : Fa) : Fa := ⟨f.l + g.l, f.a, g.b, (bhL (f.gs, f.ns) (g.gs, g.ns)).1, (bhL (f.gs, f.ns) (g.gs, g.ns)).2⟩
def oftF (f : Fa) (n : Int) : Fa := ⟨n * f.l, f.a, f.b, (clL (f.gs, f.ns) n).1, (clL (f.gs, f.ns) n).2⟩
end L3
end
section
namespace L3
open PySem L2
inductive Tw where
  | way (k : Int)
  | row (ps : List Tw)
  | times (n : Int) (t : Tw)
mutual
def Tw.d : Tw → PyData
  | .way k => .tuple [.str "way", .int k]
  | .row ps => .tuple [.str "row", .tuple (Tw.ds ps)]
  | .times n t => .tuple [.str "times", .int n, t.d]
def Tw.ds : List Tw → List PyData
  | [] => []
  | t :: r => t.d :: Tw.ds r
end
theorem Tw.ds_map : ∀ ps : List Tw, Tw.ds ps = ps.map Tw.d
  | [] => rfl
  | t :: r => by rw [Tw.ds, Tw.ds_map r]; rfl
def mx0 (x : Int) : Int := mx2 0 (0 - x)
mutual
def Tw.fa (B : Book) : Tw → Fa
  | .way k => ⟨1, (wAt B k).a, (wAt B k).b, (wAt B k).gs, (wAt B k).gs.map mx0⟩
  | .row ps => Tw.fas B ps
  | .times n t => oftF (t.fa B) n
def Tw.fas (B : Book) : List Tw → Fa
  | [] => ⟨0, 0, 0, [], []⟩
  | t :: r => Tw.fol B (t.fa B) r
def Tw.fol (B : Book) (acc : Fa) : List Tw → Fa
  | [] => acc
  | t :: r => Tw.fol B (bhF acc (t.fa B)) r
end
/-- a told walk of a book, to a depth, its counts below a bound -/
def OkT (B : Book) (most : Int) : Nat → Tw → Prop
  | _, .way k => inW B k = true
  | 0, _ => False
  | n + 1, .row ps => ps ≠ [] ∧ ps.length ≤ 10000 ∧ ∀ p ∈ ps, OkT B most n p
  | n + 1, .times c t => (1 ≤ c ∧ c ≤ most) ∧ OkT B most n t
theorem OkT.up {B : Book} {most : Int} : ∀ {n : Nat} {t : Tw}, OkT B most n t → OkT B most (n + 1) t
  | 0, .way k, h => h
  | _ + 1, .way k, h => h
  | 0, .row _, h => h.elim
  | 0, .times _ _, h => h.elim
  | n + 1, .row ps, h => ⟨h.1, h.2.1, fun p hp => (h.2.2 p hp).up⟩
  | n + 1, .times c t, h => ⟨h.1, h.2.up⟩
theorem bits_le {i : Int} {a : Nat} (h : i.natAbs < 2 ^ a) : Builtin.Int.intBits i ≤ a := by
  unfold Builtin.Int.intBits
  split
  · exact Nat.zero_le _
  · rename_i z
    have hz : i.natAbs ≠ 0 := fun e => z (by have : i = 0 := by omega
                                             subst this; rfl)
    have := (Nat.log2_lt hz).mpr h
    omega
theorem mul_bits {i j : Int} {a b : Nat} (hi : i.natAbs < 2 ^ a) (hj : j.natAbs < 2 ^ b) (h : a + b ≤ 134217728) : MulOk i j := .inr (by
  have h1 := bits_le hi
  have h2 := bits_le hj
  unfold CMulX
  omega)
theorem nat_pow {x : Int} {a : Nat} (h0 : 0 ≤ x) (h : x < 2 ^ a) : x.natAbs < 2 ^ a := by
  have e : ((2 ^ a : Nat) : Int) = (2 : Int) ^ a := by push_cast; rfl
  omega
theorem fol_a (B : Book) : ∀ (ps : List Tw) (acc : Fa), (Tw.fol B acc ps).a = acc.a
  | [], acc => by rw [Tw.fol]
  | t :: r, acc => by rw [Tw.fol, fol_a B r]; rfl
end L3
end
section
namespace L3
open PySem L2
/-- any number of figures up to nine thousand bits may be drawn from -/
theorem log_pow {m : Int} {a : Nat} (h0 : 0 < m) (h1 : m < 2 ^ a) (ha : a ≤ 9000) : m.natAbs.log2 < 9000 := by
  have h2 : m.natAbs < 2 ^ a := nat_pow (by omega) h1
  have h3 : m.natAbs.log2 < a := by
    rw [Nat.log2_lt (by omega)]
    exact h2
  omega
def WsIn (B : Book) : Prop := ∀ k, inW B k = true → (0 ≤ (wAt B k).a ∧ (wAt B k).a < B.rooms) ∧ 0 ≤ (wAt B k).b ∧ (wAt B k).b < B.rooms
theorem wsIn_ok {B : Book} {mr mw : Int} (h : B.Ok mr mw) : WsIn B := fun k hk => by
  have w := h.w _ (wAt_mem hk)
  exact ⟨⟨w.a0, w.a1⟩, w.b0, w.b1⟩
theorem OkT.mono {B : Book} {most : Int} {t : Tw} {n m : Nat} (h : OkT B most n t) (le : n ≤ m) : OkT B most m t := by
  obtain ⟨d, rfl⟩ := Nat.exists_eq_add_of_le le
  clear le
  induction d with
  | zero => exact h
  | succ d ih => exact ih.up
theorem OkT.more {B : Book} {most mo2 : Int} (le : most ≤ mo2) : ∀ {n : Nat} {t : Tw}, OkT B most n t → OkT B mo2 n t
  | 0, .way k, h => h
  | _ + 1, .way k, h => h
  | 0, .row _, h => h.elim
  | 0, .times _ _, h => h.elim
  | n + 1, .row ps, h => ⟨h.1, h.2.1, fun p hp => (h.2.2 p hp).more le⟩
  | n + 1, .times c t, h => ⟨⟨h.1.1, Int.le_trans h.1.2 le⟩, h.2.more le⟩
mutual
/-- a told walk leads from a room to a room -/
def ChT (B : Book) : Tw → Int → Int → Prop
  | .way k, a, b => inW B k = true ∧ (wAt B k).a = a ∧ (wAt B k).b = b
  | .row ps, a, b => ps ≠ [] ∧ ChTs B ps a b
  | .times n t, a, b => ChT B t a b ∧ (n = 1 ∨ a = b)
def ChTs (B : Book) : List Tw → Int → Int → Prop
  | [], a, b => a = b
  | t :: r, a, b => ∃ c, ChT B t a c ∧ ChTs B r c b
end
theorem ChTs.app {B : Book} {b c : Int} : ∀ {ps qs : List Tw} {a : Int}, ChTs B ps a b → ChTs B qs b c → ChTs B (ps ++ qs) a c
  | [], qs, a, h, k => by rw [ChTs] at h; subst h; exact k
  | t :: r, qs, a, h, k => by
    rw [ChTs] at h
    obtain ⟨d, h1, h2⟩ := h
    rw [List.cons_append, ChTs]
    exact ⟨d, h1, h2.app k⟩
theorem chTs_one {B : Book} {t : Tw} {a b : Int} (h : ChT B t a b) : ChTs B [t] a b := by
  rw [ChTs]
  exact ⟨b, h, by rw [ChTs]⟩
theorem chTs_path {B : Book} {b : Int} : ∀ {ns : List Int} {a : Int}, Pth B a ns b → ChTs B (ns.map Tw.way) a b
  | [], a, h => by rw [List.map_nil, ChTs]; exact h
  | k :: r, a, h => by
    rw [List.map_cons, ChTs]
    exact ⟨(wAt B k).b, by rw [ChT]; exact ⟨h.1, h.2.1, rfl⟩, chTs_path h.2.2⟩
mutual
theorem ChT.ab {B : Book} : ∀ {t : Tw} {a b : Int}, ChT B t a b → (t.fa B).a = a ∧ (t.fa B).b = b
  | .way k, a, b, h => by
    rw [ChT] at h
    rw [Tw.fa]
    exact ⟨h.2.1, h.2.2⟩
  | .row ps, a, b, h => by
    rw [ChT] at h
    rw [Tw.fa]
    obtain ⟨h0, h⟩ := h
    cases ps with
    | nil => exact absurd rfl h0
    | cons t r =>
      rw [ChTs] at h
      obtain ⟨c, h1, h2⟩ := h
      obtain ⟨e1, e2⟩ := h1.ab
      rw [Tw.fas]
      exact ⟨(fol_a B r _).trans e1, h2.fb e2⟩
  | .times n t, a, b, h => by
    rw [ChT] at h
    rw [Tw.fa]
    exact h.1.ab
theorem ChTs.fb {B : Book} : ∀ {ps : List Tw} {a b : Int} {acc : Fa}, ChTs B ps a b → acc.b = a → (Tw.fol B acc ps).b = b
  | [], a, b, acc, h, e => by rw [ChTs] at h; rw [Tw.fol, e, h]
  | t :: r, a, b, acc, h, e => by
    rw [ChTs] at h
    obtain ⟨c, h1, h2⟩ := h
    rw [Tw.fol]
    exact h2.fb (acc := bhF acc (t.fa B)) h1.ab.2
end
end L3
end
section
namespace L3
open PySem L2
structure TPg where
  a : Addr
  b : Addr
  left : Nat
/-- with so many draws left -/
def TPg.w (g : TPg) (n : Nat) : TPg := ⟨g.a, g.b, n⟩
def TAt (ta cl : Addr) (cells : List Int) (at_ rest : Int) (H : Hp) : Prop := H ta = some (.lst [.ref cl, .int at_, .int rest]) ∧ H cl = some (.lst (cells.map V.int)) ∧ ta ≠ cl
def TR (g : TPg) (H : Hp) : Prop := ∃ cells at_ rest, TAt g.a g.b cells at_ rest H ∧ 0 ≤ at_ ∧ at_ + g.left ≤ 2 ^ 60
def ZT (K : PySem.W.Frag) : Zx K TPg where
  fp g := [g.a, g.b]
  ra g _ := g.a
  R g _ H := TR g H
  loc := fun {g F F' H H'} ⟨cells, s, t, ⟨h1, h2, h3⟩, h4⟩ _ e => ⟨cells, s, t, ⟨(e g.a (by simp)).trans h1, (e g.b (by simp)).trans h2, h3⟩, h4⟩
  there := fun {g F H} ⟨cells, s, t, ⟨h1, h2, h3⟩, _⟩ a ha => by
    simp at ha
    rcases ha with rfl | rfl
    · rw [h1]; intro z; cases z
    · rw [h2]; intro z; cases z
section
variable {ta cl : Addr} {cells : List Int} {s t : Int} {H H' : Hp}
theorem TAt.keep (j : TAt ta cl cells s t H) (e : ∀ b o, H b = some o → H' b = some o) : TAt ta cl cells s t H' := ⟨e _ _ j.1, e _ _ j.2.1, j.2.2⟩
theorem TAt.put {s' t' : Int} (j : TAt ta cl cells s t H) : TAt ta cl cells s' t' (upd H ta (.lst [.ref cl, .int s', .int t'])) := ⟨upd_same, by rw [upd_ne j.2.2.symm]; exact j.2.1, j.2.2⟩
end
theorem JF.frmT {K : PySem.W.Frag} {F : Hp} {g : TPg} {n : Nat} {H H' : Hp} (h : JF g.a g.b H H') (e1 : Ex F H) (e2 : ∀ a ∈ (ZT K).fp g, F a = none) (hR : TR (g.w n) H') : Frm (ZT K) F H g F H' (g.w n) := ⟨Evl.Ex.refl F, fun b o e hn => h.keep b o e (fun z => hn (by rw [z]; exact List.mem_cons_self)) (fun z => hn (by rw [z]; exact List.mem_cons_of_mem _ List.mem_cons_self)), h.keepN, fun b o e => .inl e,
  fun b o e => h.keep b o (e1 b o e) (fun z => by rw [z, e2 g.a List.mem_cons_self] at e; cases e) (fun z => by rw [z, e2 g.b (List.mem_cons_of_mem _ List.mem_cons_self)] at e; cases e), hR, e2, fun a ha => .inl ha⟩
/-- a draw: anything below many -/
def S__law_draw : Spec TPg := fun as g T U => match as with
  | [.rs 0, .dt (.int m)] => 1 ≤ g.left ∧ dvK 0 m (∀ r : Int, 0 ≤ r → r < m → T (.dt (.int r)) (g.w (g.left - 1)))
  | _ => False
/-- the tape is made -/
def spTape (K : PySem.W.Frag) : Sp := fun vs H Q _ => ∃ (a : Addr) (ns : List Int), vs = [.ref a] ∧ SqL K H a (ns.map V.int) ∧
  ∀ (H' : Hp) (g : TPg), (∀ b o, H b = some o → H' b = some o) → H g.a = none → H g.b = none → TR g H' → g.left = 1000000000000000 → Q (.ref g.a) H'
theorem TPg.ww {g : TPg} {n m : Nat} : (g.w n).w m = g.w m := rfl
theorem TPg.self {g : TPg} : g.w g.left = g := rfl
/-- a comprehension whose elements are drawn -/
theorem lc_allG {G : Type} {items : List PyData} {tg : DG G} {c : DB G} {e : DT G} {vs : List Nat} {ρ0 ρ1 : En} {g0 : G} {Q : Rs → En → G → Prop} (p : Nat → PyData → Prop) (J : Nat → G → Prop) (h0 : J 0 g0) (hw : wipeE ρ1 vs = ρ0 := by rfl)
    (hs : ∀ (k : Nat) (d : PyData) (g : G), items[k]? = some d → J k g → ∀ (C1 : PyData → En → G → Prop) (C0 : En → G → Prop), (∀ d' g', p k d' → J (k + 1) g' → C1 d' ρ0 g') →
      tg d ρ0 g fun ρ2 g2 => c ρ2 g2 fun b ρ3 g3 => ifb b (e ρ3 g3 fun r ρ4 g4 => fz1 r ρ4 fun d' ρ5 => C1 d' (wipeE ρ5 vs) g4) (C0 (wipeE ρ3 vs) g3))
    (hQ : ∀ (acc : List PyData) (g : G), acc.length = items.length → (∀ k d', acc[k]? = some d' → p k d') → J items.length g → Q (.nl acc) ρ0 g) (hU : unAll ρ0 vs := by first | exact ⟨rfl, trivial⟩ | exact ⟨rfl, rfl, trivial⟩ | exact ⟨rfl, rfl, rfl, trivial⟩) :
    LcP items tg c e vs ρ1 g0 Q := by
  subst hw
  refine ⟨⟨fun k acc ρ' g' => (acc.length = k ∧ ∀ j d', acc[j]? = some d' → p j d') ∧ ρ' = wipeE ρ1 vs ∧ J k g', ⟨⟨rfl, fun j d' e => by simp at e⟩, rfl, h0⟩, fun k d acc ρ' g' hd hI => ?_, fun acc ρ' g' hI => ?_⟩⟩
  · obtain ⟨⟨hl, hp⟩, rfl, hJ⟩ := hI
    refine hs k d g' hd hJ (fun d' ρ' g'' => ((acc ++ [d']).length = k + 1 ∧ ∀ j x, (acc ++ [d'])[j]? = some x → p j x) ∧ ρ' = wipeE ρ1 vs ∧ J (k + 1) g'') (fun ρ' g'' => (acc.length = k + 1 ∧ ∀ j d', acc[j]? = some d' → p j d') ∧ ρ' = wipeE ρ1 vs ∧ J (k + 1) g'') fun d' g2 hd' hJ2 => ⟨⟨by simp [hl], fun j x e => ?_⟩, rfl, hJ2⟩
    by_cases hj : j < acc.length
    · rw [List.getElem?_append_left hj] at e
      exact hp j x e
    · have hj2 : j = acc.length := by
        have := (List.getElem?_eq_some_iff.mp e).1
        simp at this
        omega
      subst hj2
      simp at e
      subst e
      rw [hl]; exact hd'
  · obtain ⟨⟨hl, hp⟩, rfl, hJ⟩ := hI
    exact ⟨hU, hQ acc g' hl hp (by first | exact hJ | (rw [← hl]; exact hJ))⟩
end L3
end
section
namespace L3
open PySem L2
theorem wAt_nat {B : Book} {k : Nat} (h : k < B.ways.length) : inW B (k : Int) = true := by simp [inW]; exact h
mutual
theorem Tw.lay : ∀ t : Tw, t.d.canLay0 = true
  | .way k => by
    rw [Tw.d, PyData.canLay0]
    simp [PyData.canLayAll0, PyData.canLay0]
    decide +kernel
  | .row ps => by
    rw [Tw.d, PyData.canLay0]
    simp [PyData.canLayAll0, PyData.canLay0]
    exact ⟨by decide +kernel, Tw.lays ps⟩
  | .times c t => by
    rw [Tw.d, PyData.canLay0]
    simp [PyData.canLayAll0, PyData.canLay0]
    exact ⟨by decide +kernel, Tw.lay t⟩
theorem Tw.lays : ∀ ps : List Tw, PyData.canLayAll0 (Tw.ds ps) = true
  | [] => by rw [Tw.ds]; rfl
  | t :: r => by
    rw [Tw.ds, PyData.canLayAll0, Tw.lay t, Tw.lays r]; rfl
end
end L3
namespace L3
open PySem L2
end L3
namespace L3
open PySem L2
theorem ds_depth {n : Nat} : ∀ {ps : List Tw}, (∀ p ∈ ps, p.d.depth ≤ n) → PyData.depthAll (Tw.ds ps) ≤ n := by
  intro ps h
  rw [Tw.ds_map]
  exact depthAll_of fun d hd => by
    obtain ⟨p, hp, rfl⟩ := List.mem_map.mp hd
    exact h p hp
theorem OkT.depth {B : Book} {most : Int} : ∀ {n : Nat} {t : Tw}, OkT B most n t → t.d.depth ≤ 2 * n + 1
  | n, .way k, _ => by
    rw [Tw.d, PyData.depth]
    simp [PyData.depthAll, PyData.depth]
  | 0, .row _, h => h.elim
  | 0, .times _ _, h => h.elim
  | n + 1, .row ps, h => by
    have := ds_depth fun p hp => OkT.depth (h.2.2 p hp)
    rw [Tw.d, PyData.depth]
    simp [PyData.depthAll, PyData.depth]
    omega
  | n + 1, .times c t, h => by
    have := OkT.depth h.2
    rw [Tw.d, PyData.depth]
    simp [PyData.depthAll, PyData.depth]
    omega
end L3
namespace L3
open PySem L2
end L3
namespace L3
open PySem L2
end L3
namespace L3
open PySem L2
def totD (ws hs : List Int) : PyData := .tuple [.tuple (ws.map PyData.int), .tuple (hs.map PyData.int)]
end L3
namespace L3
open PySem L2
/-- small things in a row -/
def All3 (ds : List PyData) : Prop := ∀ d ∈ ds, Nice 3 2000 d
theorem All3.app {xs ys : List PyData} (h : All3 xs) (k : All3 ys) : All3 (xs ++ ys) := fun d hd => (List.mem_append.mp hd).elim (h d) (k d)
theorem All3.one {d : PyData} (h : Nice 3 2000 d) : All3 [d] := fun x hx => by cases List.mem_singleton.mp hx; exact h
theorem All3.nil : All3 [] := fun _ h => nomatch h
theorem All3.ints {ns : List Int} (h : ∀ x ∈ ns, -1000 ≤ x ∧ x ≤ 1000) : All3 (ns.map PyData.int) := fun d hd => by
  obtain ⟨x, hx, rfl⟩ := List.mem_map.mp hd
  have := h x hx
  exact (nice_small (by omega) (by omega)).mono (by decide) (by decide)
theorem All3.tup {ds : List PyData} (h : All3 ds) (l : ds.length ≤ 30) : Nice 4 60063 (.tuple ds) := nice_tup h l
theorem All3.lst {ds : List PyData} (h : All3 ds) (l : ds.length ≤ 30) : Nice 4 60063 (.list ds) := nice_list h l
end L3
namespace L3
open PySem L2
/-- numbers of less than a hundred and thirty figures -/
def Big (x : Int) : Prop := x.natAbs < 2 ^ 400
theorem mul_big2 {x y : Int} (h : Big x) (k : Big y) : MulOk x y := mul_bits h k (by decide)
theorem big_lt {x : Int} (h0 : -(2 ^ 399) ≤ x) (h1 : x ≤ 2 ^ 399) : Big x := by
  show x.natAbs < 2 ^ 400
  omega
theorem big_small {x : Int} (h0 : -1000000 ≤ x) (h1 : x ≤ 1000000) : Big x := big_lt (by omega) (by omega)
def dotL (xs ys : List Int) : Int := ((xs.zip ys).map fun p => p.1 * p.2).sum
def fallL (B : Book) (ws hs : List Int) (k : Int) : Int := hs.getD (wAt B k).a.toNat 0 - hs.getD (wAt B k).b.toNat 0 - dotL ws (wAt B k).gs
def worthL (ws hs : List Int) (r : Int) (xs : List Int) : Int := hs.getD r.toNat 0 + dotL ws xs
theorem take_sum {α : Type} (f : α → Int) {L : List α} {k : Nat} {x : α} (h : L[k]? = some x) : ((L.take (k + 1)).map f).sum = ((L.take k).map f).sum + f x := by
  rw [List.take_add_one, h, List.map_append, List.sum_append]
  simp
theorem sum_abs {M : Int} : ∀ xs : List Int, (∀ x ∈ xs, -M ≤ x ∧ x ≤ M) → -(xs.length * M) ≤ xs.sum ∧ xs.sum ≤ xs.length * M
  | [], _ => by simp
  | x :: xs, h => by
    have h0 := h x List.mem_cons_self
    obtain ⟨h1, h2⟩ := sum_abs xs fun y hy => h y (List.mem_cons_of_mem _ hy)
    rw [List.sum_cons, List.length_cons]
    push_cast
    rw [Int.add_mul, Int.one_mul]
    omega
theorem mul_abs {x y M N : Int} (h1 : -M ≤ x) (h2 : x ≤ M) (h3 : -N ≤ y) (h4 : y ≤ N) : -(M * N) ≤ x * y ∧ x * y ≤ M * N := by
  have a := Int.natAbs_mul x y
  have hM : 0 ≤ M := by omega
  have hN : 0 ≤ N := by omega
  have b : x.natAbs * y.natAbs ≤ M.natAbs * N.natAbs := Nat.mul_le_mul (by omega) (by omega)
  have c : ((M.natAbs * N.natAbs : Nat) : Int) = M * N := by
    push_cast
    rw [Int.natAbs_of_nonneg hM, Int.natAbs_of_nonneg hN]
  omega
theorem dot_abs {M N : Int} {xs ys : List Int} (h1 : ∀ x ∈ xs, -M ≤ x ∧ x ≤ M) (h2 : ∀ y ∈ ys, -N ≤ y ∧ y ≤ N) (hl : xs.length ≤ 6) (h0 : 0 ≤ M * N) : -(6 * (M * N)) ≤ dotL xs ys ∧ dotL xs ys ≤ 6 * (M * N) := by
  obtain ⟨a, b⟩ := sum_abs (M := M * N) ((xs.zip ys).map fun p => p.1 * p.2) fun z hz => by
    obtain ⟨p, hp, rfl⟩ := List.mem_map.mp hz
    have m := List.of_mem_zip hp
    exact mul_abs (h1 _ m.1).1 (h1 _ m.1).2 (h2 _ m.2).1 (h2 _ m.2).2
  have hl2 : ((xs.zip ys).map fun p => p.1 * p.2).length ≤ 6 := by rw [List.length_map, List.length_zip]; omega
  have c := Int.mul_le_mul_of_nonneg_right (show ((((xs.zip ys).map fun p => p.1 * p.2).length : Nat) : Int) ≤ 6 by omega) h0
  unfold dotL
  omega
end L3
namespace L3
open PySem L2
def everyW (n : Nat) : List Int := (List.range n).map fun k : Nat => (k : Int)
theorem everyW_rng (n : Nat) : rngD 0 n = (everyW n).map PyData.int := by
  unfold rngD everyW
  rw [List.map_map]
  apply List.map_congr_left
  intro i _
  show PyData.int (0 + (i : Nat)) = _
  rw [Int.zero_add]; rfl
theorem everyW_mem {B : Book} {k : Int} (h : k ∈ everyW B.ways.length) : inW B k = true := by
  unfold everyW at h
  obtain ⟨i, hi, rfl⟩ := List.mem_map.mp h
  have := List.mem_range.mp hi
  simp [inW]; omega
theorem everyW_up (n : Nat) : (everyW n).Pairwise (· < ·) := by
  unfold everyW
  rw [List.pairwise_map]
  exact List.pairwise_lt_range.imp fun h => by omega
theorem everyW_len (n : Nat) : (everyW n).length = n := by simp [everyW]
end L3
end
section
namespace L3
open PySem PySem.Spec PyProof.Rows L2
variable {G : Type} {K : PySem.W.Frag} {X : Cx} {Z : Zx K G}
/-- the def as it stands, whatever its defaults -/
structure FunA (K : PySem.W.Frag) (x : Str) (st : Stmt) (fa : Addr) (fd : FuncData) : Prop where
  ex : ∃ (oc : Value) (od : Option Addr) (dV kV doc pm : Value) (an : Option Addr) (cdv ct : Value) (osl : Array (Option Value)),
    fd = PySem.W.fnOf x x (defArgs st) (defBody st) (defScope st) dV kV doc pm an cdv ct ∧ K.lookup fa = some ⟨oc, od, .func fd, osl⟩ ∧ PySem.W.codeIn K cdv x = true
  kp : PySem.W.keepIn K (.ref fa) = true
def DfnD (K : PySem.W.Frag) (mg : Str → Option Value) (x : Str) (s : Stmt) (ps : List Str) (dvs : List V) : Prop := ∃ fa fd, FunA K x s fa fd ∧ mg x = some (.ref fa) ∧ ∃ ds, Vals dvs ds ∧ Binds K fd ps ds
def OkD (P : Program) (w : World) (K : PySem.W.Frag) (mg : Str → Option Value) (base : Heap) (k : Nat) (x : Str) (ps : List Str) (dvs : List V) (sp : Sp) : Prop :=
  ∃ fa fd, mg x = some (.ref fa) ∧ PySem.W.keepIn K (.ref fa) = true ∧ (∃ ds, Vals dvs ds ∧ Binds K fd ps ds) ∧ FnG P w K mg base (L2.CX P w) k fa fd ps sp
section
variable {P : Program} {w : World} {mg : Str → Option Value} {base : Heap}
theorem OkD.up {j : Nat} {x : Str} {ps : List Str} {dvs : List V} {sp : Sp} (h : OkD P w K mg base j x ps dvs sp) {k : Nat} (hk : j ≤ k) : OkD P w K mg base k x ps dvs sp := by
  obtain ⟨fa, fd, h1, h2, h3, h4⟩ := h
  exact ⟨fa, fd, h1, h2, h3, h4.mono hk⟩
theorem funGD {CC : CXT} {x : Str} {st : Stmt} {fa : Addr} {fd : FuncData} {N qs : List Str} {n : Nat} {sp : Sp} (Fu : FunA K x st fa fd) (Sc : FnScope N qs (defScope st)) (len : ∀ us H Q E, sp us H Q E → us.length = qs.length)
    (body : ∀ (cdv : Value) (B : Around) (oe : List Env) (s : Shared) (H : Hp) (vs : List V) (Q : VK) (E : XK), RoomG n (B.deeper (PyProof.Rows.envOfC x (defScope st) s.heap.objs.size fa cdv)) → sp vs H Q E →
      ∃ t, PSs (cxOf CC P w K mg base N x (defScope st) fa cdv B oe s H E) (defBody st) t ∧ t { nx := fun _ H' => Q .non H', rt := Q } (L2.start N vs) H) : FnG P w K mg base CC (n + 1) fa fd qs sp := by
  obtain ⟨oc, od, dV, kV, doc, pm, an, cdv, ct, osl, rfl, lk, hcd⟩ := Fu.ex
  refine ⟨len, fun B oe s H as us vs Q E hr c0 hb r hsp => ?_⟩
  have vl := len _ _ _ _ hsp
  have kin : K.In s.heap := c0.mod.kin.keeps fun b o q => (c0.bs b o q).1
  have nol : s.heap.NoLimit := c0.mod.nolimit.keeps fun b o q => (c0.bs b o q).1
  have kinds : ∀ y ∈ qs.zip us, (defScope st).names.lookup y.1 = some .local ∨ ((defScope st).names.lookup y.1 = some .cell ∧ ((cellsFrom (s.heap.objs.size + 1) (defScope st).names []).lookup y.1).isSome = true) := fun ⟨m, v⟩ hy => by
    rcases Sc.par m (List.of_mem_zip hy).1 with q | q
    · exact .inl q
    · exact .inr ⟨q, PySem.W.cellsFrom_some _ _ _ (.inl q)⟩
  refine codeAny_call_function hr.rm.depth (kin _ _ lk) rfl Sc.co Sc.gen rfl (PySem.W.codeRec_of kin hcd) (hb _ _ _ _ ?_)
  refine wpAny_newFunctionEnv_cells Sc.kind kinds fun en he s1 y => ?_
  subst he
  refine ⟨nol.keeps y.toInCall.keep, codeAny_func ?_⟩
  obtain ⟨t, ht, hq⟩ := body cdv B oe s H vs Q E (hr.deeper _) hsp
  have J : Inv (cxOf CC P w K mg base N x (defScope st) fa cdv B oe s H E) [] (L2.start N vs) H s1 := inv_start Sc hr.rm.hd c0 vl r y
  refine wpAny_mono (ht.run [] s1 (L2.start N vs) H _ J hq) (fun fl s' hs => ?_) fun e s' hs => hs
  cases fl with
  | ret u => obtain ⟨v, σ', H', I, rv, q⟩ := hs; exact ⟨v, H', I.os, I.bare, I.base, I.hok, rv, q⟩
  | next => obtain ⟨σ', H', I, q⟩ := hs; exact ⟨.non, H', I.os, I.bare, I.base, I.hok, rfl, q⟩
  | brk => obtain ⟨_, _, _, q⟩ := hs; exact q.elim
  | cont => obtain ⟨_, _, _, q⟩ := hs; exact q.elim
theorem DfnD.ok {x : Str} {s : Stmt} {N ps : List Str} {dvs : List V} {k : Nat} {Z : Zx K G} {S : Spec G} (D : DfnD K mg x s ps dvs) (Sc : FnScope N ps (defScope s)) (hS : ∀ as g T U, S as g T U → as.length = ps.length) (hN : ps.length ≤ N.length)
    (body : ∀ (fa : Addr) (cdv : Value) (A : Around) (outer : List Env) (s' : Shared) (H : Hp) (E : XK), RoomG k (A.deeper (PyProof.Rows.envOfC x (defScope s) s'.heap.objs.size fa cdv)) →
      ∃ ts t, DSs (cxOf (L2.CX P w) P w K mg base N x (defScope s) fa cdv A outer s' H E).nox (Z.wish (fun _ _ _ _ => False) Un) (defBody s) ts t ∧ ∀ as g T U, S as g T U → t { nx := fun _ g' => T (.dt .none) g', rt := T } (entry N as) g) : OkD P w K mg base (k + 1) x ps dvs (spZ Z S) := by
  obtain ⟨fa, fd, Fu, hm, hb⟩ := D
  refine ⟨fa, fd, hm, Fu.kp, hb, funGD Fu Sc (fun vs H Q E h => ?_) (fun cdv A outer s H vs Q E hr h => ?_)⟩
  · obtain ⟨F, g, as, T, U, h1, h2, h3, h4, h5, _⟩ := h
    rw [argR_len h4]
    exact hS as g T U h5
  · obtain ⟨F, g, as, T, U, h1, h2, h3, h4, h5, h6, h7⟩ := h
    obtain ⟨ts, t, hd, hb⟩ := body fa cdv A outer s H E hr
    exact ⟨ts, hd.ps.nox, body3 h1 h2 h3 h4 (hS as g T U h5) hN (fun _ _ _ _ _ _ _ _ _ _ _ _ z => z.elim) h6 hd.sim (hb as g T U h5)⟩
end
end L3
end
section
namespace L3
open PySem L2
mutual
def Tw.op : Tw → List Int
  | .way k => [k]
  | .row ps => Tw.ops ps
  | .times n t => (List.replicate n.toNat t.op).flatten
def Tw.ops : List Tw → List Int
  | [] => []
  | t :: r => t.op ++ Tw.ops r
end
theorem op_ne {B : Book} {most : Int} : ∀ {n : Nat} {t : Tw}, OkT B most n t → t.op ≠ []
  | 0, .way j, h => by rw [Tw.op]; simp
  | _ + 1, .way j, h => by rw [Tw.op]; simp
  | 0, .row _, h => h.elim
  | 0, .times _ _, h => h.elim
  | n + 1, .row ps, h => by
    rw [Tw.op]
    obtain ⟨h0, _, h⟩ := h
    cases ps with
    | nil => exact absurd rfl h0
    | cons t r =>
      rw [Tw.ops]
      intro z
      exact op_ne (h t List.mem_cons_self) (List.append_eq_nil_iff.mp z).1
  | n + 1, .times c t, h => by
    rw [Tw.op]
    have hc := h.1.1
    have := op_ne h.2
    obtain ⟨m, hm⟩ : ∃ m, c.toNat = m + 1 := ⟨c.toNat - 1, by omega⟩
    rw [hm, List.replicate_succ, List.flatten_cons]
    intro z
    exact this (List.append_eq_nil_iff.mp z).1
def stB (B : Book) (acc : List Int × List Int) (k : Int) : List Int × List Int := (addL acc.1 (wAt B k).gs, (acc.2.zip (wAt B k).gs).map fun p => mx2 0 (p.1 - p.2))
def sumB (B : Book) (n : Nat) (ks : List Int) : List Int × List Int := ks.foldr (fun k acc => stB B acc k) (List.replicate n 0, List.replicate n 0)
end L3
namespace L3
open PySem L2
end L3
namespace L3
open PySem L2
end L3
end
section
namespace L3
open PySem L2
end L3
end
section
namespace L3
open PySem PySem.Spec PyProof.Rows L2
/-- a def called where an error is at hand, which it is told (p is the error) -/
def FnK (P : Program) (w : World) (K : PySem.W.Frag) (mg : Str → Option Value) (base : Heap) (n : Nat) (fa : Addr) (fd : FuncData) (qs : List Str) (sp : Addr × Obj → Sp) : Prop :=
  ∀ (p : Addr × Obj) (B : Around) (oe : List Env) (s : Shared) (H : Hp) (as : Args) (us : List Value) (vs : List V) (Q : VK), L2H.RoomH n B → L2H.PinOk oe H s p → Env0 P w K mg base B oe s H → BindsTo s fd as (qs.zip us) → Vals vs us → us.length = qs.length → sp p vs H Q E0 →
    codeAny (model P w) B (.call (.ref fa) as) (CR (L2.CX P w) oe P w H s Q E0) s
/-- isinstance(e, C), e an error that is pinned -/
theorem call_isP {X : Cx} {p : Addr × Obj} {D : Addr} (C : ExcC X.K D) (hp : p ∈ X.pn) (hz : Zc (.ref D) none p.2) (hf : ∃ vs, p.2.data = .fields vs) : CallR X (.builtin "isinstance") (rIsE X.K D p.1) := fun pins s σ H xs us Q I r h => by
  obtain ⟨c, cv, b, rfl, hcv, e, q⟩ := h
  match us, r with
  | [_, _], .cons rx (.cons rt .nil) =>
    cases rx
    cases hcv _ rt
    have hget := (I.pin p (List.mem_append_left _ hp)).1
    obtain ⟨vs, hv⟩ := hf
    obtain ⟨pa, oc, od, oda, osl⟩ := p
    obtain ⟨h1, h2⟩ := hz
    dsimp only at h1 h2 hv
    subst h1 h2 hv
    have J : PySem.W.InstAt s.heap pa _ D none := ⟨hget, rfl, rfl, trivial⟩
    exact PySem.W.kia_one (PySem.W.handS_kitx_exc C.hg C.hk C.hs C.hd C.ha C.hn C.ht C.hm) I.kIn J e (fun z => nomatch z) fun tk => ⟨.bl b, H, I.kept (t' := tk) fun _ _ z => z, rfl, q⟩
/-- the classes that a law asks for, in their order -/
def kindNs : List Str := ["NoWay", "NoRound", "NoRing", "NoPurse", "NoEnd", "NoStand", "TooMany", "NoLine", "NoRow"]
/-- what isinstance tells of a class's instances -/
structure KindsOf (K : PySem.W.Frag) (mg : Str → Option Value) (D : Addr) (f : Str → Bool) : Prop where
  k : ∀ x ∈ kindNs, PySem.W.kitOne K (.ref D) (cv mg x) = some (f x)
  v : PySem.W.kitOne K (.ref D) (.type "ValueError") = some true
def kindL (f : Str → Bool) : List Bool := kindNs.map f ++ [true]
/-- a def that keeps such a promise -/
def OkK (P : Program) (w : World) (K : PySem.W.Frag) (mg : Str → Option Value) (base : Heap) (k : Nat) (x : Str) (ps : List Str) (sp : Addr × Obj → Sp) : Prop :=
  ∃ fa fd, mg x = some (.ref fa) ∧ PySem.W.keepIn K (.ref fa) = true ∧ Binds K fd ps [] ∧ FnK P w K mg base k fa fd ps sp
theorem OkK.up {P : Program} {w : World} {K : PySem.W.Frag} {mg : Str → Option Value} {base : Heap} {j : Nat} {x : Str} {ps : List Str} {sp : Addr × Obj → Sp} (h : OkK P w K mg base j x ps sp) {k : Nat} (hk : j ≤ k) : OkK P w K mg base k x ps sp := by
  obtain ⟨fa, fd, h1, h2, h3, h4⟩ := h
  exact ⟨fa, fd, h1, h2, h3, fun p B oe s H as us vs Q hr => h4 p B oe s H as us vs Q (hr.mono hk)⟩
/-- one question -/
theorem isE_pe {X : Cx} {p : Addr × Obj} {D : Addr} {x : Str} {px pp pos : Pos} {C : Addr} (c : ExcC X.K D) (hp : p ∈ X.pn) (hz : Zc (.ref D) none p.2) (hf : ∃ vs, p.2.data = .fields vs) (z : X.mg "isinstance" = none) (hx : X.mg x = some (.ref C)) {y : Str} {py : Pos} {te : TE} (he : PE X (.Name y py) te)
    (hg : Gl X "isinstance" := by rfl) (hg2 : Gl X x := by rfl) (hd : (x == ("__debug__" : Str)) = false := by decide) :
    PE X (.Call (.Name "isinstance" pp) [.Name y py, .Name x px] [] pos) (tCB (rIsE X.K D p.1) (tCons te (tCons (tC (.ref C)) tNil))) :=
  pe_callB (call_isP c hp hz hf) hg z rfl (pa_cons he (pa_cons (pe_glob hg2 hx rfl hd) pa_nil))
theorem isT_pe {X : Cx} {p : Addr × Obj} {D : Addr} {x : Str} {n : String} {px pp pos : Pos} (c : ExcC X.K D) (hp : p ∈ X.pn) (hz : Zc (.ref D) none p.2) (hf : ∃ vs, p.2.data = .fields vs) (z : X.mg "isinstance" = none) (hx : X.mg x = none) (hb : bootBuiltins x = some (.type n)) {y : Str} {py : Pos} {te : TE} (he : PE X (.Name y py) te)
    (hg : Gl X "isinstance" := by rfl) (hg2 : Gl X x := by rfl) (hn : x ≠ "__name__" := by decide) (hd : (x == ("__debug__" : Str)) = false := by decide) :
    PE X (.Call (.Name "isinstance" pp) [.Name y py, .Name x px] [] pos) (tCB (rIsE X.K D p.1) (tCons te (tCons (tC (.ty n)) tNil))) :=
  pe_callB (call_isP c hp hz hf) hg z rfl (pa_cons he (pa_cons (pe_bltn hg2 hx hb (show Value.type n = Value.type n from rfl) hn hd) pa_nil))
end L3
end
section
namespace L3
open PySem L2
variable {G : Type} {K : PySem.W.Frag} {X : Cx} {Z : Zx K G}
/-- what is told of a class -/
def KOk (K : PySem.W.Frag) (mg : Str → Option Value) (c : Value) (k : List Bool → Prop) : Prop := ∃ (D : Addr) (f : Str → Bool), c = .ref D ∧ ExcC K D ∧ KindsOf K mg D f ∧ k (kindL f)
theorem bools_da {K : PySem.W.Frag} {F : Hp} : ∀ bs : List Bool, DaAll K F (bs.map V.bl) (bs.map PyData.bool)
  | [] => .nil
  | b :: r => .cons (.bl b) (bools_da r)
theorem Rel.unset {f : Fx} {F : Hp} {ad : Nat → Addr} {ρ : En} {g : G} {σ : St} {H : Hp} (R : Rel Z f F ad ρ g σ H) (i : Nat) (x : Option V) : Rel Z f F ad (ρ.set i .un) g (σ.set i x) H := by
  refine ⟨⟨R.fin, by rw [List.length_set, List.length_set]; exact R.len, fun j s hj => ?_, fun j k s t hj hk hs ht => ?_⟩, R.lx⟩
  · by_cases e : i = j
    · subst e
      have hl := (List.getElem?_eq_some_iff.mp hj).1
      rw [List.length_set] at hl
      rw [List.getElem?_set_self hl] at hj
      cases hj
      trivial
    · rw [List.getElem?_set_ne e] at hj
      have q := R.slot j s hj
      cases s with
      | un => trivial
      | dt d => obtain ⟨w, q1, q2⟩ := q; exact ⟨w, by rw [List.getElem?_set_ne e]; exact q1, q2⟩
      | ls ds => exact ⟨by rw [List.getElem?_set_ne e]; exact q.1, q.2⟩
      | dk ds => exact ⟨by rw [List.getElem?_set_ne e]; exact q.1, q.2⟩
      | rs n => unfold Slo at q ⊢; rw [List.getElem?_set_ne e]; exact q
      | vv u => unfold Slo at q ⊢; rw [List.getElem?_set_ne e]; exact q
  · have own : ∀ {m : Nat} {x : Sl}, (ρ.set i .un)[m]? = some x → x.own = true → ρ[m]? = some x := fun {m x} hm hx => by
      by_cases e : i = m
      · subst e
        have hl := (List.getElem?_eq_some_iff.mp hm).1
        rw [List.length_set] at hl
        rw [List.getElem?_set_self hl] at hm
        cases hm
        cases hx
      · rw [List.getElem?_set_ne e] at hm; exact hm
    exact R.inj j k s t (own hj hs) (own hk ht) hs ht
/-- an own list that has come to stand at l -/
theorem Rel.come {f : Fx} {F : Hp} {ad : Nat → Addr} {ρ : En} {g : G} {σ : St} {H H' : Hp} (R : Rel Z f F ad ρ g σ H) {i : Nat} (hi : i < σ.length) {l : Addr} {vs : List V} {ds : List PyData} (k : ∀ b o, H b = some o → H' b = some o) (n : H l = none) (h : H' l = some (.lst vs)) (d : DaAll K F vs ds) :
    Rel Z f F (adS ad i l) (ρ.set i (.ls ds)) g (σ.set i (some (.ref l))) H' := by
  have ow := R.fin.own n
  refine (R.grown k).setSl ⟨by rw [List.getElem?_set_self hi, adS_same], by rw [adS_same]; exact ow, vs, by rw [adS_same]; exact h, d⟩ fun _ j t hj ht _ e => ?_
  have q := R.slot j t hj
  cases t with
  | ls ds => obtain ⟨_, _, ws, q3, _⟩ := q; rw [e, n] at q3; cases q3
  | dk ds => obtain ⟨_, _, ws, q3, _⟩ := q; rw [e, n] at q3; cases q3
  | _ => cases ht
end L3
end
section
namespace L3
open PySem L2
variable {G : Type} {K : PySem.W.Frag} {X : Cx} {Z : Zx K G}
/-- a class that is of its own kind alone -/
def KX (K : PySem.W.Frag) (mg : Str → Option Value) (x : Str) : Prop := ∃ D, cv mg x = .ref D ∧ ExcC K D ∧ KindsOf K mg D (fun y => y == x)
theorem KX.ok {mg : Str → Option Value} {x : Str} (h : KX K mg x) {k : List Bool → Prop} (q : k (kindL fun y => y == x)) : KOk K mg (cv mg x) k := by
  obtain ⟨D, h1, h2, h3⟩ := h
  exact ⟨D, _, h1, h2, h3, q⟩
theorem holdAll_bools {h : Heap} : ∀ {bs : List Bool} {us : List Value}, Vals (bs.map V.bl) us → PySem.W.HoldAll h us bs
  | [], _, .nil => .nil
  | b :: bs, _, .cons r rs => by
    cases r
    exact .cons (PySem.W.holds_bool b) (holdAll_bools rs)
def bbU (k : Bool → Prop) : Option PyData → Prop
  | some (.bool i) => k i
  | _ => False
theorem bbU_of {k : Bool → Prop} {a : Option PyData} (h : bbU k a) : ∃ i, a = some (.bool i) ∧ k i := by
  unfold bbU at h
  split at h
  · exact ⟨_, rfl, h⟩
  · cases h
def rCntB (K : PySem.W.Frag) : V → List V → Hp → VK → Prop := fun x vs H Q => ∃ (a : Addr) (ns : List Bool) (i : Bool), x = .ref a ∧ vs = [.bl i] ∧ SqL K H a (ns.map V.bl) ∧ Q (.int ((ns.count i : Nat) : Int)) H
def rIdxB (K : PySem.W.Frag) : V → List V → Hp → VK → Prop := fun x vs H Q => ∃ (a : Addr) (ns : List Bool) (i : Bool), x = .ref a ∧ vs = [.bl i] ∧ SqL K H a (ns.map V.bl) ∧ i ∈ ns ∧ ns.length ≤ sizeLine ∧ Q (.int ((ns.idxOf i : Nat) : Int)) H
theorem mt_cntB (hu : X.A.units + 64 < cLine) : MtR X "list.count" (rCntB X.K) := by
  intro pins s σ H x xs v us Q I rx rxs h
  obtain ⟨a, ns, i, rfl, rfl, hs, q⟩ := h
  cases rx
  obtain ⟨u, rfl, ru⟩ := rxs.one
  cases ru
  obtain ⟨its, rv, hl, _⟩ := I.list hs
  refine PySem.W.count_list_datum hl.isList (by simpa using holdAll_bools rv) (PySem.W.holds_bool i) (by show X.A.units + 1 + 0 < _; omega) ?_
  have e : (ns.countP fun y => decide (y = i)) = ns.count i := by
    unfold List.count
    congr 1
  refine ⟨.int _, H, I.tok _, ⟨_, rfl⟩, ?_⟩
  rw [e]
  exact q
theorem mt_idxB (hu : X.A.units + 64 < cLine) : MtR X "list.index" (rIdxB X.K) := by
  intro pins s σ H x xs v us Q I rx rxs h
  obtain ⟨a, ns, i, rfl, rfl, hs, hm, hn, q⟩ := h
  cases rx
  obtain ⟨u, rfl, ru⟩ := rxs.one
  cases ru
  obtain ⟨its, rv, hl, _⟩ := I.list hs
  refine PySem.W.index_list_datum hl.isList (holdAll_bools rv) (PySem.W.holds_bool i) (by show X.A.units + 1 + 0 < _; omega) hn hm ?_
  exact ⟨.int _, H, I.tok _, ⟨_, rfl⟩, q⟩
def dCntB (a b : DT G) : DT G := fun ρ g Q => a ρ g fun r1 ρ1 g1 => lsD (fun _ => b ρ1 g1 fun r2 ρ2 g2 => lsD (fun ds => opK (boolsL ds) fun ns => bbU (fun i => Q (.dt (.int ((ns.count i : Nat) : Int))) ρ2 g2) (rd r2 ρ2)) (rd (st r1) ρ2)) (rd r1 ρ1)
def dIdxB (a b : DT G) : DT G := fun ρ g Q => a ρ g fun r1 ρ1 g1 => lsD (fun _ => b ρ1 g1 fun r2 ρ2 g2 => lsD (fun ds => opK (boolsL ds) fun ns => bbU (fun i => i ∈ ns ∧ ns.length ≤ sizeLine ∧ Q (.dt (.int ((ns.idxOf i : Nat) : Int))) ρ2 g2) (rd r2 ρ2)) (rd (st r1) ρ2)) (rd r1 ρ1)
theorem sim_cntB {ta : TE} {tb : TA} {tb' : TE} {a b : DT G} (ha : Sim Z ta a) (hb : Sim Z tb' b) (e : tb = fun σ H Q => tb' σ H fun x H1 => Q [x] H1) : Sim Z (tBM K "list" (rCntB K) ta tb) (dCntB a b) := fun f F ad ρ g σ H Q R h P hP => by
  subst e
  refine ha f F ad ρ g σ H _ R h _ fun x H1 q => ?_
  obtain ⟨F1, ad1, ρ1, g1, r1, e1, eg1, R1, v1, q⟩ := q
  obtain ⟨ds0, e0, q⟩ := lsD_of q
  obtain ⟨a0, vs0, rfl, ha0, da0⟩ := R1.items v1 e0
  obtain ⟨F1', e1', R1', v1'⟩ := R1.hst v1
  refine ⟨.inl ⟨rfl, _, .inl (.inl ha0)⟩, hb f F1' ad1 ρ1 g1 σ H1 _ R1' q _ fun y H2 q2 => ?_⟩
  obtain ⟨F2, ad2, ρ2, g2, r2, e2, eg2, R2, v2, q⟩ := q2
  obtain ⟨ds, ed, q⟩ := lsD_of q
  obtain ⟨ns, ei, q⟩ := opK_e q
  obtain ⟨i, en, q⟩ := bbU_of q
  obtain ⟨a1, vs1, ea, ha1, da1⟩ := R2.items (v1'.held e2 eg2) ed
  cases ea
  rw [boolsL_of ei] at da1
  have ev := daAll_bools da1
  subst ev
  exact ⟨a0, ns, i, rfl, by rw [R2.rBool v2 en], .inl (.inl ha1), hP _ _ ((R2.dat (.int _) q).mono ((e1.trans e1').trans e2) (eg2.trans eg1))⟩
theorem sim_idxB {ta : TE} {tb : TA} {tb' : TE} {a b : DT G} (ha : Sim Z ta a) (hb : Sim Z tb' b) (e : tb = fun σ H Q => tb' σ H fun x H1 => Q [x] H1) : Sim Z (tBM K "list" (rIdxB K) ta tb) (dIdxB a b) := fun f F ad ρ g σ H Q R h P hP => by
  subst e
  refine ha f F ad ρ g σ H _ R h _ fun x H1 q => ?_
  obtain ⟨F1, ad1, ρ1, g1, r1, e1, eg1, R1, v1, q⟩ := q
  obtain ⟨ds0, e0, q⟩ := lsD_of q
  obtain ⟨a0, vs0, rfl, ha0, da0⟩ := R1.items v1 e0
  obtain ⟨F1', e1', R1', v1'⟩ := R1.hst v1
  refine ⟨.inl ⟨rfl, _, .inl (.inl ha0)⟩, hb f F1' ad1 ρ1 g1 σ H1 _ R1' q _ fun y H2 q2 => ?_⟩
  obtain ⟨F2, ad2, ρ2, g2, r2, e2, eg2, R2, v2, q⟩ := q2
  obtain ⟨ds, ed, q⟩ := lsD_of q
  obtain ⟨ns, ei, q⟩ := opK_e q
  obtain ⟨i, en, qm, qn, q⟩ := bbU_of q
  obtain ⟨a1, vs1, ea, ha1, da1⟩ := R2.items (v1'.held e2 eg2) ed
  cases ea
  rw [boolsL_of ei] at da1
  have ev := daAll_bools da1
  subst ev
  exact ⟨a0, ns, i, rfl, by rw [R2.rBool v2 en], .inl (.inl ha1), qm, qn, hP _ _ ((R2.dat (.int _) q).mono ((e1.trans e1').trans e2) (eg2.trans eg1))⟩
theorem e_cntB (hu : X.A.units + 64 < cLine) {apos cpos : Pos} {o e : Expr} {to te : TE} {a b : DT G} (ho : DE X Z o to a) (he : DE X Z e te b) (hK : K = X.K := by rfl)
    (hbase : attributeBase o "count" X.env (eval o X.env) = eval o X.env := by rfl)
    (hfew : ((backTo cpos (starEach [e] X.env)).all (fun x => !x.1) && (backToKw cpos (keywordEach [] X.env)).all (fun x => x.1.isSome)
      && decide (([e] : List Expr).length + ([] : List Keyword).length + (if ([] : List Keyword).isEmpty then 0 else 1) < 30)) = true := by rfl)
    (hline : (apos.endLine == cpos.line) = true := by rfl) (hst : starEach [e] X.env = (false, eval e X.env) :: starEach [] X.env := by rfl) (hplain : (backTo cpos (starEach [] X.env)).any (·.1) = false := by rfl) :
    DE X Z (.Call (.Attribute o "count" apos) [e] [] cpos) (tBM K "list" (rCntB K) to (tCons te tNil)) (dCntB a b) :=
  ⟨by rw [hK]; exact pe_bm PySem.F.plainAttrs_list PySem.F.slot_list_count PySem.F.type_list_count (mt_cntB hu) ho.pe (pa_cons he.pe pa_nil hst) hbase hfew hline hst hplain, sim_cntB ho.sim he.sim rfl⟩
theorem e_idxB (hu : X.A.units + 64 < cLine) {apos cpos : Pos} {o e : Expr} {to te : TE} {a b : DT G} (ho : DE X Z o to a) (he : DE X Z e te b) (hK : K = X.K := by rfl)
    (hbase : attributeBase o "index" X.env (eval o X.env) = eval o X.env := by rfl)
    (hfew : ((backTo cpos (starEach [e] X.env)).all (fun x => !x.1) && (backToKw cpos (keywordEach [] X.env)).all (fun x => x.1.isSome)
      && decide (([e] : List Expr).length + ([] : List Keyword).length + (if ([] : List Keyword).isEmpty then 0 else 1) < 30)) = true := by rfl)
    (hline : (apos.endLine == cpos.line) = true := by rfl) (hst : starEach [e] X.env = (false, eval e X.env) :: starEach [] X.env := by rfl) (hplain : (backTo cpos (starEach [] X.env)).any (·.1) = false := by rfl) :
    DE X Z (.Call (.Attribute o "index" apos) [e] [] cpos) (tBM K "list" (rIdxB K) to (tCons te tNil)) (dIdxB a b) :=
  ⟨by rw [hK]; exact pe_bm PySem.F.plainAttrs_list PySem.F.slot_list_index PySem.F.type_list_index (mt_idxB hu) ho.pe (pa_cons he.pe pa_nil hst) hbase hfew hline hst hplain, sim_idxB ho.sim he.sim rfl⟩
end L3
end
section
namespace L3
open PySem L2
inductive Cell where
  | d (x : PyData) | r (a : Addr)
inductive OO where
  | ls (cs : List Cell) | dk (kvs : List (Key × Cell)) | ins (x : Str) (L : List Str) (cs : List Cell) | tp (cs : List Cell)
abbrev OS := List (Addr × OO)
def OS.look : OS → Addr → Option OO
  | [], _ => none
  | (b, x) :: r, a => if b = a then some x else OS.look r a
def OS.put : OS → Addr → OO → OS
  | [], _, _ => []
  | (b, x) :: r, a, y => if b = a then (b, y) :: r else (b, x) :: OS.put r a y
def OS.ads (o : OS) : List Addr := o.map (·.1)
theorem OS.look_cons {b : Addr} {x : OO} {o : OS} {a : Addr} : OS.look ((b, x) :: o) a = if b = a then some x else OS.look o a := rfl
theorem OS.look_new {b : Addr} {x : OO} {o : OS} : OS.look ((b, x) :: o) b = some x := if_pos rfl
theorem OS.look_old {b a : Addr} {x y : OO} {o : OS} (h : OS.look o b = none) (h2 : OS.look o a = some y) : OS.look ((b, x) :: o) a = some y := by
  rw [OS.look_cons, if_neg (fun e => by rw [e, h2] at h; cases h)]; exact h2
theorem OS.look_put : ∀ {o : OS} {a : Addr} {x y : OO} (b : Addr), OS.look o a = some x → OS.look (OS.put o a y) b = if a = b then some y else OS.look o b
  | [], _, _, _, _, h => by cases h
  | (c, z) :: o, a, x, y, b, h => by
    unfold OS.put
    by_cases e : c = a
    · subst e
      rw [if_pos rfl, OS.look_cons, OS.look_cons]
      by_cases e2 : c = b
      · rw [if_pos e2, if_pos e2]
      · rw [if_neg e2, if_neg e2, if_neg e2]
    · rw [OS.look_cons, if_neg e] at h
      rw [if_neg e, OS.look_cons, OS.look_cons, OS.look_put b h]
      by_cases e2 : c = b
      · rw [if_pos e2, if_pos e2, if_neg (fun z => e (e2.trans z.symm))]
      · rw [if_neg e2, if_neg e2]
theorem OS.put_self {o : OS} {a : Addr} {x y : OO} (h : OS.look o a = some x) : OS.look (OS.put o a y) a = some y := by rw [OS.look_put a h, if_pos rfl]
theorem OS.put_ne {o : OS} {a b : Addr} {x y : OO} (h : OS.look o a = some x) (n : a ≠ b) : OS.look (OS.put o a y) b = OS.look o b := by rw [OS.look_put b h, if_neg n]
theorem OS.put_ads : ∀ (o : OS) (a : Addr) (y : OO), (OS.put o a y).ads = o.ads
  | [], _, _ => rfl
  | (c, z) :: o, a, y => by
    unfold OS.put
    by_cases e : c = a
    · rw [if_pos e]; rfl
    · rw [if_neg e]
      show c :: (OS.put o a y).ads = c :: OS.ads o
      rw [OS.put_ads o a y]
theorem OS.look_mem : ∀ {o : OS} {a : Addr} {x : OO}, OS.look o a = some x → (a, x) ∈ o
  | [], _, _, h => by cases h
  | (c, z) :: o, a, x, h => by
    rw [OS.look_cons] at h
    by_cases e : c = a
    · rw [if_pos e] at h; cases h; rw [e]; exact List.mem_cons_self
    · rw [if_neg e] at h; exact List.mem_cons_of_mem _ (OS.look_mem h)
theorem OS.look_ads {o : OS} {a : Addr} {x : OO} (h : OS.look o a = some x) : a ∈ o.ads := List.mem_map.mpr ⟨_, OS.look_mem h, rfl⟩
theorem OS.look_none : ∀ {o : OS} {a : Addr}, a ∉ o.ads → OS.look o a = none
  | [], _, _ => rfl
  | (c, z) :: o, a, h => by
    rw [OS.look_cons, if_neg (fun e => h (by rw [e]; exact List.mem_cons_self))]
    exact OS.look_none fun m => h (List.mem_cons_of_mem _ m)
theorem OS.mem_look : ∀ {o : OS}, o.ads.Nodup → ∀ p ∈ o, OS.look o p.1 = some p.2
  | [], _, p, h => by cases h
  | (c, z) :: o, nd, p, h => by
    have nd2 : (c :: OS.ads o).Nodup := nd
    rw [List.nodup_cons] at nd2
    rcases List.mem_cons.mp h with rfl | h
    · exact OS.look_new
    · rw [OS.look_cons, if_neg (fun e => nd2.1 (by rw [e]; exact List.mem_map.mpr ⟨p, h, rfl⟩))]
      exact OS.mem_look nd2.2 p h
section
variable (K : PySem.W.Frag) (mg : Str → Option Value)
def CellV (F : Hp) (v : V) : Cell → Prop
  | .d x => Da K F v x
  | .r a => v = .ref a
abbrev CellsV (F : Hp) : List V → List Cell → Prop := Paired (CellV K F)
def OOat (F H : Hp) (a : Addr) : OO → Prop
  | .ls cs => ∃ vs, H a = some (.lst vs) ∧ CellsV K F vs cs
  | .dk kvs => ∃ vs, H a = some (.dK vs) ∧ Paired (fun (p : Key × V) (q : Key × Cell) => p.1 = q.1 ∧ CellV K F p.2 q.2) vs kvs
  | .ins x L cs => ∃ C dx vs, mg x = some (.ref C) ∧ H a = some (.ins C dx ((L.take cs.length).zip vs)) ∧ CellsV K F vs cs ∧ cs.length ≤ L.length
  | .tp cs => ∃ vs, H a = some (.tup vs) ∧ CellsV K F vs cs
structure OSR (o : OS) (F H : Hp) : Prop where
  at_ : ∀ p ∈ o, OOat K mg F H p.1 p.2
  nd : o.ads.Nodup
end
section
variable {K : PySem.W.Frag} {mg : Str → Option Value} {G : Type} {F F' H H' : Hp}
theorem CellV.mono {v : V} {c : Cell} (e : Ex F F') (h : CellV K F v c) : CellV K F' v c := by
  cases c with
  | d x => exact da_mono e h
  | r a => exact h
theorem CellsV.mono {vs : List V} {cs : List Cell} (e : Ex F F') (h : CellsV K F vs cs) : CellsV K F' vs cs := Paired.mapP h fun _ _ q => q.mono e
theorem OOat.keep {a : Addr} {x : OO} (h : OOat K mg F H a x) (e : Ex F F') (k : H' a = H a) : OOat K mg F' H' a x := by
  cases x with
  | ls cs => obtain ⟨vs, h1, h2⟩ := h; exact ⟨vs, k.trans h1, h2.mono e⟩
  | dk cs => obtain ⟨vs, h1, h2⟩ := h; exact ⟨vs, k.trans h1, Paired.mapP h2 fun _ _ q => ⟨q.1, q.2.mono e⟩⟩
  | ins x L cs => obtain ⟨C, dx, vs, h0, h1, h2, h3⟩ := h; exact ⟨C, dx, vs, h0, k.trans h1, h2.mono e, h3⟩
  | tp cs => obtain ⟨vs, h1, h2⟩ := h; exact ⟨vs, k.trans h1, h2.mono e⟩
theorem OOat.there {a : Addr} {x : OO} (h : OOat K mg F H a x) : H a ≠ none := by
  cases x with
  | ls cs => obtain ⟨vs, h1, _⟩ := h; rw [h1]; intro z; cases z
  | dk cs => obtain ⟨vs, h1, _⟩ := h; rw [h1]; intro z; cases z
  | ins x L cs => obtain ⟨C, dx, vs, h0, h1, _⟩ := h; rw [h1]; intro z; cases z
  | tp cs => obtain ⟨vs, h1, _⟩ := h; rw [h1]; intro z; cases z
theorem OSR.get {o : OS} (h : OSR K mg o F H) {a : Addr} {x : OO} (l : OS.look o a = some x) : OOat K mg F H a x := h.at_ _ (OS.look_mem l)
theorem OSR.keep {o : OS} (h : OSR K mg o F H) (e : Ex F F') (k : ∀ a ∈ o.ads, H' a = H a) : OSR K mg o F' H' := ⟨fun p hp => (h.at_ p hp).keep e (k _ (List.mem_map.mpr ⟨p, hp, rfl⟩)), h.nd⟩
/-- one of the objects is written -/
theorem OSR.put {o : OS} (h : OSR K mg o F H) {a : Addr} {x y : OO} (l : OS.look o a = some x) (u : HO) (hy : OOat K mg F (L2.upd H a u) a y) : OSR K mg (o.put a y) F (L2.upd H a u) := by
  have nd : (o.put a y).ads.Nodup := by rw [OS.put_ads]; exact h.nd
  refine ⟨fun p hp => ?_, nd⟩
  have q := OS.mem_look nd p hp
  rw [OS.look_put p.1 l] at q
  by_cases e : a = p.1
  · rw [if_pos e] at q
    cases q
    rw [← e]; exact hy
  · rw [if_neg e] at q
    exact (h.get q).keep (Evl.Ex.refl F) (upd_ne fun z => e z.symm)
variable (mg) in
/-- with an own store -/
def ZS (Z : Zx K G) : Zx K (G × OS) where
  fp g := Z.fp g.1 ++ g.2.ads
  ra g := Z.ra g.1
  R g F H := Z.R g.1 F H ∧ OSR K mg g.2 F H ∧ ∀ a ∈ Z.fp g.1, a ∉ g.2.ads
  loc := fun {g F F' H H'} ⟨h1, h2, h3⟩ e k => ⟨Z.loc h1 e fun a ha => k a (List.mem_append_left _ ha), h2.keep e fun a ha => k a (List.mem_append_right _ ha), h3⟩
  there := fun {g F H} ⟨h1, h2, h3⟩ a ha => by
    rcases List.mem_append.mp ha with ha | ha
    · exact Z.there h1 a ha
    · obtain ⟨p, hp, rfl⟩ := List.mem_map.mp ha
      exact (h2.at_ p hp).there
end
abbrev ZSw {K : PySem.W.Frag} (mg : Str → Option Value) {G : Type} (Z : Zx K G) (W : WXH) (U : UX (G × OS)) : Zx K (G × OS) := (ZS mg Z).wish W U
/-- the reading of a cell -/
def cR : Cell → Rs
  | .d x => .dt x
  | .r a => .vv (.ref a)
def vvK (r : Rs) (k : Addr → Prop) : Prop := match r with
  | .vv (.ref a) => k a
  | _ => False
theorem vvK_e {r : Rs} {k : Addr → Prop} (h : vvK r k) : ∃ a, r = .vv (.ref a) ∧ k a := by
  unfold vvK at h
  split at h
  · exact ⟨_, rfl, h⟩
  · cases h
def insK (x : Str) (L : List Str) (o : Option OO) (k : List Cell → Prop) : Prop := match o with
  | some (.ins y M cs) => y = x ∧ M = L ∧ k cs
  | _ => False
theorem insK_e {x : Str} {L : List Str} {o : Option OO} {k : List Cell → Prop} (h : insK x L o k) : ∃ cs, o = some (.ins x L cs) ∧ k cs := by
  unfold insK at h
  split at h
  · obtain ⟨rfl, rfl, h⟩ := h
    exact ⟨_, rfl, h⟩
  · cases h
theorem insK_of {x : Str} {L : List Str} {o : Option OO} {k : List Cell → Prop} {cs : List Cell} (e : o = some (.ins x L cs)) (h : k cs) : insK x L o k := by subst e; exact ⟨rfl, rfl, h⟩
def lsK (o : Option OO) (k : List Cell → Prop) : Prop := match o with
  | some (.ls cs) => k cs
  | _ => False
theorem lsK_e {o : Option OO} {k : List Cell → Prop} (h : lsK o k) : ∃ cs, o = some (.ls cs) ∧ k cs := by
  unfold lsK at h
  split at h
  · exact ⟨_, rfl, h⟩
  · cases h
theorem lsK_of {o : Option OO} {k : List Cell → Prop} {cs : List Cell} (e : o = some (.ls cs)) (h : k cs) : lsK o k := by subst e; exact h
/-- the name stands at place n of the layout, and nowhere ahead -/
def FldAt : List Str → Nat → Str → Prop
  | [], _, _ => False
  | f :: _, 0, g => f = g
  | f :: r, n + 1, g => f ≠ g ∧ FldAt r n g
theorem FldAt.lt : ∀ {L : List Str} {n : Nat} {f : Str}, FldAt L n f → n < L.length
  | _ :: _, 0, _, _ => Nat.succ_pos _
  | _ :: r, n + 1, _, h => Nat.succ_lt_succ (FldAt.lt (L := r) h.2)
theorem fld_look : ∀ {L : List Str} {n m : Nat} {f : Str} {vs : List V}, FldAt L n f → n < m → vs.length = m → m ≤ L.length → ((L.take m).zip vs).lookup f = vs[n]?
  | g :: r, 0, m + 1, f, v :: vs, h, _, _, _ => by
    have e : g = f := h
    subst e
    show List.lookup g ((g, v) :: _) = _
    rw [List.lookup_cons_self]; rfl
  | g :: r, n + 1, m + 1, f, v :: vs, h, l, k, hm => by
    show List.lookup f ((g, v) :: ((r.take m).zip vs)) = _
    rw [List.lookup_cons, show (f == g) = false from by simpa using fun e : f = g => h.1 e.symm]
    exact fld_look h.2 (by omega) (by simpa using k) (by simpa using hm)
  | _ :: _, _, m + 1, _, [], _, _, k, _ => by simp at k
theorem fld_none : ∀ {L : List Str} {m : Nat} {f : Str} {vs : List V}, f ∉ L → ((L.take m).zip vs).lookup f = none
  | [], _, _, _, _ => by simp
  | g :: r, 0, _, _, _ => by simp
  | g :: r, m + 1, f, [], _ => by simp
  | g :: r, m + 1, f, v :: vs, h => by
    show List.lookup f ((g, v) :: ((r.take m).zip vs)) = _
    rw [List.lookup_cons, show (f == g) = false from by simpa using fun e : f = g => h (by rw [e]; exact List.mem_cons_self)]
    exact fld_none fun q => h (List.mem_cons_of_mem _ q)
theorem fld_put : ∀ {L : List Str} {n m : Nat} {f : Str} {vs : List V} (v : V), FldAt L n f → n < m → vs.length = m → m ≤ L.length → putF f v ((L.take m).zip vs) = (L.take m).zip (vs.set n v)
  | g :: r, 0, m + 1, f, w :: vs, v, h, _, _, _ => by
    have e : g = f := h
    subst e
    show putF g v ((g, w) :: _) = _
    unfold putF
    rw [if_pos rfl]; rfl
  | g :: r, n + 1, m + 1, f, w :: vs, v, h, l, k, hm => by
    show putF f v ((g, w) :: ((r.take m).zip vs)) = _
    unfold putF
    rw [if_neg h.1, fld_put v h.2 (by omega) (by simpa using k) (by simpa using hm)]
    rfl
  | _ :: _, _, m + 1, _, [], _, _, _, k, _ => by simp at k
theorem fld_new : ∀ {L : List Str} {n : Nat} {f : Str} {vs : List V} (v : V), FldAt L n f → vs.length = n → putF f v ((L.take n).zip vs) = (L.take (n + 1)).zip (vs ++ [v])
  | g :: r, 0, f, [], v, h, _ => by
    have e : g = f := h
    subst e
    rfl
  | g :: r, n + 1, f, w :: vs, v, h, k => by
    show putF f v ((g, w) :: ((r.take n).zip vs)) = _
    unfold putF
    rw [if_neg h.1, fld_new v h.2 (by simpa using k)]
    rfl
  | _ :: _, 0, _, _ :: _, _, _, k => by simp at k
  | _ :: _, _ + 1, _, [], _, _, k => by simp at k
def ClsX (K : PySem.W.Frag) (mg : Str → Option Value) (x : Str) : Prop := ∃ C, mg x = some (.ref C) ∧ Cls K C
def FldX (K : PySem.W.Frag) (mg : Str → Option Value) (x f : Str) : Prop := ∃ C, mg x = some (.ref C) ∧ NoAttr K C f
/-- a method that stands in its class -/
def DfnM (K : PySem.W.Frag) (mg : Str → Option Value) (x m q : Str) (s : Stmt) (ps : List Str) : Prop := ∃ C fa fd, mg x = some (.ref C) ∧ Fun K m q s fa fd ∧ Meth K C m fa ∧ Binds K fd ps []
def OkM (P : Program) (w : World) (K : PySem.W.Frag) (mg : Str → Option Value) (base : Heap) (k : Nat) (x m : Str) (ps : List Str) (sp : Sp) : Prop :=
  ∃ C fa fd, mg x = some (.ref C) ∧ Meth K C m fa ∧ Binds K fd ps [] ∧ FnG P w K mg base (L2.CX P w) k fa fd ps sp
def MkX (K : PySem.W.Frag) (mg : Str → Option Value) (x : Str) : Prop := ∃ C f, mg x = some (.ref C) ∧ Mk K C f
section
variable {P : Program} {w : World} {K : PySem.W.Frag} {mg : Str → Option Value} {base : Heap} {G : Type}
theorem OkM.up {j : Nat} {x m : Str} {ps : List Str} {sp : Sp} (h : OkM P w K mg base j x m ps sp) {k : Nat} (hk : j ≤ k) : OkM P w K mg base k x m ps sp := by
  obtain ⟨C, fa, fd, h1, h2, h3, h4⟩ := h
  exact ⟨C, fa, fd, h1, h2, h3, h4.mono hk⟩
theorem DfnM.ok {x m q : Str} {s : Stmt} {N ps : List Str} {k : Nat} {Z : Zx K G} {S : Spec G} (D : DfnM K mg x m q s ps) (Sc : FnScope N ps (defScope s)) (hS : ∀ as g T U, S as g T U → as.length = ps.length) (hN : ps.length ≤ N.length)
    (body : ∀ (fa : Addr) (cdv : Value) (A : Around) (outer : List Env) (s' : Shared) (H : Hp) (E : XK), RoomG k (A.deeper (PyProof.Rows.envOfC q (defScope s) s'.heap.objs.size fa cdv)) →
      ∃ ts t, DSs (cxOf (L2.CX P w) P w K mg base N q (defScope s) fa cdv A outer s' H E).nox (Z.wish (fun _ _ _ _ => False) Un) (defBody s) ts t ∧ ∀ as g T U, S as g T U → t { nx := fun _ g' => T (.dt .none) g', rt := T } (entry N as) g) : OkM P w K mg base (k + 1) x m ps (spZ Z S) := by
  obtain ⟨C, fa, fd, hm, Fu, Me, hb⟩ := D
  exact ⟨C, fa, fd, hm, Me, hb, fun3 Fu Sc hS hN (body fa)⟩
theorem DfnM.none {x m q : Str} {s : Stmt} {ps : List Str} {k : Nat} {Z : Zx K G} {S : Spec G} (D : DfnM K mg x m q s ps) (h0 : ∀ as g T U, ¬ S as g T U) : OkM P w K mg base k x m ps (spZ Z S) := by
  obtain ⟨C, fa, fd, hm, Fu, Me, hb⟩ := D
  exact ⟨C, fa, fd, hm, Me, hb, fun vs H Q E h => by obtain ⟨_, _, as, T, U, _, _, _, _, h, _⟩ := h; exact absurd h (h0 as _ T U), fun A outer s' H args us vs Q E _ _ _ _ h => by obtain ⟨_, _, as, T, U, _, _, _, _, h, _⟩ := h; exact absurd h (h0 as _ T U)⟩
end
def tMethE (mg : Str → Option Value) (k m : Str) (sp : Sp) (E : L2.St → XK) (ta : TE) (t : TA) : TE := fun σ H Q => ta σ H fun x H1 => ∃ a dx fs C, mg k = some (.ref C) ∧ x = .ref a ∧ H1 a = some (.ins C dx fs) ∧ fs.lookup m = none ∧ t σ H1 fun vs H2 => sp (x :: vs) H2 Q (E σ)
def tMakeE (mg : Str → Option Value) (k : Str) (sp : Sp) (E : L2.St → XK) (t : TA) : TE := fun σ H Q => t σ H fun vs H1 => ∃ C, mg k = some (.ref C) ∧ ∀ x dx, H1 x = none → H1 dx = none → dx ≠ x →
  sp (.ref x :: vs) (upd (upd H1 dx (.own x)) x (.ins C dx [])) (fun v H2 => v = .non ∧ Q (.ref x) H2) (E σ)
section
open PySem.Spec PyProof.Rows
variable {X : Cx} {CC : CXT} {n : Nat} {fa C : Addr} {fd : FuncData} {qs : List Str} {sp : Sp} {x m : Str} {p pos apos : Pos} {e o : Expr} {es : List Expr} {t : TA} {ta : TE}
theorem pe_methG {pl : Sem Bool} {E : L2.St → XK} (he : PE X o ta) (hC : X.mg x = some (.ref C)) (c : Cls X.K C) (hm : Meth X.K C m fa) (F : FnG X.prog X.w X.K X.mg X.base CC n fa fd qs sp) (hr : RoomG n X.A) (hb : Binds X.K fd qs []) (hx : ∀ σ, PassesAt CC X σ (E σ)) (ha : PA X (e :: es) t)
    (hst : starEach (e :: es) X.env = (false, eval e X.env) :: starEach es X.env := by rfl) (hpl : (backTo pos (starEach es X.env)).any (·.1) = false := by rfl)
    (ht : eval (.Call (.Attribute o m apos) (e :: es) [] pos) X.env = (do
      let ov ← eval o X.env
      standAt apos.atName
      let (f, first) ← holding [ov] (getMethod ov m pl)
      callWith pos f first (backTo pos (starEach (e :: es) X.env)) (backToKw pos (keywordEach [] X.env))) := by rfl) :
    PE X (.Call (.Attribute o m apos) (e :: es) [] pos) (tMethE X.mg x m sp E ta t) := by
  refine ⟨fun pins s σ H Q I h => ?_⟩
  refine PySem.W.methodCall_KW (pl := pl) (thn (he.run pins s σ H _ I h) fun u s1 ⟨y, H1, I1, rx, a, dx, fs, C1, hC1, ex, ea, l, q⟩ => ?_) ht
  have eC : C1 = C := by rw [hC] at hC1; cases hC1; rfl
  subst eC
  subst ex
  obtain rfl : u = Value.ref a := rx
  refine getmeth_ok I1 ea c hm l ?_
  refine PySem.W.callWith_K (first := [.ref a]) (h₀ := X.base) I.ok.mod.kin hm.kp (thn (ha.run pos pins s1 σ H1 _ I1 q) fun us s2 ⟨vs, H2, I2, r, q2⟩ => ⟨I2.kIn, ?_⟩) hst hpl
  exact run_fnG (us := .ref a :: us) (vs := .ref a :: vs) (ds := []) (dvs := []) F hr hb .nil (hx σ) I2 (.cons rfl r) (by rw [List.append_nil]; exact q2)
theorem pe_methG0 {pl : Sem Bool} {E : L2.St → XK} (he : PE X o ta) (hC : X.mg x = some (.ref C)) (c : Cls X.K C) (hm : Meth X.K C m fa) (F : FnG X.prog X.w X.K X.mg X.base CC n fa fd qs sp) (hr : RoomG n X.A) (hb : Binds X.K fd qs []) (hx : ∀ σ, PassesAt CC X σ (E σ))
    (ht : eval (.Call (.Attribute o m apos) [] [] pos) X.env = (do
      let ov ← eval o X.env
      standAt apos.atName
      let (f, first) ← holding [ov] (getMethod ov m pl)
      callWith pos f first (backTo pos (starEach [] X.env)) (backToKw pos (keywordEach [] X.env))) := by rfl) :
    PE X (.Call (.Attribute o m apos) [] [] pos) (tMethE X.mg x m sp E ta tNil) := by
  refine ⟨fun pins s σ H Q I h => ?_⟩
  refine PySem.W.methodCall_KW (pl := pl) (thn (he.run pins s σ H _ I h) fun u s1 ⟨y, H1, I1, rx, a, dx, fs, C1, hC1, ex, ea, l, q⟩ => ?_) ht
  have eC : C1 = C := by rw [hC] at hC1; cases hC1; rfl
  subst eC
  subst ex
  obtain rfl : u = Value.ref a := rx
  refine getmeth_ok I1 ea c hm l ?_
  exact PySem.W.callWith_K0 (first := [.ref a]) I1.kIn hm.kp (run_fnG (us := [.ref a]) (vs := [.ref a]) (ds := []) (dvs := []) F hr hb .nil (hx σ) I1 (.cons rfl .nil) q)
theorem run_makeG {pins : List (Addr × Obj)} {σ : L2.St} {H : Hp} {s : Shared} {Q : VK} {E : XK} {us : List Value} {vs : List V} (M : Mk X.K C fa) (F : FnG X.prog X.w X.K X.mg X.base CC n fa fd qs sp) (hr : RoomG (n + 1) X.A) (hb : Binds X.K fd qs [])
    (hx : PassesAt CC X σ E) (I : Inv X pins σ H s) (r : Vals vs us)
    (h : ∀ x dx, H x = none → H dx = none → dx ≠ x → sp (.ref x :: vs) (upd (upd H dx (.own x)) x (.ins C dx [])) (fun v H2 => v = .non ∧ Q (.ref x) H2) E) :
    wpAny (model X.prog X.w) X.A (call (.ref C) us) (EP X pins σ Q) X.xe s := by
  have hq := h (s.heap.objs.size + 1) s.heap.objs.size (I.hok.fresh (Nat.le_succ _)) (I.hok.fresh (Nat.le_refl _)) (Nat.ne_of_lt (Nat.lt_succ_self _))
  have I2 := Inv.made (C := C) I
  have r2 : Vals (V.ref (s.heap.objs.size + 1) :: vs) (Value.ref (s.heap.objs.size + 1) :: us) := .cons rfl r
  have hl : ((Value.ref (s.heap.objs.size + 1) :: us) ++ []).length = qs.length := by
    have e := r2.length
    rw [F.len _ _ _ _ hq] at e
    rw [List.append_nil]
    exact e.symm
  have hb2 := hb _ (Value.ref (s.heap.objs.size + 1) :: us) I2.kIn hl
  rw [List.append_nil] at hb2
  refine wpAny_call (make_map (f := fa) I.kIn M.makes M.init (beq_iff_eq.mp M.fn) (codeAny_mono (F.run _ X.stack _ _ ⟨Value.ref (s.heap.objs.size + 1) :: us, []⟩ (Value.ref (s.heap.objs.size + 1) :: us) _ _ E (hr.make C us [])
    (I2.env0.make C us []) hb2 r2 hq) fun r s' hq' => ?_))
  cases r with
  | error e => exact hx pins _ _ e s' I2 hq'
  | ok fl =>
    cases fl with
    | ret u =>
      obtain ⟨v, H', I3, rv, ev, q3⟩ := I2.after hq'
      subst ev
      exact ⟨rv, ⟨V.ref (s.heap.objs.size + 1), H', I3, rfl, q3⟩⟩
    | next => exact False.elim hq'
    | brk => exact False.elim hq'
    | cont => exact False.elim hq'
theorem pe_makeG {E : L2.St → XK} (M : Mk X.K C fa) (F : FnG X.prog X.w X.K X.mg X.base CC n fa fd qs sp) (hr : RoomG (n + 1) X.A) (hg : Gl X x) (hm : X.mg x = some (.ref C)) (hb : Binds X.K fd qs []) (hx : ∀ σ, PassesAt CC X σ (E σ))
    (ha : PA X (e :: es) t) (hdb : (x == ("__debug__" : Str)) = false := by decide) (he : starEach (e :: es) X.env = (false, eval e X.env) :: starEach es X.env := by rfl) (hpl : (backTo pos (starEach es X.env)).any (·.1) = false := by rfl) :
    PE X (.Call (.Name x p) (e :: es) [] pos) (tMakeE X.mg x sp E t) := by
  refine ⟨fun pins s σ H Q I h => ?_⟩
  refine wpAny_Call_Name_kw (ld_glob I hg hm ?_ hdb)
  refine PySem.W.callWith_K (h₀ := X.base) I.ok.mod.kin M.kp (thn (ha.run pos pins s σ H _ I h) fun us s1 ⟨vs, H1, I1, r, C1, hC1, q⟩ => ⟨I1.kIn, ?_⟩) he hpl
  have eC : C1 = C := by rw [hm] at hC1; cases hC1; rfl
  subst eC
  exact run_makeG M F hr hb (hx σ) I1 r q
end
end L3
end
section
namespace L3
open PySem L2
variable {G : Type} {K : PySem.W.Frag} {mg : Str → Option Value} {X : Cx} {Z : Zx K G} {W : WXH} {U : UX (G × OS)}
theorem paired_get {α β : Type} {R : α → β → Prop} : ∀ {xs : List α} {ys : List β} {n : Nat} {y : β}, Paired R xs ys → ys[n]? = some y → ∃ x, xs[n]? = some x ∧ R x y
  | _, _, _, _, .nil, e => by simp at e
  | _, _, 0, _, .cons h _, e => by simp at e; subst e; exact ⟨_, rfl, h⟩
  | _, _, n + 1, _, .cons _ r, e => by
    obtain ⟨x, h1, h2⟩ := paired_get (n := n) r (by simpa using e)
    exact ⟨x, by simpa using h1, h2⟩
theorem paired_set {α β : Type} {R : α → β → Prop} {x : α} {y : β} (h : R x y) : ∀ {xs : List α} {ys : List β} (n : Nat), Paired R xs ys → Paired R (xs.set n x) (ys.set n y)
  | _, _, _, .nil => .nil
  | _, _, 0, .cons _ r => .cons h r
  | _, _, n + 1, .cons q r => .cons q (paired_set h n r)
theorem paired_app {α β : Type} {R : α → β → Prop} : ∀ {xs xs2 : List α} {ys ys2 : List β}, Paired R xs ys → Paired R xs2 ys2 → Paired R (xs ++ xs2) (ys ++ ys2)
  | _, _, _, _, .nil, r => r
  | _, _, _, _, .cons q s, r => .cons q (paired_app s r)
theorem cells_d {F : Hp} : ∀ {vs : List V} {ds : List PyData}, DaAll K F vs ds → CellsV K F vs (ds.map Cell.d)
  | _, _, .nil => .nil
  | _, _, .cons h r => .cons h (cells_d r)
section
variable {f : Fx} {F F' : Hp} {ad : Nat → Addr} {ρ ρ' : En} {g g' : G × OS} {σ : St} {H H' : Hp}
theorem Rel.osr (R : Rel (ZSw mg Z W U) f F ad ρ g σ H) : OSR K mg g.2 F H := R.fin.res.2.1
theorem cR_vr {v : V} {c : Cell} (h : CellV K F v c) : VR (ZSw mg Z W U) f F ad ρ g σ H v (cR c) := by cases c <;> exact h
/-- an object of the store is written -/
theorem Rel.putS (R : Rel (ZSw mg Z W U) f F ad ρ g σ H) {p : Addr} {x y : OO} {u : HO} (l : OS.look g.2 p = some x) (hy : OOat K mg F (L2.upd H p u) p y) : Rel (ZSw mg Z W U) f F ad ρ (g.1, OS.put g.2 p y) σ (L2.upd H p u) := by
  have hp := OS.look_ads l
  obtain ⟨r1, r2, r3⟩ : Z.R g.1 F H ∧ OSR K mg g.2 F H ∧ ∀ a ∈ Z.fp g.1, a ∉ g.2.ads := R.fin.res
  have e : (OS.put g.2 p y).ads = g.2.ads := OS.put_ads _ _ _
  refine R.upR (g' := (g.1, OS.put g.2 p y)) (a := p) (o := u) (List.mem_append_right _ hp) ?_ rfl ⟨Z.loc r1 (Evl.Ex.refl F) fun a ha => upd_ne fun z => r3 a ha (by rw [z]; exact hp), r2.put l u hy, fun a ha => ?_⟩
  · show Z.fp g.1 ++ (OS.put g.2 p y).ads = Z.fp g.1 ++ g.2.ads
    rw [e]
  · show a ∉ (OS.put g.2 p y).ads
    rw [e]; exact r3 a ha
/-- a new object is taken into the store -/
theorem Rel.newS (R : Rel (ZSw mg Z W U) f F ad ρ g σ H) {p : Addr} (n : NewA (ZSw mg Z W U) f F ad ρ g p) {y : OO} (hy : OOat K mg F H p y) : Rel (ZSw mg Z W U) f F ad ρ (g.1, (p, y) :: g.2) σ H ∧ OS.look g.2 p = none := by
  obtain ⟨r1, r2, r3⟩ : Z.R g.1 F H ∧ OSR K mg g.2 F H ∧ ∀ a ∈ Z.fp g.1, a ∉ g.2.ads := R.fin.res
  have nf : p ∉ Z.fp g.1 ++ g.2.ads := n.1.2.2
  have n1 : p ∉ Z.fp g.1 := fun h => nf (List.mem_append_left _ h)
  have n2 : p ∉ g.2.ads := fun h => nf (List.mem_append_right _ h)
  refine ⟨R.inR (g' := (g.1, (p, y) :: g.2)) n (fun hm => R.fin.fpo p hm n.1.2.1) (fun a => ?_) rfl ⟨r1, ⟨fun q hq => ?_, ?_⟩, fun a ha h => ?_⟩, OS.look_none n2⟩
  · show a ∈ Z.fp g.1 ++ p :: OS.ads g.2 ↔ a ∈ Z.fp g.1 ++ OS.ads g.2 ∨ a = p
    simp only [List.mem_append, List.mem_cons]
    constructor
    · rintro (h | h | h)
      · exact .inl (.inl h)
      · exact .inr h
      · exact .inl (.inr h)
    · rintro ((h | h) | h)
      · exact .inl h
      · exact .inr (.inr h)
      · exact .inr (.inl h)
  · rcases List.mem_cons.mp hq with rfl | hq
    · exact hy
    · exact r2.at_ q hq
  · show (p :: OS.ads g.2).Nodup
    rw [List.nodup_cons]
    exact ⟨n2, r2.nd⟩
  · have h2 : a ∈ p :: OS.ads g.2 := h
    rcases List.mem_cons.mp h2 with e | h2
    · rw [e] at ha; exact n1 ha
    · exact r3 a ha h2
end
def dFld (x : Str) (L : List Str) (n : Nat) (a : DT (G × OS)) : DT (G × OS) := fun ρ g Q => a ρ g fun r ρ1 g1 => vvK r fun p => insK x L (OS.look g1.2 p) fun cs => opK cs[n]? fun c => Q (cR c) ρ1 g1
theorem sim_fldO {x f : Str} {L : List Str} {n : Nat} {ta : TE} {a : DT (G × OS)} (hl : FldAt L n f) (hc : ClsX K mg x) (hf : FldX K mg x f) (ha : Sim (ZSw mg Z W U) ta a) : Sim (ZSw mg Z W U) (tFld K ta f) (dFld x L n a) := fun f0 F ad ρ g σ H Q R q P hP => by
  refine ha f0 F ad ρ g σ H _ R q _ fun y H1 q => ?_
  obtain ⟨F1, ad1, ρ1, g1, r1, e1, eg1, R1, v1, q⟩ := q
  obtain ⟨p, rfl, q⟩ := vvK_e q
  obtain ⟨cs, l, q⟩ := insK_e q
  obtain ⟨c, hcn, q⟩ := opK_e q
  obtain rfl : y = .ref p := v1
  obtain ⟨C, dx, vs, hm, hH, hv, hlen⟩ := R1.osr.get l
  obtain ⟨C1, hm1, cl⟩ := hc
  obtain ⟨C2, hm2, na⟩ := hf
  have eC : C1 = C := by rw [hm] at hm1; cases hm1; rfl
  have eC2 : C2 = C := by rw [hm] at hm2; cases hm2; rfl
  subst eC; subst eC2
  obtain ⟨v, hvn, cv⟩ := paired_get hv hcn
  have hlt : n < cs.length := (List.getElem?_eq_some_iff.mp hcn).1
  exact ⟨p, _, dx, _, v, rfl, hH, cl, na, (fld_look hl hlt (Paired.length hv) hlen).trans hvn, hP v H1 ⟨F1, ad1, ρ1, g1, cR c, e1, eg1, R1, cR_vr cv, q⟩⟩
theorem e_fldO (x : Str) (L : List Str) (n : Nat) {f : Str} {e : Expr} {te : TE} {a : DT (G × OS)} {pos : Pos} (hl : FldAt L n f) (hc : ClsX K mg x) (hf : FldX K mg x f) (he : DE X (ZSw mg Z W U) e te a) (hK : K = X.K := by rfl) (hb : attributeBase e f X.env (eval e X.env) = eval e X.env := by rfl) :
    DE X (ZSw mg Z W U) (.Attribute e f pos) (tFld K te f) (dFld x L n a) := ⟨by rw [hK]; exact pe_fld he.pe hb, sim_fldO hl hc hf he.sim⟩
def cellK (r : Rs) (ρ : En) (k : Cell → En → Prop) : Prop := match r with
  | .vv (.ref a) => k (.r a) ρ
  | .dt d => k (.d d) ρ
  | .nl ds => k (.d (.list ds)) ρ
  | .nd ds => k (.d (.dict ds)) ρ
  | .br i => fz1S ρ i (fun d ρ' => k (.d d) ρ') ρ[i]?
  | _ => False
theorem Rel.cell {G : Type} {Z : Zx K G} {f : Fx} {F : Hp} {ad : Nat → Addr} {ρ : En} {g : G} {σ : St} {H : Hp} {v : V} {r : Rs} {k : Cell → En → Prop} (R : Rel Z f F ad ρ g σ H) (h : VR Z f F ad ρ g σ H v r) (q : cellK r ρ k) :
    ∃ F' c ρ', Ex F F' ∧ Rel Z f F' ad ρ' g σ H ∧ CellV K F' v c ∧ k c ρ' := by
  have go : ∀ r, VR Z f F ad ρ g σ H v r → fz1 r ρ (fun d ρ' => k (.d d) ρ') → ∃ F' c ρ', Ex F F' ∧ Rel Z f F' ad ρ' g σ H ∧ CellV K F' v c ∧ k c ρ' := fun r h q => by
    obtain ⟨d, ρ', ef, q⟩ := fz1_of q
    obtain ⟨F', e, R', dv⟩ := R.hfz h ef
    exact ⟨F', .d d, ρ', e, R', dv, q⟩
  cases r with
  | dt d => exact go _ h q
  | nl d => exact go _ h q
  | nd d => exact go _ h q
  | br i => exact go _ h q
  | rs n => cases q
  | vv u =>
    cases u <;> first | exact ⟨F, .r _, ρ, Evl.Ex.refl F, R, h, q⟩ | cases q
def fldPut : List Cell → Nat → Cell → Option (List Cell)
  | [], 0, c => some [c]
  | _ :: r, 0, c => some (c :: r)
  | x :: r, n + 1, c => (fldPut r n c).map (x :: ·)
  | [], _ + 1, _ => none
theorem fldPut_of : ∀ {cs : List Cell} {n : Nat} {c : Cell} {cs' : List Cell}, fldPut cs n c = some cs' → (n < cs.length ∧ cs' = cs.set n c) ∨ (n = cs.length ∧ cs' = cs ++ [c])
  | [], 0, c, cs', h => by cases h; exact .inr ⟨rfl, rfl⟩
  | x :: r, 0, c, cs', h => by cases h; exact .inl ⟨Nat.succ_pos _, rfl⟩
  | x :: r, n + 1, c, cs', h => by
    unfold fldPut at h
    obtain ⟨r', h1, rfl⟩ := Option.map_eq_some_iff.mp h
    rcases fldPut_of h1 with ⟨h2, rfl⟩ | ⟨h2, rfl⟩
    · exact .inl ⟨Nat.succ_lt_succ h2, rfl⟩
    · exact .inr ⟨congrArg (· + 1) h2, rfl⟩
  | [], _ + 1, _, _, h => by cases h
def dSFld (x : Str) (L : List Str) (n : Nat) (a b : DT (G × OS)) : DS (G × OS) := fun D ρ g => b ρ g fun r1 ρ1 g1 => ifh r1 (a ρ1 g1 fun r2 ρ2 g2 => vvK r2 fun p => insK x L (OS.look g2.2 p) fun cs => cellK (st r1) ρ2 fun c ρ3 => opK (fldPut cs n c) fun cs' => D.nx ρ3 (g2.1, OS.put g2.2 p (.ins x L cs')))
theorem sim_sfldO {x f : Str} {L : List Str} {n : Nat} {ta tb : TE} {a b : DT (G × OS)} (hl : FldAt L n f) (h1000 : L.length < 1000) (hc : ClsX K mg x) (hf : FldX K mg x f) (ha : Sim (ZSw mg Z W U) ta a) (hb : Sim (ZSw mg Z W U) tb b) : SimS (ZSw mg Z W U) (sFld K ta tb f) (dSFld x L n a b) := fun f0 F ad ρ g σ H D R h D2 le => by
  refine hb f0 F ad ρ g σ H _ R h _ fun y H1 q => ?_
  obtain ⟨F1, ad1, ρ1, g1, r1, e1, eg1, R1, v1, q⟩ := q
  replace q := ifh_of q
  obtain ⟨F1', e1', R1', v1'⟩ := R1.hst v1
  refine ha f0 F1' ad1 ρ1 g1 σ H1 _ R1' q _ fun z H2 q2 => ?_
  obtain ⟨F2, ad2, ρ2, g2, r2, e2, eg2, R2, v2, q⟩ := q2
  obtain ⟨p, rfl, q⟩ := vvK_e q
  obtain ⟨cs, l, q⟩ := insK_e q
  obtain ⟨F3, c, ρ3, e3, R3, cv, q⟩ := R2.cell (v1'.held e2 eg2) q
  obtain ⟨cs', hp, q⟩ := opK_e q
  obtain rfl : z = .ref p := v2
  obtain ⟨C, dx, vs, hm, hH, hv, hlen⟩ := R3.osr.get l
  obtain ⟨C1, hm1, cl⟩ := hc
  obtain ⟨C2, hm2, na⟩ := hf
  have eC : C1 = C := by rw [hm] at hm1; cases hm1; rfl
  have eC2 : C2 = C := by rw [hm] at hm2; cases hm2; rfl
  subst eC; subst eC2
  have vl := Paired.length hv
  refine ⟨p, _, dx, _, rfl, hH, cl, na, ?_, ?_⟩
  · rw [List.length_zip, List.length_take]; omega
  · refine le.nx F3 ad2 ρ3 (g2.1, OS.put g2.2 p (.ins x L cs')) σ _ (eg2.trans eg1) (R3.putS (y := .ins x L cs') l ?_) q
    rcases fldPut_of hp with ⟨hlt, rfl⟩ | ⟨hn, rfl⟩
    · refine ⟨_, dx, vs.set n y, hm, ?_, paired_set cv n hv, by rw [List.length_set]; exact hlen⟩
      rw [upd_same, fld_put y hl hlt vl hlen, List.length_set]
    · have hlt := hl.lt
      subst hn
      refine ⟨_, dx, vs ++ [y], hm, ?_, paired_app hv (.cons cv .nil), by rw [List.length_append]; exact hlt⟩
      rw [upd_same, fld_new y hl vl, List.length_append]
      rfl
theorem s_fldO (x : Str) (L : List Str) (n : Nat) {f : Str} {o e : Expr} {ta te : TE} {a b : DT (G × OS)} {pos pos' : Pos} (hl : FldAt L n f) (hc : ClsX K mg x) (hf : FldX K mg x f) (ho : DE X (ZSw mg Z W U) o ta a) (he : DE X (ZSw mg Z W U) e te b) (h1000 : L.length < 1000 := by decide) (hK : K = X.K := by rfl)
    (hs : swapsWith e (some (.Attribute o f pos')) pos.line X.env = pure false := by rfl) : DSt X (ZSw mg Z W U) (.Assign [.Attribute o f pos'] e pos) (sFld K ta te f) (dSFld x L n a b) := ⟨by rw [hK]; exact ps_fld ho.pe he.pe hs, sim_sfldO hl h1000 hc hf ho.sim he.sim⟩
def dAdopt (a : DT (G × OS)) : DT (G × OS) := fun ρ g Q => a ρ g fun r ρ1 g1 => nlK r fun ds => ∀ p, OS.look g1.2 p = none → Q (.vv (.ref p)) ρ1 (g1.1, (p, .ls (ds.map Cell.d)) :: g1.2)
theorem sim_adopt {ta : TE} {a : DT (G × OS)} (ha : Sim (ZSw mg Z W U) ta a) : Sim (ZSw mg Z W U) ta (dAdopt a) := fun f0 F ad ρ g σ H Q R q P hP => by
  refine ha f0 F ad ρ g σ H _ R q _ fun y H1 q => ?_
  obtain ⟨F1, ad1, ρ1, g1, r1, e1, eg1, R1, v1, q⟩ := q
  obtain ⟨ds, rfl, q⟩ := nlK_e q
  obtain ⟨p, vs, rfl, np, hp, da⟩ := v1
  obtain ⟨R2, hn⟩ := R1.newS np (y := .ls (ds.map Cell.d)) ⟨vs, hp, cells_d da⟩
  exact hP _ _ ⟨F1, ad1, ρ1, (g1.1, (p, .ls (ds.map Cell.d)) :: g1.2), .vv (.ref p), e1, eg1, R2, rfl, q p hn⟩
theorem e_adopt {e : Expr} {te : TE} {a : DT (G × OS)} (he : DE X (ZSw mg Z W U) e te a) : DE X (ZSw mg Z W U) e te (dAdopt a) := ⟨he.pe, sim_adopt he.sim⟩
def dMeth (U : UX (G × OS)) (S : Spec (G × OS)) (x : Str) (L : List Str) (o : DT (G × OS)) (a : DA (G × OS)) : DT (G × OS) := fun ρ g Q => o ρ g fun r ρ0 g0 => vvK r fun p => insK x L (OS.look g0.2 p) fun _ => a ρ0 g0 fun rs ρ1 g1 => frK rs ρ1 fun qs ρ2 => S (.vv (.ref p) :: qs) g1 (fun r g' => Q r ρ2 g') (fun c fs g' => U c fs ρ2 g')
theorem sim_methO {U' : UX (G × OS)} {E : St → XK} (hU : LeW (ZSw mg Z W U) U' E) {S : Spec (G × OS)} {x m : Str} {L : List Str} (hm : m ∉ L) {to : TE} {ta : TA} {o : DT (G × OS)} {a : DA (G × OS)} (ho : Sim (ZSw mg Z W U) to o) (ha : SimA (ZSw mg Z W U) ta a) :
    Sim (ZSw mg Z W U) (tMethE mg x m (spZ (ZSw mg Z W U) S) E to ta) (dMeth U' S x L o a) := fun f F ad ρ g σ H Q R q P hP => by
  refine ho f F ad ρ g σ H _ R q _ fun y H0 q => ?_
  obtain ⟨F0, ad0, ρ0, g0, r0, e0, eg0, R0, v0, q⟩ := q
  obtain ⟨p, rfl, q⟩ := vvK_e q
  obtain ⟨cs, l, q⟩ := insK_e q
  obtain rfl : y = .ref p := v0
  obtain ⟨C1, dx, vs0, hm1, hH, hv, hlen⟩ := R0.osr.get l
  refine ⟨p, dx, _, C1, hm1, rfl, hH, fld_none hm, ?_⟩
  refine ha f F0 ad0 ρ0 g0 σ H0 _ R0 q _ fun vs H1 q => ?_
  obtain ⟨F1, ad1, ρ1, g1, rs, e1, eg1, R1, v1, q⟩ := q
  obtain ⟨qs, ρ2, ef, q⟩ := frK_of q
  obtain ⟨F2, e2, R2, da⟩ := R1.hfzRA v1 ef
  refine ⟨F2, g1, .vv (.ref p) :: qs, _, _, R2.fin.sub, R2.fin.res, R2.fin.fpF, .cons rfl da, q, fun v r F' g' H' fr er hv hT => ?_, fun c fs dx F' g' H' fr er hx hu => hU _ _ _ _ _ _ _ _ _ _ (R2.called fr er) hx hu⟩
  exact hP v H' ⟨F', ad1, ρ2, g', r, (e0.trans (e1.trans e2)).trans fr.ex, er.trans (eg1.trans eg0), R2.called fr er, R2.ret fr hv, hT⟩
def dMake (U : UX (G × OS)) (S : Spec (G × OS)) (x : Str) (L : List Str) (a : DA (G × OS)) : DT (G × OS) := fun ρ g Q => a ρ g fun rs ρ1 g1 => frK rs ρ1 fun qs ρ2 => ∀ p, OS.look g1.2 p = none → S (.vv (.ref p) :: qs) (g1.1, (p, .ins x L []) :: g1.2) (fun r g' => r = .dt .none ∧ Q (.vv (.ref p)) ρ2 g') (fun c fs g' => U c fs ρ2 g')
theorem sim_makeO {U' : UX (G × OS)} {E : St → XK} (hU : LeW (ZSw mg Z W U) U' E) {S : Spec (G × OS)} {x : Str} {L : List Str} {C : Addr} (hC : mg x = some (.ref C)) {ta : TA} {a : DA (G × OS)} (ha : SimA (ZSw mg Z W U) ta a) :
    Sim (ZSw mg Z W U) (tMakeE mg x (spZ (ZSw mg Z W U) S) E ta) (dMake U' S x L a) := fun f F ad ρ g σ H Q R q P hP => by
  refine ha f F ad ρ g σ H _ R q _ fun vs H1 q => ?_
  obtain ⟨F1, ad1, ρ1, g1, rs, e1, eg1, R1, v1, q⟩ := q
  obtain ⟨qs, ρ2, ef, q⟩ := frK_of q
  obtain ⟨F2, e2, R2, da⟩ := R1.hfzRA v1 ef
  refine ⟨C, hC, fun y dx hy hdx hne => ?_⟩
  have R3 := R2.grown (H' := upd H1 dx (.own y)) fun b o e => by rw [upd_ne (ne_of_none e hdx)]; exact e
  obtain ⟨R4, n4⟩ := R3.laid (p := y) (o := .ins C dx []) (by rw [upd_ne hne.symm]; exact hy)
  obtain ⟨R5, hn⟩ := R4.newS n4 (y := .ins x L []) ⟨C, dx, [], hC, upd_same, .nil, Nat.zero_le _⟩
  refine ⟨F2, _, .vv (.ref y) :: qs, _, _, R5.fin.sub, R5.fin.res, R5.fin.fpF, .cons rfl (Paired.mapP da fun v r h => by cases r <;> exact h), q y hn, fun v r F' g' H' fr er hv hT => ?_, fun c fs dx F' g' H' fr er hx hu => hU _ _ _ _ _ _ _ _ _ _ (R5.called fr er) hx hu⟩
  obtain ⟨rfl, hT⟩ := hT
  obtain rfl : v = .non := by cases (show Da K F' v .none from hv); rfl
  exact ⟨rfl, hP _ H' ⟨F', ad1, ρ2, g', .vv (.ref y), (e1.trans e2).trans fr.ex, er.trans eg1, R5.called fr er, rfl, hT⟩⟩
section
variable {k : Nat} {ps : List Str} {x m : Str} {p pos apos : Pos} {e o : Expr} {es : List Expr} {ta : TA} {to : TE} {a : DA (G × OS)} {b : DT (G × OS)}
theorem e_methO {pl : Sem Bool} {U' : UX (G × OS)} {E : St → XK} (Le : Let X (ZSw mg Z W U) U' E) {S : Spec (G × OS)} {Z' : Zx K (G × OS)} (L : List Str) (F : OkM X.prog X.w X.K X.mg X.base k x m ps (spZ Z' S)) (hr : RoomG k X.A) (hc : ClsX X.K X.mg x) (hn : m ∉ L) (ho : DE X (ZSw mg Z W U) o to b) (ha : DAs X (ZSw mg Z W U) (e :: es) ta a) (hmg : mg = X.mg := by rfl) (hz : spZ Z' S = spZ (ZSw mg Z W U) S := by rfl)
    (hst : starEach (e :: es) X.env = (false, eval e X.env) :: starEach es X.env := by rfl) (hpl : (backTo pos (starEach es X.env)).any (·.1) = false := by rfl)
    (ht : eval (.Call (.Attribute o m apos) (e :: es) [] pos) X.env = (do
      let ov ← eval o X.env
      standAt apos.atName
      let (f, first) ← holding [ov] (getMethod ov m pl)
      callWith pos f first (backTo pos (starEach (e :: es) X.env)) (backToKw pos (keywordEach [] X.env))) := by rfl) :
    DE X (ZSw mg Z W U) (.Call (.Attribute o m apos) (e :: es) [] pos) (tMethE mg x m (spZ Z' S) E to ta) (dMeth U' S x L b a) := by
  obtain ⟨C, fa, fd, hC, Me, hb, Fk⟩ := F
  obtain ⟨C1, hC1, cl⟩ := hc
  have eC : C1 = C := by rw [hC] at hC1; cases hC1; rfl
  subst eC
  subst hmg
  exact ⟨pe_methG (pl := pl) ho.pe hC cl Me Fk hr hb Le.pa ha.pa hst hpl ht, by rw [hz]; exact sim_methO Le.lw hn ho.sim ha.sim⟩
theorem e_methO0 {pl : Sem Bool} {U' : UX (G × OS)} {E : St → XK} (Le : Let X (ZSw mg Z W U) U' E) {S : Spec (G × OS)} {Z' : Zx K (G × OS)} (L : List Str) (F : OkM X.prog X.w X.K X.mg X.base k x m ps (spZ Z' S)) (hr : RoomG k X.A) (hc : ClsX X.K X.mg x) (hn : m ∉ L) (ho : DE X (ZSw mg Z W U) o to b) (hmg : mg = X.mg := by rfl) (hz : spZ Z' S = spZ (ZSw mg Z W U) S := by rfl)
    (ht : eval (.Call (.Attribute o m apos) [] [] pos) X.env = (do
      let ov ← eval o X.env
      standAt apos.atName
      let (f, first) ← holding [ov] (getMethod ov m pl)
      callWith pos f first (backTo pos (starEach [] X.env)) (backToKw pos (keywordEach [] X.env))) := by rfl) :
    DE X (ZSw mg Z W U) (.Call (.Attribute o m apos) [] [] pos) (tMethE mg x m (spZ Z' S) E to tNil) (dMeth U' S x L b dNil) := by
  obtain ⟨C, fa, fd, hC, Me, hb, Fk⟩ := F
  obtain ⟨C1, hC1, cl⟩ := hc
  have eC : C1 = C := by rw [hC] at hC1; cases hC1; rfl
  subst eC
  subst hmg
  exact ⟨pe_methG0 (pl := pl) ho.pe hC cl Me Fk hr hb Le.pa ht, by rw [hz]; exact sim_methO Le.lw hn ho.sim sim_dnil⟩
theorem e_makeO {U' : UX (G × OS)} {E : St → XK} (Le : Let X (ZSw mg Z W U) U' E) {S : Spec (G × OS)} {Z' : Zx K (G × OS)} (L : List Str) (F : OkM X.prog X.w X.K X.mg X.base k x "__init__" ps (spZ Z' S)) (hr : RoomG (k + 1) X.A) (hc : MkX X.K X.mg x) (ha : DAs X (ZSw mg Z W U) (e :: es) ta a) (hmg : mg = X.mg := by rfl) (hz : spZ Z' S = spZ (ZSw mg Z W U) S := by rfl)
    (hg : Gl X x := by rfl) (hdb : (x == ("__debug__" : Str)) = false := by decide) (hst : starEach (e :: es) X.env = (false, eval e X.env) :: starEach es X.env := by rfl) (hpl : (backTo pos (starEach es X.env)).any (·.1) = false := by rfl) :
    DE X (ZSw mg Z W U) (.Call (.Name x p) (e :: es) [] pos) (tMakeE mg x (spZ Z' S) E ta) (dMake U' S x L a) := by
  obtain ⟨C, fa, fd, hC, Me, hb, Fk⟩ := F
  obtain ⟨C1, f1, hC1, mk⟩ := hc
  have eC : C1 = C := by rw [hC] at hC1; cases hC1; rfl
  subst eC
  have ef : f1 = fa := by
    have h1 := mk.init
    have h2 := Me.at_
    rw [h2] at h1; cases h1; rfl
  subst ef
  subst hmg
  exact ⟨pe_makeG mk Fk hr hg hC hb Le.pa ha.pa hdb hst hpl, by rw [hz]; exact sim_makeO Le.lw hC ha.sim⟩
end
end L3
namespace L3
open PySem L2
/-- behind a write: any store in which the object stands so -/
@[elab_as_elim] theorem putGen {G : Type} {motive : G × OS → Prop} {a : G} {o : OS} {p : Addr} {x : OO} (y : OO) (h : OS.look o p = some x) (k : ∀ g1 : G × OS, g1.1 = a → OS.look g1.2 p = some y → (∀ q, p ≠ q → OS.look g1.2 q = OS.look o q) → motive g1) : motive (a, OS.put o p y) :=
  k _ rfl (OS.put_self h) fun _ n => OS.put_ne h n
end L3
end
section
namespace L3
open PySem L2
def rowS (r : Option (Int × Int) × Int) (acc : Option (Int × Int)) (k : Option (Int × Int) → Int → Option (Int × Int) × Int) : Option (Int × Int) × Int := match r, acc with
    | (none, l'), _ => (none, l')
    | (some (a, b), l'), none => k (some (a, b)) l'
    | (some (a, b), l'), some (x, y) => if y = a then k (some (x, b)) l' else (none, l')
def rowF (G : Int → PyData → Option (Int × Int) × Int) : Option (Int × Int) → Int → List PyData → Option (Int × Int) × Int
  | acc, l, [] => (acc, l)
  | acc, l, q :: qs => rowS (G l q) acc fun acc' l' => rowF G acc' l' qs
def rowG (G : Int → PyData → Option (Int × Int) × Int) (l : Int) : PyData → Option (Int × Int) × Int
  | .tuple (q :: qs) => rowF G none l (q :: qs)
  | _ => (none, l)
mutual
def Tw.sz : Tw → Nat
  | .way _ => 1
  | .row ps => 1 + Tw.szs ps
  | .times _ t => 1 + t.sz
def Tw.szs : List Tw → Nat
  | [] => 0
  | t :: r => t.sz + Tw.szs r
end
mutual
def Tw.dp : Tw → Nat
  | .way _ => 1
  | .row ps => 1 + Tw.dps ps
  | .times _ t => 1 + t.dp
def Tw.dps : List Tw → Nat
  | [] => 0
  | t :: r => max t.dp (Tw.dps r)
end
theorem Tw.sz_pos (t : Tw) : 1 ≤ t.sz := by
  cases t with
  | way k => rw [Tw.sz]; exact Nat.le_refl _
  | row ps => rw [Tw.sz]; omega
  | times n t => rw [Tw.sz]; omega
mutual
def Zr : Tw → Prop
  | .way k => k = 0
  | .row ps => ps ≠ [] ∧ Zrs ps
  | .times n t => 1 ≤ n ∧ Zr t
def Zrs : List Tw → Prop
  | [] => True
  | t :: r => Zr t ∧ Zrs r
end
mutual
theorem Zr.ch {B : Book} (h0 : inW B 0 = true) (ha : (wAt B 0).a = 0) (hb : (wAt B 0).b = 0) : ∀ {t : Tw}, Zr t → ChT B t 0 0
  | .way k, h => by rw [Zr] at h; subst h; rw [ChT]; exact ⟨h0, ha, hb⟩
  | .row ps, h => by rw [Zr] at h; rw [ChT]; exact ⟨h.1, Zrs.ch h0 ha hb h.2⟩
  | .times n t, h => by rw [Zr] at h; rw [ChT]; exact ⟨Zr.ch h0 ha hb h.2, .inr rfl⟩
theorem Zrs.ch {B : Book} (h0 : inW B 0 = true) (ha : (wAt B 0).a = 0) (hb : (wAt B 0).b = 0) : ∀ {ps : List Tw}, Zrs ps → ChTs B ps 0 0
  | [], _ => by rw [ChTs]
  | t :: r, h => by rw [Zrs] at h; rw [ChTs]; exact ⟨0, Zr.ch h0 ha hb h.1, Zrs.ch h0 ha hb h.2⟩
end
theorem szs_app : ∀ (ps qs : List Tw), Tw.szs (ps ++ qs) = Tw.szs ps + Tw.szs qs
  | [], qs => by rw [List.nil_append, Tw.szs]; omega
  | t :: r, qs => by rw [List.cons_append, Tw.szs, Tw.szs, szs_app r qs]; omega
theorem dps_le {M : Nat} : ∀ {ps : List Tw}, (∀ p ∈ ps, p.dp ≤ M) → Tw.dps ps ≤ M
  | [], _ => by rw [Tw.dps]; omega
  | t :: r, h => by
    have h1 := h t List.mem_cons_self
    have h2 := dps_le (ps := r) fun p hp => h p (List.mem_cons_of_mem _ hp)
    rw [Tw.dps]
    omega
end L3
end
section
namespace L3
open PySem L2
/-- t is another telling of the ways of u, from a to e; to a depth, its parts counted -/
structure Oth (B : Book) (u : List Int) (a e : Int) (n s : Nat) (t : Tw) : Prop where
  op : t.op = u
  ch : ChT B t a e
  ok : OkT B (2 ^ 400) n t
  sz : t.sz ≤ s
  dp : t.dp ≤ n + 1
theorem Oth.mono {B : Book} {u : List Int} {a e : Int} {n s m r : Nat} {t : Tw} (h : Oth B u a e n s t) (hn : n ≤ m) (hs : s ≤ r) : Oth B u a e m r t := ⟨h.op, h.ch, h.ok.mono hn, Nat.le_trans h.sz hs, Nat.le_trans h.dp (by omega)⟩
/-- a row of tellings -/
def OthS (B : Book) (n : Nat) : List Int → Int → Int → Nat → List Tw → Prop
  | u, a, e, s, [] => u = [] ∧ a = e
  | u, a, e, s, t :: r => ∃ u1 u2 c s1 s2, u = u1 ++ u2 ∧ s = s1 + s2 ∧ Oth B u1 a c n s1 t ∧ OthS B n u2 c e s2 r
theorem othS_parts {B : Book} {n : Nat} : ∀ {ts : List Tw} {u : List Int} {a e : Int} {s : Nat}, OthS B n u a e s ts → Tw.ops ts = u ∧ ChTs B ts a e ∧ (∀ p ∈ ts, OkT B (2 ^ 400) n p ∧ p.dp ≤ n + 1) ∧ Tw.szs ts ≤ s
  | [], u, a, e, s, h => ⟨by rw [Tw.ops, h.1], by rw [ChTs]; exact h.2, fun p hp => (nomatch hp), by rw [Tw.szs]; exact Nat.zero_le _⟩
  | t :: r, u, a, e, s, h => by
    obtain ⟨u1, u2, c, s1, s2, rfl, rfl, h1, h2⟩ := h
    obtain ⟨k1, k2, k3, k4⟩ := othS_parts h2
    refine ⟨by rw [Tw.ops, h1.op, k1], by rw [ChTs]; exact ⟨c, h1.ch, k2⟩, fun p hp => ?_, by rw [Tw.szs]; have := h1.sz; omega⟩
    rcases List.mem_cons.mp hp with rfl | hp
    · exact ⟨h1.ok, h1.dp⟩
    · exact k3 p hp
theorem szs_len : ∀ ts : List Tw, ts.length ≤ Tw.szs ts
  | [] => Nat.zero_le _
  | t :: r => by have := szs_len r; have := t.sz_pos; rw [Tw.szs, List.length_cons]; omega
theorem dps_max {M : Nat} : ∀ {ps : List Tw}, (∀ p ∈ ps, p.dp ≤ M) → Tw.dps ps ≤ M := fun h => dps_le h
theorem OthS.row {B : Book} {n : Nat} {ts : List Tw} {u : List Int} {a e : Int} {s : Nat} (h : OthS B n u a e s ts) (hne : ts ≠ []) (hs : s ≤ 10000) : Oth B u a e (n + 1) (1 + s) (.row ts) := by
  obtain ⟨k1, k2, k3, k4⟩ := othS_parts h
  refine ⟨by rw [Tw.op, k1], by rw [ChT]; exact ⟨hne, k2⟩, ⟨hne, by have := szs_len ts; omega, fun p hp => (k3 p hp).1⟩, by rw [Tw.sz]; omega, ?_⟩
  rw [Tw.dp]
  have := dps_max (M := n + 1) fun p hp => (k3 p hp).2
  omega
theorem OthS.app {B : Book} {n : Nat} : ∀ {ts vs : List Tw} {u w : List Int} {a c e : Int} {s r : Nat}, OthS B n u a c s ts → OthS B n w c e r vs → OthS B n (u ++ w) a e (s + r) (ts ++ vs)
  | [], vs, u, w, a, c, e, s, r, h, k => by
    obtain ⟨rfl, rfl⟩ := h
    rw [List.nil_append, List.nil_append]
    cases vs with
    | nil => exact k
    | cons v vs =>
      obtain ⟨u1, u2, c, s1, s2, h1, rfl, h2, h3⟩ := k
      exact ⟨u1, u2, c, s + s1, s2, h1, by omega, h2.mono (Nat.le_refl _) (by omega), h3⟩
  | t :: ts, vs, u, w, a, c, e, s, r, h, k => by
    obtain ⟨u1, u2, c1, s1, s2, rfl, rfl, h1, h2⟩ := h
    exact ⟨u1, u2 ++ w, c1, s1, s2 + r, by rw [List.append_assoc], by omega, h1, h2.app k⟩
theorem OthS.mono {B : Book} {n m : Nat} (hm : n ≤ m) : ∀ {ts : List Tw} {u : List Int} {a e : Int} {s : Nat}, OthS B n u a e s ts → OthS B m u a e s ts
  | [], _, _, _, _, h => h
  | t :: r, _, _, _, _, h => by
    obtain ⟨u1, u2, c, s1, s2, h0, h1, h2, h3⟩ := h
    exact ⟨u1, u2, c, s1, s2, h0, h1, h2.mono hm (Nat.le_refl _), h3.mono hm⟩
theorem Oth.times {B : Book} {u : List Int} {a e : Int} {n s : Nat} {t : Tw} (h : Oth B u a e n s t) {c : Int} (h1 : 1 ≤ c) (h2 : c ≤ 2 ^ 400) (h3 : c = 1 ∨ a = e) : Oth B (List.replicate c.toNat u).flatten a e (n + 1) (1 + s) (.times c t) :=
  ⟨by rw [Tw.op, h.op], by rw [ChT]; exact ⟨h.ch, h3⟩, ⟨⟨h1, h2⟩, h.ok⟩, by rw [Tw.sz]; have := h.sz; omega, by rw [Tw.dp]; have := h.dp; omega⟩
end L3
end
section
namespace L2
open PySem PySem.Spec PyProof.Rows
end L2
namespace L3
open PySem L2
end L3
end
section
namespace L3
open PySem PySem.Spec PyProof.Rows L2
variable {G : Type} {K : PySem.W.Frag} {X : Cx} {Z : Zx K G}
/-- the last parameter given by its name -/
def KwB (K : PySem.W.Frag) (fd : FuncData) (ps : List Str) (q : Str) : Prop := ∀ (s : Shared) (us : List Value) (v : Value), K.In s.heap → us.length + 1 = ps.length → BindsTo s fd ⟨us, [(q, v)]⟩ (ps.zip (us ++ [v]))
def DfnE (K : PySem.W.Frag) (mg : Str → Option Value) (x : Str) (s : Stmt) (ps : List Str) (q : Str) (dvs : List V) : Prop := ∃ fa fd, FunA K x s fa fd ∧ mg x = some (.ref fa) ∧ (∃ ds, Vals dvs ds ∧ Binds K fd ps ds) ∧ Binds K fd ps [] ∧ KwB K fd ps q
def OkE (P : Program) (w : World) (K : PySem.W.Frag) (mg : Str → Option Value) (base : Heap) (k : Nat) (x : Str) (ps : List Str) (q : Str) (dvs : List V) (sp : Sp) : Prop :=
  ∃ fa fd, mg x = some (.ref fa) ∧ PySem.W.keepIn K (.ref fa) = true ∧ (∃ ds, Vals dvs ds ∧ Binds K fd ps ds) ∧ Binds K fd ps [] ∧ KwB K fd ps q ∧ FnG P w K mg base (L2.CX P w) k fa fd ps sp
section
variable {P : Program} {w : World} {mg : Str → Option Value} {base : Heap}
theorem OkE.up {j : Nat} {x q : Str} {ps : List Str} {dvs : List V} {sp : Sp} (h : OkE P w K mg base j x ps q dvs sp) {k : Nat} (hk : j ≤ k) : OkE P w K mg base k x ps q dvs sp := by
  obtain ⟨fa, fd, h1, h2, h3, h5, h6, h4⟩ := h
  exact ⟨fa, fd, h1, h2, h3, h5, h6, h4.mono hk⟩
theorem DfnE.ok {x q : Str} {s : Stmt} {N ps : List Str} {dvs : List V} {k : Nat} {Z : Zx K G} {S : Spec G} (D : DfnE K mg x s ps q dvs) (Sc : FnScope N ps (defScope s)) (hS : ∀ as g T U, S as g T U → as.length = ps.length) (hN : ps.length ≤ N.length)
    (body : ∀ (fa : Addr) (cdv : Value) (A : Around) (outer : List Env) (s' : Shared) (H : Hp) (E : XK), RoomG k (A.deeper (PyProof.Rows.envOfC x (defScope s) s'.heap.objs.size fa cdv)) →
      ∃ ts t, DSs (cxOf (L2.CX P w) P w K mg base N x (defScope s) fa cdv A outer s' H E).nox (Z.wish (fun _ _ _ _ => False) Un) (defBody s) ts t ∧ ∀ as g T U, S as g T U → t { nx := fun _ g' => T (.dt .none) g', rt := T } (entry N as) g) : OkE P w K mg base (k + 1) x ps q dvs (spZ Z S) := by
  obtain ⟨fa, fd, Fu, hm, hb, hb2, hb3⟩ := D
  refine ⟨fa, fd, hm, Fu.kp, hb, hb2, hb3, funGD Fu Sc (fun vs H Q E h => ?_) (fun cdv A outer s H vs Q E hr h => ?_)⟩
  · obtain ⟨F, g, as, T, U, h1, h2, h3, h4, h5, _⟩ := h
    rw [argR_len h4]
    exact hS as g T U h5
  · obtain ⟨F, g, as, T, U, h1, h2, h3, h4, h5, h6, h7⟩ := h
    obtain ⟨ts, t, hd, hb⟩ := body fa cdv A outer s H E hr
    exact ⟨ts, hd.ps.nox, body3 h1 h2 h3 h4 (hS as g T U h5) hN (fun _ _ _ _ _ _ _ _ _ _ _ _ z => z.elim) h6 hd.sim (hb as g T U h5)⟩
theorem DfnE.okX {x q : Str} {s : Stmt} {N ps : List Str} {dvs : List V} {k : Nat} {Z : Zx K G} {S : Spec G} (D : DfnE K mg x s ps q dvs) (Sc : FnScope N ps (defScope s)) (hS : ∀ as g T U, S as g T U → as.length = ps.length) (hN : ps.length ≤ N.length)
    (body : ∀ (fa : Addr) (cdv : Value) (A : Around) (outer : List Env) (s' : Shared) (H : Hp) (E : XK) (U : XU G), RoomG k (A.deeper (PyProof.Rows.envOfC x (defScope s) s'.heap.objs.size fa cdv)) →
      Takes (cxOf (L2.CX P w) P w K mg base N x (defScope s) fa cdv A outer s' H E) (fun c d _ H => E c d H) →
      PassesOwn (model P w) (A.deeper (PyProof.Rows.envOfC x (defScope s) s'.heap.objs.size fa cdv)) (PyProof.Rows.envOfC x (defScope s) s'.heap.objs.size fa cdv) (cxOf (L2.CX P w) P w K mg base N x (defScope s) fa cdv A outer s' H E).xe →
      ∃ ts t, DSs (cxOf (L2.CX P w) P w K mg base N x (defScope s) fa cdv A outer s' H E) (Z.wish (fun c d _ H => E c d H) (fun c fs _ g => U c fs g)) (defBody s) ts t ∧ ∀ as g T, S as g T U → t { nx := fun _ g' => T (.dt .none) g', rt := T } (entry N as) g) : OkE P w K mg base (k + 1) x ps q dvs (spZ Z S) := by
  obtain ⟨fa, fd, Fu, hm, hb, hb2, hb3⟩ := D
  refine ⟨fa, fd, hm, Fu.kp, hb, hb2, hb3, funGD Fu Sc (fun vs H Q E h => ?_) (fun cdv A outer s H vs Q E hr h => ?_)⟩
  · obtain ⟨F, g, as, T, U, h1, h2, h3, h4, h5, _⟩ := h
    rw [argR_len h4]
    exact hS as g T U h5
  · obtain ⟨F, g, as, T, U, h1, h2, h3, h4, h5, h6, h7⟩ := h
    obtain ⟨ts, t, hd, hb⟩ := body fa cdv A outer s H E U hr (takes_of rfl rfl rfl rfl) (passes_of rfl)
    refine ⟨ts, hd.ps, body3 h1 h2 h3 h4 (hS as g T U h5) hN (fun F' ad ρ g' σ H' c dx fs er R hx hu => ?_) h6 hd.sim (hb as g T h5)⟩
    exact h7 c fs dx F' g' H' ⟨R.fin.base, R.fin.keep, R.fin.keepN, R.fin.new, R.fin.sub, R.fin.res, R.fin.fpF, R.fin.fpB⟩ er hx hu
end
end L3
end
section
namespace L3
open PySem L2
inductive Wo where
  | put (gs : List Int) | again (w : Wo) | row (ws : List Wo) | either (ws : List Wo)
mutual
def Wo.d : Wo → PyData
  | .put gs => .tuple [.str "put", .tuple (gs.map PyData.int)]
  | .again w => .tuple [.str "again", w.d]
  | .row ws => .tuple [.str "row", .tuple (Wo.ds ws)]
  | .either ws => .tuple [.str "either", .tuple (Wo.ds ws)]
def Wo.ds : List Wo → List PyData
  | [] => []
  | w :: r => w.d :: Wo.ds r
end
theorem Wo.ds_map : ∀ ws : List Wo, Wo.ds ws = ws.map Wo.d
  | [] => rfl
  | w :: r => by rw [Wo.ds, Wo.ds_map r]; rfl
mutual
def Wo.puts : Wo → Nat
  | .put _ => 1
  | .again w => w.puts
  | .row ws => Wo.putss ws
  | .either ws => Wo.putss ws
def Wo.putss : List Wo → Nat
  | [] => 0
  | w :: r => w.puts + Wo.putss r
end
mutual
def Wo.dp : Wo → Nat
  | .put _ => 1
  | .again w => 1 + w.dp
  | .row ws => 1 + Wo.dps ws
  | .either ws => 1 + Wo.dps ws
def Wo.dps : List Wo → Nat
  | [] => 0
  | w :: r => max w.dp (Wo.dps r)
end
mutual
def Wo.sz : Wo → Nat
  | .put _ => 1
  | .again w => 1 + w.sz
  | .row ws => 1 + Wo.szs ws
  | .either ws => 1 + Wo.szs ws
def Wo.szs : List Wo → Nat
  | [] => 0
  | w :: r => w.sz + Wo.szs r
end
mutual
def Wo.Ok (P : Nat) : Wo → Prop
  | .put gs => gs.length = P ∧ ∀ x ∈ gs, -99 ≤ x ∧ x ≤ 99
  | .again w => w.Ok P
  | .row ws => ws ≠ [] ∧ Wo.Oks P ws
  | .either ws => ws ≠ [] ∧ Wo.Oks P ws
def Wo.Oks (P : Nat) : List Wo → Prop
  | [] => True
  | w :: r => w.Ok P ∧ Wo.Oks P r
end
mutual
theorem Wo.puts_pos {P : Nat} : ∀ {w : Wo}, w.Ok P → 1 ≤ w.puts
  | .put gs, h => by rw [Wo.puts]; exact Nat.le_refl _
  | .again w, h => by rw [Wo.Ok] at h; rw [Wo.puts]; exact Wo.puts_pos h
  | .row ws, h => by rw [Wo.Ok] at h; rw [Wo.puts]; exact Wo.putss_pos h.1 h.2
  | .either ws, h => by rw [Wo.Ok] at h; rw [Wo.puts]; exact Wo.putss_pos h.1 h.2
theorem Wo.putss_pos {P : Nat} : ∀ {ws : List Wo}, ws ≠ [] → Wo.Oks P ws → 1 ≤ Wo.putss ws
  | [], hn, _ => absurd rfl hn
  | w :: r, _, h => by rw [Wo.Oks] at h; rw [Wo.putss]; have := Wo.puts_pos h.1; omega
end
theorem ok_put : okTx (.str "put") = true := by decide +kernel
theorem ok_again : okTx (.str "again") = true := by decide +kernel
theorem ok_row : okTx (.str "row") = true := by decide +kernel
theorem ok_either : okTx (.str "either") = true := by decide +kernel
theorem nice_head {s : Str} (hs : okTx (.str s) = true) (hl : s.length ≤ 20) {n w : Nat} {d : PyData} (h : Nice n w d) : Nice (n + 1) (w + 209) (.tuple [.str s, d]) := by
  have h1 := nice_str s hs hl
  have k := nice_tupW (n := n) (v := max 202 w) (W := w + 206) (ds := [.str s, d]) (fun x hx => by
    simp only [List.mem_cons, List.not_mem_nil, or_false] at hx
    rcases hx with rfl | rfl
    · exact h1.mono (by omega) (by omega)
    · exact h.mono (Nat.le_refl _) (by omega)) (by simp) (by
    have e1 := h1.wd
    have e2 := h.wd
    simp only [wdAll]
    omega)
  exact k
mutual
theorem Wo.nice {P : Nat} (hP : P ≤ 6) : ∀ {w : Wo}, w.Ok P → w.puts ≤ 1000 → Nice (2 * w.dp) (420 * w.sz - 2) w.d
  | .put gs, h, _ => by
    rw [Wo.Ok] at h
    rw [Wo.d, Wo.dp, Wo.sz]
    have k := nice_tup (n := 0) (w := 9) (m := 6) (ds := gs.map PyData.int) (fun d hd => by
      obtain ⟨x, hx, rfl⟩ := List.mem_map.mp hd
      have := h.2 x hx
      exact nice_tiny (by omega) (by omega)) (by rw [List.length_map]; omega)
    exact (nice_head ok_put (by decide) k).mono (by omega) (by omega)
  | .again w, h, hp => by
    rw [Wo.Ok] at h
    rw [Wo.puts] at hp
    rw [Wo.d, Wo.dp, Wo.sz]
    have k := Wo.nice hP h hp
    have := Wo.sz_pos w
    exact (nice_head ok_again (by decide) k).mono (by omega) (by omega)
  | .row ws, h, hp => by
    rw [Wo.Ok] at h
    rw [Wo.puts] at hp
    rw [Wo.d, Wo.dp, Wo.sz]
    obtain ⟨k1, k2, k3⟩ := Wo.nices hP h.2 hp
    exact (nice_head ok_row (by decide) (nice_tupW k1 (by omega) k2)).mono (by omega) (by omega)
  | .either ws, h, hp => by
    rw [Wo.Ok] at h
    rw [Wo.puts] at hp
    rw [Wo.d, Wo.dp, Wo.sz]
    obtain ⟨k1, k2, k3⟩ := Wo.nices hP h.2 hp
    exact (nice_head ok_either (by decide) (nice_tupW k1 (by omega) k2)).mono (by omega) (by omega)
theorem Wo.sz_pos : ∀ w : Wo, 1 ≤ w.sz
  | .put _ => by rw [Wo.sz]; exact Nat.le_refl _
  | .again _ => by rw [Wo.sz]; omega
  | .row _ => by rw [Wo.sz]; omega
  | .either _ => by rw [Wo.sz]; omega
theorem Wo.nices {P : Nat} (hP : P ≤ 6) : ∀ {ws : List Wo}, Wo.Oks P ws → Wo.putss ws ≤ 1000 → (∀ d ∈ Wo.ds ws, Nice (2 * Wo.dps ws) (420 * Wo.szs ws) d) ∧ wdAll (Wo.ds ws) ≤ 420 * Wo.szs ws ∧ (Wo.ds ws).length ≤ 1000
  | [], _, _ => ⟨fun d hd => (nomatch hd), by rw [Wo.ds, wdAll]; omega, by rw [Wo.ds]; simp⟩
  | w :: r, h, hp => by
    rw [Wo.Oks] at h
    rw [Wo.putss] at hp
    have hpp := Wo.puts_pos h.1
    have k := Wo.nice hP h.1 (by omega)
    obtain ⟨k1, k2, k3⟩ := Wo.nices hP h.2 (by omega)
    have hs := Wo.sz_pos w
    have hw := k.wd
    have hl := Wo.len_le h.2
    rw [Wo.ds, Wo.dps, Wo.szs]
    refine ⟨fun d hd => ?_, by rw [wdAll]; omega, by rw [List.length_cons, Wo.ds_map, List.length_map]; omega⟩
    rcases List.mem_cons.mp hd with rfl | hd
    · exact k.mono (by omega) (by omega)
    · exact (k1 d hd).mono (by omega) (by omega)
theorem Wo.len_le {P : Nat} : ∀ {ws : List Wo}, Wo.Oks P ws → ws.length ≤ Wo.putss ws
  | [], _ => Nat.zero_le _
  | w :: r, h => by
    rw [Wo.Oks] at h
    rw [Wo.putss, List.length_cons]
    have := Wo.puts_pos h.1
    have := Wo.len_le h.2
    omega
end
end L3
end
section
namespace L3
open PySem L2
structure NiceC (n w : Nat) (d : PyData) : Prop extends Nice n w d where
  cl : d.canLay0 = true
theorem NiceC.mono {n m w v : Nat} {d : PyData} (h : NiceC n w d) (k : n ≤ m) (l : w ≤ v) : NiceC m v d := ⟨h.toNice.mono k l, h.cl⟩
theorem NiceC.shaped {n w : Nat} {d : PyData} (h : NiceC n w d) (k : n ≤ 64) : SeqAt.shaped d = true := by
  unfold SeqAt.shaped
  rw [h.cl, Bool.true_and]
  exact decide_eq_true (Nat.le_trans h.dp k)
mutual
theorem Wo.cl {P : Nat} : ∀ {w : Wo}, w.Ok P → w.d.canLay0 = true
  | .put gs, _ => by
    rw [Wo.d, PyData.canLay0, PyData.canLayAll0, PyData.canLayAll0, PyData.canLay0, PyData.canLay0, canLay_ints, PyData.canLayAll0]
    decide +kernel
  | .again w, h => by
    rw [Wo.Ok] at h
    rw [Wo.d, PyData.canLay0, PyData.canLayAll0, PyData.canLayAll0, PyData.canLay0, Wo.cl h, PyData.canLayAll0]
    decide +kernel
  | .row ws, h => by
    rw [Wo.Ok] at h
    rw [Wo.d, PyData.canLay0, PyData.canLayAll0, PyData.canLayAll0, PyData.canLay0, PyData.canLay0, Wo.cls h.2, PyData.canLayAll0]
    decide +kernel
  | .either ws, h => by
    rw [Wo.Ok] at h
    rw [Wo.d, PyData.canLay0, PyData.canLayAll0, PyData.canLayAll0, PyData.canLay0, PyData.canLay0, Wo.cls h.2, PyData.canLayAll0]
    decide +kernel
theorem Wo.cls {P : Nat} : ∀ {ws : List Wo}, Wo.Oks P ws → PyData.canLayAll0 (Wo.ds ws) = true
  | [], _ => by rw [Wo.ds, PyData.canLayAll0]
  | w :: r, h => by
    rw [Wo.Oks] at h
    rw [Wo.ds, PyData.canLayAll0, Wo.cl h.1, Wo.cls h.2]
    rfl
end
end L3
end
section
namespace L3
open PySem L2
variable {G : Type} {K : PySem.W.Frag} {mg : Str → Option Value} {X : Cx} {Z : Zx K G} {W : WXH} {U : UX (G × OS)}
def dAppO (o a : DT (G × OS)) : DT (G × OS) := fun ρ g Q => o ρ g fun r ρ0 g0 => vvK r fun p => lsK (OS.look g0.2 p) fun _ => a ρ0 g0 fun r2 ρ1 g1 => cellK (st r2) ρ1 fun c ρ2 => lsK (OS.look g1.2 p) fun cs => ltK cs.length 16777216 (Q (.dt .none) ρ2 (g1.1, OS.put g1.2 p (.ls (cs ++ [c]))))
theorem sim_appO {to ta : TE} {o a : DT (G × OS)} (ho : Sim (ZSw mg Z W U) to o) (ha : Sim (ZSw mg Z W U) ta a) : Sim (ZSw mg Z W U) (tBM K "list" rAppend to (tCons ta tNil)) (dAppO o a) := fun f F ad ρ g σ H Q R q P hP => by
  refine ho f F ad ρ g σ H _ R q _ fun y H0 q => ?_
  obtain ⟨F0, ad0, ρ0, g0, r0, e0, eg0, R0, v0, q⟩ := q
  obtain ⟨p, rfl, q⟩ := vvK_e q
  obtain ⟨cs0, l0, q⟩ := lsK_e q
  obtain rfl : y = .ref p := v0
  obtain ⟨vs0, hH0, _⟩ := R0.osr.get l0
  refine ⟨.inl ⟨rfl, vs0, .inl (.inl hH0)⟩, ?_⟩
  refine ha f F0 ad0 ρ0 g0 σ H0 _ R0 q _ fun x H1 q => ?_
  obtain ⟨F1, ad1, ρ1, g1, r1, e1, eg1, R1, v1, q⟩ := q
  obtain ⟨F1', e1', R1', v1'⟩ := R1.hst v1
  obtain ⟨F2, c, ρ2, e2, R2, cv, q⟩ := R1'.cell v1' q
  obtain ⟨cs, l, q⟩ := lsK_e q
  obtain ⟨hl, q⟩ := ltK_e q
  obtain ⟨vs, hH, hv⟩ := R2.osr.get l
  refine ⟨p, vs, x, rfl, rfl, hH, by rw [sizeLine_eq, Paired.length hv]; exact hl, ?_⟩
  exact hP _ _ ⟨F2, ad1, ρ2, (g1.1, OS.put g1.2 p (.ls (cs ++ [c]))), .dt .none, (e0.trans e1).trans (e1'.trans e2), eg1.trans eg0, R2.putS (y := .ls (cs ++ [c])) l ⟨_, upd_same, paired_app hv (.cons cv .nil)⟩, Da.non, q⟩
section
variable {apos cpos : Pos} {o e : Expr} {to te : TE} {a b : DT (G × OS)}
theorem e_appO (ho : DE X (ZSw mg Z W U) o to a) (he : DE X (ZSw mg Z W U) e te b) (hK : K = X.K := by rfl)
    (hbase : attributeBase o "append" X.env (eval o X.env) = eval o X.env := by rfl)
    (hfew : ((backTo cpos (starEach [e] X.env)).all (fun x => !x.1) && (backToKw cpos (keywordEach [] X.env)).all (fun x => x.1.isSome)
      && decide (([e] : List Expr).length + ([] : List Keyword).length + (if ([] : List Keyword).isEmpty then 0 else 1) < 30)) = true := by rfl)
    (hline : (apos.endLine == cpos.line) = true := by rfl) (hst : starEach [e] X.env = (false, eval e X.env) :: starEach [] X.env := by rfl) (hplain : (backTo cpos (starEach [] X.env)).any (·.1) = false := by rfl) :
    DE X (ZSw mg Z W U) (.Call (.Attribute o "append" apos) [e] [] cpos) (tBM K "list" rAppend to (tCons te tNil)) (dAppO a b) :=
  ⟨by rw [hK]; exact pe_bm PySem.F.plainAttrs_list PySem.F.slot_list_append PySem.F.type_list_append mt_append ho.pe (pa_cons he.pe pa_nil hst) hbase hfew hline hst hplain, sim_appO ho.sim he.sim⟩
end
def cSl : Cell → Sl
  | .d x => .dt x
  | .r a => .vv (.ref a)
theorem Rel.setCell {f : Fx} {F : Hp} {ad : Nat → Addr} {ρ : En} {g : G} {σ : St} {H : Hp} (R : Rel Z f F ad ρ g σ H) {j : Nat} {v : V} {c : Cell} (hj : j < σ.length) (h : CellV K F v c) : ∃ ad', Rel Z f F ad' (ρ.set j (cSl c)) g (σ.set j (some v)) H := by
  cases c with
  | d x => exact ⟨_, R.setD hj h⟩
  | r a =>
    cases (show v = .ref a from h)
    exact ⟨_, R.setSl (a := 0) (by show _ = _; rw [List.getElem?_set_self hj]) fun ho => by cases ho⟩
mutual
inductive ODat (o : OS) : Cell → PyData → Prop
  | d (x : PyData) : ODat o (.d x) x
  | r {a : Addr} {cs : List Cell} {ds : List PyData} : OS.look o a = some (.ls cs) → ODats o cs ds → ODat o (.r a) (.list ds)
  | t {a : Addr} {cs : List Cell} {ds : List PyData} : OS.look o a = some (.tp cs) → ODats o cs ds → ODat o (.r a) (.tuple ds)
inductive ODats (o : OS) : List Cell → List PyData → Prop
  | nil : ODats o [] []
  | cons {c : Cell} {cs : List Cell} {d : PyData} {ds : List PyData} : ODat o c d → ODats o cs ds → ODats o (c :: cs) (d :: ds)
end
def frzS (o : OS) (F H : Hp) : Hp := fun b => if b ∈ OS.ads o then H b else F b
section
variable {o : OS} {F H : Hp}
theorem frzS_ex (h : ∀ a ∈ OS.ads o, F a = none) : Ex F (frzS o F H) := fun b u e => by
  unfold frzS
  rw [if_neg fun hm => by rw [h b hm] at e; cases e]
  exact e
mutual
theorem ODat.da (hF : ∀ a ∈ OS.ads o, F a = none) (hR : OSR K mg o F H) : ∀ {c : Cell} {d : PyData}, ODat o c d → ∀ {v : V}, CellV K F v c → Da K (frzS o F H) v d
  | _, _, .d x, v, h => da_mono (frzS_ex hF) h
  | _, _, .r l hs, v, h => by
    cases (show v = .ref _ from h)
    obtain ⟨vs, hH, hv⟩ := hR.get l
    exact .lst (by unfold frzS; rw [if_pos (OS.look_ads l)]; exact hH) (hs.da hF hR hv)
  | _, _, .t l hs, v, h => by
    cases (show v = .ref _ from h)
    obtain ⟨vs, hH, hv⟩ := hR.get l
    exact .tup (.inl (.inl (by unfold frzS; rw [if_pos (OS.look_ads l)]; exact hH))) (hs.da hF hR hv)
theorem ODats.da (hF : ∀ a ∈ OS.ads o, F a = none) (hR : OSR K mg o F H) : ∀ {cs : List Cell} {ds : List PyData}, ODats o cs ds → ∀ {vs : List V}, CellsV K F vs cs → DaAll K (frzS o F H) vs ds
  | _, _, .nil, _, .nil => .nil
  | _, _, .cons h r, _, .cons q s => .cons (h.da hF hR q) (r.da hF hR s)
end
end
end L3
end
section
namespace L3
open PySem PySem.Spec PyProof.Rows L2
end L3
end
section
namespace L3
open PySem L2
end L3
end
section
namespace L3
open PySem PySem.Spec PyProof.Rows L2
section
variable {G : Type} {K : PySem.W.Frag} {X : Cx} {Z : Zx K G}
/-- a statement behind which the walk halts: what holds there is said once -/
structure CutP (t u : DS G) (D : D3 G) (ρ : En) (g : G) : Prop where
  h : dSeq t u D ρ g
def dCut (t u : DS G) : DS G := fun D ρ g => CutP t u D ρ g
theorem s_cut {s : Stmt} {ss : List Stmt} {t u : TS} {a b : DS G} (h : DSt X Z s t a) (k : DSs X Z ss u b) : DSs X Z (s :: ss) (tSeq t u) (dCut a b) :=
  ⟨pss_cons h.ps k.ps, fun f F ad ρ g σ H D R q D2 le => sim_seq h.sim k.sim f F ad ρ g σ H D R q.h D2 le⟩
theorem dCut_of {t u : DS G} {D : D3 G} {ρ : En} {g : G} (I : En → G → Prop) (h1 : ∀ N : En → G → Prop, (∀ ρ1 g1, I ρ1 g1 → N ρ1 g1) → t { D with nx := N } ρ g) (h2 : ∀ ρ1 g1, I ρ1 g1 → u D ρ1 g1) : CutP t u D ρ g :=
  ⟨h1 _ h2⟩
end
end L3
end
section
namespace L3
open PySem L2
end L3
end
section
namespace L3
open PySem PySem.Spec PyProof.Rows L2
abbrev Stn := Int × List Int
abbrev Wst := List Int × List Stn
def endR (B : Book) (f : Int) (w : List Int) : Int := match w.getLast? with
  | none => f
  | some k => (wAt B k).b
def atS (B : Book) (f : Int) (ys w : List Int) : Stn := (endR B f w, addL ys (gainL B w))
def stW (B : Book) (f : Int) (ys w : List Int) : List Stn := (List.range (w.length + 1)).map fun j => atS B f ys (w.take j)
def nd (B : Book) (f : Int) (ys w : List Int) : Wst := (w, stW B f ys w)
def nnL (zs : List Int) : Bool := zs.all fun z => decide (0 ≤ z)
def agN (B : Book) (f : Int) (w : List Int) : Nat → Option Nat
  | 0 => none
  | n + 1 => if decide (endR B f (w.take n) = endR B f w) && nnL (gainL B (w.drop n)) then some n else agN B f w n
def agW (B : Book) (f : Int) (w : List Int) : Option Nat := agN B f w w.length
structure TB (B : Book) (ys : List Int) : Prop where
  hB : ∀ w ∈ B.ways, w.gs.length = B.purses.toNat
  hp : 0 ≤ B.purses
  l : ys.length = B.purses.toNat
  nn : ∀ y ∈ ys, 0 ≤ y
theorem TB.gs {B : Book} {ys w : List Int} (T : TB B ys) (h : ∀ k ∈ w, inW B k = true) : GsOk B w := fun k hk => by
  have := T.hB _ (wAt_mem (h k hk))
  have := T.hp
  omega
theorem endR_snoc (B : Book) (f : Int) (w : List Int) (k : Int) : endR B f (w ++ [k]) = (wAt B k).b := by
  unfold endR
  rw [List.getLast?_concat]
def canW (B : Book) (f : Int) (ys w : List Int) : List Int := canL B (endR B f w) (addL ys (gainL B w))
def kidW (B : Book) (f : Int) (ys w : List Int) : List (List Int) := (canW B f ys w).map fun k => w ++ [k]
def LW (B : Book) (f : Int) (ys : List Int) : Nat → List (List Int)
  | 0 => [[]]
  | i + 1 => ((LW B f ys i).flatMap (kidW B f ys)).filter fun w => (agW B f w).isNone
/-- the knots of layer i + 1 -/
def AW (B : Book) (f : Int) (ys : List Int) (i : Nat) : List (List Int) := (LW B f ys i).flatMap (kidW B f ys)
theorem LW_succ (B : Book) (f : Int) (ys : List Int) (i : Nat) : LW B f ys (i + 1) = (AW B f ys i).filter fun w => (agW B f w).isNone := rfl
theorem canW_in {B : Book} {f : Int} {ys w : List Int} {k : Int} (h : k ∈ canW B f ys w) : inW B k = true := (canL_mem.mp h).1
theorem mem_AW {B : Book} {f : Int} {ys : List Int} {i : Nat} {w : List Int} : w ∈ AW B f ys i ↔ ∃ u ∈ LW B f ys i, ∃ k ∈ canW B f ys u, w = u ++ [k] := by
  unfold AW kidW
  rw [List.mem_flatMap]
  constructor
  · rintro ⟨u, hu, h⟩
    obtain ⟨k, hk, rfl⟩ := List.mem_map.mp h
    exact ⟨u, hu, k, hk, rfl⟩
  · rintro ⟨u, hu, k, hk, rfl⟩
    exact ⟨u, hu, List.mem_map.mpr ⟨k, hk, rfl⟩⟩
theorem mem_LW {B : Book} {f : Int} {ys : List Int} {i : Nat} {w : List Int} : w ∈ LW B f ys (i + 1) ↔ w ∈ AW B f ys i ∧ agW B f w = none := by
  rw [LW_succ, List.mem_filter, Option.isNone_iff_eq_none]
theorem LW_in {B : Book} {f : Int} {ys : List Int} : ∀ {i : Nat} {w : List Int}, w ∈ LW B f ys i → ∀ k ∈ w, inW B k = true
  | 0, w, h, k, hk => by
    rw [LW, List.mem_singleton] at h
    subst h
    cases hk
  | i + 1, w, h, k, hk => by
    obtain ⟨u, hu, j, hj, rfl⟩ := mem_AW.mp (mem_LW.mp h).1
    rcases List.mem_append.mp hk with hk | hk
    · exact LW_in hu k hk
    · rw [List.mem_singleton.mp hk]; exact canW_in hj
/-- the first walk of some that comes again, in two parts -/
def fstAg (B : Book) (f : Int) : List (List Int) → Option (List Int × List Int)
  | [] => none
  | w :: ws => match agW B f w with
    | some j => some (w.take j, w.drop j)
    | none => fstAg B f ws
def agnW (B : Book) (f : Int) (ys : List Int) : Nat → Option (List Int × List Int)
  | 0 => none
  | i + 1 => (agnW B f ys i).or (fstAg B f (AW B f ys i))
end L3
end
section
namespace L3
open PySem L2
variable {B : Book} {f : Int} {ys : List Int}
/-- what the walks of the tree are: gone along from the stand -/
def GnW (B : Book) (f : Int) (ys w : List Int) : Prop := GoneI B f ys w (endR B f w) (addL ys (gainL B w))
theorem GnW.push {w : List Int} {k : Int} (T : TB B ys) (h : GnW B f ys w) (hk : k ∈ canW B f ys w) : GnW B f ys (w ++ [k]) := by
  obtain ⟨h1, h2⟩ := canL_mem.mp hk
  have := GoneI.push h T.hB T.hp h1 h2
  unfold GnW
  rw [endR_snoc, gain_push B w k ys T.l (h.gs T.hB T.hp h1)]
  exact this
theorem GnW.start (T : TB B ys) : GnW B f ys [] := by
  have h := GoneI.start (B := B) (f := f) T.l T.nn
  unfold GnW
  have e : addL ys (gainL B []) = ys := addL_zero T.l
  rw [e]
  exact h
theorem LW_nil {D : Nat} (h : LW B f ys D = []) : ∀ k, LW B f ys (D + k) = [] ∧ AW B f ys (D + k) = []
  | 0 => ⟨h, by unfold AW; rw [Nat.add_zero, h]; rfl⟩
  | k + 1 => by
    obtain ⟨_, h2⟩ := LW_nil h k
    have h3 : LW B f ys (D + (k + 1)) = [] := by
      rw [← Nat.add_assoc, LW_succ, h2]
      rfl
    exact ⟨h3, by unfold AW; rw [h3]; rfl⟩
theorem fstAg_none {ws : List (List Int)} : fstAg B f ws = none ↔ ∀ w ∈ ws, agW B f w = none := by
  induction ws with
  | nil => simp [fstAg]
  | cons w ws ih =>
    rw [fstAg, List.forall_mem_cons, ← ih]
    cases h : agW B f w <;> simp
theorem fstAg_some {p : List Int × List Int} : ∀ {ws : List (List Int)}, fstAg B f ws = some p → ∃ w ∈ ws, ∃ j, agW B f w = some j ∧ p = (w.take j, w.drop j)
  | w :: ws, h => by
    rw [fstAg] at h
    cases e : agW B f w with
    | none =>
      rw [e] at h
      obtain ⟨u, hu, j, h1, h2⟩ := fstAg_some h
      exact ⟨u, List.mem_cons_of_mem _ hu, j, h1, h2⟩
    | some j =>
      rw [e] at h
      cases h
      exact ⟨w, List.mem_cons_self, j, e, rfl⟩
theorem agnW_none : ∀ {D : Nat}, agnW B f ys D = none → ∀ i, i < D → ∀ w ∈ AW B f ys i, agW B f w = none
  | D + 1, h, i, hi, w, hw => by
    rw [agnW, Option.or_eq_none_iff] at h
    by_cases hd : i = D
    · subst hd
      exact fstAg_none.mp h.2 w hw
    · exact agnW_none h.1 i (by omega) w hw
theorem agnW_some {p : List Int × List Int} : ∀ {D : Nat}, agnW B f ys D = some p → ∃ i, i < D ∧ ∃ w ∈ AW B f ys i, ∃ j, agW B f w = some j ∧ p = (w.take j, w.drop j)
  | D + 1, h => by
    rw [agnW, Option.or_eq_some_iff] at h
    rcases h with h | ⟨_, h⟩
    · obtain ⟨i, hi, h⟩ := agnW_some h
      exact ⟨i, by omega, h⟩
    · exact ⟨D, by omega, fstAg_some h⟩
theorem filter_sub {α : Type} {p q : α → Bool} : ∀ {xs : List α}, (∀ x ∈ xs, p x = true → q x = true) → (xs.filter p).Sublist (xs.filter q)
  | [], _ => .slnil
  | x :: xs, h => by
    have ih := filter_sub (xs := xs) fun y hy => h y (List.mem_cons_of_mem _ hy)
    rw [List.filter_cons, List.filter_cons]
    cases hp : p x with
    | true =>
      rw [h x List.mem_cons_self hp]
      exact ih.cons_cons x
    | false =>
      simp only [Bool.false_eq_true, if_false]
      split
      · exact ih.cons x
      · exact ih
theorem flatMap_sub {α β : Type} {g h : α → List β} : ∀ {xs ys : List α}, xs.Sublist ys → (∀ x ∈ xs, (g x).Sublist (h x)) → (xs.flatMap g).Sublist (ys.flatMap h)
  | _, _, .slnil, _ => .slnil
  | xs, y :: ys, .cons _ s, k => by
    rw [List.flatMap_cons]
    exact (flatMap_sub s k).trans (List.sublist_append_right _ _)
  | x :: xs, _ :: ys, .cons_cons _ s, k => by
    rw [List.flatMap_cons, List.flatMap_cons]
    exact (k x List.mem_cons_self).append (flatMap_sub s fun y hy => k y (List.mem_cons_of_mem _ hy))
theorem canL_sub {B : Book} {r : Int} {xs zs : List Int} (hg : ∀ w ∈ B.ways, w.gs.length = xs.length) (hl : zs.length = xs.length) (h : geL zs xs = true) : (canL B r xs).Sublist (canL B r zs) := by
  unfold canL
  refine List.Sublist.map _ (filter_sub fun p hp hf => ?_)
  have hw := hg p.2 (List.of_mem_zip hp).2
  unfold fitsW at hf ⊢
  rw [Bool.and_eq_true] at hf ⊢
  refine ⟨hf.1, ?_⟩
  have h2 := hf.2
  rw [all_getD, addL_len (n := xs.length) rfl hw] at h2
  rw [all_getD, addL_len hl hw]
  intro i hi
  have h3 := of_decide_eq_true (h2 i hi)
  have h4 := (geL_iff rfl hl.symm).mp h i (by omega)
  rw [addL_getD (by omega) (by omega)] at h3 ⊢
  exact decide_eq_true (by omega)
theorem ge_add {xs zs gs : List Int} {n : Nat} (h1 : xs.length = n) (h2 : zs.length = n) (h3 : gs.length = n) (h : geL zs xs = true) : geL (addL zs gs) (addL xs gs) = true := by
  refine (geL_iff (addL_len h2 h3) (addL_len h1 h3)).mpr fun p hp => ?_
  have := (geL_iff h2 h1).mp h p hp
  rw [addL_getD (by omega) (by omega), addL_getD (by omega) (by omega)]
  omega
theorem LW_sub {zs : List Int} (T : TB B ys) (S : TB B zs) (h : geL zs ys = true) : ∀ i, (LW B f ys i).Sublist (LW B f zs i) ∧ (AW B f ys i).Sublist (AW B f zs i) := by
  have st : ∀ i, (LW B f ys i).Sublist (LW B f zs i) → (AW B f ys i).Sublist (AW B f zs i) := fun i hi => by
    unfold AW
    refine flatMap_sub hi fun w hw => ?_
    unfold kidW canW
    refine List.Sublist.map _ ?_
    have l1 : (gainL B w).length = B.purses.toNat := gainL_len (T.gs (LW_in hw))
    have l2 := addL_len T.l l1
    have l3 := addL_len S.l l1
    exact canL_sub (fun x hx => by rw [T.hB x hx, l2]) (by omega) (ge_add T.l S.l l1 h)
  intro i
  induction i with
  | zero => exact ⟨List.Sublist.refl _, st 0 (List.Sublist.refl _)⟩
  | succ i ih =>
    have : (LW B f ys (i + 1)).Sublist (LW B f zs (i + 1)) := by
      rw [LW_succ, LW_succ]
      exact ih.2.filter _
    exact ⟨this, st _ this⟩
/-- a tree that is done without a walk that comes again -/
structure Done (B : Book) (f : Int) (ys : List Int) (D : Nat) : Prop where
  nil : LW B f ys D = []
  no : agnW B f ys D = none
theorem Done.more {D : Nat} (h : Done B f ys D) (i : Nat) {w : List Int} (hw : w ∈ AW B f ys i) : agW B f w = none := by
  by_cases hi : i < D
  · exact agnW_none h.no i hi w hw
  · have := (LW_nil h.nil (i - D)).2
    rw [show D + (i - D) = i from by omega] at this
    rw [this] at hw
    cases hw
theorem Done.stuck {D : Nat} (h : Done B f ys D) {w : List Int} (hw : w ∈ LW B f ys (D - 1)) (hD : 1 ≤ D) : canW B f ys w = [] := by
  cases e : canW B f ys w with
  | nil => rfl
  | cons k ks =>
    have hA : w ++ [k] ∈ AW B f ys (D - 1) := mem_AW.mpr ⟨w, hw, k, by rw [e]; exact List.mem_cons_self, rfl⟩
    have h2 : w ++ [k] ∈ LW B f ys (D - 1 + 1) := mem_LW.mpr ⟨hA, h.more _ hA⟩
    rw [show D - 1 + 1 = D from by omega, h.nil] at h2
    cases h2
/-- from a stand with no number greater: done, too, no sooner too many, no longer walk -/
theorem Done.less {zs : List Int} {D : Nat} (T : TB B ys) (S : TB B zs) (h : geL ys zs = true) (hd : Done B f ys D) : Done B f zs D := by
  refine ⟨?_, ?_⟩
  · have := (LW_sub (f := f) S T h D).1
    rw [hd.nil] at this
    exact List.sublist_nil.mp this
  · cases e : agnW B f zs D with
    | none => rfl
    | some p =>
      obtain ⟨i, hi, w, hw, j, ha, _⟩ := agnW_some e
      have := hd.more i ((LW_sub (f := f) S T h i).2.subset hw)
      rw [this] at ha
      cases ha
/-- parts of a walk that was gone along -/
theorem GnW.ok {w : List Int} (h : GnW B f ys w) (hw : w ≠ []) : chainW B w = true ∧ okW B f ys w = true ∧ endW B w = endR B f w := by
  obtain ⟨h1, h2, h3⟩ := pth_ends h.p hw
  refine ⟨h1, ?_, ?_⟩
  · rw [okW_eq hw, h2, decide_eq_true rfl, h.n]
    rfl
  · unfold endW endR
    rw [List.getLast?_eq_some_getLast hw]
theorem pth_end {B : Book} {a b : Int} {w : List Int} (h : Pth B a w b) : b = endR B a w := by
  cases w with
  | nil => exact h.symm
  | cons k ks =>
    obtain ⟨_, _, h3⟩ := pth_ends h (by simp)
    unfold endR
    rw [List.getLast?_eq_some_getLast (by simp : k :: ks ≠ [])]
    exact h3.symm
theorem GnW.tail {u v : List Int} (T : TB B ys) (h : GnW B f ys (u ++ v)) : Pth B (endR B f u) v (endR B f (u ++ v)) ∧ geL (addL ys (gainL B u)) (needL B v) = true := by
  obtain ⟨b, h1, h2⟩ := h.p.split
  rw [← pth_end h1]
  refine ⟨h2, ?_⟩
  have hg : GsOk B (u ++ v) := T.gs h.p.mem
  have l1 : (gainL B u).length = B.purses.toNat := gainL_len (gsOk_l hg)
  have hn := (geL_iff T.l (needL_len' hg)).mp h.n
  refine (geL_iff (addL_len T.l l1) (needL_len' (gsOk_r hg))).mpr fun p hp => ?_
  have h5 := hn p hp
  have := T.l
  rw [needL_getD hg hp, dueC_app] at h5
  rw [addL_getD (by omega) (by omega), needL_getD (gsOk_r hg) hp, gainL_getD (gsOk_l hg) hp]
  unfold mx2 at h5
  split at h5 <;> omega
end L3
end
section
namespace L3
open PySem L2
def fitL (F : Nat → PyData → Prop) : Nat → List PyData → Prop
  | _, [] => True
  | v, p :: ps => ∃ m r, m + r ≤ v ∧ F m p ∧ fitL F r ps
/-- at most so deep, at most so many parts -/
def Fits : Nat → Nat → PyData → Prop
  | 0, _, _ => False
  | k + 1, v, d => 1 ≤ v ∧ match d with
    | .tuple [_, .tuple ps] => fitL (Fits k) (v - 1) ps
    | .tuple [_, _, z] => Fits k (v - 1) z
    | _ => True
theorem fitL_mono {F G : Nat → PyData → Prop} : ∀ {ps : List PyData} {v w : Nat}, v ≤ w → (∀ m p, p ∈ ps → F m p → G m p) → fitL F v ps → fitL G w ps
  | [], _, _, _, _, _ => trivial
  | p :: ps, v, w, h, hm, ⟨m, r, h1, h2, h3⟩ => ⟨m, r, by omega, hm m p List.mem_cons_self h2, fitL_mono (Nat.le_refl r) (fun m q hq => hm m q (List.mem_cons_of_mem _ hq)) h3⟩
theorem Fits.mono : ∀ {k j v w : Nat} {d : PyData}, k ≤ j → v ≤ w → Fits k v d → Fits j w d
  | 0, _, _, _, _, _, _, h => h.elim
  | k + 1, 0, _, _, _, hk, _, _ => by omega
  | k + 1, j + 1, v, w, d, hk, hv, h => by
    unfold Fits at h ⊢
    obtain ⟨h1, h2⟩ := h
    refine ⟨by omega, ?_⟩
    split at h2
    · exact fitL_mono (by omega) (fun m p _ hf => Fits.mono (by omega) (Nat.le_refl _) hf) h2
    · exact Fits.mono (j := j) (w := w - 1) (by omega) (by omega) h2
    · trivial
end L3
end
section
namespace L3
open PySem PySem.Spec PyProof.Rows L2
end L3
end
section
namespace L3
open PySem PySem.Spec PyProof.Rows L2
end L3
end
section
namespace L3
open PySem L2
end L3
end
section
namespace L3
open PySem L2
end L3
end
section
namespace L3
open PySem PySem.Spec PyProof.Rows L2
end L3
end
section
namespace L3
open PySem PySem.Spec PyProof.Rows L2
end L3
end
section
namespace L3
open PySem PySem.Spec PyProof.Rows L2
end L3
end
section
namespace L3
open PySem PySem.Spec PyProof.Rows L2
variable {G : Type} {K : PySem.W.Frag} {X : Cx} {Z : Zx K G}
theorem keep_of {s : Option Sl} {ds : List PyData} {p : Prop} (h : s = some (.ls ds)) (hp : p) : s = some (.ls ds) ∧ p := ⟨h, hp⟩
end L3
end
section
namespace L3
open PySem PySem.Spec PyProof.Rows L2
theorem lay_listM {α : Type} {n : Nat} {f : α → PyData} {xs : List α} (h : ∀ x ∈ xs, Lay n (f x)) : Lay (n + 1) (.list (xs.map f)) := lay_list fun d hd => by
  obtain ⟨x, hx, rfl⟩ := List.mem_map.mp hd
  exact h x hx
end L3
end
section
namespace L3.Dt
abbrev Lam := List Bool → Int
def wdg : List Int → Lam → Lam
  | [], _, _ => 0
  | _ :: _, _, [] => 0
  | v :: vs, w, false :: s => wdg vs (fun t => w (false :: t)) s
  | v :: vs, w, true :: s => v * w (false :: s) - wdg vs (fun t => w (true :: t)) s
theorem wdg_lin : ∀ (v : List Int) (a b : Int) (w u : Lam) (s : List Bool), wdg v (fun t => a * w t + b * u t) s = a * wdg v w s + b * wdg v u s
  | [], _, _, _, _, _ => by simp [wdg]
  | _ :: _, _, _, _, _, [] => by simp [wdg]
  | v :: vs, a, b, w, u, false :: s => by
    show wdg vs (fun t => a * w (false :: t) + b * u (false :: t)) s = _
    rw [wdg_lin vs a b]; rfl
  | v :: vs, a, b, w, u, true :: s => by
    show v * (a * w (false :: s) + b * u (false :: s)) - wdg vs (fun t => a * w (true :: t) + b * u (true :: t)) s = a * (v * w (false :: s) - wdg vs (fun t => w (true :: t)) s) + b * (v * u (false :: s) - wdg vs (fun t => u (true :: t)) s)
    rw [wdg_lin vs a b]
    grind
theorem wdg_zero (v : List Int) (s : List Bool) : wdg v (fun _ => 0) s = 0 := by
  have := wdg_lin v 0 0 (fun _ => 0) (fun _ => 0) s
  simpa using this
theorem wdg_congr {v : List Int} {w u : Lam} (h : ∀ t, w t = u t) (s : List Bool) : wdg v w s = wdg v u s := by
  have : w = u := funext h
  rw [this]
theorem wdg_self : ∀ (v : List Int) (w : Lam) (s : List Bool), wdg v (wdg v w) s = 0
  | [], _, _ => rfl
  | _ :: _, _, [] => rfl
  | v :: vs, w, false :: s => by
    show wdg vs (fun t => wdg vs (fun t => w (false :: t)) t) s = 0
    exact wdg_self vs _ s
  | v :: vs, w, true :: s => by
    show v * wdg vs (fun t => w (false :: t)) s - wdg vs (fun t => v * w (false :: t) - wdg vs (fun t => w (true :: t)) t) s = 0
    have e := wdg_lin vs v (-1) (fun t => w (false :: t)) (wdg vs (fun t => w (true :: t))) s
    have e2 := wdg_congr (v := vs) (w := fun t => v * w (false :: t) - wdg vs (fun t => w (true :: t)) t) (u := fun t => v * w (false :: t) + (-1) * wdg vs (fun t => w (true :: t)) t) (fun t => by omega) s
    rw [e2, e, wdg_self vs]
    omega
/-- sums of vectors -/
def vadd (a b : Int) : List Int → List Int → List Int
  | x :: xs, y :: ys => (a * x + b * y) :: vadd a b xs ys
  | _, _ => []
theorem wdg_vadd : ∀ (x y : List Int) (a b : Int) (w : Lam) (s : List Bool), x.length = y.length → wdg (vadd a b x y) w s = a * wdg x w s + b * wdg y w s
  | [], [], _, _, _, _, _ => by simp [vadd, wdg]
  | _ :: _, _ :: _, _, _, _, [], _ => by simp [vadd, wdg]
  | x :: xs, y :: ys, a, b, w, false :: s, h => by
    show wdg (vadd a b xs ys) _ s = _
    rw [wdg_vadd xs ys a b _ s (by simpa using h)]; rfl
  | x :: xs, y :: ys, a, b, w, true :: s, h => by
    show (a * x + b * y) * w (false :: s) - wdg (vadd a b xs ys) (fun t => w (true :: t)) s = a * (x * w (false :: s) - wdg xs (fun t => w (true :: t)) s) + b * (y * w (false :: s) - wdg ys (fun t => w (true :: t)) s)
    rw [wdg_vadd xs ys a b _ s (by simpa using h)]
    grind
theorem wdg_swap {x y : List Int} (h : x.length = y.length) (w : Lam) (s : List Bool) : wdg x (wdg y w) s = - wdg y (wdg x w) s := by
  have e := wdg_self (vadd 1 1 x y) w s
  rw [wdg_vadd x y 1 1 _ s h] at e
  have ex : ∀ z : List Int, wdg z (wdg (vadd 1 1 x y) w) s = wdg z (wdg x w) s + wdg z (wdg y w) s := fun z => by
    have := wdg_lin z 1 1 (wdg x w) (wdg y w) s
    rw [wdg_congr (v := z) (w := wdg (vadd 1 1 x y) w) (u := fun t => 1 * wdg x w t + 1 * wdg y w t) (fun t => wdg_vadd x y 1 1 w t h) s, this]
    omega
  rw [ex, ex, wdg_self, wdg_self] at e
  omega
def inn : List Int → Lam → Lam
  | [], _, _ => 0
  | _ :: _, _, [] => 0
  | p :: ps, w, false :: s => inn ps (fun t => w (false :: t)) s + p * w (true :: s)
  | p :: ps, w, true :: s => - inn ps (fun t => w (true :: t)) s
def dot : List Int → List Int → Int
  | x :: xs, y :: ys => x * y + dot xs ys
  | _, _ => 0
theorem inn_lin : ∀ (v : List Int) (a b : Int) (w u : Lam) (s : List Bool), inn v (fun t => a * w t + b * u t) s = a * inn v w s + b * inn v u s
  | [], _, _, _, _, _ => by simp [inn]
  | _ :: _, _, _, _, _, [] => by simp [inn]
  | v :: vs, a, b, w, u, false :: s => by
    show inn vs (fun t => a * w (false :: t) + b * u (false :: t)) s + v * (a * w (true :: s) + b * u (true :: s)) = a * (inn vs (fun t => w (false :: t)) s + v * w (true :: s)) + b * (inn vs (fun t => u (false :: t)) s + v * u (true :: s))
    rw [inn_lin vs a b]
    grind
  | v :: vs, a, b, w, u, true :: s => by
    show - inn vs (fun t => a * w (true :: t) + b * u (true :: t)) s = a * (- inn vs (fun t => w (true :: t)) s) + b * (- inn vs (fun t => u (true :: t)) s)
    rw [inn_lin vs a b]
    grind
theorem inn_congr {v : List Int} {w u : Lam} (h : ∀ t, w t = u t) (s : List Bool) : inn v w s = inn v u s := by
  have : w = u := funext h
  rw [this]
/-- only lists of m bits count -/
theorem inn_wdg : ∀ (p v : List Int) (w : Lam) (s : List Bool), p.length = v.length → s.length = p.length → inn p (wdg v w) s = dot p v * w s - wdg v (inn p w) s
  | [], [], w, s, _, _ => by simp [inn, dot, wdg]
  | p :: ps, v :: vs, w, [], _, h => by simp at h
  | p :: ps, v :: vs, w, false :: s, h, hs => by
    have l : ps.length = vs.length := by simpa using h
    have ls : s.length = ps.length := by simpa using hs
    show inn ps (fun t => wdg vs (fun t => w (false :: t)) t) s + p * (v * w (false :: s) - wdg vs (fun t => w (true :: t)) s) = (p * v + dot ps vs) * w (false :: s) - wdg vs (fun t => inn ps (fun t => w (false :: t)) t + p * w (true :: t)) s
    have e := wdg_lin vs 1 p (inn ps (fun t => w (false :: t))) (fun t => w (true :: t)) s
    rw [wdg_congr (v := vs) (w := fun t => inn ps (fun t => w (false :: t)) t + p * w (true :: t)) (u := fun t => 1 * inn ps (fun t => w (false :: t)) t + p * w (true :: t)) (fun t => by omega) s, e]
    have i := inn_wdg ps vs (fun t => w (false :: t)) s l ls
    show inn ps (wdg vs (fun t => w (false :: t))) s + _ = _
    rw [i]
    grind
  | p :: ps, v :: vs, w, true :: s, h, hs => by
    have l : ps.length = vs.length := by simpa using h
    have ls : s.length = ps.length := by simpa using hs
    show - inn ps (fun t => v * w (false :: t) - wdg vs (fun t => w (true :: t)) t) s = (p * v + dot ps vs) * w (true :: s) - (v * (inn ps (fun t => w (false :: t)) s + p * w (true :: s)) - wdg vs (fun t => - inn ps (fun t => w (true :: t)) t) s)
    have e := inn_lin ps v (-1) (fun t => w (false :: t)) (wdg vs (fun t => w (true :: t))) s
    rw [inn_congr (v := ps) (w := fun t => v * w (false :: t) - wdg vs (fun t => w (true :: t)) t) (u := fun t => v * w (false :: t) + (-1) * wdg vs (fun t => w (true :: t)) t) (fun t => by omega) s, e, inn_wdg ps vs _ s l ls]
    have e2 := wdg_lin vs (-1) 0 (inn ps (fun t => w (true :: t))) (fun _ => 0) s
    rw [wdg_congr (v := vs) (w := fun t => - inn ps (fun t => w (true :: t)) t) (u := fun t => -1 * inn ps (fun t => w (true :: t)) t + 0 * 0) (fun t => by omega) s, e2]
    grind
def cnt : List Bool → Nat
  | [] => 0
  | false :: s => cnt s
  | true :: s => cnt s + 1
theorem cnt_le : ∀ s : List Bool, cnt s ≤ s.length
  | [] => Nat.le_refl _
  | false :: s => by have := cnt_le s; simp [cnt]; omega
  | true :: s => by have := cnt_le s; simp [cnt]; omega
def Deg (k : Nat) (w : Lam) : Prop := ∀ s, cnt s ≠ k → w s = 0
theorem wdg_z : ∀ (v : List Int) (w : Lam) (s : List Bool) (k : Nat), (∀ t, cnt t ≠ k → w t = 0) → cnt s ≠ k + 1 → wdg v w s = 0
  | [], _, _, _, _, _ => rfl
  | _ :: _, _, [], _, _, _ => rfl
  | v :: vs, w, false :: s, k, h, hs => wdg_z vs _ s k (fun t ht => h _ ht) hs
  | v :: vs, w, true :: s, 0, h, hs => by
    show v * w (false :: s) - wdg vs (fun t => w (true :: t)) s = 0
    rw [h _ (show cnt (false :: s) ≠ 0 from fun e => hs (by show cnt s + 1 = _; have : cnt s = 0 := e; omega)), wdg_congr (u := fun _ => 0) (fun t => h _ (by show cnt t + 1 ≠ 0; omega)), wdg_zero]
    omega
  | v :: vs, w, true :: s, k + 1, h, hs => by
    show v * w (false :: s) - wdg vs (fun t => w (true :: t)) s = 0
    have hs : cnt s + 1 ≠ k + 1 + 1 := hs
    rw [h _ (show cnt (false :: s) ≠ k + 1 from fun e => hs (by have : cnt s = k + 1 := e; omega)), wdg_z vs (fun t => w (true :: t)) s k (fun t ht => h (true :: t) (show cnt t + 1 ≠ k + 1 by omega)) (by omega)]
    omega
theorem Deg.wdg {k : Nat} {w : Lam} (h : Deg k w) (v : List Int) : Deg (k + 1) (wdg v w) := fun s hs => wdg_z v w s k h hs
def one : Lam := fun s => if cnt s = 0 then 1 else 0
theorem one_deg : Deg 0 one := fun s hs => if_neg hs
/-- the product of some vectors -/
def prd : List (List Int) → Lam
  | [] => one
  | v :: vs => wdg v (prd vs)
theorem prd_deg : ∀ vs : List (List Int), Deg vs.length (prd vs)
  | [] => one_deg
  | v :: vs => (prd_deg vs).wdg v
def ones : Nat → List Bool
  | 0 => []
  | n + 1 => true :: ones n
theorem ones_len : ∀ n, (ones n).length = n
  | 0 => rfl
  | n + 1 => congrArg (· + 1) (ones_len n)
def zeros : Nat → List Bool
  | 0 => []
  | n + 1 => false :: zeros n
def top (m : Nat) (w : Lam) : Int := w (ones m)
/-- a covector: top (v ∧ w) is v's dot product with it -/
def cov : Nat → Lam → List Int
  | 0, _ => []
  | n + 1, w => w (false :: ones n) :: (cov n fun t => w (true :: t)).map fun x => -x
theorem cov_len : ∀ (n : Nat) (w : Lam), (cov n w).length = n
  | 0, _ => rfl
  | n + 1, w => by simp [cov, cov_len n]
theorem dot_neg : ∀ (x y : List Int), dot (x.map fun a => -a) y = - dot x y
  | [], _ => by simp [dot]
  | _ :: _, [] => by simp [dot]
  | x :: xs, y :: ys => by
    show -x * y + dot (xs.map fun a => -a) ys = -(x * y + dot xs ys)
    rw [dot_neg xs ys]
    grind
theorem cov_dot : ∀ (m : Nat) (v : List Int) (w : Lam), v.length = m → dot (cov m w) v = top m (wdg v w)
  | 0, [], w, _ => rfl
  | m + 1, v :: vs, w, h => by
    show w (false :: ones m) * v + dot ((cov m fun t => w (true :: t)).map fun x => -x) vs = v * w (false :: ones m) - wdg vs (fun t => w (true :: t)) (ones m)
    rw [dot_neg, cov_dot m vs _ (by simpa using h)]
    unfold top
    grind
theorem prd_len {m : Nat} {vs : List (List Int)} (h : m < vs.length) (s : List Bool) (hs : s.length = m) : prd vs s = 0 := prd_deg vs s (by have := cnt_le s; omega)
theorem wdg_on0 : ∀ (v : List Int) {m : Nat} (w : Lam), (∀ t : List Bool, t.length = m → w t = 0) → ∀ s : List Bool, s.length = m → wdg v w s = 0
  | [], _, _, _, _, _ => rfl
  | _ :: _, _, _, _, [], _ => rfl
  | v :: vs, m + 1, w, h, false :: s, hs => wdg_on0 vs (m := m) _ (fun t ht => h _ (by simpa using ht)) s (by simpa using hs)
  | v :: vs, m + 1, w, h, true :: s, hs => by
    show v * w (false :: s) - wdg vs (fun t => w (true :: t)) s = 0
    rw [h (false :: s) (by simpa using hs), wdg_on0 vs (m := m) (fun t => w (true :: t)) (fun t ht => h _ (by simpa using ht)) s (by simpa using hs)]
    omega
/-- the inner product of a product whose factors the covector kills -/
theorem inn_prd0 (p : List Int) : ∀ (vs : List (List Int)), (∀ v ∈ vs, v.length = p.length ∧ dot p v = 0) → ∀ s : List Bool, s.length = p.length → inn p (prd vs) s = 0
  | [], _, s, _ => by
    have go : ∀ (p : List Int) (s : List Bool), inn p one s = 0 := fun p => by
      induction p with
      | nil => intro s; rfl
      | cons a r ih =>
        intro s
        match s with
        | [] => rfl
        | false :: s =>
          show inn r (fun t => one (false :: t)) s + a * one (true :: s) = 0
          have e1 : (fun t => one (false :: t)) = one := rfl
          have e2 : one (true :: s) = 0 := if_neg (by show cnt s + 1 ≠ 0; omega)
          rw [e1, ih, e2]; omega
        | true :: s =>
          show - inn r (fun t => one (true :: t)) s = 0
          have e := inn_lin r 0 0 one one s
          rw [inn_congr (v := r) (w := fun t => one (true :: t)) (u := fun t => 0 * one t + 0 * one t) (fun t => by
            have e2 : one (true :: t) = 0 := if_neg (by show cnt t + 1 ≠ 0; omega)
            rw [e2]; omega), e]
          omega
    exact go p s
  | v :: vs, h, s, hs => by
    show inn p (wdg v (prd vs)) s = 0
    obtain ⟨h1, h2⟩ := h v List.mem_cons_self
    rw [inn_wdg p v _ s h1.symm hs, h2]
    have : ∀ t : List Bool, t.length = p.length → inn p (prd vs) t = 0 := inn_prd0 p vs fun v hv => h v (List.mem_cons_of_mem _ hv)
    rw [wdg_on0 v (m := p.length) _ this s hs]
    omega
theorem wdg_on {m : Nat} (v : List Int) {w u : Lam} (h : ∀ t : List Bool, t.length = m → w t = u t) (s : List Bool) (hs : s.length = m) : wdg v w s = wdg v u s := by
  have e := wdg_lin v 1 (-1) w u s
  have z := wdg_on0 v (m := m) (fun t => 1 * w t + (-1) * u t) (fun t ht => by rw [h t ht]; omega) s hs
  rw [z] at e
  omega
theorem kill {m : Nat} : ∀ (z : List Int) (r : List (List Int)), z ∈ r → (∀ v ∈ r, v.length = m) → ∀ s, wdg z (prd r) s = 0
  | z, v :: r, h, hl, s => by
    show wdg z (wdg v (prd r)) s = 0
    rcases List.mem_cons.mp h with rfl | h
    · exact wdg_self _ _ s
    · rw [wdg_swap ((hl z (List.mem_cons_of_mem _ h)).trans (hl v List.mem_cons_self).symm), wdg_congr (u := fun _ => 0) (fun t => kill z r h (fun v hv => hl v (List.mem_cons_of_mem _ hv)) t), wdg_zero]
      omega
theorem inn0 : ∀ (p : List Int) (w : Lam), (∀ s : List Bool, s.length = p.length → w s = 0) → ∀ s : List Bool, s.length = p.length → inn p w s = 0
  | [], _, _, _, _ => rfl
  | _ :: _, _, _, [], _ => rfl
  | a :: p, w, h, false :: s, hs => by
    show inn p (fun t => w (false :: t)) s + a * w (true :: s) = 0
    rw [inn0 p _ (fun t ht => h _ (by simpa using ht)) s (by simpa using hs), h (true :: s) (by simpa using hs)]; omega
  | a :: p, w, h, true :: s, hs => by
    show - inn p (fun t => w (true :: t)) s = 0
    rw [inn0 p _ (fun t ht => h _ (by simpa using ht)) s (by simpa using hs)]; omega
/-- the bracket -/
def brk (m : Nat) (vs : List (List Int)) : Int := top m (prd vs)
/-- three terms: u v x y over r -/
theorem three (m : Nat) (r : List (List Int)) (hr : r.length + 2 = m) (hl : ∀ v ∈ r, v.length = m) {u v x y : List Int} (hu : u.length = m) (hv : v.length = m) (hx : x.length = m) (hy : y.length = m) :
    brk m (u :: v :: r) * brk m (x :: y :: r) = brk m (x :: v :: r) * brk m (u :: y :: r) - brk m (y :: v :: r) * brk m (u :: x :: r) := by
  let w : Lam := wdg v (prd r)
  let p := cov m w
  have pl : p.length = m := cov_len m w
  have pd : ∀ z : List Int, z.length = m → dot p z = brk m (z :: v :: r) := fun z hz => cov_dot m z w hz
  have self0 : ∀ z ∈ r, dot p z = 0 := fun z hz => by
    rw [pd z (hl z hz)]
    show wdg z (wdg v (prd r)) (ones m) = 0
    rw [wdg_swap ((hl z hz).trans hv.symm)]
    have : ∀ s, wdg z (prd r) s = 0 := kill z r hz fun v hv => hl v hv
    rw [wdg_congr this, wdg_zero]; omega
  have big : prd (u :: x :: y :: r) (ones m) = 0 := prd_len (m := m) (by simp; omega) _ (ones_len m)
  have bigall : ∀ s : List Bool, s.length = m → prd (u :: x :: y :: r) s = 0 := fun s hs => prd_len (m := m) (by simp; omega) _ hs
  have i0 : inn p (prd (u :: x :: y :: r)) (ones m) = 0 := inn0 p _ (fun s hs => bigall s (hs.trans pl)) _ (by rw [ones_len, pl])
  have om : (ones m).length = p.length := by rw [ones_len, pl]
  have e1 : inn p (prd (u :: x :: y :: r)) (ones m) = dot p u * prd (x :: y :: r) (ones m) - wdg u (inn p (prd (x :: y :: r))) (ones m) := inn_wdg p u _ _ (by rw [pl, hu]) om
  have e2 : ∀ s : List Bool, s.length = p.length → inn p (prd (x :: y :: r)) s = dot p x * prd (y :: r) s - dot p y * prd (x :: r) s := fun s hs => by
    have a1 : inn p (prd (x :: y :: r)) s = dot p x * prd (y :: r) s - wdg x (inn p (prd (y :: r))) s := inn_wdg p x _ _ (by rw [pl, hx]) hs
    have a2 : ∀ s : List Bool, s.length = p.length → inn p (prd (y :: r)) s = dot p y * prd r s := fun s hs => by
      have b1 : inn p (prd (y :: r)) s = dot p y * prd r s - wdg y (inn p (prd r)) s := inn_wdg p y _ _ (by rw [pl, hy]) hs
      rw [b1, wdg_on0 y (m := p.length) _ (inn_prd0 p r fun v hv => ⟨by rw [hl v hv, pl], self0 v hv⟩) s hs]
      omega
    rw [a1, wdg_on (m := p.length) x (u := fun t => dot p y * prd r t + 0 * prd r t) (fun t ht => by rw [a2 t ht]; omega) s hs, wdg_lin]
    show dot p x * prd (y :: r) s - (dot p y * prd (x :: r) s + 0 * _) = _
    omega
  rw [i0] at e1
  rw [wdg_on (m := p.length) u (u := fun t => dot p x * prd (y :: r) t + (- dot p y) * prd (x :: r) t) (fun t ht => by rw [e2 t ht]; grind) _ om, wdg_lin] at e1
  have f : 0 = dot p u * brk m (x :: y :: r) - (dot p x * brk m (u :: y :: r) + (- dot p y) * brk m (u :: x :: r)) := e1
  rw [pd u hu, pd x hx, pd y hy] at f
  grind
end L3.Dt
end
section
namespace L3.Dt
def sm : Nat → (Nat → Int) → Int
  | 0, _ => 0
  | n + 1, f => sm n f + f n
theorem sm_congr : ∀ {n : Nat} {f g : Nat → Int}, (∀ i, i < n → f i = g i) → sm n f = sm n g
  | 0, _, _, _ => rfl
  | n + 1, f, g, h => by
    show sm n f + f n = sm n g + g n
    rw [sm_congr fun i hi => h i (Nat.lt_succ_of_lt hi), h n (Nat.lt_succ_self n)]
theorem sm_add : ∀ (n : Nat) (f g : Nat → Int), sm n (fun i => f i + g i) = sm n f + sm n g
  | 0, _, _ => rfl
  | n + 1, f, g => by
    show sm n (fun i => f i + g i) + (f n + g n) = (sm n f + f n) + (sm n g + g n)
    rw [sm_add n f g]; omega
theorem sm_mul : ∀ (n : Nat) (a : Int) (f : Nat → Int), sm n (fun i => a * f i) = a * sm n f
  | 0, a, _ => by simp [sm]
  | n + 1, a, f => by
    show sm n (fun i => a * f i) + a * f n = a * (sm n f + f n)
    rw [sm_mul n a f, Int.mul_add]
theorem sm_zero : ∀ (n : Nat), sm n (fun _ => 0) = 0
  | 0 => rfl
  | n + 1 => by show sm n (fun _ => 0) + 0 = 0; rw [sm_zero n]; rfl
theorem sm_neg (n : Nat) (f : Nat → Int) : sm n (fun i => - f i) = - sm n f := by
  have := sm_mul n (-1) f
  rw [sm_congr (g := fun i => -1 * f i) (fun i _ => by omega), this]; omega
theorem sm_sub (n : Nat) (f g : Nat → Int) : sm n (fun i => f i - g i) = sm n f - sm n g := by
  have := sm_add n f (fun i => - g i)
  rw [sm_neg] at this
  rw [sm_congr (g := fun i => f i + - g i) (fun i _ => by omega), this]; omega
theorem sm_swap : ∀ (n m : Nat) (f : Nat → Nat → Int), sm n (fun i => sm m fun j => f i j) = sm m fun j => sm n fun i => f i j
  | 0, m, f => (sm_zero m).symm
  | n + 1, m, f => by
    show sm n (fun i => sm m fun j => f i j) + sm m (fun j => f n j) = sm m fun j => sm n (fun i => f i j) + f n j
    rw [sm_add, sm_swap n m f]
theorem sm_one : ∀ {n k : Nat} (v : Int), k < n → sm n (fun i => if i = k then v else 0) = v
  | n + 1, k, v, h => by
    show sm n (fun i => if i = k then v else 0) + (if n = k then v else 0) = v
    by_cases e : n = k
    · rw [if_pos e, sm_congr (g := fun _ => 0) (fun i hi => if_neg (by omega)), sm_zero]; omega
    · rw [if_neg e, sm_one v (by omega)]; omega
theorem sm_none {n k : Nat} (v : Int) (h : n ≤ k) : sm n (fun i => if i = k then v else 0) = 0 := by
  rw [sm_congr (g := fun _ => 0) (fun i hi => if_neg (by omega)), sm_zero]
theorem sm_ge0 : ∀ {n : Nat} {f : Nat → Int}, (∀ i, i < n → 0 ≤ f i) → 0 ≤ sm n f
  | 0, _, _ => Int.le_refl _
  | n + 1, f, h => by
    have := sm_ge0 fun i hi => h i (Nat.lt_succ_of_lt hi)
    have := h n (Nat.lt_succ_self n)
    show 0 ≤ sm n f + f n
    omega
theorem sm_le : ∀ {n : Nat} {f g : Nat → Int}, (∀ i, i < n → f i ≤ g i) → sm n f ≤ sm n g
  | 0, _, _, _ => Int.le_refl _
  | n + 1, f, g, h => by
    have := sm_le fun i hi => h i (Nat.lt_succ_of_lt hi)
    have := h n (Nat.lt_succ_self n)
    show sm n f + f n ≤ sm n g + g n
    omega
theorem sm_succ (n : Nat) (f : Nat → Int) : sm (n + 1) f = sm n f + f n := rfl
theorem sm_shift : ∀ (n : Nat) (f : Nat → Int), sm (n + 1) f = f 0 + sm n fun i => f (i + 1)
  | 0, f => by show 0 + f 0 = f 0 + 0; omega
  | n + 1, f => by
    show sm (n + 1) f + f (n + 1) = f 0 + (sm n (fun i => f (i + 1)) + f (n + 1))
    rw [sm_shift n f]; omega
theorem wdg_inn (p u : List Int) : ∀ (L : List (List Int)), (∀ v ∈ L, v.length = p.length) → u.length = p.length → ∀ s : List Bool, s.length = p.length →
    wdg u (inn p (prd L)) s = sm L.length fun i => dot p (L[i]?.getD []) * prd (L.set i u) s
  | [], _, _, s, hs => by
    have : ∀ t : List Bool, t.length = p.length → inn p (prd []) t = 0 := inn_prd0 p [] (fun v hv => by cases hv)
    exact wdg_on0 u (m := p.length) _ this s hs
  | v :: L, h, hu, s, hs => by
    have hv := h v List.mem_cons_self
    have hL : ∀ v ∈ L, v.length = p.length := fun w hw => h w (List.mem_cons_of_mem _ hw)
    rw [wdg_on (m := p.length) u (u := fun t => dot p v * prd L t + (-1) * wdg v (inn p (prd L)) t) (fun t ht => by
      show inn p (wdg v (prd L)) t = _
      rw [inn_wdg p v _ t hv.symm ht]; omega) s hs, wdg_lin, wdg_swap (hu.trans hv.symm)]
    rw [wdg_on (m := p.length) v (u := fun t => sm L.length fun i => dot p (L[i]?.getD []) * prd (L.set i u) t) (fun t ht => wdg_inn p u L hL hu t ht) s hs]
    have go : ∀ (n : Nat) (a : Nat → Int) (w : Nat → Lam), wdg v (fun t => sm n fun i => a i * w i t) s = sm n fun i => a i * wdg v (w i) s := fun n a w => by
      induction n with
      | zero => exact wdg_zero v s
      | succ n ih =>
        show wdg v (fun t => (sm n fun i => a i * w i t) + a n * w n t) s = (sm n fun i => a i * wdg v (w i) s) + a n * wdg v (w n) s
        have e := wdg_lin v 1 (a n) (fun t => sm n fun i => a i * w i t) (w n) s
        rw [wdg_congr (v := v) (w := fun t => (sm n fun i => a i * w i t) + a n * w n t) (u := fun t => 1 * (sm n fun i => a i * w i t) + a n * w n t) (fun t => by omega) s, e, ih]
        omega
    rw [go, List.length_cons, sm_shift]
    show dot p v * wdg u (prd L) s + -1 * -(sm L.length fun i => dot p (L[i]?.getD []) * wdg v (prd (L.set i u)) s) = dot p v * wdg u (prd L) s + sm L.length (fun i => dot p (L[i]?.getD []) * wdg v (prd (L.set i u)) s)
    omega
theorem cramer {m : Nat} {p u : List Int} {L : List (List Int)} (hp : p.length = m) (hu : u.length = m) (hl : L.length = m) (h : ∀ v ∈ L, v.length = m) : dot p u * brk m L = sm m fun i => dot p (L[i]?.getD []) * brk m (L.set i u) := by
  subst hp
  have om : (ones p.length).length = p.length := ones_len _
  have e1 : inn p (prd (u :: L)) (ones p.length) = dot p u * prd L (ones p.length) - wdg u (inn p (prd L)) (ones p.length) := inn_wdg p u _ _ hu.symm om
  rw [inn0 p _ (fun s hs => prd_len (m := p.length) (by simp; omega) s hs) _ om, wdg_inn p u L h hu _ om, hl] at e1
  show dot p u * prd L (ones p.length) = sm p.length fun i => _ * prd (L.set i u) (ones p.length)
  omega
def sg : Nat → Int
  | 0 => 1
  | n + 1 => - sg n
theorem sg_sq : ∀ n, sg n * sg n = 1
  | 0 => rfl
  | n + 1 => by show - sg n * - sg n = 1; rw [Int.neg_mul_neg, sg_sq n]
theorem prd_front {m : Nat} : ∀ (L : List (List Int)) (i : Nat) (x : List Int), L[i]? = some x → (∀ v ∈ L, v.length = m) → ∀ s, prd L s = sg i * prd (x :: L.eraseIdx i) s
  | v :: L, 0, x, h, _, s => by
    cases (show some v = some x from h)
    show prd (v :: L) s = 1 * prd (v :: L) s
    omega
  | v :: L, i + 1, x, h, hl, s => by
    have h : L[i]? = some x := h
    have hx : x.length = m := hl x (List.mem_cons_of_mem _ (List.mem_of_getElem? h))
    show wdg v (prd L) s = - sg i * wdg x (wdg v (prd (L.eraseIdx i))) s
    have ih := prd_front L i x h fun w hw => hl w (List.mem_cons_of_mem _ hw)
    rw [wdg_congr (v := v) (u := fun t => sg i * prd (x :: L.eraseIdx i) t + 0 * 0) (fun t => by rw [ih t]; omega), wdg_lin v (sg i) 0 _ (fun _ => 0)]
    show sg i * wdg v (wdg x (prd (L.eraseIdx i))) s + 0 * _ = _
    rw [wdg_swap ((hl v List.mem_cons_self).trans hx.symm)]
    grind
theorem brk_front {m : Nat} {L : List (List Int)} {i : Nat} {x : List Int} (h : L[i]? = some x) (hl : ∀ v ∈ L, v.length = m) : brk m L = sg i * brk m (x :: L.eraseIdx i) := prd_front L i x h hl _
theorem eraseSet {α : Type} (x : α) : ∀ (L : List α) (i : Nat), (L.set i x).eraseIdx i = L.eraseIdx i
  | [], _ => rfl
  | _ :: _, 0 => rfl
  | a :: L, i + 1 => by show a :: (L.set i x).eraseIdx i = a :: L.eraseIdx i; rw [eraseSet x L i]
theorem all_set {m : Nat} {L : List (List Int)} (h : ∀ v ∈ L, v.length = m) {x : List Int} (hx : x.length = m) (i : Nat) : ∀ v ∈ L.set i x, v.length = m := fun v hv => by
  rcases List.mem_or_eq_of_mem_set hv with hv | rfl
  · exact h v hv
  · exact hx
theorem brk_set {m : Nat} {L : List (List Int)} {i : Nat} {x : List Int} (hi : i < L.length) (hl : ∀ v ∈ L, v.length = m) (hx : x.length = m) : brk m (L.set i x) = sg i * brk m (x :: L.eraseIdx i) := by
  rw [brk_front (i := i) (x := x) (List.getElem?_set_self hi) (all_set hl hx i), eraseSet]
/-- where a place comes to when another one is left out -/
def offP (i r : Nat) : Nat := if r < i then r else r - 1
theorem erase_get {α : Type} : ∀ {L : List α} {i r : Nat}, i ≠ r → (L.eraseIdx i)[offP i r]? = L[r]? := fun {L i r} h => by
  unfold offP
  by_cases e : r < i
  · rw [if_pos e, List.getElem?_eraseIdx_of_lt e]
  · rw [if_neg e, List.getElem?_eraseIdx_of_ge (by omega)]
    congr 1; omega
theorem erase_set {α : Type} (x : α) : ∀ {L : List α} {i r : Nat}, i ≠ r → (L.set r x).eraseIdx i = (L.eraseIdx i).set (offP i r) x := fun {L i r} h => by
  apply List.ext_getElem?
  intro k
  simp only [List.getElem?_eraseIdx, List.getElem?_set, List.length_eraseIdx]
  unfold offP
  (repeat' split) <;> first | rfl | omega | (exfalso; omega) | (simp_all <;> omega) | (exact (List.getElem?_eq_none (by omega)).symm) | (exact List.getElem?_eq_none (by omega))
/-- the exchange of two places -/
theorem exch {m : Nat} {L : List (List Int)} {i r : Nat} (hL : L.length = m) (hi : i < m) (hr : r < m) (ne : i ≠ r) (hl : ∀ v ∈ L, v.length = m) {u v : List Int} (hu : u.length = m) (hv : v.length = m) :
    brk m L * brk m ((L.set i u).set r v) = brk m (L.set i u) * brk m (L.set r v) - brk m (L.set i v) * brk m (L.set r u) := by
  obtain ⟨a, ha⟩ : ∃ a, L[i]? = some a := ⟨L[i], by simp⟩
  obtain ⟨b, hb⟩ : ∃ b, L[r]? = some b := ⟨L[r], by simp⟩
  have la := hl a (List.mem_of_getElem? ha)
  have lb := hl b (List.mem_of_getElem? hb)
  let R := (L.eraseIdx i).eraseIdx (offP i r)
  have lE : (L.eraseIdx i).length = m - 1 := by rw [List.length_eraseIdx, if_pos (by omega), hL]
  have oP : offP i r < m - 1 := by unfold offP; split <;> omega
  have lR : R.length + 2 = m := by
    show ((L.eraseIdx i).eraseIdx (offP i r)).length + 2 = m
    rw [List.length_eraseIdx, if_pos (by omega), lE]; omega
  have hE : ∀ v ∈ L.eraseIdx i, v.length = m := fun v hv => hl v (List.mem_of_mem_eraseIdx hv)
  have hR : ∀ v ∈ R, v.length = m := fun v hv => hE v (List.mem_of_mem_eraseIdx hv)
  -- a list with x at i and y at r
  have two : ∀ (M : List (List Int)) (x y : List Int), M[i]? = some x → (M.eraseIdx i)[offP i r]? = some y → (M.eraseIdx i).eraseIdx (offP i r) = R → (∀ v ∈ M, v.length = m) → brk m M = sg i * sg (offP i r) * brk m (x :: y :: R) := fun M x y h1 h2 h3 h4 => by
    rw [brk_front h1 h4]
    have e : ∀ t, prd (M.eraseIdx i) t = sg (offP i r) * prd (y :: R) t := fun t => by
      rw [prd_front (m := m) (M.eraseIdx i) (offP i r) y h2 (fun v hv => h4 v (List.mem_of_mem_eraseIdx hv)) t, h3]
    show sg i * wdg x (prd (M.eraseIdx i)) (ones m) = _
    rw [wdg_congr (v := x) (u := fun t => sg (offP i r) * prd (y :: R) t + 0 * 0) (fun t => by rw [e t]; omega), wdg_lin x _ 0 _ (fun _ => 0)]
    show sg i * (sg (offP i r) * brk m (x :: y :: R) + 0 * _) = _
    grind
  have sE : ∀ x : List Int, ((L.eraseIdx i).set (offP i r) x).eraseIdx (offP i r) = R := fun x => eraseSet x _ _
  have g : ∀ x : List Int, ((L.eraseIdx i).set (offP i r) x)[offP i r]? = some x := fun x => List.getElem?_set_self (by omega)
  have e0 := two L a b ha ((erase_get ne).trans hb) rfl hl
  have e1 : ∀ x, x.length = m → brk m (L.set i x) = sg i * sg (offP i r) * brk m (x :: b :: R) := fun x hx => two _ x b (List.getElem?_set_self (by omega)) (by rw [eraseSet]; exact (erase_get ne).trans hb) (by rw [eraseSet]) (all_set hl hx i)
  have e2 : ∀ x, x.length = m → brk m (L.set r x) = sg i * sg (offP i r) * brk m (a :: x :: R) := fun x hx => two _ a x (by rw [List.getElem?_set_ne (fun z => ne z.symm)]; exact ha) (by rw [erase_set x ne]; exact g x) (by rw [erase_set x ne]; exact sE x) (all_set hl hx r)
  have e3 : brk m ((L.set i u).set r v) = sg i * sg (offP i r) * brk m (u :: v :: R) := two _ u v (by rw [List.getElem?_set_ne (fun z => ne z.symm)]; exact List.getElem?_set_self (by omega)) (by rw [erase_set v ne, eraseSet u L i]; exact g v) (by rw [erase_set v ne, eraseSet u L i]; exact sE v) (all_set (all_set hl hu i) hv r)
  have t := three m R lR hR hu hv la lb
  have sw : ∀ x y : List Int, x.length = m → y.length = m → brk m (x :: y :: R) = - brk m (y :: x :: R) := fun x y hx hy => wdg_swap (hx.trans hy.symm) _ _
  rw [sw b v lb hv, sw u a hu la] at t
  rw [e0, e3, e1 u hu, e2 v hv, e1 v hv, e2 u hu]
  have q1 := sg_sq i
  have q2 := sg_sq (offP i r)
  generalize sg i = p1 at *
  generalize sg (offP i r) = p2 at *
  grind
end L3.Dt
end
section
namespace L3.Dt
section
variable (M : Nat) (col : Nat → List Int)
def ent (B : List Nat) (i l : Nat) : Int := brk M ((B.map col).set i (col l))
def dvr (B : List Nat) : Int := brk M (B.map col)
end
section
variable {M : Nat} {col : Nat → List Int} (hc : ∀ l, (col l).length = M)
include hc
theorem allc (B : List Nat) : ∀ v ∈ B.map col, v.length = M := fun v hv => by
  obtain ⟨b, _, rfl⟩ := List.mem_map.mp hv
  exact hc b
theorem ent_piv {B : List Nat} {i r l k : Nat} (hB : B.length = M) (hi : i < M) (hr : r < M) (ne : i ≠ r) : dvr M col B * ent M col (B.set r l) i k = ent M col B i k * ent M col B r l - ent M col B i l * ent M col B r k := by
  have e := exch (m := M) (L := B.map col) (i := i) (r := r) (u := col k) (v := col l) (by simpa using hB) hi hr ne (allc hc B) (hc k) (hc l)
  unfold ent dvr
  rw [List.map_set, List.set_comm _ _ ne.symm]
  exact e
omit hc in
theorem dvr_piv {B : List Nat} {r l : Nat} : dvr M col (B.set r l) = ent M col B r l := by
  unfold ent dvr
  rw [List.map_set]
omit hc in
theorem ent_same {B : List Nat} {r l k : Nat} : ent M col (B.set r l) r k = ent M col B r k := by
  unfold ent
  rw [List.map_set, List.set_set]
omit hc in
theorem ent_self {B : List Nat} {i b : Nat} (h : B[i]? = some b) : ent M col B i b = dvr M col B := by
  unfold ent dvr
  congr 1
  apply List.ext_getElem?
  intro k
  by_cases e : i = k
  · subst e
    obtain ⟨h1, h2⟩ := List.getElem?_eq_some_iff.mp h
    rw [List.getElem?_set_self (by simpa using h1), List.getElem?_map, h]; rfl
  · rw [List.getElem?_set_ne e]
theorem ent_rep {B : List Nat} {i k b : Nat} (hB : B.length = M) (hi : i < M) (h : B[k]? = some b) (ne : i ≠ k) (hd : dvr M col B ≠ 0) : ent M col B i b = 0 := by
  have hk : k < M := by rw [← hB]; exact (List.getElem?_eq_some_iff.mp h).1
  have e := ent_piv hc (l := b) (k := b) hB hi hk ne
  have e2 : ent M col (B.set k b) i b = ent M col B i b := by
    have : B.set k b = B := by
      apply List.ext_getElem?
      intro j
      by_cases ej : k = j
      · subst ej; rw [List.getElem?_set_self (by omega), h]
      · rw [List.getElem?_set_ne ej]
    rw [this]
  rw [e2, ent_self h] at e
  have : dvr M col B * ent M col B i b = 0 := by
    rw [e]; grind
  rcases Int.mul_eq_zero.mp this with h | h
  · exact absurd h hd
  · exact h
theorem ent_back {B : List Nat} {i r l b : Nat} (hB : B.length = M) (hi : i < M) (ne : i ≠ r) (h : B[r]? = some b) (hd : dvr M col B ≠ 0) : ent M col (B.set r l) i b = - ent M col B i l := by
  have hr : r < M := by rw [← hB]; exact (List.getElem?_eq_some_iff.mp h).1
  have e := ent_piv hc (l := l) (k := b) hB hi hr ne
  rw [ent_rep hc hB hi h ne hd, ent_self h] at e
  have : dvr M col B * (ent M col (B.set r l) i b + ent M col B i l) = 0 := by
    rw [Int.mul_add, e]; grind
  rcases Int.mul_eq_zero.mp this with h | h
  · exact absurd h hd
  · omega
/-- a row is a covector -/
theorem ent_dot {B : List Nat} {i : Nat} (hB : B.length = M) (hi : i < M) : ∃ P : List Int, P.length = M ∧ ∀ l, ent M col B i l = dot P (col l) := by
  refine ⟨(cov M (prd ((B.map col).eraseIdx i))).map fun x => sg i * x, by rw [List.length_map, cov_len], fun l => ?_⟩
  have e : ent M col B i l = sg i * brk M (col l :: (B.map col).eraseIdx i) := brk_set (by simpa [hB] using hi) (allc hc B) (hc l)
  rw [e]
  have go : ∀ (a : Int) (x y : List Int), dot (x.map fun t => a * t) y = a * dot x y := fun a x => by
    induction x with
    | nil => intro y; simp [dot]
    | cons c x ih =>
      intro y
      cases y with
      | nil => simp [dot]
      | cons d y =>
        show a * c * d + dot (x.map fun t => a * t) y = a * (c * d + dot x y)
        rw [ih]; grind
  rw [go, cov_dot M (col l) _ (hc l)]
  rfl
theorem ent_cramer {B : List Nat} {p : List Int} {l : Nat} (hB : B.length = M) (hp : p.length = M) : dot p (col l) * dvr M col B = sm M fun i => dot p (col (B[i]?.getD 0)) * ent M col B i l := by
  have e := cramer (m := M) (p := p) (u := col l) (L := B.map col) hp (hc l) (by simpa using hB) (allc hc B)
  unfold dvr
  rw [e]
  refine sm_congr fun i hi => ?_
  rw [List.getElem?_map, List.getElem?_eq_getElem (by omega)]
  rfl
end
def unt (M i : Nat) : List Int := (List.range M).map fun k => if k = i then 1 else 0
theorem unt_len (M i : Nat) : (unt M i).length = M := by simp [unt]
theorem dot_unt : ∀ (M i : Nat) (v : List Int), v.length = M → i < M → dot (unt M i) v = v[i]?.getD 0 := by
  have zero : ∀ (M : Nat) (v : List Int) (f : Nat → Int), (∀ k, k < M → f k = 0) → dot ((List.range M).map f) v = 0 := by
    intro M
    induction M with
    | zero => intro v f h; simp [dot]
    | succ n ih =>
      intro v f h
      cases v with
      | nil => rw [List.range_succ_eq_map]; simp [dot]
      | cons a v =>
        rw [List.range_succ_eq_map, List.map_cons, List.map_map]
        show f 0 * a + dot ((List.range n).map (f ∘ Nat.succ)) v = 0
        rw [h 0 (by omega), ih v (f ∘ Nat.succ) fun k hk => h (k + 1) (by omega)]; omega
  have main : ∀ (M i : Nat) (v : List Int) (f : Nat → Int), v.length = M → i < M → (∀ k, k < M → f k = if k = i then 1 else 0) → dot ((List.range M).map f) v = v[i]?.getD 0 := by
    intro M
    induction M with
    | zero => intro i v f _ h; omega
    | succ n ih =>
      intro i v f hv hi h
      cases v with
      | nil => simp at hv
      | cons a v =>
        rw [List.range_succ_eq_map, List.map_cons, List.map_map]
        show f 0 * a + dot ((List.range n).map (f ∘ Nat.succ)) v = _
        cases i with
        | zero =>
          rw [h 0 (by omega), zero n v _ fun k hk => by show f (k + 1) = 0; rw [h (k + 1) (by omega), if_neg (by omega)]]
          simp
        | succ i =>
          rw [h 0 (by omega), ih i v _ (by simpa using hv) (by omega) fun k hk => by
            show f (k + 1) = _
            rw [h (k + 1) (by omega)]
            by_cases e : k = i
            · rw [if_pos e, if_pos (by omega)]
            · rw [if_neg e, if_neg (by omega)]]
          simp
  exact fun M i v hv hi => main M i v _ hv hi fun k _ => rfl
theorem unt_succ (M i : Nat) : unt (M + 1) (i + 1) = 0 :: unt M i := by
  unfold unt
  rw [List.range_succ_eq_map, List.map_cons, List.map_map]
  congr 1
  refine List.map_congr_left fun k _ => ?_
  show (if k + 1 = i + 1 then (1 : Int) else 0) = if k = i then 1 else 0
  by_cases e : k = i
  · rw [if_pos e, if_pos (by omega)]
  · rw [if_neg e, if_neg (by omega)]
theorem unt_zero (M : Nat) : unt (M + 1) 0 = 1 :: (List.range M).map fun _ => 0 := by
  unfold unt
  rw [List.range_succ_eq_map, List.map_cons, List.map_map]
  rfl
def units (M : Nat) : List (List Int) := (List.range M).map (unt M)
theorem units_succ (M : Nat) : units (M + 1) = unt (M + 1) 0 :: (units M).map (0 :: ·) := by
  unfold units
  rw [List.range_succ_eq_map, List.map_cons, List.map_map, List.map_map]
  congr 1
  exact List.map_congr_left fun k _ => unt_succ M k
theorem wdg_zeros : ∀ (L : List Int) (w : Lam) (s : List Bool), (∀ x ∈ L, x = 0) → wdg L w s = 0
  | [], _, _, _ => rfl
  | _ :: _, _, [], _ => rfl
  | x :: L, w, false :: s, h => wdg_zeros L _ s fun y hy => h y (List.mem_cons_of_mem _ hy)
  | x :: L, w, true :: s, h => by
    show x * w (false :: s) - wdg L (fun t => w (true :: t)) s = 0
    rw [wdg_zeros L _ s fun y hy => h y (List.mem_cons_of_mem _ hy), h x List.mem_cons_self]; omega
theorem prd_false : ∀ (L : List (List Int)) (s : List Bool), (∀ v ∈ L, v ≠ []) → prd L (false :: s) = prd (L.map List.tail) s
  | [], s, _ => rfl
  | v :: L, s, h => by
    match v, h v List.mem_cons_self with
    | a :: v, _ =>
      show wdg v (fun t => prd L (false :: t)) s = wdg v (prd (L.map List.tail)) s
      exact wdg_congr (fun t => prd_false L t fun w hw => h w (List.mem_cons_of_mem _ hw)) s
theorem prd_true0 : ∀ (L : List (List Int)) (s : List Bool), prd (L.map (0 :: ·)) (true :: s) = 0
  | [], s => by
    show one (true :: s) = 0
    exact if_neg (by show cnt s + 1 ≠ 0; omega)
  | v :: L, s => by
    show 0 * prd (L.map (0 :: ·)) (false :: s) - wdg v (fun t => prd (L.map (0 :: ·)) (true :: t)) s = 0
    rw [wdg_congr (u := fun _ => 0) (fun t => prd_true0 L t), wdg_zero]; omega
theorem tails (L : List (List Int)) : (L.map ((0 : Int) :: ·)).map List.tail = L := by
  rw [List.map_map]
  exact List.map_id'' (fun _ => rfl) L
theorem brk_units : ∀ (M : Nat), brk M (units M) = 1
  | 0 => rfl
  | M + 1 => by
    rw [units_succ, unt_zero]
    show 1 * prd ((units M).map (0 :: ·)) (false :: ones M) - wdg ((List.range M).map fun _ => 0) _ (ones M) = 1
    rw [prd_false _ _ (fun v hv => by obtain ⟨_, _, rfl⟩ := List.mem_map.mp hv; simp), tails, wdg_zeros _ _ _ (fun x hx => by obtain ⟨_, _, rfl⟩ := List.mem_map.mp hx; rfl)]
    have := brk_units M
    unfold brk top at this
    omega
theorem brk_unit_set : ∀ (M i : Nat) (v : List Int), v.length = M → i < M → brk M ((units M).set i v) = v[i]?.getD 0
  | M + 1, 0, a :: v, hv, _ => by
    rw [units_succ]
    show a * prd ((units M).map (0 :: ·)) (false :: ones M) - wdg v (fun t => prd ((units M).map (0 :: ·)) (true :: t)) (ones M) = a
    rw [prd_false _ _ (fun v hv => by obtain ⟨_, _, rfl⟩ := List.mem_map.mp hv; simp), tails, wdg_congr (u := fun _ => 0) (fun t => prd_true0 _ t), wdg_zero]
    have := brk_units M
    unfold brk top at this
    rw [this]; omega
  | M + 1, i + 1, a :: v, hv, hi => by
    rw [units_succ, unt_zero]
    show 1 * prd (((units M).map (0 :: ·)).set i (a :: v)) (false :: ones M) - wdg ((List.range M).map fun _ => 0) _ (ones M) = _
    rw [prd_false _ _ (fun w hw => by
      rcases List.mem_or_eq_of_mem_set hw with hw | rfl
      · obtain ⟨_, _, rfl⟩ := List.mem_map.mp hw; simp
      · simp), List.map_set, tails, wdg_zeros _ _ _ (fun x hx => by obtain ⟨_, _, rfl⟩ := List.mem_map.mp hx; rfl)]
    have := brk_unit_set M i v (by simpa using hv) (by omega)
    unfold brk top at this
    show 1 * prd ((units M).set i v) (ones M) - 0 = _
    rw [this]
    simp
def nrm : List Int → Nat
  | [] => 0
  | x :: r => x.natAbs + nrm r
theorem wdg_bnd : ∀ (v : List Int) (w : Lam) (C : Nat), (∀ s, (w s).natAbs ≤ C) → ∀ s, (wdg v w s).natAbs ≤ nrm v * C
  | [], _, _, _, _ => by simp [wdg]
  | _ :: _, _, _, _, [] => by simp [wdg]
  | v :: vs, w, C, h, false :: s => by
    have := wdg_bnd vs (fun t => w (false :: t)) C (fun s => h _) s
    show (wdg vs _ s).natAbs ≤ (v.natAbs + nrm vs) * C
    rw [Nat.add_mul]
    exact Nat.le_trans this (Nat.le_add_left _ _)
  | v :: vs, w, C, h, true :: s => by
    have h1 := wdg_bnd vs (fun t => w (true :: t)) C (fun s => h _) s
    show (v * w (false :: s) - wdg vs (fun t => w (true :: t)) s).natAbs ≤ (v.natAbs + nrm vs) * C
    have h2 : (v * w (false :: s)).natAbs ≤ v.natAbs * C := by
      rw [Int.natAbs_mul]; exact Nat.mul_le_mul_left _ (h _)
    rw [Nat.add_mul]
    have := Int.natAbs_sub_le (v * w (false :: s)) (wdg vs (fun t => w (true :: t)) s)
    omega
def nprd : List (List Int) → Nat
  | [] => 1
  | v :: vs => nrm v * nprd vs
theorem prd_bnd : ∀ (L : List (List Int)) (s : List Bool), (prd L s).natAbs ≤ nprd L
  | [], s => by
    show (if cnt s = 0 then (1 : Int) else 0).natAbs ≤ 1
    split <;> simp
  | v :: L, s => wdg_bnd v _ _ (prd_bnd L) s
end L3.Dt
end
section
namespace L3.Dt
/-- rows a i k, sides, the goal -/
structure Lp where
  n : Nat
  m : Nat
  A : Nat → Nat → Int
  sd : Nat → Int
  gl : Nat → Int
namespace Lp
variable (P : Lp)
def z : Nat := P.n + P.m
def rhs : Nat := P.n + P.m + 1
def M : Nat := P.m + 1
/-- the column of an unknown, of a row's own unknown, of the goal's, of the sides -/
def col (l : Nat) : List Int :=
  if l < P.n then (List.range P.m).map (fun i => P.A i l) ++ [- P.gl l]
  else if l ≤ P.n + P.m then unt (P.m + 1) (l - P.n)
  else (List.range P.m).map P.sd ++ [0]
theorem col_len (l : Nat) : (P.col l).length = P.M := by
  unfold col M
  split
  · simp
  · split
    · exact unt_len _ _
    · simp
def T (B : List Nat) (i l : Nat) : Int := ent P.M P.col (B ++ [P.z]) i l
def D (B : List Nat) : Int := dvr P.M P.col (B ++ [P.z])
/-- a table's rows over free unknowns F -/
def tb (B F : List Nat) (i j : Nat) : Int := P.T B i ((F ++ [P.rhs])[j]?.getD 0)
structure Good (B F : List Nat) : Prop where
  b : B.length = P.m
  f : F.length = P.n
  p : (F ++ B).Perm (List.range (P.n + P.m))
  d : 0 < P.D B
  s : ∀ i, i < P.m → 0 ≤ P.T B i P.rhs
def B0 : List Nat := List.range' P.n P.m
def F0 : List Nat := List.range P.n
theorem B0z : P.B0 ++ [P.z] = List.range' P.n P.M := by
  unfold B0 z M
  rw [List.range'_concat]; simp
theorem B0_units : (P.B0 ++ [P.z]).map P.col = units P.M := by
  rw [B0z]
  unfold units
  rw [List.range'_eq_map_range, List.map_map]
  refine List.map_congr_left fun k hk => ?_
  have hk := List.mem_range.mp hk
  unfold M at hk
  show P.col (P.n + k) = _
  unfold col M
  rw [if_neg (by omega), if_pos (by omega)]
  congr 1
  omega
theorem D0 : P.D P.B0 = 1 := by
  unfold D dvr
  rw [B0_units, brk_units]
theorem T0 {i : Nat} (hi : i < P.M) (l : Nat) : P.T P.B0 i l = (P.col l)[i]?.getD 0 := by
  unfold T ent
  rw [B0_units]
  exact brk_unit_set P.M i _ (P.col_len l) hi
theorem col_A {i l : Nat} (hl : l < P.n) (hi : i < P.m) : (P.col l)[i]?.getD 0 = P.A i l := by
  unfold col
  rw [if_pos hl, List.getElem?_append_left (by simpa using hi), List.getElem?_map, List.getElem?_range hi]; rfl
theorem col_g {l : Nat} (hl : l < P.n) : (P.col l)[P.m]?.getD 0 = - P.gl l := by
  unfold col
  rw [if_pos hl, List.getElem?_append_right (by simp)]; simp
theorem col_u {t i : Nat} (ht : t ≤ P.m) : (P.col (P.n + t))[i]?.getD 0 = if i = t then 1 else 0 := by
  unfold col
  rw [if_neg (by omega), if_pos (by omega)]
  unfold unt
  rw [List.getElem?_map]
  by_cases h : i < P.m + 1
  · rw [List.getElem?_range h]
    show (if i = P.n + t - P.n then (1 : Int) else 0) = _
    rw [show P.n + t - P.n = t from by omega]
  · rw [List.getElem?_eq_none (by simpa using h), if_neg (by omega)]; rfl
theorem col_s {i : Nat} (hi : i < P.m) : (P.col P.rhs)[i]?.getD 0 = P.sd i := by
  unfold col rhs
  rw [if_neg (by omega), if_neg (by omega), List.getElem?_append_left (by simpa using hi), List.getElem?_map, List.getElem?_range hi]; rfl
theorem col_s0 : (P.col P.rhs)[P.m]?.getD 0 = 0 := by
  unfold col rhs
  rw [if_neg (by omega), if_neg (by omega), List.getElem?_append_right (by simp)]; simp
theorem good0 (h : ∀ i, i < P.m → 0 ≤ P.sd i) : P.Good P.B0 P.F0 where
  b := by unfold B0; simp
  f := by unfold F0; simp
  p := by
    unfold B0 F0
    have e := @List.range'_append_1 0 P.n P.m
    rw [Nat.zero_add] at e
    rw [List.range_eq_range', e, List.range_eq_range']
  d := by rw [D0]; decide
  s := fun i hi => by rw [T0 P (by unfold M; omega), col_s P hi]; exact h i hi
section
variable {P} {B F : List Nat} (G : P.Good B F)
include G
theorem Good.bz : (B ++ [P.z]).length = P.M := by rw [List.length_append, G.b]; rfl
theorem Good.dne : dvr P.M P.col (B ++ [P.z]) ≠ 0 := by have := G.d; unfold D at this; omega
theorem Good.nd : (F ++ B).Nodup := G.p.nodup_iff.mpr List.nodup_range
theorem Good.lab {l : Nat} : l ∈ F ∨ l ∈ B ↔ l < P.n + P.m := by
  rw [← List.mem_append, G.p.mem_iff, List.mem_range]
omit G in
theorem getB {i b : Nat} (h : B[i]? = some b) : (B ++ [P.z])[i]? = some b := by
  rw [List.getElem?_append_left (List.getElem?_eq_some_iff.mp h).1]; exact h
theorem Good.getZ : (B ++ [P.z])[P.m]? = some P.z := by
  rw [List.getElem?_append_right (by rw [G.b]; omega), G.b]; simp
theorem Good.self {i b : Nat} (h : B[i]? = some b) : P.T B i b = P.D B := ent_self (getB h)
theorem Good.selfZ : P.T B P.m P.z = P.D B := ent_self G.getZ
theorem Good.rep {i k b : Nat} (hi : i ≤ P.m) (h : B[k]? = some b) (ne : i ≠ k) : P.T B i b = 0 := ent_rep P.col_len G.bz (by unfold M; omega) (getB h) ne G.dne
theorem Good.dot {i : Nat} (hi : i ≤ P.m) : ∃ p : List Int, p.length = P.M ∧ ∀ l, P.T B i l = Dt.dot p (P.col l) := ent_dot P.col_len G.bz (by unfold M; omega)
/-- any covector over the table -/
theorem Good.cram {p : List Int} (hp : p.length = P.M) (l : Nat) : Dt.dot p (P.col l) * P.D B = sm P.m (fun i => Dt.dot p (P.col (B[i]?.getD 0)) * P.T B i l) + Dt.dot p (P.col P.z) * P.T B P.m l := by
  have e := ent_cramer P.col_len (B := B ++ [P.z]) (l := l) G.bz hp
  unfold D
  rw [e]
  show sm P.m _ + Dt.dot p (P.col ((B ++ [P.z])[P.m]?.getD 0)) * _ = _
  rw [G.getZ]
  refine congrArg (· + _) ?_
  refine sm_congr fun i hi => ?_
  rw [List.getElem?_append_left (by rw [G.b]; exact hi)]
  rfl
end
section
variable {P} {B F : List Nat} {r c q l : Nat} (G : P.Good B F) (hq : B[r]? = some q) (hl : F[c]? = some l)
include G hq hl
omit hl in
theorem pv_r : r < P.m := by rw [← G.b]; exact (List.getElem?_eq_some_iff.mp hq).1
omit hl in
theorem setZ : B.set r l ++ [P.z] = (B ++ [P.z]).set r l := by
  rw [List.set_append_left _ _ (List.getElem?_eq_some_iff.mp hq).1]
omit hl in
theorem piv_D : P.D (B.set r l) = P.T B r l := by
  unfold D T
  rw [setZ G hq]; exact dvr_piv
omit hl in
theorem piv_r (k : Nat) : P.T (B.set r l) r k = P.T B r k := by
  unfold T
  rw [setZ G hq]; exact ent_same
omit hl in
theorem piv_i {i : Nat} (hi : i ≤ P.m) (ne : i ≠ r) (k : Nat) : P.D B * P.T (B.set r l) i k = P.T B i k * P.T B r l - P.T B i l * P.T B r k := by
  unfold T D
  rw [setZ G hq]
  exact ent_piv P.col_len G.bz (by unfold M; omega) (by have := pv_r G hq; unfold M; omega) ne
omit hl in
theorem piv_back {i : Nat} (hi : i ≤ P.m) (ne : i ≠ r) : P.T (B.set r l) i q = - P.T B i l := by
  unfold T
  rw [setZ G hq]
  exact ent_back P.col_len G.bz (by unfold M; omega) ne (getB hq) G.dne
omit hl in
theorem piv_back_r : P.T (B.set r l) r q = P.D B := by
  rw [piv_r G hq, G.self hq]
theorem piv_perm : (F.set c q ++ B.set r l).Perm (F ++ B) := by
  have h1 : F.Perm (l :: F.eraseIdx c) := per c F l hl
  have h2 : B.Perm (q :: B.eraseIdx r) := per r B q hq
  have h3 : (F.set c q).Perm (q :: F.eraseIdx c) := by
    have := per c (F.set c q) q (List.getElem?_set_self (List.getElem?_eq_some_iff.mp hl).1)
    rwa [eraseSet] at this
  have h4 : (B.set r l).Perm (l :: B.eraseIdx r) := by
    have := per r (B.set r l) l (List.getElem?_set_self (List.getElem?_eq_some_iff.mp hq).1)
    rwa [eraseSet] at this
  refine (h3.append h4).trans (List.Perm.trans ?_ (h1.append h2).symm)
  show (q :: (F.eraseIdx c ++ l :: B.eraseIdx r)).Perm (l :: (F.eraseIdx c ++ q :: B.eraseIdx r))
  refine (List.Perm.cons q List.perm_middle).trans ((List.Perm.swap l q _).trans (List.Perm.cons l ?_))
  exact List.perm_middle.symm
where
  per : ∀ (j : Nat) (L : List Nat) (x : Nat), L[j]? = some x → L.Perm (x :: L.eraseIdx j)
    | 0, y :: L, x, h => by cases (show some y = some x from h); exact .refl _
    | j + 1, y :: L, x, h => ((per j L x h).cons y).trans (.swap x y _)
/-- the ratio test keeps the sides -/
theorem piv_good (hp : 0 < P.T B r l) (hr : ∀ i, i < P.m → 0 < P.T B i l → P.T B r P.rhs * P.T B i l ≤ P.T B i P.rhs * P.T B r l) : P.Good (B.set r l) (F.set c q) where
  b := by rw [List.length_set]; exact G.b
  f := by rw [List.length_set]; exact G.f
  p := (piv_perm G hq hl).trans G.p
  d := by rw [piv_D G hq]; exact hp
  s := fun i hi => by
    by_cases e : i = r
    · subst e
      rw [piv_r G hq]
      exact G.s i hi
    · have h := piv_i G hq (l := l) (Nat.le_of_lt hi) e P.rhs
      have hd := G.d
      have s1 := G.s i hi
      have s2 := G.s r (pv_r G hq)
      have : 0 ≤ P.D B * P.T (B.set r l) i P.rhs := by
        rw [h]
        by_cases hi2 : 0 < P.T B i l
        · have := hr i hi hi2
          rw [Int.mul_comm (P.T B i l)]; omega
        · have a1 : 0 ≤ P.T B i P.rhs * P.T B r l := Int.mul_nonneg s1 (by omega)
          have a2 : 0 ≤ (- P.T B i l) * P.T B r P.rhs := Int.mul_nonneg (by omega) s2
          rw [Int.neg_mul] at a2
          omega
      by_cases n : 0 ≤ P.T (B.set r l) i P.rhs
      · exact n
      · have := Int.mul_neg_of_pos_of_neg hd (show P.T (B.set r l) i P.rhs < 0 by omega)
        omega
end
end Lp
end L3.Dt
end
section
namespace L3.Dt
namespace Lp
variable (P : Lp)
/-- one exchange as the least names choose it -/
structure Stp (B F : List Nat) (r c q l : Nat) : Prop where
  hq : B[r]? = some q
  hl : F[c]? = some l
  neg : P.T B P.m l < 0
  fst : ∀ k ∈ F, P.T B P.m k < 0 → l ≤ k
  pos : 0 < P.T B r l
  rat : ∀ i, i < P.m → 0 < P.T B i l → P.T B r P.rhs * P.T B i l ≤ P.T B i P.rhs * P.T B r l
  tie : ∀ i b, i < P.m → B[i]? = some b → 0 < P.T B i l → P.T B r P.rhs * P.T B i l = P.T B i P.rhs * P.T B r l → q ≤ b
theorem Stp.good {P : Lp} {B F : List Nat} {r c q l : Nat} (S : P.Stp B F r c q l) (G : P.Good B F) : P.Good (B.set r l) (F.set c q) := piv_good G S.hq S.hl S.pos S.rat
theorem maxAt (l : Nat → Nat) : ∀ N, 0 < N → ∃ k, k < N ∧ ∀ j, j < N → l j ≤ l k
  | 1, _ => ⟨0, by omega, fun j hj => by rw [show j = 0 by omega]; exact Nat.le_refl _⟩
  | N + 2, _ => by
    obtain ⟨k, hk, h⟩ := maxAt l (N + 1) (by omega)
    by_cases e : l k ≤ l (N + 1)
    · refine ⟨N + 1, by omega, fun j hj => ?_⟩
      by_cases e2 : j = N + 1
      · rw [e2]; exact Nat.le_refl _
      · exact Nat.le_trans (h j (by omega)) e
    · refine ⟨k, by omega, fun j hj => ?_⟩
      by_cases e2 : j = N + 1
      · rw [e2]; omega
      · exact h j (by omega)
theorem round {N : Nat} {Q : Nat → Prop} (hs : ∀ k, k < N → Q k → Q (k + 1)) (h0 : Q N → Q 0) {k0 : Nat} (hk : k0 ≤ N) (h : Q k0) : ∀ k, k ≤ N → Q k := by
  have up : ∀ j, k0 + j ≤ N → Q (k0 + j) := fun j => by
    induction j with
    | zero => intro _; exact h
    | succ j ih => intro hj; exact hs (k0 + j) (by omega) (ih (by omega))
  have hN : Q N := by
    have := up (N - k0) (by omega)
    rwa [show k0 + (N - k0) = N from by omega] at this
  intro k
  induction k with
  | zero => intro _; exact h0 hN
  | succ k ih => intro hk; exact hs k (by omega) (ih (by omega))
theorem le_cancel {a b c : Int} (hc : 0 < c) (h : a * c ≤ b * c) : a ≤ b := Int.le_of_mul_le_mul_right h hc
/-- no table comes again -/
theorem no_round {b f : Nat → List Nat} {r c q l : Nat → Nat} {N : Nat} (hN : 0 < N) (g0 : P.Good (b 0) (f 0)) (st : ∀ k, k < N → P.Stp (b k) (f k) (r k) (c k) (q k) (l k) ∧ b (k + 1) = (b k).set (r k) (l k) ∧ f (k + 1) = (f k).set (c k) (q k))
    (eb : b N = b 0) (ef : f N = f 0) : False := by
  have good : ∀ k, k ≤ N → P.Good (b k) (f k) := fun k => by
    induction k with
    | zero => intro _; exact g0
    | succ k ih =>
      intro hk
      obtain ⟨s, e1, e2⟩ := st k (by omega)
      rw [e1, e2]
      exact s.good (ih (by omega))
  have dpos : ∀ k, k ≤ N → 0 < P.D (b k) := fun k hk => (good k hk).d
  have stepV : ∀ k, k < N → P.T (b (k + 1)) P.m P.rhs * P.D (b k) = P.T (b k) P.m P.rhs * P.D (b (k + 1)) - P.T (b k) P.m (l k) * P.T (b k) (r k) P.rhs := fun k hk => by
    obtain ⟨s, e1, _⟩ := st k hk
    have G := good k (by omega)
    have hr := pv_r G s.hq
    have e := piv_i G s.hq (l := l k) (i := P.m) (Nat.le_refl _) (by omega) P.rhs
    rw [e1, piv_D G s.hq, Int.mul_comm, e]
  have deg0 : ∀ k, k < N → 0 ≤ - (P.T (b k) P.m (l k) * P.T (b k) (r k) P.rhs) := fun k hk => by
    obtain ⟨s, _, _⟩ := st k hk
    have G := good k (by omega)
    have h1 := s.neg
    have h2 := G.s (r k) (pv_r G s.hq)
    have := Int.mul_nonneg (show 0 ≤ - P.T (b k) P.m (l k) by omega) h2
    rw [Int.neg_mul] at this
    exact this
  have mono : ∀ a j, a + j ≤ N → P.T (b a) P.m P.rhs * P.D (b (a + j)) ≤ P.T (b (a + j)) P.m P.rhs * P.D (b a) := fun a j => by
    induction j with
    | zero => intro _; exact Int.le_refl _
    | succ j ih =>
      intro hj
      have h1 := ih (by omega)
      have h2 := stepV (a + j) (by omega)
      have h3 := deg0 (a + j) (by omega)
      have d1 := dpos (a + j) (by omega)
      have d2 := dpos (a + (j + 1)) hj
      have d3 := dpos a (by omega)
      rw [show a + j + 1 = a + (j + 1) from rfl] at h2
      refine le_cancel d1 ?_
      have m1 := Int.mul_le_mul_of_nonneg_right h1 (Int.le_of_lt d2)
      have m2 : 0 ≤ -(P.T (b (a + j)) P.m (l (a + j)) * P.T (b (a + j)) (r (a + j)) P.rhs) * P.D (b a) := Int.mul_nonneg h3 (Int.le_of_lt d3)
      generalize P.T (b (a + j)) P.m (l (a + j)) * P.T (b (a + j)) (r (a + j)) P.rhs = w at *
      generalize P.D (b (a + j)) = x1 at *
      generalize P.D (b (a + (j + 1))) = x2 at *
      generalize P.D (b a) = x3 at *
      generalize P.T (b a) P.m P.rhs = v0 at *
      generalize P.T (b (a + j)) P.m P.rhs = v1 at *
      generalize P.T (b (a + (j + 1))) P.m P.rhs = v2 at *
      have e1 : v0 * x2 * x1 = v0 * x1 * x2 := by grind
      have e2 : v2 * x3 * x1 = v2 * x1 * x3 := by grind
      rw [e1, e2, h2]
      have e3 : (v1 * x2 - w) * x3 = v1 * x3 * x2 + -w * x3 := by grind
      omega
  have degen : ∀ k, k < N → P.T (b k) (r k) P.rhs = 0 := fun k hk => by
    have h1 := mono 0 k (by omega)
    have h2 := mono (k + 1) (N - (k + 1)) (by omega)
    rw [show k + 1 + (N - (k + 1)) = N by omega, eb] at h2
    rw [Nat.zero_add] at h1
    have h3 := stepV k hk
    have h4 := deg0 k hk
    have d0 := dpos 0 (by omega)
    have d1 := dpos k (by omega)
    have d2 := dpos (k + 1) (by omega)
    obtain ⟨s, _, _⟩ := st k hk
    have hneg := s.neg
    have hz : P.T (b k) P.m (l k) * P.T (b k) (r k) P.rhs = 0 := by
      have m1 := Int.mul_le_mul_of_nonneg_right h1 (Int.le_of_lt d2)
      have m2 := Int.mul_le_mul_of_nonneg_right h2 (Int.le_of_lt d1)
      generalize P.T (b k) P.m (l k) * P.T (b k) (r k) P.rhs = w at *
      generalize P.D (b 0) = x0 at *
      generalize P.D (b k) = x1 at *
      generalize P.D (b (k + 1)) = x2 at *
      generalize P.T (b 0) P.m P.rhs = v0 at *
      generalize P.T (b k) P.m P.rhs = v1 at *
      generalize P.T (b (k + 1)) P.m P.rhs = v2 at *
      have e0 : v2 * x0 * x1 = v2 * x1 * x0 := by grind
      rw [e0, h3] at m2
      have e1 : (v1 * x2 - w) * x0 = v1 * x0 * x2 + -w * x0 := by grind
      have e2 : v0 * x2 * x1 = v0 * x1 * x2 := by grind
      rw [e1, e2] at m2
      have : -w * x0 ≤ 0 * x0 := by omega
      have := le_cancel d0 this
      omega
    rcases Int.mul_eq_zero.mp hz with h | h
    · omega
    · exact h
  -- names that enter have nought
  have zero : ∀ v, (∃ k, k < N ∧ l k = v) → ∀ k, k ≤ N → ∀ i, i < P.m → (b k)[i]? = some v → P.T (b k) i P.rhs = 0 := fun v ⟨k0, hk0, ev⟩ => by
    refine round (Q := fun k => ∀ i, i < P.m → (b k)[i]? = some v → P.T (b k) i P.rhs = 0) (fun k hk h i hi hb => ?_) (fun h => ?_) (Nat.le_of_lt hk0) (fun i hi hb => ?_)
    · obtain ⟨s, e1, _⟩ := st k hk
      have G := good k (by omega)
      rw [e1] at hb ⊢
      by_cases e : i = r k
      · rw [e, piv_r G s.hq]
        exact degen k hk
      · rw [List.getElem?_set_ne (fun z => e z.symm)] at hb
        have h1 := piv_i G s.hq (l := l k) (Nat.le_of_lt hi) e P.rhs
        rw [h i hi hb, degen k hk] at h1
        have d := dpos k (by omega)
        have : P.D (b k) * P.T ((b k).set (r k) (l k)) i P.rhs = 0 := by rw [h1]; grind
        rcases Int.mul_eq_zero.mp this with z | z
        · omega
        · exact z
    · rw [eb] at h; exact h
    · obtain ⟨s, _, _⟩ := st k0 hk0
      have G := good k0 (by omega)
      exact absurd rfl ((List.nodup_append.mp G.nd).2.2 v (by rw [← ev]; exact List.mem_of_getElem? s.hl) v (List.mem_of_getElem? hb))
  obtain ⟨ks, hks, hmax⟩ := maxAt l N hN
  obtain ⟨ss, es1, es2⟩ := st ks hks
  have Gs := good ks (by omega)
  -- it leaves
  obtain ⟨kl, hkl, eql⟩ : ∃ k, k < N ∧ q k = l ks := by
    refine Classical.byContradiction fun hno => ?_
    have never : ∀ k, k < N → q k ≠ l ks := fun k hk e => hno ⟨k, hk, e⟩
    have := round (N := N) (Q := fun k => l ks ∈ b k) (fun k hk h => ?_) (fun h => by rw [eb] at h; exact h) (k0 := ks + 1) (by omega) (by
      show l ks ∈ b (ks + 1)
      rw [es1]
      exact List.mem_of_getElem? (List.getElem?_set_self (List.getElem?_eq_some_iff.mp ss.hq).1)) ks (by omega)
    · exact absurd rfl ((List.nodup_append.mp Gs.nd).2.2 (l ks) (List.mem_of_getElem? ss.hl) (l ks) this)
    · obtain ⟨s, e1, _⟩ := st k hk
      obtain ⟨i, hi⟩ := List.getElem?_of_mem h
      rw [e1]
      by_cases e : r k = i
      · subst e
        exact absurd (Option.some.inj (s.hq.symm.trans hi)) (never k hk)
      · exact List.mem_of_getElem? ((List.getElem?_set_ne e).trans hi)
  obtain ⟨sl, el1, el2⟩ := st kl hkl
  have Gl := good kl (by omega)
  obtain ⟨p, hp, hpd⟩ := Gs.dot (Nat.le_refl P.m)
  have cr := Gl.cram hp (l kl)
  rw [← hpd, ← hpd, Gs.selfZ] at cr
  have rho0 : ∀ v, v < P.n + P.m → P.T (b ks) P.m v ≠ 0 → v ∈ f ks := fun v hv hne => by
    rcases Gs.lab.mpr hv with h | h
    · exact h
    · obtain ⟨i, hi⟩ := List.getElem?_of_mem h
      have hi2 : i < P.m := by rw [← Gs.b]; exact (List.getElem?_eq_some_iff.mp hi).1
      exact absurd (Gs.rep (Nat.le_refl _) hi (by omega)) hne
  have dis : ∀ {k v}, k ≤ N → v ∈ f k → v ∈ b k → False := fun {k v} hk h1 h2 => (List.nodup_append.mp (good k hk).nd).2.2 v h1 v h2 rfl
  have hcase : P.T (b ks) P.m (l kl) < 0 ∨ ∃ i, i < P.m ∧ 0 < P.T (b ks) P.m ((b kl)[i]?.getD 0) * P.T (b kl) i (l kl) := by
    refine Classical.byContradiction fun hno => ?_
    rw [not_or] at hno
    obtain ⟨n1, n2⟩ := hno
    have hall : ∀ i, i < P.m → P.T (b ks) P.m ((b kl)[i]?.getD 0) * P.T (b kl) i (l kl) ≤ 0 := fun i hi => by
      refine Classical.byContradiction fun h => n2 ⟨i, hi, by omega⟩
    have hsum := sm_le (g := fun _ => 0) hall
    rw [sm_zero] at hsum
    have e1 : sm P.m (fun i => Dt.dot p (P.col ((b kl)[i]?.getD 0)) * P.T (b kl) i (l kl)) = sm P.m fun i => P.T (b ks) P.m ((b kl)[i]?.getD 0) * P.T (b kl) i (l kl) := sm_congr fun i _ => by rw [hpd]
    rw [e1] at cr
    have a1 : 0 ≤ P.T (b ks) P.m (l kl) * P.D (b kl) := Int.mul_nonneg (by omega) (Int.le_of_lt Gl.d)
    have a2 := Int.mul_neg_of_pos_of_neg Gs.d sl.neg
    omega
  rcases hcase with h | ⟨i, hi, h⟩
  · have hlab : l kl < P.n + P.m := Gl.lab.mp (.inl (List.mem_of_getElem? sl.hl))
    have hF := rho0 _ hlab (by omega)
    have h1 := ss.fst _ hF h
    have h2 := hmax kl hkl
    have e : l kl = l ks := by omega
    exact dis (Nat.le_of_lt hkl) (List.mem_of_getElem? sl.hl) (by rw [e, ← eql]; exact List.mem_of_getElem? sl.hq)
  · obtain ⟨v, hv⟩ : ∃ v, (b kl)[i]? = some v := ⟨(b kl)[i]'(by rw [Gl.b]; exact hi), by simp⟩
    rw [hv] at h
    have h : 0 < P.T (b ks) P.m v * P.T (b kl) i (l kl) := h
    have hvb := List.mem_of_getElem? hv
    have hlab : v < P.n + P.m := Gl.lab.mp (.inr hvb)
    have hne : P.T (b ks) P.m v ≠ 0 := fun z => by rw [z] at h; simp at h
    have hF := rho0 v hlab hne
    have fick : ∃ k, k < N ∧ l k = v := by
      refine Classical.byContradiction fun hno => ?_
      have := round (N := N) (Q := fun k => v ∈ f k) (fun k hk hm => ?_) (fun h => by rw [ef] at h; exact h) (k0 := ks) (by omega) hF kl (by omega)
      · exact dis (by omega) this hvb
      · obtain ⟨s, _, e2⟩ := st k hk
        obtain ⟨j, hj⟩ := List.getElem?_of_mem hm
        rw [e2]
        by_cases e : c k = j
        · subst e
          have := s.hl.symm.trans hj
          cases this
          exact absurd ⟨k, hk, rfl⟩ hno
        · exact List.mem_of_getElem? ((List.getElem?_set_ne e).trans hj)
    have hvq : v ≤ l ks := by obtain ⟨k, hk, e⟩ := fick; rw [← e]; exact hmax k hk
    have hq2 := sl.hq
    rw [eql] at hq2
    by_cases e : v = l ks
    · have hir : i = r kl := by
        have nd := (List.nodup_append.mp Gl.nd).2.1
        rw [← e] at hq2
        have hil := (List.getElem?_eq_some_iff.mp hv).1
        exact (List.getElem?_inj hil nd).mp (hv.trans hq2.symm)
      have n1 := ss.neg
      rw [← e] at n1
      have n2 := sl.pos
      rw [← hir] at n2
      have := Int.mul_neg_of_neg_of_pos n1 n2
      omega
    · have rp : 0 < P.T (b ks) P.m v := by
        refine Classical.byContradiction fun hn => ?_
        have := ss.fst v hF (by omega)
        omega
      have tp : 0 < P.T (b kl) i (l kl) := Int.pos_of_mul_pos_right h rp
      have z1 := zero v fick kl (by omega) i hi hv
      have z2 := degen kl hkl
      have := sl.tie i v hi hv tp (by rw [z1, z2]; simp)
      rw [eql] at this
      omega
where
  Int.pos_of_mul_pos_right {a b : Int} (h : 0 < a * b) (ha : 0 < a) : 0 < b := by
    refine Classical.byContradiction fun hn => ?_
    have := Int.mul_nonneg (Int.le_of_lt ha) (show 0 ≤ -b by omega)
    rw [Int.mul_neg] at this
    omega
end Lp
end L3.Dt
end
section
namespace L3.Dt
theorem pig : ∀ (K : Nat) (f : Nat → Nat), (∀ i, i ≤ K → f i < K) → ∃ i j, i < j ∧ j ≤ K ∧ f i = f j
  | 0, f, h => absurd (h 0 (Nat.le_refl _)) (by omega)
  | K + 1, f, h => by
    by_cases e : ∃ i, i ≤ K ∧ f i = f (K + 1)
    · obtain ⟨i, hi, e⟩ := e
      exact ⟨i, K + 1, by omega, Nat.le_refl _, e⟩
    · have ne : ∀ i, i ≤ K → f i ≠ f (K + 1) := fun i hi z => e ⟨i, hi, z⟩
      have hK := h (K + 1) (Nat.le_refl _)
      obtain ⟨i, j, h1, h2, h3⟩ := pig K (fun i => if f i = K then f (K + 1) else f i) (fun i hi => by
        show (if f i = K then f (K + 1) else f i) < K
        have a := h i (by omega)
        have b := ne i hi
        split <;> omega)
      have h3 : (if f i = K then f (K + 1) else f i) = (if f j = K then f (K + 1) else f j) := h3
      have a := ne i (by omega)
      have b := ne j (by omega)
      refine ⟨i, j, h1, by omega, ?_⟩
      split at h3 <;> split at h3 <;> omega
def code (N : Nat) : List Nat → Nat
  | [] => 0
  | x :: L => x + N * code N L
theorem code_lt {N : Nat} : ∀ {L : List Nat}, (∀ x ∈ L, x < N) → code N L < N ^ L.length
  | [], _ => by simp [code]
  | x :: L, h => by
    have h1 := h x List.mem_cons_self
    have h2 := code_lt (N := N) (L := L) fun y hy => h y (List.mem_cons_of_mem _ hy)
    show x + N * code N L < N ^ (L.length + 1)
    rw [Nat.pow_succ, Nat.mul_comm (N ^ _)]
    have : N * (code N L + 1) ≤ N * N ^ L.length := Nat.mul_le_mul_left _ h2
    rw [Nat.mul_add] at this
    omega
theorem code_inj {N : Nat} : ∀ {L M : List Nat}, L.length = M.length → (∀ x ∈ L, x < N) → (∀ x ∈ M, x < N) → code N L = code N M → L = M
  | [], [], _, _, _, _ => rfl
  | x :: L, y :: M, hl, h1, h2, e => by
    have a := h1 x List.mem_cons_self
    have b := h2 y List.mem_cons_self
    have e : x + N * code N L = y + N * code N M := e
    have ex : x = y := by
      have := congrArg (· % N) e
      simpa [Nat.add_mul_mod_self_left, Nat.mod_eq_of_lt a, Nat.mod_eq_of_lt b] using this
    subst ex
    have e2 : code N L = code N M := Nat.eq_of_mul_eq_mul_left (show 0 < N by omega) (by omega)
    rw [code_inj (by simpa using hl) (fun z hz => h1 z (List.mem_cons_of_mem _ hz)) (fun z hz => h2 z (List.mem_cons_of_mem _ hz)) e2]
namespace Lp
variable (P : Lp)
/-- k exchanges lead from the beginning to here -/
def Chn (k : Nat) (B F : List Nat) : Prop := ∃ (b f : Nat → List Nat) (r c q l : Nat → Nat), b 0 = P.B0 ∧ f 0 = P.F0 ∧ (∀ j, j < k → P.Stp (b j) (f j) (r j) (c j) (q j) (l j) ∧ b (j + 1) = (b j).set (r j) (l j) ∧ f (j + 1) = (f j).set (c j) (q j)) ∧ b k = B ∧ f k = F
theorem chn0 : P.Chn 0 P.B0 P.F0 := ⟨fun _ => P.B0, fun _ => P.F0, fun _ => 0, fun _ => 0, fun _ => 0, fun _ => 0, rfl, rfl, fun j hj => by omega, rfl, rfl⟩
theorem Chn.step {P : Lp} {k : Nat} {B F : List Nat} {r c q l : Nat} (h : P.Chn k B F) (s : P.Stp B F r c q l) : P.Chn (k + 1) (B.set r l) (F.set c q) := by
  obtain ⟨b, f, r', c', q', l', h1, h2, h3, rfl, rfl⟩ := h
  refine ⟨fun j => if j ≤ k then b j else (b k).set r l, fun j => if j ≤ k then f j else (f k).set c q, fun j => if j < k then r' j else r, fun j => if j < k then c' j else c, fun j => if j < k then q' j else q, fun j => if j < k then l' j else l, ?_, ?_, fun j hj => ?_, ?_, ?_⟩
  · show (if 0 ≤ k then b 0 else _) = _
    rw [if_pos (Nat.zero_le _)]; exact h1
  · show (if 0 ≤ k then f 0 else _) = _
    rw [if_pos (Nat.zero_le _)]; exact h2
  · dsimp only
    rw [if_pos (show j ≤ k by omega), if_pos (show j ≤ k by omega)]
    by_cases e : j < k
    · rw [if_pos e, if_pos e, if_pos e, if_pos e, if_pos (show j + 1 ≤ k by omega), if_pos (show j + 1 ≤ k by omega)]
      exact h3 j e
    · have ej : j = k := by omega
      subst ej
      rw [if_neg e, if_neg e, if_neg e, if_neg e, if_neg (by omega), if_neg (by omega)]
      exact ⟨s, rfl, rfl⟩
  · show (if k + 1 ≤ k then _ else _) = _
    rw [if_neg (by omega)]
  · show (if k + 1 ≤ k then _ else _) = _
    rw [if_neg (by omega)]
theorem chn_good {P : Lp} (g0 : P.Good P.B0 P.F0) {k : Nat} {B F : List Nat} (h : P.Chn k B F) : P.Good B F := by
  obtain ⟨b, f, r, c, q, l, h1, h2, h3, rfl, rfl⟩ := h
  have : ∀ j, j ≤ k → P.Good (b j) (f j) := fun j => by
    induction j with
    | zero => intro _; rw [h1, h2]; exact g0
    | succ j ih =>
      intro hj
      obtain ⟨s, e1, e2⟩ := h3 j (by omega)
      rw [e1, e2]
      exact s.good (ih (by omega))
  exact this k (Nat.le_refl _)
def kk : Nat := (P.n + P.m) ^ (P.n + P.m)
theorem chn_lt {P : Lp} (g0 : P.Good P.B0 P.F0) {k : Nat} {B F : List Nat} (h : P.Chn k B F) : k < P.kk := by
  refine Classical.byContradiction fun hn => ?_
  obtain ⟨b, f, r, c, q, l, h1, h2, h3, _, _⟩ := h
  have good : ∀ j, j ≤ k → P.Good (b j) (f j) := fun j => by
    induction j with
    | zero => intro _; rw [h1, h2]; exact g0
    | succ j ih =>
      intro hj
      obtain ⟨s, e1, e2⟩ := h3 j (by omega)
      rw [e1, e2]
      exact s.good (ih (by omega))
  have hl : ∀ j, j ≤ k → (b j ++ f j).length = P.n + P.m ∧ ∀ x ∈ b j ++ f j, x < P.n + P.m := fun j hj => by
    have G := good j hj
    refine ⟨by rw [List.length_append, G.b, G.f]; omega, fun x hx => ?_⟩
    rcases List.mem_append.mp hx with h | h
    · exact G.lab.mp (.inr h)
    · exact G.lab.mp (.inl h)
  obtain ⟨i, j, hij, hj, e⟩ := pig P.kk (fun j => code (P.n + P.m) (b j ++ f j)) (fun i hi => by
    have := hl i (by omega)
    have := code_lt this.2
    rw [(hl i (by omega)).1] at this
    exact this)
  have hi2 := hl i (by omega)
  have hj2 := hl j (by omega)
  have e2 := code_inj (hi2.1.trans hj2.1.symm) hi2.2 hj2.2 e
  have Gi := good i (by omega)
  have Gj := good j (by omega)
  obtain ⟨e3, e4⟩ := List.append_inj e2 (by rw [Gi.b, Gj.b])
  exact P.no_round (b := fun t => b (i + t)) (f := fun t => f (i + t)) (r := fun t => r (i + t)) (c := fun t => c (i + t)) (q := fun t => q (i + t)) (l := fun t => l (i + t)) (N := j - i) (by omega) Gi (fun t ht => h3 (i + t) (by omega))
    (by show b (i + (j - i)) = b i; rw [show i + (j - i) = j by omega]; exact e3.symm) (by show f (i + (j - i)) = f i; rw [show i + (j - i) = j by omega]; exact e4.symm)
theorem dot_sm : ∀ (p v : List Int), dot p v = sm p.length fun t => p[t]?.getD 0 * v[t]?.getD 0
  | [], v => by simp [dot, sm]
  | x :: p, [] => by
    rw [sm_congr (g := fun _ => 0) (fun t _ => by simp), sm_zero]; rfl
  | x :: p, y :: v => by
    rw [List.length_cons, sm_shift]
    show x * y + dot p v = x * y + sm p.length fun t => p[t]?.getD 0 * v[t]?.getD 0
    rw [dot_sm p v]
def X (B : List Nat) (k : Nat) : Int := sm P.m fun i => if B[i]?.getD 0 = k then P.T B i P.rhs else 0
def Y (B : List Nat) (t : Nat) : Int := P.T B P.m (P.n + t)
def U (B : List Nat) (l k : Nat) : Int := (if l = k then P.D B else 0) + sm P.m fun i => if B[i]?.getD 0 = k then - P.T B i l else 0
section
variable {P} {B F : List Nat} (G : P.Good B F)
include G
theorem X_ge (k : Nat) : 0 ≤ P.X B k := sm_ge0 fun i hi => by
  split
  · exact G.s i hi
  · exact Int.le_refl _
theorem Y_ge (h : ∀ k ∈ F, 0 ≤ P.T B P.m k) {t : Nat} (ht : t < P.m) : 0 ≤ P.Y B t := by
  unfold Y
  rcases G.lab.mpr (show P.n + t < P.n + P.m by omega) with h1 | h1
  · exact h _ h1
  · obtain ⟨i, hi⟩ := List.getElem?_of_mem h1
    have hi2 : i < P.m := by rw [← G.b]; exact (List.getElem?_eq_some_iff.mp hi).1
    rw [G.rep (Nat.le_refl _) hi (by omega)]; exact Int.le_refl _
/-- a coordinate of a column by the table -/
theorem coord {t : Nat} (ht : t ≤ P.m) (l : Nat) : (P.col l)[t]?.getD 0 * P.D B = sm P.m (fun i => (P.col (B[i]?.getD 0))[t]?.getD 0 * P.T B i l) + (if t = P.m then 1 else 0) * P.T B P.m l := by
  have e := G.cram (p := unt P.M t) (unt_len _ _) l
  have d : ∀ l, dot (unt P.M t) (P.col l) = (P.col l)[t]?.getD 0 := fun l => dot_unt P.M t _ (P.col_len l) (by unfold M; omega)
  rw [d, d, show P.z = P.n + P.m from rfl, col_u P (Nat.le_refl _)] at e
  rw [e]
  refine congrArg (· + _) (sm_congr fun i _ => ?_)
  rw [d]
theorem labB {i : Nat} (hi : i < P.m) : B[i]?.getD 0 < P.n + P.m := by
  have : B[i]? = some (B[i]'(by rw [G.b]; exact hi)) := List.getElem?_eq_getElem (by rw [G.b]; exact hi)
  rw [this]
  exact G.lab.mp (.inr (List.mem_of_getElem? this))
omit G in
theorem sumB (w : Nat → Int) (v : Nat → Int) : sm P.n (fun k => w k * sm P.m fun i => if B[i]?.getD 0 = k then v i else 0) = sm P.m fun i => if B[i]?.getD 0 < P.n then w (B[i]?.getD 0) * v i else 0 := by
  rw [sm_congr (g := fun k => sm P.m fun i => if B[i]?.getD 0 = k then w k * v i else 0) (fun k _ => by
    rw [← sm_mul]
    exact sm_congr fun i _ => by split <;> simp), sm_swap]
  refine sm_congr fun i _ => ?_
  by_cases e : B[i]?.getD 0 < P.n
  · rw [if_pos e, sm_congr (g := fun k => if k = B[i]?.getD 0 then w (B[i]?.getD 0) * v i else 0) (fun k _ => by
      by_cases z : B[i]?.getD 0 = k
      · rw [if_pos z, if_pos z.symm, z]
      · rw [if_neg z, if_neg (fun h => z h.symm)]), sm_one _ e]
  · rw [if_neg e, sm_congr (g := fun _ => 0) (fun k hk => if_neg (by omega)), sm_zero]
omit G in
theorem colA {t l : Nat} (ht : t < P.m) (hl : l < P.n + P.m) : (if l < P.n then P.A t l else 0) ≤ (P.col l)[t]?.getD 0 ∧ (l < P.n → (P.col l)[t]?.getD 0 = P.A t l) := by
  by_cases e : l < P.n
  · rw [if_pos e, col_A P e ht]
    exact ⟨Int.le_refl _, fun _ => rfl⟩
  · rw [if_neg e, show l = P.n + (l - P.n) by omega, col_u P (by omega)]
    exact ⟨by split <;> decide, fun z => by omega⟩
omit G in
theorem colG {l : Nat} (hl : l < P.n + P.m) : (P.col l)[P.m]?.getD 0 = if l < P.n then - P.gl l else 0 := by
  by_cases e : l < P.n
  · rw [if_pos e, col_g P e]
  · rw [if_neg e, show l = P.n + (l - P.n) by omega, col_u P (by omega), if_neg (by omega)]
theorem feas {t : Nat} (ht : t < P.m) : sm P.n (fun k => P.A t k * P.X B k) ≤ P.D B * P.sd t := by
  have e := coord G (t := t) (by omega) P.rhs
  rw [col_s P ht, if_neg (by omega), Int.zero_mul, Int.add_zero, Int.mul_comm] at e
  rw [e]
  unfold X
  rw [sumB]
  refine sm_le fun i hi => ?_
  have h := colA (P := P) ht (labB G hi)
  have s := G.s i hi
  by_cases z : B[i]?.getD 0 < P.n
  · rw [if_pos z, h.2 z]; exact Int.le_refl _
  · rw [if_neg z] at h ⊢
    exact Int.mul_nonneg h.1 s
theorem val : P.T B P.m P.rhs = sm P.n fun k => P.gl k * P.X B k := by
  have e := coord G (t := P.m) (Nat.le_refl _) P.rhs
  rw [col_s0, if_pos rfl, Int.zero_mul, Int.one_mul] at e
  unfold X
  rw [sumB]
  have : sm P.m (fun i => (P.col (B[i]?.getD 0))[P.m]?.getD 0 * P.T B i P.rhs) = - sm P.m fun i => if B[i]?.getD 0 < P.n then P.gl (B[i]?.getD 0) * P.T B i P.rhs else 0 := by
    rw [← sm_neg]
    refine sm_congr fun i hi => ?_
    rw [colG (labB G hi)]
    split
    · rw [Int.neg_mul]
    · simp
  omega
/-- the last row by the prices -/
theorem rowM (l : Nat) : P.T B P.m l = sm P.m (fun t => P.Y B t * (P.col l)[t]?.getD 0) + P.D B * (P.col l)[P.m]?.getD 0 := by
  obtain ⟨p, hp, hd⟩ := G.dot (Nat.le_refl P.m)
  have ent : ∀ t, t ≤ P.m → p[t]?.getD 0 = P.T B P.m (P.n + t) := fun t ht => by
    rw [hd, dot_sm, hp]
    rw [sm_congr (g := fun s => if s = t then p[t]?.getD 0 else 0) (fun s hs => by
      rw [col_u P ht]
      by_cases e : s = t
      · rw [if_pos e, if_pos e, e]; simp
      · rw [if_neg e, if_neg e]; simp), sm_one _ (by unfold M; omega)]
  rw [hd l, dot_sm, hp]
  show sm P.m _ + p[P.m]?.getD 0 * (P.col l)[P.m]?.getD 0 = _
  have eZ := ent P.m (Nat.le_refl _)
  rw [show P.n + P.m = P.z from rfl, G.selfZ] at eZ
  rw [eZ]
  refine congrArg (· + _) (sm_congr fun t ht => ?_)
  rw [ent t (by omega)]; rfl
theorem dual (h : ∀ k ∈ F, 0 ≤ P.T B P.m k) {k : Nat} (hk : k < P.n) : P.D B * P.gl k ≤ sm P.m fun t => P.Y B t * P.A t k := by
  have e := rowM G k
  rw [col_g P hk] at e
  have h0 : 0 ≤ P.T B P.m k := by
    rcases G.lab.mpr (show k < P.n + P.m by omega) with h1 | h1
    · exact h _ h1
    · obtain ⟨i, hi⟩ := List.getElem?_of_mem h1
      have hi2 : i < P.m := by rw [← G.b]; exact (List.getElem?_eq_some_iff.mp hi).1
      rw [G.rep (Nat.le_refl _) hi (by omega)]; exact Int.le_refl _
  rw [sm_congr (g := fun t => P.Y B t * P.A t k) (fun t ht => by rw [col_A P hk ht]), Int.mul_neg] at e
  omega
theorem valY : P.T B P.m P.rhs = sm P.m fun t => P.Y B t * P.sd t := by
  have e := rowM G P.rhs
  rw [col_s0, sm_congr (g := fun t => P.Y B t * P.sd t) (fun t ht => by rw [col_s P ht])] at e
  omega
section
variable {l : Nat} (hl : l ∈ F) (h : ∀ i, i < P.m → P.T B i l ≤ 0)
include hl h
omit hl in
theorem U_ge (k : Nat) : 0 ≤ P.U B l k := by
  unfold U
  have a : 0 ≤ (if l = k then P.D B else 0) := by
    have := G.d
    split <;> omega
  have b : 0 ≤ sm P.m fun i => if B[i]?.getD 0 = k then - P.T B i l else 0 := sm_ge0 fun i hi => by
    have := h i hi
    split <;> omega
  omega
omit h in
theorem sumU (w : Nat → Int) : sm P.n (fun k => w k * P.U B l k) = (if l < P.n then w l * P.D B else 0) - sm P.m fun i => if B[i]?.getD 0 < P.n then w (B[i]?.getD 0) * P.T B i l else 0 := by
  unfold U
  rw [sm_congr (g := fun k => (if k = l then w l * P.D B else 0) + w k * sm P.m fun i => if B[i]?.getD 0 = k then - P.T B i l else 0) (fun k _ => by
    rw [Int.mul_add]
    by_cases e : l = k
    · rw [if_pos e, if_pos e.symm, e]
    · rw [if_neg e, if_neg (fun z => e z.symm), Int.mul_zero]), sm_add, sumB]
  have e2 : sm P.m (fun i => if B[i]?.getD 0 < P.n then w (B[i]?.getD 0) * - P.T B i l else 0) = - sm P.m fun i => if B[i]?.getD 0 < P.n then w (B[i]?.getD 0) * P.T B i l else 0 := by
    rw [← sm_neg]
    refine sm_congr fun i _ => ?_
    split
    · rw [Int.mul_neg]
    · rfl
  rw [e2]
  by_cases e : l < P.n
  · rw [if_pos e, sm_one _ e]; omega
  · rw [if_neg e, sm_none _ (by omega)]; omega
theorem upF {t : Nat} (ht : t < P.m) : sm P.n (fun k => P.A t k * P.U B l k) ≤ 0 := by
  rw [sumU G hl]
  have e := coord G (t := t) (by omega) l
  rw [if_neg (by omega), Int.zero_mul, Int.add_zero] at e
  have hll : l < P.n + P.m := G.lab.mp (.inl hl)
  have c := colA (P := P) ht hll
  have d := G.d
  have h1 : (if l < P.n then P.A t l * P.D B else 0) ≤ (P.col l)[t]?.getD 0 * P.D B := by
    by_cases z : l < P.n
    · rw [if_pos z, c.2 z]; exact Int.le_refl _
    · rw [if_neg z] at c ⊢
      exact Int.mul_nonneg c.1 (Int.le_of_lt d)
  have h2 : sm P.m (fun i => (P.col (B[i]?.getD 0))[t]?.getD 0 * P.T B i l) ≤ sm P.m fun i => if B[i]?.getD 0 < P.n then P.A t (B[i]?.getD 0) * P.T B i l else 0 := sm_le fun i hi => by
    have c := colA (P := P) ht (labB G hi)
    by_cases z : B[i]?.getD 0 < P.n
    · rw [if_pos z, c.2 z]; exact Int.le_refl _
    · rw [if_neg z] at c ⊢
      exact Int.mul_nonpos_of_nonneg_of_nonpos c.1 (h i hi)
  omega
omit h in
theorem upG (hn : P.T B P.m l < 0) : 0 < sm P.n fun k => P.gl k * P.U B l k := by
  rw [sumU G hl]
  have e := coord G (t := P.m) (Nat.le_refl _) l
  rw [if_pos rfl, Int.one_mul, colG (G.lab.mp (.inl hl))] at e
  have e2 : sm P.m (fun i => (P.col (B[i]?.getD 0))[P.m]?.getD 0 * P.T B i l) = - sm P.m fun i => if B[i]?.getD 0 < P.n then P.gl (B[i]?.getD 0) * P.T B i l else 0 := by
    rw [← sm_neg]
    refine sm_congr fun i hi => ?_
    rw [colG (labB G hi)]
    split
    · rw [Int.neg_mul]
    · simp
  rw [e2] at e
  by_cases z : l < P.n
  · rw [if_pos z] at e ⊢
    rw [Int.neg_mul] at e
    omega
  · rw [if_neg z] at e ⊢
    omega
end
end
theorem nprd_le {c : Nat} : ∀ {L : List (List Int)}, (∀ v ∈ L, nrm v ≤ c) → nprd L ≤ c ^ L.length
  | [], _ => by simp [nprd]
  | v :: L, h => by
    show nrm v * nprd L ≤ c ^ (L.length + 1)
    rw [Nat.pow_succ, Nat.mul_comm]
    exact Nat.mul_le_mul (nprd_le fun w hw => h w (List.mem_cons_of_mem _ hw)) (h v List.mem_cons_self)
theorem nprd_set {c d : Nat} {x : List Int} (hx : nrm x ≤ c * d) (hd : 1 ≤ d) : ∀ {L : List (List Int)} (i : Nat), (∀ v ∈ L, nrm v ≤ c) → nprd (L.set i x) ≤ c ^ L.length * d
  | [], i, _ => by simp [nprd]; omega
  | v :: L, 0, h => by
    show nrm x * nprd L ≤ c ^ (L.length + 1) * d
    have := Nat.mul_le_mul hx (nprd_le fun w hw => h w (List.mem_cons_of_mem _ hw) : nprd L ≤ c ^ L.length)
    refine Nat.le_trans this (Nat.le_of_eq ?_)
    rw [Nat.pow_succ]; grind
  | v :: L, i + 1, h => by
    show nrm v * nprd (L.set i x) ≤ c ^ (L.length + 1) * d
    have := Nat.mul_le_mul (h v List.mem_cons_self) (nprd_set hx hd i fun w hw => h w (List.mem_cons_of_mem _ hw))
    refine Nat.le_trans this (Nat.le_of_eq ?_)
    rw [Nat.pow_succ]; grind
structure Bnd (c d : Nat) : Prop where
  d1 : 1 ≤ d
  cl : ∀ l, l ≤ P.n + P.m → nrm (P.col l) ≤ c
  s : nrm (P.col P.rhs) ≤ c * d
theorem Bnd.all {P : Lp} {c d : Nat} (h : P.Bnd c d) {B F : List Nat} (G : P.Good B F) : ∀ v ∈ (B ++ [P.z]).map P.col, nrm v ≤ c := fun v hv => by
  obtain ⟨b, hb, rfl⟩ := List.mem_map.mp hv
  refine h.cl b ?_
  rcases List.mem_append.mp hb with hb | hb
  · exact Nat.le_of_lt (G.lab.mp (.inr hb))
  · rw [List.mem_singleton.mp hb]; exact Nat.le_refl _
theorem Bnd.T {P : Lp} {c d : Nat} (h : P.Bnd c d) {B F : List Nat} (G : P.Good B F) (i : Nat) {l : Nat} (hl : l ≤ P.rhs) : (P.T B i l).natAbs ≤ c ^ P.M * d := by
  have hx : nrm (P.col l) ≤ c * d := by
    by_cases e : l = P.rhs
    · rw [e]; exact h.s
    · refine Nat.le_trans (h.cl l (by unfold rhs at *; omega)) ?_
      exact Nat.le_mul_of_pos_right _ h.d1
  have := nprd_set hx h.d1 i (h.all G)
  rw [List.length_map, G.bz] at this
  exact Nat.le_trans (prd_bnd _ _) this
theorem Bnd.D {P : Lp} {c d : Nat} (h : P.Bnd c d) {B F : List Nat} (G : P.Good B F) : (P.D B).natAbs ≤ c ^ P.M := by
  have := nprd_le (h.all G)
  rw [List.length_map, G.bz] at this
  exact Nat.le_trans (prd_bnd _ _) this
end Lp
end L3.Dt
end
section
namespace L3
open PySem PySem.Spec PyProof.Rows L2
variable {G : Type} {K : PySem.W.Frag} {mg : Str → Option Value} {X : Cx} {Z : Zx K G} {W : WXH} {U : UX (G × OS)}
theorem atI_cells {F : Hp} {vs : List V} {cs : List Cell} {i : Int} {c : Cell} (h : CellsV K F vs cs) (e : atI cs i = some c) : ∃ v, atI vs i = some v ∧ CellV K F v c := by
  unfold atI at e ⊢
  rw [Paired.length h]
  cases q : ixN cs.length i with
  | none => rw [q] at e; cases e
  | some j =>
    rw [q] at e
    exact paired_get h e
def oLenO : RA (G × OS) := fun rs ρ g Q => one (fun r => vvK r fun p => lsK (OS.look g.2 p) fun cs => Q (.dt (.int cs.length)) ρ g) rs
theorem k_lenO (hK : K = X.K := by rfl) : CallR X (.builtin "len") (rLenX K) ∧ SimC (ZSw mg Z W U) (rLenX K) (oLenO (G := G)) := ⟨(k_len (Z := ZSw mg Z W U) (X := X) hK).1, fun f F ad ρ g σ H vs rs Q R h q P hP => by
  obtain ⟨r, rfl, q⟩ := one_of q
  obtain ⟨v, rfl, h0⟩ := vrs1 h
  obtain ⟨p, rfl, q⟩ := vvK_e q
  obtain ⟨cs, l, q⟩ := lsK_e q
  obtain rfl : v = .ref p := h0
  obtain ⟨vs, hH, hv⟩ := R.osr.get l
  refine .inl ⟨p, vs, rfl, .inl (.inl (.inl hH)), ?_⟩
  rw [Paired.length hv]
  exact hP _ _ (R.dat (.int _) q)⟩
def oIxO : RO (G × OS) := fun r1 r2 ρ g Q => vvK r1 fun p => iiU (fun i => lsK (OS.look g.2 p) fun cs => opK (atI cs i) fun c => Q (cR c) ρ g) (rd r2 ρ)
theorem sim_ixO : SimO (ZSw mg Z W U) (rIxX K) (oIxO (G := G)) := fun f F ad ρ g σ H x y r1 r2 Q R h1 h2 q P hP => by
  obtain ⟨p, rfl, q⟩ := vvK_e q
  obtain ⟨i, ei, q⟩ := iiU_of q
  obtain ⟨cs, l, q⟩ := lsK_e q
  obtain ⟨c, ec, q⟩ := opK_e q
  obtain rfl : x = .ref p := h1
  obtain ⟨vs, hH, hv⟩ := R.osr.get l
  obtain ⟨v, ev, cv⟩ := atI_cells hv ec
  exact .inl (.inl ⟨p, vs, i, v, rfl, R.rInt h2 ei, .inl (.inl hH), ev, hP _ _ ⟨F, ad, ρ, g, cR c, Evl.Ex.refl F, rfl, R, cR_vr cv, q⟩⟩)
theorem e_ixO (hu : X.A.units + 64 < cLine) {ea eb : Expr} {ta tb : TE} {a b : DT (G × OS)} {pos : Pos} (ha : DE X (ZSw mg Z W U) ea ta a) (hb : DE X (ZSw mg Z W U) eb tb b) (hs : PlainIx eb := by exact fun _ _ => rfl) (hK : K = X.K := by rfl) : DE X (ZSw mg Z W U) (.Subscript ea eb pos) (tOp (rIxX K) ta tb) (dOp oIxO a b) :=
  ⟨pe_ix (by rw [hK]; exact ix_seq.or (ix_dict (by omega))) ha.pe hb.pe hs, sim_op sim_ixO ha.sim hb.sim⟩
def dSubO (o i : DT (G × OS)) : DG (G × OS) := fun d ρ g Q => o ρ g fun r1 ρ1 g1 => vvK r1 fun p => i ρ1 g1 fun r2 ρ2 g2 => iiU (fun n => lsK (OS.look g2.2 p) fun cs => opK (ixN cs.length n) fun k => Q ρ2 (g2.1, OS.put g2.2 p (.ls (cs.set k (.d d))))) (rd r2 ρ2)
theorem sim_subO {to ti : TE} {o i : DT (G × OS)} (ho : Sim (ZSw mg Z W U) to o) (hi : Sim (ZSw mg Z W U) ti i) : SimG (ZSw mg Z W U) (gSub to ti rSetL) (dSubO o i) := fun f F ad ρ g σ H v d Q R hd q P hP => by
  refine ho f F ad ρ g σ H _ R q _ fun x H1 q => ?_
  obtain ⟨F1, ad1, ρ1, g1, r1, e1, eg1, R1, v1, q⟩ := q
  obtain ⟨p, rfl, q⟩ := vvK_e q
  obtain rfl : x = .ref p := v1
  refine hi f F1 ad1 ρ1 g1 σ H1 _ R1 q _ fun y H2 q2 => ?_
  obtain ⟨F2, ad2, ρ2, g2, r2, e2, eg2, R2, v2, q⟩ := q2
  obtain ⟨n, en, q⟩ := iiU_of q
  obtain ⟨cs, l, q⟩ := lsK_e q
  obtain ⟨k, hk, q⟩ := opK_e q
  obtain ⟨vs, hH, hv⟩ := R2.osr.get l
  refine ⟨p, vs, n, k, rfl, R2.rInt v2 en, hH, by rw [Paired.length hv]; exact hk, ?_⟩
  exact hP F2 ad2 ρ2 (g2.1, OS.put g2.2 p (.ls (cs.set k (.d d)))) σ _ (e1.trans e2) (eg2.trans eg1) (R2.putS (y := .ls (cs.set k (.d d))) l ⟨_, upd_same, paired_set (R := CellV K F2) (y := Cell.d d) (show CellV K F2 v (Cell.d d) from da_mono (e1.trans e2) hd) k hv⟩) q
theorem g_subO {o i : Expr} {to ti : TE} {a b : DT (G × OS)} {pos : Pos} (ho : DE X (ZSw mg Z W U) o to a) (hi : DE X (ZSw mg Z W U) i ti b)
    (ha : ∀ v, assign (.Subscript o i pos) X.env v = (do
      let ov ← holding [v] (eval o X.env)
      let iv ← holding [v, ov] (eval i X.env)
      standAt pos
      holding [v, ov, iv] (setItem ov iv v)
      release [v, ov, iv] []) := by intro _; rfl) : DGt X (ZSw mg Z W U) (.Subscript o i pos) (gSub to ti rSetL) (dSubO a b) := ⟨pg_sub ho.pe hi.pe set_list ha, sim_subO ho.sim hi.sim⟩
def dSIxO (o i b : DT (G × OS)) : DS (G × OS) := fun D ρ g => b ρ g fun r1 ρ1 g1 => ifh r1 (o ρ1 g1 fun r2 ρ2 g2 => vvK r2 fun p => i ρ2 g2 fun r3 ρ3 g3 => iiU (fun n => cellK (st r1) ρ3 fun c ρ4 => lsK (OS.look g3.2 p) fun cs => opK (ixN cs.length n) fun k => D.nx ρ4 (g3.1, OS.put g3.2 p (.ls (cs.set k c)))) (rd r3 ρ3))
theorem sim_sixO {tb to ti : TE} {o i b : DT (G × OS)} (ho : Sim (ZSw mg Z W U) to o) (hi : Sim (ZSw mg Z W U) ti i) (hb : Sim (ZSw mg Z W U) tb b) : SimS (ZSw mg Z W U) (tAsg tb (gSub to ti rSetL)) (dSIxO o i b) := fun f F ad ρ g σ H D R h D2 le => by
  refine hb f F ad ρ g σ H _ R h _ fun x H1 q => ?_
  obtain ⟨F1, ad1, ρ1, g1, r1, e1, eg1, R1, v1, q⟩ := q
  replace q := ifh_of q
  obtain ⟨F1', e1', R1', v1'⟩ := R1.hst v1
  refine ho f F1' ad1 ρ1 g1 σ H1 _ R1' q _ fun y H2 q2 => ?_
  obtain ⟨F2, ad2, ρ2, g2, r2, e2, eg2, R2, v2, q⟩ := q2
  obtain ⟨p, rfl, q⟩ := vvK_e q
  obtain rfl : y = .ref p := v2
  refine hi f F2 ad2 ρ2 g2 σ H2 _ R2 q _ fun z H3 q3 => ?_
  obtain ⟨F3, ad3, ρ3, g3, r3, e3, eg3, R3, v3, q⟩ := q3
  obtain ⟨n, en, q⟩ := iiU_of q
  obtain ⟨F4, c, ρ4, e4, R4, cv, q⟩ := R3.cell (v1'.held (e2.trans e3) (eg3.trans eg2)) q
  obtain ⟨cs, l, q⟩ := lsK_e q
  obtain ⟨k, hk, q⟩ := opK_e q
  obtain ⟨vs, hH, hv⟩ := R4.osr.get l
  refine ⟨p, vs, n, k, rfl, R3.rInt v3 en, hH, by rw [Paired.length hv]; exact hk, ?_⟩
  exact le.nx F4 ad3 ρ4 (g3.1, OS.put g3.2 p (.ls (cs.set k c))) σ _ (eg3.trans (eg2.trans eg1)) (R4.putS (y := .ls (cs.set k c)) l ⟨_, upd_same, paired_set cv k hv⟩) q
theorem s_ixO {o i e : Expr} {to ti te : TE} {a b c : DT (G × OS)} {pos ps : Pos} (ho : DE X (ZSw mg Z W U) o to a) (hi : DE X (ZSw mg Z W U) i ti b) (he : DE X (ZSw mg Z W U) e te c)
    (ha : ∀ v, assign (.Subscript o i ps) X.env v = (do
      let ov ← holding [v] (eval o X.env)
      let iv ← holding [v, ov] (eval i X.env)
      standAt ps
      holding [v, ov, iv] (setItem ov iv v)
      release [v, ov, iv] []) := by intro _; rfl)
    (hs : swapsWithSole [.Subscript o i ps] e pos.line X.env = pure false := by rfl) (hw : swappedStores [.Subscript o i ps] e X.env = pure none := by rfl)
    (h1 : (assignEach [.Subscript o i ps] X.env).map (·.2) = [assign (.Subscript o i ps) X.env] := by rfl) :
    DSt X (ZSw mg Z W U) (.Assign [.Subscript o i ps] e pos) (tAsg te (gSub to ti rSetL)) (dSIxO a b c) :=
  ⟨ps_asg he.pe (pg_sub ho.pe hi.pe set_list ha) hs hw h1, sim_sixO ho.sim hi.sim he.sim⟩
structure ForEP (p : Addr) (cs : List Cell) (i j : Nat) (b : DS (G × OS)) (D : D3 (G × OS)) (ρ1 : En) (g1 : G × OS) : Prop where
  ex : ∃ I : Nat → En → G × OS → Prop, I 0 ρ1 g1 ∧ (∀ k ρ' g', I k ρ' g' → OS.look g'.2 p = some (.ls cs)) ∧
    (∀ k c ρ' g', cs[k]? = some c → I k ρ' g' → ltK i ρ'.length (ltK j ρ'.length (b { D with nx := I (k + 1), ct := I (k + 1), bk := D.nx } ((ρ'.set i (.dt (.int (k : Nat)))).set j (cSl c)) g'))) ∧ (∀ ρ' g', I cs.length ρ' g' → D.nx ρ' g')
def dForE (i j : Nat) (a : DT (G × OS)) (b : DS (G × OS)) : DS (G × OS) := fun D ρ g => a ρ g fun r ρ1 g1 => vvK r fun p => lsK (OS.look g1.2 p) fun cs => ForEP p cs i j b D ρ1 g1
theorem s_forE (i j : Nat) {x y : Str} {iter : Expr} {body : List Stmt} {ti : TE} {tb : TS} {a : DT (G × OS)} {db : DS (G × OS)} {pos px py pt pc pe : Pos} {kk : Nat} (hN : X.N.Nodup) (hm : X.mg "enumerate" = none) (hi : DE X (ZSw mg Z W U) iter ti a) (hb : DSs X (ZSw mg Z W U) body tb db)
    (hx : Loc X.env.scope x := by first | exact Or.inl rfl | exact Or.inr rfl) (hxi : X.N[i]? = some x := by rfl) (hxf : X.fn x = true ∨ X.env.scope.names.lookup x = some .local := by first | exact .inl rfl | exact .inr rfl | assumption)
    (hy : Loc X.env.scope y := by first | exact Or.inl rfl | exact Or.inr rfl) (hyi : X.N[j]? = some y := by rfl) (hyf : X.fn y = true ∨ X.env.scope.names.lookup y = some .local := by first | exact .inl rfl | exact .inr rfl | assumption)
    (hg : Gl X "enumerate" := by rfl) (hst : starEach [iter] X.env = [(false, eval iter X.env)] := by rfl)
    (hn : (assignEach [.Name x px, .Name y py] X.env).length = 2 := by rfl) (hst2 : (assignEach [.Name x px, .Name y py] X.env).findIdx? (·.1) = none := by rfl)
    (hs1 : (assignEach [.Name x px, .Name y py] X.env).map (·.2) = assign (.Name x px) X.env :: (assignEach [.Name y py] X.env).map (·.2) := by rfl) (hs2 : (assignEach [.Name y py] X.env).map (·.2) = assign (.Name y py) X.env :: (assignEach [] X.env).map (·.2) := by rfl)
    (hK : K = X.K := by rfl) (hc : X.calm = true := by rfl) (hp : PassesOwn (model X.prog X.w) X.A X.env X.xe := by exact PassesOwn.never) (hs : ∀ z, foldedSetIterable (.Call (.Name "enumerate" pe) [iter] [] pc) X.env z = pure z := by intro _; rfl) :
    DSt X (ZSw mg Z W U) (.For (.Tuple [.Name x px, .Name y py] kk pt) (.Call (.Name "enumerate" pe) [iter] [] pc) body [] pos) (tFor (iEnumB K (tCons ti tNil)) (gSeq K 2 (gCons (gName i) (gCons (gName j) gNil))) tb) (dForE i j a db) :=
  ⟨by
    rw [hK]
    exact ps_for hp hc (pi_enumB hg hm (pa_cons hi.pe pa_nil hst) hst) (pg_seq hc (pgs_cons (pg_name hN hxi hx hxf) (pgs_cons (pg_name hN hyi hy hyf) pgs_nil hs2) hs1) hn hst2) hb.ps hs, fun f F ad ρ g σ H D R h D2 le => by
  refine hi.sim f F ad ρ g σ H _ R h _ fun u H1 q => ?_
  obtain ⟨F1, ad1, ρ1, g1, r1, e1, eg1, R1, v1, q⟩ := q
  obtain ⟨p, rfl, q⟩ := vvK_e q
  obtain ⟨cs, l, q⟩ := lsK_e q
  obtain rfl : u = .ref p := v1
  obtain ⟨vs0, hH0, hv0⟩ := R1.osr.get l
  obtain ⟨⟨I, h0, hkeep, hstep, hd⟩⟩ := q
  refine ⟨false, p, vs0, rfl, .inl (.inl hH0), ?_⟩
  have at_ : ∀ {F2 : Hp} {ad2 : Nat → Addr} {ρ2 : En} {g2 : G × OS} {σ2 : L2.St} {H2 : Hp} {k : Nat}, Rel (ZSw mg Z W U) ⟨f.B, F1, f.fp0⟩ F2 ad2 ρ2 g2 σ2 H2 → I k ρ2 g2 → ∃ vs, H2 p = some (.lst vs) ∧ CellsV K F2 vs cs := fun R2 hI => R2.osr.get (hkeep _ _ _ hI)
  refine ⟨fun k m σ' H' => m = cs.length - k ∧ k ≤ cs.length ∧ ∃ F2 ad2 ρ2 g2, (ZSw mg Z W U).ra g2 = (ZSw mg Z W U).ra g ∧ Rel (ZSw mg Z W U) ⟨f.B, F1, f.fp0⟩ F2 ad2 ρ2 g2 σ' H' ∧ I k ρ2 g2, ⟨cs.length, rfl, Nat.zero_le _, F1, ad1, ρ1, g1, eg1, R1.fwd, h0⟩, fun k m σ2 H2 hW => ?_⟩
  obtain ⟨rfl, hle, F2, ad2, ρ2, g2, eg2, R2, hI⟩ := hW
  obtain ⟨vs, hH2, hv2⟩ := at_ R2 hI
  have hsq : SqB K H2 false p vs := .inl (.inl hH2)
  have hvl := Paired.length hv2
  by_cases hlt : k < cs.length
  · have hi2 : k < vs.length := by omega
    refine .inr ⟨⟨vs, vs[k], hsq, by simp [hi2]⟩, fun σ' H' => ∃ F2 ad2 ρ2 g2, (ZSw mg Z W U).ra g2 = (ZSw mg Z W U).ra g ∧ Rel (ZSw mg Z W U) ⟨f.B, F1, f.fp0⟩ F2 ad2 ρ2 g2 σ' H' ∧ I (k + 1) ρ2 g2, fun σ' H' z => ⟨cs.length - (k + 1), by omega, rfl, hlt, z⟩, fun u H' yy => ?_⟩
    obtain ⟨T, u2, rfl, hT, rfl, hx⟩ := yy
    obtain ⟨x', hx', cv⟩ := paired_get hv2 (List.getElem?_eq_getElem hlt)
    have ex : u2 = x' := by have := hx vs hsq; rw [hx'] at this; cases this; rfl
    subst ex
    obtain ⟨R3, n3⟩ := R2.laid (o := .tup [.int (k : Nat), u2]) hT
    have q2 := hstep k _ ρ2 g2 (List.getElem?_eq_getElem hlt) hI
    obtain ⟨hil, q2⟩ := ltK_e q2
    obtain ⟨hjl, q2⟩ := ltK_e q2
    refine ⟨T, [.int (k : Nat), u2], rfl, .inr (.inl (.inl upd_same)), rfl, _, _, rfl, _, _, rfl, rfl, ?_⟩
    have R4 := R3.setD (d := .int (k : Nat)) (v := .int (k : Nat)) (j := i) (by rw [← R3.len]; exact hil) (.int _)
    obtain ⟨ad5, R5⟩ := R4.setCell (j := j) (by rw [List.length_set, ← R3.len]; exact hjl) cv
    show tb _ ((σ2.set i (some (.int (k : Nat)))).set j (some u2)) _
    exact hb.sim _ F2 ad5 _ g2 _ _ _ R5 q2 _ ⟨fun F5 ad5 ρ5 g5 σ5 H5 er5 R5 q5 => ⟨F5, ad5, ρ5, g5, er5.trans eg2, R5, q5⟩, fun F5 g5 H5 v r er5 R5 hv q5 => le.rt F5 g5 H5 v r (er5.trans eg2) (R1.fin.back R5) hv.back q5,
      fun F5 ad5 ρ5 g5 σ5 H5 er5 R5 q5 => le.nx F5 ad5 ρ5 g5 σ5 H5 (er5.trans eg2) (Rel.back R1 ((er5.trans eg2).trans eg1.symm) R5) q5, fun F5 ad5 ρ5 g5 σ5 H5 er5 R5 q5 => ⟨F5, ad5, ρ5, g5, er5.trans eg2, R5, q5⟩⟩
  · have e : k = cs.length := by omega
    subst e
    exact .inl ⟨⟨vs, hsq, by omega⟩, le.nx F2 ad2 ρ2 g2 σ2 H2 eg2 (Rel.back R1 (eg2.trans eg1.symm) R2) (hd ρ2 g2 hI)⟩⟩
structure LcOP (items : List PyData) (tg : DG (G × OS)) (c : DB (G × OS)) (e : DT (G × OS)) (vs : List Nat) (ρ1 : En) (g1 : G × OS) (Q : Rs → En → G × OS → Prop) : Prop where
  ex : ∃ I : Nat → List Cell → En → G × OS → Prop, I 0 [] (wipeE ρ1 vs) g1 ∧
    (∀ k d acc ρ' g', items[k]? = some d → I k acc ρ' g' → tg d ρ' g' fun ρ2 g2 => c ρ2 g2 fun b ρ3 g3 => ifb b (e ρ3 g3 fun r ρ4 g4 => cellK r ρ4 fun c' ρ5 => I (k + 1) (acc ++ [c']) (wipeE ρ5 vs) g4) (I (k + 1) acc (wipeE ρ3 vs) g3)) ∧
    (∀ acc ρ' g', I items.length acc ρ' g' → unAll ρ' vs ∧ ∀ p, OS.look g'.2 p = none → Q (.vv (.ref p)) ρ' (g'.1, (p, .ls acc) :: g'.2))
def dLcO (i : DI (G × OS)) (tg : DG (G × OS)) (c : DB (G × OS)) (e : DT (G × OS)) (vs : List Nat) : DT (G × OS) := fun ρ g Q => i ρ g fun items ρ1 g1 => leK items.length 16777216 (LcOP items tg c e vs ρ1 g1 Q)
theorem sim_lcO {wi : TI} {gt : TG} {tt : TT} {te : TE} {i : DI (G × OS)} {tg : DG (G × OS)} {c : DB (G × OS)} {e : DT (G × OS)} {vs : List Nat} (hi : SimI (ZSw mg Z W U) wi i) (hg : SimG (ZSw mg Z W U) gt tg) (ho : GOwn gt vs) (hc : SimT (ZSw mg Z W U) tt c) (he : Sim (ZSw mg Z W U) te e) : Sim (ZSw mg Z W U) (tLc wi gt tt te vs) (dLcO i tg c e vs) := fun f F ad ρ g σ H Q R h P hP => by
  refine hi f F ad ρ g σ H _ R h _ fun J H1 F1 ad1 ρ1 g1 items e1 eg1 R1 wk q D hD => ?_
  obtain ⟨hlen, ⟨I, h0, hs, hd⟩⟩ := leK_e q
  have hD0 : D ∉ f.fp0 := fun hm => R1.fin.keepN D (R1.fin.fpo D hm) hD
  obtain ⟨R1', n1⟩ := R1.laid (o := .lst []) hD
  have nw : ∀ {F2 : Hp} {ad2 : Nat → Addr} {ρ2 : En} {g2 : G × OS}, NewA (ZSw mg Z W U) f F2 ad2 ρ2 g2 D → NewA (ZSw mg Z W U) f F2 ad2 (wipeE ρ2 vs) g2 D := fun {F2 ad2 ρ2 g2} n => ⟨n.1, fun j s hj hs => by
    by_cases hm : j ∈ vs
    · have hl : j < ρ2.length := by
        have := (List.getElem?_eq_some_iff.mp hj).1
        rwa [wipeE_len] at this
      rw [wipeE_in hm hl] at hj; cases hj; cases hs
    · rw [wipeE_out hm] at hj; exact n.2 j s hj hs⟩
  refine ⟨fun k m H' => m = items.length - k ∧ k ≤ items.length ∧ ∃ F2 ad2 ρ2 g2 av acc, Ex F1 F2 ∧ (ZSw mg Z W U).ra g2 = (ZSw mg Z W U).ra g ∧ Rel (ZSw mg Z W U) f F2 ad2 ρ2 g2 (wipe σ vs) H' ∧ NewA (ZSw mg Z W U) f F2 ad2 ρ2 g2 D ∧ H' D = some (.lst av) ∧ CellsV K F2 av acc ∧ acc.length ≤ k ∧ I k acc ρ2 g2,
    ⟨items.length, rfl, Nat.zero_le _, F1, ad1, wipeE ρ1 vs, g1, [], [], Evl.Ex.refl F1, eg1, R1'.wipe vs, nw n1, upd_same, .nil, Nat.le_refl _, h0⟩, fun k m H2 hW => ?_⟩
  obtain ⟨rfl, hle, F2, ad2, ρ2, g2, av, acc, e2, eg2, R2, n2, hD2, da2, hal, hI⟩ := hW
  obtain ⟨stop, go⟩ := wk _ F2 ad2 ρ2 g2 (wipe σ vs) H2 e2 R2
  by_cases hlt : k < items.length
  · obtain ⟨hgo, -⟩ := go k hlt
    have Rh := R2.hide n2 hD0 hD2
    obtain ⟨-, hy⟩ := (wk _ F2 ad2 ρ2 g2 (wipe σ vs) H2 e2 Rh).2 k hlt
    refine .inr ⟨hgo, fun H' => ∃ F2 ad2 ρ2 g2 av acc, Ex F1 F2 ∧ (ZSw mg Z W U).ra g2 = (ZSw mg Z W U).ra g ∧ Rel (ZSw mg Z W U) f F2 ad2 ρ2 g2 (wipe σ vs) H' ∧ NewA (ZSw mg Z W U) f F2 ad2 ρ2 g2 D ∧ H' D = some (.lst av) ∧ CellsV K F2 av acc ∧ acc.length ≤ k + 1 ∧ I (k + 1) acc ρ2 g2,
      fun H' z => ⟨items.length - (k + 1), by omega, rfl, hlt, z⟩, fun x H3 y => ?_⟩
    obtain ⟨F3, d, hd3, e3, R3, dv⟩ := hy x H3 y
    refine ho x (wipe σ vs) H3 (fun σ4 H4 => wipe σ4 vs = wipe σ vs → _) _ (fun σ4 H4 hw hp => ⟨hw.trans (wipe_wipe σ vs), hp (hw.trans (wipe_wipe σ vs))⟩) (hg _ F3 ad2 ρ2 g2 (wipe σ vs) H3 x d _ R3 dv (hs k d acc ρ2 g2 hd3 hI) _ fun F4 ad4 ρ4 g4 σ4 H4 e4 er4 R4 q4 hw => ?_)
    refine hc _ F4 ad4 ρ4 g4 σ4 H4 _ R4 q4 _ fun b H5 q5 => ?_
    obtain ⟨F5, ad5, ρ5, g5, e5, er5, R5, q5⟩ := q5
    have eA : Ex F1 F5 := (e2.trans e3).trans (e4.trans e5)
    cases b with
    | false =>
      rw [if_neg Bool.false_ne_true]
      replace q5 := ifb_f q5
      obtain ⟨R6, n6, hD6⟩ := Rel.unhide R2 (er5.trans er4) n2.1 hD0 R5
      have R7 := R6.wipe vs
      rw [hw] at R7
      exact ⟨F5, ad5, _, g5, av, acc, eA, er5.trans (er4.trans eg2), R7, nw n6, hD6, CellsV.mono ((e3.trans e4).trans e5) da2, by omega, q5⟩
    | true =>
      rw [if_pos rfl]
      replace q5 := ifb_t q5
      refine he _ F5 ad5 ρ5 g5 σ4 H5 _ R5 q5 _ fun v H6 q6 => ?_
      obtain ⟨F6, ad6, ρ6, g6, r6, e6, er6, R6, v6, q6⟩ := q6
      obtain ⟨F7, c', ρ7, e7, R7, dv7, q6⟩ := R6.cell v6 q6
      obtain ⟨R8, n8, hD8⟩ := Rel.unhide R2 (er6.trans (er5.trans er4)) n2.1 hD0 R7
      have eB : Ex F2 F7 := ((e3.trans e4).trans e5).trans (e6.trans e7)
      refine ⟨av, hD8, by rw [sizeLine_eq, Paired.length da2]; omega, ?_⟩
      have hw9 : OwnA (ZSw mg Z W U) f F7 g6 D := n8.1
      have R9 : Rel (ZSw mg Z W U) f F7 ad6 ρ7 g6 σ4 (upd H6 D (.lst (av ++ [v]))) := by
        refine ⟨⟨R8.fin.upd hw9, R8.len, fun j s hj => ?_, R8.inj⟩, R8.lx⟩
        have q := R8.slot j s hj
        cases s with
        | ls ds => obtain ⟨q1, q2, vs', q3, q4⟩ := q; exact ⟨q1, q2, vs', by rw [upd_ne (n8.2 j _ hj rfl)]; exact q3, q4⟩
        | dk ds => obtain ⟨q1, q2, vs', q3, q4⟩ := q; exact ⟨q1, q2, vs', by rw [upd_ne (n8.2 j _ hj rfl)]; exact q3, q4⟩
        | _ => exact q
      have R10 := R9.wipe vs
      rw [hw] at R10
      exact ⟨F7, ad6, _, g6, av ++ [v], acc ++ [c'], (e2.trans eB), er6.trans (er5.trans (er4.trans eg2)), R10, nw n8, upd_same, paired_app (CellsV.mono eB da2) (.cons dv7 .nil), by rw [List.length_append]; show acc.length + 1 ≤ k + 1; omega, q6⟩
  · have e : k = items.length := by omega
    subst e
    obtain ⟨hun, q⟩ := hd acc ρ2 g2 hI
    replace hun := unAll_of hun
    have R3 : Rel (ZSw mg Z W U) f F2 ad2 ρ2 g2 σ H2 := R2.slots (by rw [R2.len, wipe_length]) fun j s hj => by
      by_cases hm : j ∈ vs
      · rw [hun j hm] at hj; cases hj; exact .inl rfl
      · exact .inr ⟨hj, (wipe_out hm).symm⟩
    obtain ⟨R4, hn⟩ := R3.newS n2 (y := .ls acc) ⟨av, hD2, da2⟩
    exact .inl ⟨stop, hP _ H2 ⟨F2, ad2, ρ2, (g2.1, (D, .ls acc) :: g2.2), .vv (.ref D), e1.trans e2, eg2, R4, rfl, q D hn⟩⟩
/-- [elt for target in iter if ..], its items own -/
theorem e_lcO {elt tg iter : Expr} {ifs : List Expr} {scope : Scope} (own : List (Str × Nat)) {pos : Pos} {wi : TI} {gt : TG} {tt : TT} {te : TE} {i : DI (G × OS)} {dg : DG (G × OS)} {c : DB (G × OS)} {e : DT (G × OS)} (hN : X.N.Nodup) (hi : DIt X (ZSw mg Z W U) tg iter wi i)
    (hg : ∀ (s : Shared) (H : Hp) (C : Addr) (cl : List (Str × Addr)) (fp : List Addr), DGt (X.blk s H scope (compEnvC scope cl C X.env) fp) (ZSw mg Z W U) tg gt dg) (ho : GOwn gt (own.map (·.2)))
    (ht : ∀ (s : Shared) (H : Hp) (C : Addr) (cl : List (Str × Addr)) (fp : List Addr), DTs (X.blk s H scope (compEnvC scope cl C X.env) fp) (ZSw mg Z W U) ifs tt c)
    (he : ∀ (s : Shared) (H : Hp) (C : Addr) (cl : List (Str × Addr)) (fp : List Addr), DE (X.blk s H scope (compEnvC scope cl C X.env) fp) (ZSw mg Z W U) elt te e)
    (ok : BlkOk X.N X.env.scope scope own := by exact blkOk_by (by kernel_rfl)) (hc : X.calm = true := by rfl) (hs : ∀ x, foldedSetIterable iter X.env x = pure x := by intro _; rfl) :
    DE X (ZSw mg Z W U) (.ListComp elt [⟨tg, iter, ifs, 0⟩] scope pos) (tLc wi gt tt te (own.map (·.2))) (dLcO i dg c e (own.map (·.2))) :=
  have s0 : Shared := {}
  ⟨pe_lc hc hN hi.pi ok (fun s H C cl fp => (hg s H C cl fp).pg) (fun s H C cl fp => (ht s H C cl fp).pts) (fun s H C cl fp => (he s H C cl fp).pe) hs,
    sim_lcO hi.sim (hg s0 (fun _ => none) 0 [] []).sim ho (ht s0 (fun _ => none) 0 [] []).sim (he s0 (fun _ => none) 0 [] []).sim⟩
end L3
end
section
namespace L3
open PySem PySem.Spec PyProof.Rows L2
/-- a list of whole numbers walked; the numbers' tokens may change -/
def IntsAt (h : Heap) (l : Addr) (ns : List Int) : Prop := ∃ items : Array Value, h.IsList l items ∧ items.size = ns.length ∧ ∀ (i : Nat) (n : Int), ns[i]? = some n → ∃ t : Tok, items[i]? = some (Value.int n t)
theorem walks_ints {prog : Program} {w : World} {A : Around} (hh : A.handled = none) (I l : Addr) (hne : l ≠ I) (ns : List Int) :
    Walks prog w A I [I, l] [I] ns.length (fun i v => ∃ (n : Int) (t : Tok), ns[i]? = some n ∧ v = Value.int n t) (fun i h => h.IsListIter I l i ∧ IntsAt h l ns) where
  sub := fun b hb => by simp at hb; simp [hb]
  frame := fun _ _ _ st hk => by
    obtain ⟨h1, items, h2, h3⟩ := st
    exact ⟨h1.at fun o e => hk I (by simp) o e, items, h2.at fun o e => hk l (by simp) o e, h3⟩
  item := fun i s Q E hi st hQ => by
    obtain ⟨h1, items, h2, h3, h4⟩ := st
    obtain ⟨n, hn⟩ : ∃ n, ns[i]? = some n := ⟨_, List.getElem?_eq_getElem hi⟩
    obtain ⟨t, ht⟩ := h4 i n hn
    refine wpAny_pyNext_list_item h1 h2 ht fun h' hit' hs' => ?_
    exact hQ _ h' s.toks ⟨n, t, hn, rfl⟩ ⟨hit', items, h2.extBut hs'.extBut hne, h3, h4⟩ fun b o hb e => hs'.extBut b o (fun h => hb (by simp [h])) e
  done := fun s Q E st hQ => by
    obtain ⟨h1, items, h2, h3, h4⟩ := st
    have W := Walks.list (prog := prog) (w := w) (A := A) hh I l hne items
    refine W.done s Q E ?_ hQ
    rw [h3]
    exact ⟨h1, h2⟩
  self := fun i s Q E st hQ => by
    obtain ⟨h1, items, h2, h3, h4⟩ := st
    have W := Walks.list (prog := prog) (w := w) (A := A) hh I l hne items
    exact W.self i s Q E ⟨h1, h2⟩ hQ
section
variable {X : Cx} {pins : List (Addr × Obj)} {σ : L2.St} {H : Hp} {s : Shared}
theorem ints_at {l : Addr} {ns : List Int} (I : Inv X pins σ H s) (h : SqL X.K H l (ns.map V.int)) : IntsAt s.heap l ns := by
  obtain ⟨its, rv, p, hz⟩ := I.list h
  refine ⟨its.toArray, p.isList, by have := rv.length; simp at this ⊢; omega, fun i n hn => ?_⟩
  obtain ⟨u, hu, ru⟩ := rv.get (x := .int n) (i := i) (by rw [List.getElem?_map, hn]; rfl)
  obtain ⟨t, rfl⟩ := ru
  exact ⟨t, by simpa using hu⟩
theorem nofr (I : Inv X pins σ H s) {f : Addr} (hf : s.heap.objs.size ≤ f) : f ∉ frs X.stack := fun z => by
  rcases List.mem_cons.mp (I.stkSub _ z) with e | e
  · have h1 := I.lt
    rw [← e] at h1
    exact Nat.lt_irrefl _ (Nat.lt_of_lt_of_le h1 hf)
  · exact I.nofs hf e
/-- objects laid behind all, and changed there: what is known stays -/
theorem inv_behind {h' : Heap} {t' : Nat} {ch : List Addr} {n0 : Nat} (I0 : Inv X pins σ H s) (hch : ∀ b ∈ ch, n0 ≤ b) (hn : X.s_0.heap.objs.size ≤ n0) (hl : X.env.locals < n0) (hc : ∀ x c, X.env.cells.lookup x = some c → c < n0) (hp : ∀ p ∈ X.pn ++ pins, p.1 < n0)
    (hN : ∀ b ∈ ch, H b = none) (k : ∀ b o, b ∉ ch → s.heap.get? b = some o → h'.get? b = some o) : Inv X pins σ H { s with heap := h', toks := t' } := by
  refine I0.step (ch := ch) (fun b hb => ⟨.inr (Nat.le_trans hn (hch b hb)), fun e => ?_, fun x c e z => ?_, fun p hpp e => ?_⟩) (fun b o _ _ h1 e _ => k b o h1 e) (fun b o _ _ h1 e _ => ⟨o.slots, k b o h1 e⟩) (fun b o _ _ n => n) (fun b o h1 e => ⟨o, k b o h1 e⟩) (fun _ _ e => e) (fun _ _ _ e => e) (fun b ps e => ⟨#[], by simpa using e⟩) (fun m hm => ?_) ?_ I0.bare
  · have h1 := hch b hb
    rw [e] at h1
    exact Nat.lt_irrefl _ (Nat.lt_of_lt_of_le hl h1)
  · have h1 := hch b hb
    rw [← z] at h1
    exact Nat.lt_irrefl _ (Nat.lt_of_lt_of_le (hc x c e) h1)
  · have h1 := hch b hb
    rw [← e] at h1
    exact Nat.lt_irrefl _ (Nat.lt_of_lt_of_le (hp p hpp) h1)
  · obtain ⟨o, es, ep, e, r⟩ := hm
    exact ⟨o, es, ep, k _ o (fun z => Nat.lt_irrefl _ (Nat.lt_of_lt_of_le hl (hch _ z))) e, r⟩
  · intro b u e
    have nb : b ∉ ch := fun z => by rw [hN b z] at e; cases e
    refine (I0.hok b u e).stay (fun d v hd q => k d v (fun z => ?_) q) (fun d q => q) fun d xs q => q
    rcases hd with hd | hd
    · rw [hd] at z; exact nb z
    · rw [hN d z] at hd; cases hd
theorem call_minkey {l f : Addr} {ns : List Int} {kf : Int → Int} {JH : Hp → Prop} {fo : Obj} {Q : Value → Shared → Prop} (I0 : Inv X pins σ H s) (hh : X.A.handled = none) (hJ : JH H) (hl : ∀ H', JH H' → SqL X.K H' l (ns.map V.int)) (hne : 0 < ns.length)
    (hf : s.heap.get? f = some fo) (hfn : H f = none) (hfr : f ∉ frs X.stack)
    (run : ∀ (s' : Shared) (H' : Hp) (n : Int) (t : Tok), n ∈ ns → Inv X pins σ H' s' → JH H' → s'.heap.get? f = some fo →
      codeAny (model X.prog X.w) X.A.in1 (.call (.ref f) ⟨[.int n t], []⟩) (CR (L2.CX X.prog X.w) X.stack X.prog X.w H' s' (fun v H'' => v = .int (kf n) ∧ JH H'') fun _ _ _ => False) s')
    (hQ : ∀ m t H' s', m ∈ ns → (∀ n ∈ ns, kf m ≤ kf n) → Inv X pins σ H' s' → JH H' → Q (.int m t) s') :
    wpAny (model X.prog X.w) X.A (call (.builtin "min") [.ref l] [(Str.ofString "key", .ref f)]) Q X.xe s := by
  have hlx := hl H hJ
  obtain ⟨items, hil, hsz, hit⟩ := ints_at I0 hlx
  have hls : l < s.heap.objs.size := by
    obtain ⟨o, ho, _⟩ := hil
    exact Heap.lt_size ho
  refine call_min_walkK (wpAny_pyIter_list hil ?_)
  let n0 := s.heap.objs.size
  let s2 : Shared := { s with heap := s.heap.push { cls := .type "list_iterator", data := .fields #[.ref l, .int 0 0] } }
  have hsz2 : s2.heap.objs.size = n0 + 1 := Heap.size_push ..
  have hlI : l ≠ n0 := Nat.ne_of_lt hls
  have W := (walks_ints (prog := X.prog) (w := X.w) (A := X.A.in1) hh n0 l hlI ns).toS
  have hcell : ∀ x c, X.env.cells.lookup x = some c → c < n0 := fun x c e => by
    obtain ⟨v, o, ho, _⟩ := I0.cell x c e
    exact Heap.lt_size ho
  have hpin : ∀ p ∈ X.pn ++ pins, p.1 < n0 := fun p hp => Heap.lt_size (I0.pin p hp).1
  have fS : n0 + 1 ∉ frs X.stack := nofr I0 (Nat.le_succ _)
  have fI : n0 ∉ frs X.stack := nofr I0 (Nat.le_refl _)
  let J : Shared → Prop := fun s' => ∃ H', Inv X pins σ H' s' ∧ JH H' ∧ H' n0 = none ∧ H' (n0 + 1) = none ∧ H' f = none ∧ s'.heap.get? f = some fo
  have hfl : f < n0 := Heap.lt_size hf
  have I2 : Inv X pins σ H s2 := I0.kept (t' := s.toks) fun b o e => Heap.get?_push_of_some _ e
  have tk : ∀ s' : Shared, ({ s' with heap := s'.heap, gens := s'.gens, drawn := s'.drawn, toks := s'.toks, os := s'.os } : Shared) = s' := fun _ => rfl
  refine ⟨n0, [n0, l], [n0], _, ns.length, _, _, J, fun i v _ => ∃ (n : Int) (t : Tok), ns[i]? = some n ∧ v = Value.int (kf n) t, fun i j => decide (kf (ns.getD i 0) < kf (ns.getD j 0)), rfl, W, ⟨⟨_, Heap.get?_push_size _ rfl, rfl, rfl⟩, ?_⟩, fun b hb => ?_, hne, ?_, ?_, fun v s' hv hJ' => ?_⟩
  · exact ⟨items, by obtain ⟨o, ho, r⟩ := hil; exact ⟨o, Heap.get?_push_of_some _ ho, r⟩, hsz, hit⟩
  · show b < s2.heap.objs.size
    rw [hsz2]
    have hb : b = n0 ∨ b = l := by simpa using hb
    rcases hb with hb | hb <;> rw [hb]
    · exact Nat.lt_succ_self _
    · exact Nat.lt_succ_of_lt hls
  · show KeyRun X.prog X.w X.A.in1 (.ref f) .Lt s2.heap.objs.size _ _ _ _ _ _ _ _
    rw [hsz2]
    refine ⟨fun s1 s' hJ1 mv => ?_, fun i k s1 s' hv _ => hv, fun i v s1 o Q E hi hv hJ1 hst hS hq => ?_, fun i j ki kj s1 Q E _ hi hj hq => ?_⟩
    · obtain ⟨H', IJ, h1, h2, h3, h4, h5⟩ := hJ1
      obtain ⟨hh2, g, d, t, os⟩ := s'
      obtain rfl : g = s1.gens := mv.gens
      obtain rfl : d = s1.drawn := mv.drawn
      obtain rfl : os = s1.os := mv.os
      refine ⟨H', inv_behind IJ (ch := [n0 + 1, n0]) (n0 := n0) (fun b hb => ?_) I0.sz I0.lt hcell hpin (fun b hb => ?_) (fun b o hb e => mv.heap b o hb e), h1, h2, h3, h4, mv.heap f _ (fun hb => ?_) h5⟩
      · have hb : b = n0 + 1 ∨ b = n0 := by simpa using hb
        rcases hb with hb | hb <;> rw [hb]
        · exact Nat.le_succ _
        · exact Nat.le_refl _
      · have hb : b = n0 + 1 ∨ b = n0 := by simpa using hb
        rcases hb with hb | hb <;> rw [hb]
        · exact h3
        · exact h2
      · have hb : f = n0 + 1 ∨ f = n0 := by simpa using hb
        rcases hb with hb | hb <;> rw [hb] at hfl
        · exact Nat.lt_irrefl _ (Nat.lt_of_succ_lt hfl)
        · exact Nat.lt_irrefl _ hfl
    · obtain ⟨n, t, hn, rfl⟩ := hv
      obtain ⟨H', IJ, h1, h2, h3, h4, h5⟩ := hJ1
      refine wpAny_call (codeAny_mono (run s1 H' n t (List.mem_of_getElem? hn) IJ h1 h5) fun r s' hr => ?_)
      cases r with
      | error e =>
        obtain ⟨_, _, _, _, _, _, _, _, _, _, _, _, z⟩ := hr
        exact z.elim
      | ok fl =>
        cases fl with
        | next => exact False.elim hr
        | brk => exact False.elim hr
        | cont => exact False.elim hr
        | ret u =>
          obtain ⟨v, H'', os, bare, un, hok, rv, rfl, hJ''⟩ := hr
          obtain ⟨v', H3, I3, rv', e, rfl⟩ := IJ.after (Q := fun v H3 => v = V.int (kf n) ∧ H3 = H'') ⟨V.int (kf n), H'', os, bare, un, hok, rv, rfl, rfl⟩
          obtain ⟨tt, rfl⟩ := rv
          obtain ⟨⟨oI, hoI, hoc, hod⟩, _⟩ := hst
          have kI := un.keep n0 oI hoI h2 fI (by simp)
          have kS := un.keep (n0 + 1) o hS h3 fS (by simp)
          have kf2 := un.keep f fo h5 h4 hfr (by simp)
          refine hq _ s' ⟨H3, I3, hJ'', un.free n0 oI hoI h2 (by simp), un.free (n0 + 1) o hS h3 (by simp), un.free f fo h5 h4 (by simp), kf2⟩ ⟨⟨oI, kI, hoc, hod⟩, ints_at I3 (hl H3 hJ'')⟩ kS ⟨n, tt, hn, rfl⟩ fun j k' h => h
    · obtain ⟨n, t, hn, rfl⟩ := hi
      obtain ⟨m, u, hm, rfl⟩ := hj
      have e1 : ns.getD i 0 = n := by simp [hn]
      have e2 : ns.getD j 0 = m := by simp [hm]
      rw [e1, e2] at hq
      exact richCompare_gives (op := .Lt) (typeIs_int s1 _ t) (typeIs_int s1 _ u) F.slot_int_lt F.entry_int_lt (F.args_int_lt_2 _ _) (gives_int_lt _ _ t u) (fun x => nomatch x) hq
  · exact ⟨H, I2, hJ, I0.hok.fresh (Nat.le_refl _), I0.hok.fresh (Nat.le_succ _), hfn, Heap.get?_push_of_some _ hf⟩
  · obtain ⟨n, t, hn, rfl⟩ := hv
    obtain ⟨H', IJ, h1, _⟩ := hJ'
    obtain ⟨b1, b2⟩ := argBest_lt (fun i => kf (ns.getD i 0)) (ns.length - 1)
    refine hQ n t H' s' (List.mem_of_getElem? hn) (fun m hm => ?_) IJ h1
    obtain ⟨j, hj⟩ := List.getElem?_of_mem hm
    have hjl := (List.getElem?_eq_some_iff.mp hj).1
    have b3 := b2 j (by omega)
    have e1 : ns.getD j 0 = m := by simp [hj]
    have e2 : ns.getD (argBest (fun i j => decide (kf (ns.getD i 0) < kf (ns.getD j 0))) (ns.length - 1)) 0 = n := by rw [List.getD_eq_getElem?_getD, hn]; rfl
    rw [e1, e2] at b3
    exact b3
/-- what the making of a lambda may do to the tracked objects: nothing, its code object being told by the table, or the table gets a row and a new code object is known -/
def Grew (P c' : Addr) (q : Str) (H H1 : Hp) : Prop := (H1 = H ∧ ∃ ps pos, H P = some (.tbl ps) ∧ codeAmong pos ps.toList = some (.ref c')) ∨
  ∃ ps more, H P = some (.tbl ps) ∧ H c' = none ∧ c' ≠ P ∧ H1 = upd (upd H P (.tbl (ps ++ more))) c' (LamX.CodeO c' q) ∧ TriplesOk (ps ++ more).toList ∧ ∀ p' cv, codeAmong p' (ps ++ more).toList = some cv → codeAmong p' ps.toList = some cv ∨ cv = .ref c'
theorem row_list (ps : Array Value) (a b d : Value) : (ps ++ #[a, b, d]).toList = ps.toList ++ [a, b, d] := by simp
theorem lam_make3 {cd tp : Addr} {pr : Arguments} {bd : Expr} {sc : Scope} {pos : Pos} {E : Value → Shared → Prop} {Q : Value → Shared → Prop} (J : Inv X pins σ H s) (TB : LamX.TabB X.base X.mg cd tp) (hcd : X.env.code = .ref cd)
    (hT : LamX.TabS H tp (X.env.qual ++ "<lambda>")) (hdef : defaultsOf pr X.env = ([], [])) (hfr : ∀ y ∈ sc.names, y.2 = .free → ∃ c, X.env.cells.lookup y.1 = some c)
    (k : ∀ (f c' : Addr) (pm ctv : Value) (H1 : Hp) (t : Shared), Inv X pins σ H1 t → Grew tp c' (X.env.qual ++ "<lambda>") H H1 → H1 c' = some (LamX.CodeO c' (X.env.qual ++ "<lambda>")) →
      t.heap.get? f = some (PySem.W.kla_obj "<lambda>" (X.env.qual ++ "<lambda>") pr bd sc (cloFrom X.env.cells sc.names []) pm c' ctv) → H1 f = none → f ∉ frs X.stack → Q (.ref f) t) :
    wpAny (model X.prog X.w) X.A (eval (.Lambda pr bd sc pos) X.env) Q E s := by
  obtain ⟨ps, atP, rows, told⟩ := hT
  have lowP := J.hok tp _ atP
  replace lowP : s.heap.get? tp = some { cls := .none, data := .fields ps } := lowP
  have clos := closure_ok hfr
  have gl := J.mod.glob.keeps J.bk
  have cdh := TB.code.keeps J.bk
  have bi := TB.bm.keeps J.bk
  refine PySem.W.kla_eval hdef ?_
  rcases hc : codeAmong pos ps.toList with _ | cv
  · refine PySem.W.kla_makeFunction (mg := X.mg) clos J.ok.glob gl hcd cdh lowP rows hc TB.gP bi fun c' ctv hp tk ext ge lt ⟨_, oc, vs, t, e, g1, g2, g3⟩ tab => ?_
    cases e
    have fresh : H c' = none := J.hok.fresh ge
    have far : s.heap.objs.size ≤ hp.objs.size := Nat.le_trans ge (Nat.le_of_lt lt)
    have apart : c' ≠ tp := fun z => by rw [z, atP] at fresh; cases fresh
    refine k hp.objs.size c' _ ctv _ _ (LamX.inv_table J atP (fun b o nb g => Heap.get?_push_of_some _ (ext b o nb g)) (Heap.get?_push_of_some _ tab) ge ⟨oc, vs, t, Heap.get?_push_of_some _ g1, g2, g3⟩)
      (.inr ⟨ps, _, atP, fresh, apart, rfl, by rw [row_list]; exact PySem.TriplesOk_snoc _ _ _ _ rows, fun p' cv hcv => LamX.among_app _ rows (by rw [← row_list]; exact hcv)⟩) upd_same (Heap.get?_push_size _ rfl) ?_ (nofr J far)
    rw [upd_ne (Nat.ne_of_gt lt), upd_ne (Nat.ne_of_gt (Nat.lt_of_lt_of_le (Heap.lt_size lowP) far))]
    exact J.hok.fresh far
  · obtain ⟨c', rfl, known⟩ := told pos cv hc
    refine PySem.W.kla_makeFunctionHit (mg := X.mg) clos J.ok.glob gl hcd cdh lowP rows hc bi fun ctv hp tk ext far => ?_
    exact k hp.objs.size c' _ ctv H _ (J.kept fun b o g => Heap.get?_push_of_some _ (ext b o g)) (.inl ⟨rfl, ps, pos, atP, hc⟩) known (Heap.get?_push_size _ rfl) (J.hok.fresh far) (nofr J far)
/-- the lambda as a nested function without statements -/
abbrev lamF (X : Cx) (params : Arguments) (scope : Scope) (c' : Addr) : NdefX.NF := ⟨"<lambda>", X.env.qual ++ "<lambda>", params, [], scope, cloFrom X.env.cells scope.names [], c'⟩
/-- the context of its body -/
abbrev lamC (X : Cx) (N : List Str) (params : Arguments) (scope : Scope) (c' f : Addr) (B : Around) (s : Shared) (H : Hp) (E : XK) : Cx := NdefX.ncx (L2.CX X.prog X.w) X.prog X.w X.K X.mg X.base N (lamF X params scope c') f B X.stack s H E
theorem run_lam1 {params : Arguments} {body : Expr} {scope : Scope} {f c' : Addr} {pm ctv : Value} {N fr : List Str} {js : List Nat} {x : Str} {B : Around} {k : Nat} {u : Value} {v : V} {tb : TE} {Q : VK} {E : XK} (I : Inv X pins σ H s) (hr : RoomG (k + 1) B) (e0 : Env0 X.prog X.w X.K X.mg X.base B X.stack s H)
    (S : NdefX.NScope N [x] fr scope) (Cp : NdefX.Caps X (cloFrom X.env.cells scope.names []) fr js)
    (hf : s.heap.get? f = some (PySem.W.kla_obj "<lambda>" (X.env.qual ++ "<lambda>") params body scope (cloFrom X.env.cells scope.names []) pm c' ctv)) (hc : H c' = some (LamX.CodeO c' (X.env.qual ++ "<lambda>")))
    (hbind : bindArgs (PySem.W.kla_fn "<lambda>" (X.env.qual ++ "<lambda>") params body scope (cloFrom X.env.cells scope.names []) pm (.ref c') ctv) ⟨[u], []⟩ = pure [(x, u)]) (rv : RelV v u)
    (hbody : RoomG k (lamC X N params scope c' f B s H E).A → PE (lamC X N params scope c' f B s H E) body tb) (h : tb (NdefX.startF N [v] (js.map (NdefX.slotAt σ))) H Q) : codeAny (model X.prog X.w) B (.call (.ref f) ⟨[u], []⟩) (CR (L2.CX X.prog X.w) X.stack X.prog X.w H s Q E) s := by
  have lim : s.heap.NoLimit := e0.mod.nolimit.keeps fun b o e => (e0.bs b o e).1
  have C := NdefX.cells_of I Cp
  refine PySem.W.kla_callFunE hr.rm.depth hf rfl S.co S.gen rfl (NdefX.codeO_at e0.hok hc) ?_
  rw [hbind]
  refine wpAny_pure (wpAny_newFunctionEnv S.nocell (fun ⟨n, _⟩ hy => by
    have e : n = x := by simpa using (List.of_mem_zip (show (n, _) ∈ [x].zip [u] from hy)).1
    rw [e]; exact S.par x List.mem_cons_self) (fun h₁ hns hsb => ⟨lim.fresh _ hsb, ?_⟩) S.kind)
  have kp : ∀ b o, s.heap.get? b = some o → h₁.get? b = some o := fun b o e => hsb.extBut b o (Nat.ne_of_lt (Heap.lt_size e)) (Heap.get?_push_of_some _ e)
  have J := NdefX.inv_startN (CX := L2.CX X.prog X.w) (F := lamF X params scope c') (f := f) (A := B) (outer := X.stack) (E := E) (vs := [v]) (us := [u]) (ps := [x]) (N := N) (tk := s.toks + 1) S hr.rm.hd e0 rfl (.cons rv .nil) C hns kp
  refine PySem.W.kla_codeExpr (wpAny_mono ((hbody (hr.deeper _)).run [] _ _ H Q J h) (fun v s' hq => ?_) fun e s' hq => hq)
  obtain ⟨w', H', J', rv', q⟩ := hq
  exact ⟨w', H', J'.os, J'.bare, J'.base, J'.hok, rv', q⟩
end
end L3
end
section
namespace L3
open PySem PySem.Spec PyProof.Rows L2
variable {G : Type} {K : PySem.W.Frag} {mg : Str → Option Value}
def TabF (F H : Hp) (P : Addr) (q : Str) : Prop := ∃ ps : Array Value, H P = some (.tbl ps) ∧ TriplesOk ps.toList ∧ ∀ (pos : Pos) (cv : Value), codeAmong pos ps.toList = some cv → ∃ c, cv = .ref c ∧ F c = some (LamX.CodeO c q)
theorem TabF.s {F H : Hp} {P : Addr} {q : Str} (h : TabF F H P q) (e : Ex F H) : LamX.TabS H P q := by
  obtain ⟨ps, h1, h2, h3⟩ := h
  refine ⟨ps, h1, h2, fun pos cv hc => ?_⟩
  obtain ⟨c, e1, e2⟩ := h3 pos cv hc
  exact ⟨c, e1, e _ _ e2⟩
def ZTab (P : Addr) (q : Str) (Z : Zx K G) : Zx K G where
  fp g := Z.fp g ++ [P]
  ra g := Z.ra g
  R g F H := Z.R g F H ∧ TabF F H P q ∧ P ∉ Z.fp g
  loc := fun {g F F' H H'} ⟨h1, h2, h3⟩ e k => ⟨Z.loc h1 e fun a ha => k a (List.mem_append_left _ ha), by
    obtain ⟨ps, p1, p2, p3⟩ := h2
    refine ⟨ps, (k P (List.mem_append_right _ (List.mem_singleton.mpr rfl))).trans p1, p2, fun pos cv hc => ?_⟩
    obtain ⟨c, e1, e2⟩ := p3 pos cv hc
    exact ⟨c, e1, e _ _ e2⟩, h3⟩
  there := fun {g F H} ⟨h1, h2, h3⟩ a ha => by
    rcases List.mem_append.mp ha with ha | ha
    · exact Z.there h1 a ha
    · obtain ⟨ps, p1, _⟩ := h2
      rw [List.mem_singleton.mp ha, p1]
      intro z; cases z
/-- a def over the other resource alone -/
theorem spTab {Z : Zx K G} {S : Spec G} {P : Addr} {q : Str} {vs : List V} {H : Hp} {Q : VK} {E : XK} (h : spZ (ZTab P q Z) S vs H Q E) : spZ Z S vs H Q E := by
  obtain ⟨F, g, as, T, U, h1, ⟨h2, h2t, h2n⟩, h3, h4, h5, h6, h7⟩ := h
  obtain ⟨ps, p1, p2, p3⟩ := h2t
  have hP : P ∈ (ZTab P q Z).fp g := List.mem_append_right _ (List.mem_singleton.mpr rfl)
  have fr : ∀ {F' H' : Hp} {g' : G}, Frm Z F H g F' H' g' → Frm (ZTab P q Z) F H g F' H' g' := fun {F' H' g'} r => by
    have nP : P ∉ Z.fp g' := fun hm => by
      rcases r.fpB P hm with z | z
      · exact h2n z
      · rw [p1] at z; cases z
    refine ⟨r.ex, fun b o e hn => r.keep b o e fun hm => hn (List.mem_append_left _ hm), r.keepN, r.new, r.sub, ⟨r.res, ⟨ps, r.keep P _ p1 h2n, p2, fun pos cv hc => ?_⟩, nP⟩, fun a ha => ?_, fun a ha => ?_⟩
    · obtain ⟨c, e1, e2⟩ := p3 pos cv hc
      exact ⟨c, e1, r.ex _ _ e2⟩
    · rcases List.mem_append.mp ha with ha | ha
      · exact r.fpF a ha
      · rw [List.mem_singleton.mp ha]
        cases e : F' P with
        | none => rfl
        | some o =>
          rcases r.new P o e with z | z
          · have := h3 P hP; rw [z] at this; cases this
          · rw [p1] at z; cases z
    · rcases List.mem_append.mp ha with ha | ha
      · rcases r.fpB a ha with z | z
        · exact .inl (List.mem_append_left _ z)
        · exact .inr z
      · exact .inl (List.mem_append_right _ ha)
  have nin : ∀ {a : Addr} {g' : G}, H a = none → a ∉ Z.fp g' → a ∉ (ZTab P q Z).fp g' := fun {a g'} h0 hn hm => by
    rcases List.mem_append.mp hm with hm | hm
    · exact hn hm
    · rw [List.mem_singleton.mp hm, p1] at h0; cases h0
  refine ⟨F, g, as, T, U, h1, h2, fun a ha => h3 a (List.mem_append_left _ ha), Paired.mapP h4 fun v r z => by cases r <;> exact z, h5, fun v r F' g' H' r1 er hv hT => h6 v r F' g' H' (fr r1) er ?_ hT, fun c fs dx F' g' H' r1 er hx hu => h7 c fs dx F' g' H' (fr r1) er hx hu⟩
  cases r with
  | nl ds => obtain ⟨a, vs, rfl, q1, q2, q3, q4, q5⟩ := hv; exact ⟨a, vs, rfl, q1, q2, nin q1 q3, q4, q5⟩
  | nd ds => obtain ⟨a, vs, rfl, q1, q2, q3, q4, q5⟩ := hv; exact ⟨a, vs, rfl, q1, q2, nin q1 q3, q4, q5⟩
  | _ => exact hv
theorem Ok.tab {P : Program} {w : World} {mm : Str → Option Value} {base : Heap} {k : Nat} {x : Str} {ps : List Str} {Z : Zx K G} {S : Spec G} {tp : Addr} {q : Str} (h : Ok P w K mm base k x ps (spZ Z S)) : Ok P w K mm base k x ps (spZ (ZTab tp q Z) S) := by
  obtain ⟨fa, fd, h1, h2, h3, h0, h4⟩ := h
  exact ⟨fa, fd, h1, h2, h3, h0, fun vs H Q E q => h4.len vs H Q E (spTab q), fun A outer s H args us vs Q E hr he hb hv hs => h4.run A outer s H args us vs Q E hr he hb hv (spTab hs)⟩
section
variable {X : Cx} {Zr : Zx K G} {P : Addr} {q : Str}
abbrev ZM (mg : Str → Option Value) (P : Addr) (q : Str) (Zr : Zx K G) : Zx K (G × OS) := ZSw mg (ZTab P q Zr) (fun _ _ _ _ => False) Un
def vvS (o : Option Sl) (k : V → Prop) : Prop := match o with
  | some (.vv u) => k u
  | _ => False
theorem vvS_e {o : Option Sl} {k : V → Prop} (h : vvS o k) : ∃ u, o = some (.vv u) ∧ k u := by
  unfold vvS at h
  split at h
  · exact ⟨_, rfl, h⟩
  · cases h
structure MinP (ns : List Int) (b : DT (G × OS)) (u : V) (g1 : G × OS) (Q : Int → Prop) : Prop where
  ex : 0 < ns.length ∧ ∃ kf : Int → Int, (∀ n ∈ ns, b [.dt (.int n), .vv u] g1 fun r ρ' g' => r = .dt (.int (kf n)) ∧ g' = g1) ∧ ∀ m, m ∈ ns → (∀ n ∈ ns, kf m ≤ kf n) → Q m
def dMinKey (j : Nat) (a : DA (G × OS)) (b : DT (G × OS)) : DT (G × OS) := fun ρ g Q => a ρ g fun rs ρ1 g1 => one (fun r => fz1 r ρ1 fun d ρ2 => lsD (fun ds => opK (intsL ds) fun ns => vvS ρ2[j]? fun u => MinP ns b u g1 fun m => Q (.dt (.int m)) ρ2 g1) (some d)) rs
/-- the reading on the machine's side: what the body tells at each state that the loop may come to -/
def tMinKey (P : Addr) (q : Str) (K : PySem.W.Frag) (j : Nat) (ta : TA) (tb : TE) : TE := fun σ H Q => ta σ H fun vs H1 => ∃ (a : Addr) (ns : List Int), vs = [.ref a] ∧ 0 < ns.length ∧ (∃ u, σ[j]? = some (some u)) ∧ LamX.TabS H1 P q ∧
  ∀ (H2 : Hp) (c' : Addr), Grew P c' q H1 H2 → H2 c' = some (LamX.CodeO c' q) →
    ∃ (kf : Int → Int) (JH : Hp → Prop), JH H2 ∧ (∀ H', JH H' → SqL K H' a (ns.map V.int) ∧ H' c' = some (LamX.CodeO c' q)) ∧ (∀ n ∈ ns, ∀ H', JH H' → tb (NdefX.startF ["_", "_"] [.int n] [NdefX.slotAt σ j]) H' fun v H'' => v = .int (kf n) ∧ JH H'') ∧ ∀ m ∈ ns, (∀ n ∈ ns, kf m ≤ kf n) → ∀ H', JH H' → Q (.int m) H'
theorem RoomG.in1 {n : Nat} {B : Around} (r : RoomG (n + 1) B) : RoomG n B.in1 := ⟨r.rm.in1, by
  have := r.gd
  first
    | exact this
    | (simpa [Around.in1] using this)⟩
theorem pe_minkey {c : Addr} {k j : Nat} {x y : Str} {e : Expr} {params : Arguments} {body : Expr} {scope : Scope} {p lpos kpos pos : Pos} {ta : TA} {tb : TE} (ha : PA X [e] ta) (TB : LamX.TabB X.base X.mg c P) (hcode : X.env.code = .ref c) (hr : RoomG (k + 2) X.A) (hm : X.mg "min" = none)
    (hbody : ∀ (c' f : Addr) (B : Around) (s : Shared) (H : Hp), RoomG k (lamC X [x, y] params scope c' f B s H fun _ _ _ => False).A → PE (lamC X [x, y] params scope c' f B s H fun _ _ _ => False) body tb)
    (hq : q = X.env.qual ++ "<lambda>" := by rfl) (hg : Gl X "min" := by rfl) (hN : X.N[j]? = some y := by rfl) (hdef : defaultsOf params X.env = ([], []) := by rfl)
    (S : NdefX.NScope [x, y] [x] [y] scope := by exact NdefX.nscope_by (by decide +kernel)) (hsc : scope.names = [(x, NameKind.local), (y, NameKind.free)] := by rfl) (hyk : X.env.scope.names.lookup y = some .cell := by rfl)
    (hbind : ∀ (qu : Str) (cl : List (Str × Addr)) (pm cv ctv u : Value), bindArgs (PySem.W.kla_fn "<lambda>" qu params body scope cl pm cv ctv) ⟨[u], []⟩ = pure [(x, u)] := by intro _ _ _ _ _ _; rfl)
    (he2 : backTo pos (starEach [e] X.env) = (false, eval e X.env) :: backTo pos (starEach [] X.env) := by rfl) (hpl : (backTo pos (starEach [e] X.env)).any (·.1) = false := by rfl) 
    (hv : bootBuiltins "min" = some (.builtin "min") := by rfl) :
    PE X (.Call (.Name "min" p) [e] [⟨some "key", .Lambda params body scope lpos, kpos⟩] pos) (tMinKey P q X.K j ta tb) := by
  subst hq
  have hfree : ∀ z ∈ scope.names, z.2 = .free → X.env.scope.names.lookup z.1 = some .cell ∨ X.env.scope.names.lookup z.1 = some .free := fun z hz ez => by
    rw [hsc] at hz
    simp only [List.mem_cons, List.not_mem_nil, or_false] at hz
    rcases hz with rfl | rfl
    · cases ez
    · exact .inl hyk
  have hfr : (y, NameKind.free) ∈ scope.names := by rw [hsc]; simp
  refine ⟨fun pins s σ H Q I h => ?_⟩
  refine wpAny_Call_Name_kw (ld_blt I hg hm hv ?_ (by decide) (by decide))
  refine PyProof.Rows.callWith_kw (thn (ha.run pos pins s σ H _ I h) fun us s1 ⟨vs, H1, I1, r1, q1⟩ => ?_) he2 hpl rfl rfl
  obtain ⟨a, ns, ev, hne, ⟨u0, hu0⟩, hT, q1⟩ := q1
  have hfree2 : ∀ z ∈ scope.names, z.2 = .free → ∃ c, X.env.cells.lookup z.1 = some c := fun z hz ez => (hfree z hz ez).elim (fun k => I1.ok.has _ (.inl k)) fun k => I1.ok.has _ (.inr k)
  refine PyProof.Rows.kws_cons (lam_make3 I1 TB hcode hT hdef hfree2 fun f c' pm ctv H2 s2 I2 hH2 hc2 hf2 hfn hfr2 => ?_)
  refine PyProof.Rows.kws_nil ?_
  obtain ⟨kf, JH, j0, j1, j2, j3⟩ := q1 H2 c' hH2 hc2
  subst ev
  cases r1 with
  | cons r rr =>
    cases rr
    obtain rfl := r
    have Cp : NdefX.Caps X (cloFrom X.env.cells scope.names []) [y] [j] := NdefX.Caps.made I1.ok hfree (fun z hz => by rw [List.mem_singleton.mp hz]; exact hfr) (by simp [hN])
    exact call_minkey (kf := kf) (JH := JH) I2 hr.rm.hd j0 (fun H' h' => (j1 H' h').1) hne hf2 hfn hfr2
      (fun s' H' n t hn IJ hJ' hf' => run_lam1 (tb := tb) (N := [x, y]) IJ (hr.in1) IJ.env0.in1 S Cp hf' (j1 H' hJ').2 (hbind _ _ _ _ _ _) (show RelV (V.int n) (Value.int n t) from ⟨t, rfl⟩) (hbody c' f _ s' H') (j2 n hn H' hJ'))
      (fun m t H' s' hm' hle IJ hJ' => ⟨.int m, H', IJ, ⟨t, rfl⟩, j3 m hm' hle H' hJ'⟩)
/-- .. over plain data -/
theorem sim_minkey {j : Nat} {ta : TA} {tb : TE} {a : DA (G × OS)} {b : DT (G × OS)} (ha : SimA (ZM mg P q Zr) ta a) (hb : Sim (ZM mg P q Zr) tb b) : Sim (ZM mg P q Zr) (tMinKey P q K j ta tb) (dMinKey j a b) := fun f F ad ρ g σ H Q R h Pv hP => by
  refine ha f F ad ρ g σ H _ R h _ fun vs H1 z => ?_
  obtain ⟨F1, ad1, ρ1, g1, rs, e1, eg1, R1, v1, z⟩ := z
  obtain ⟨r, rfl, z1⟩ := one_of z
  obtain ⟨d, ρ2, ef, z2⟩ := fz1_of z1
  obtain ⟨v, rfl, h0⟩ := vrs1 v1
  obtain ⟨F2, e2, R2, dv⟩ := R1.hfz h0 ef
  obtain ⟨ds, ed, z3⟩ := lsD_of z2
  cases ed
  obtain ⟨ns, ei, z4⟩ := opK_e z3
  obtain ⟨u, hu, ⟨⟨hne, kf, hk, hQ⟩⟩⟩ := vvS_e z4
  cases dv with
  | lst hF da =>
    rename_i a0 vs0
    rw [intsL_of ei] at da
    have ev := daAll_ints da
    subst ev
    have hs : σ[j]? = some (some u) := R2.slot j _ hu
    obtain ⟨⟨rz, rt, rn⟩, ro, rd⟩ : (ZTab P q Zr).R g1.1 F2 H1 ∧ OSR K mg g1.2 F2 H1 ∧ ∀ a ∈ (ZTab P q Zr).fp g1.1, a ∉ g1.2.ads := R2.fin.res
    have hPm : P ∈ (ZTab P q Zr).fp g1.1 := List.mem_append_right _ (List.mem_singleton.mpr rfl)
    refine ⟨a0, ns, rfl, hne, ⟨u, hs⟩, rt.s R2.fin.sub, fun H2 c' hH2 hc2 => ?_⟩
    obtain ⟨F3, e3, R3, hc3⟩ : ∃ F3, Ex F2 F3 ∧ Rel (ZM mg P q Zr) f F3 ad1 ρ2 g1 σ H2 ∧ F3 c' = some (LamX.CodeO c' q) := by
      rcases hH2 with ⟨rfl, ps, pos, h1, h2⟩ | ⟨ps, more, h1, h2, h3, rfl, h4, h5⟩
      · obtain ⟨ps', p1, p2, p3⟩ := rt
        rw [p1] at h1; cases h1
        obtain ⟨c, ec, hc⟩ := p3 pos _ h2
        cases ec
        exact ⟨F2, Evl.Ex.refl F2, R2, hc⟩
      · obtain ⟨Ra, na⟩ := R2.laid (o := LamX.CodeO c' q) h2
        obtain ⟨Rb, eb⟩ := Ra.froze na upd_same
        refine ⟨_, eb, ?_, upd_same⟩
        have comm : upd (upd H1 P (.tbl (ps ++ more))) c' (LamX.CodeO c' q) = upd (upd H1 c' (LamX.CodeO c' q)) P (.tbl (ps ++ more)) := by
          funext b
          unfold L2.upd
          by_cases b1 : b = c'
          · rw [if_pos b1, b1, if_neg h3, if_pos rfl]
          · rw [if_neg b1]
            by_cases b2 : b = P
            · rw [if_pos b2, if_pos b2]
            · rw [if_neg b2, if_neg b2, if_neg b1]
        rw [comm]
        refine Rb.upR (g' := g1) (a := P) (List.mem_append_left _ hPm) rfl rfl ?_
        obtain ⟨ps', p1, p2, p3⟩ := rt
        rw [p1] at h1; cases h1
        have hne2 : ∀ {b : Addr}, b ≠ P → b ≠ c' → upd (upd H1 c' (LamX.CodeO c' q)) P (.tbl (ps ++ more)) b = H1 b := fun {b} q1 q2 => by rw [upd_ne q1, upd_ne q2]
        have ncf : ∀ b, H1 b ≠ none → b ≠ c' := fun b hb z => hb (by rw [z]; exact h2)
        refine ⟨⟨Zr.loc rz eb fun a ha => hne2 (fun z => rn (by rw [← z]; exact ha)) (ncf a (Zr.there rz a ha)), ⟨ps ++ more, upd_same, h4, fun pos cv hcv => ?_⟩, rn⟩, ro.keep eb fun a ha => hne2 (fun z => rd P hPm (by rw [← z]; exact ha)) (ncf a ?_), rd⟩
        · rcases h5 pos cv hcv with z | z
          · obtain ⟨c, ec, hc⟩ := p3 pos cv z
            exact ⟨c, ec, eb _ _ hc⟩
          · exact ⟨c', z, upd_same⟩
        · obtain ⟨p, hp, rfl⟩ := List.mem_map.mp ha
          exact (ro.at_ p hp).there
    refine ⟨kf, fun H' => ∃ F' ad', Ex F3 F' ∧ Rel (ZM mg P q Zr) f F' ad' ρ2 g1 σ H', ⟨F3, ad1, Evl.Ex.refl F3, R3⟩, fun H' ⟨F', ad', e', R'⟩ => ⟨.inl (.inl (R'.fin.sub _ _ (e' _ _ (e3 _ _ hF)))), R'.fin.sub _ _ (e' _ _ hc3)⟩, fun n hn H' ⟨F', ad', e', R'⟩ => ?_, fun m hm hle H' ⟨F', ad', e', R'⟩ => ?_⟩
    · have R0 := rel_entry (Z := ZM mg P q Zr) (N := ["_", "_"]) (as := [.dt (.int n), .vv u]) (vs := [.int n, u]) R'.fin.sub R'.fin.res R'.fin.fpF (.cons (Da.int n) (.cons rfl .nil)) (Nat.le_refl 2) (fun _ _ _ _ _ _ _ _ _ _ _ _ z => z.elim)
      have es : NdefX.startF ["_", "_"] [.int n] [NdefX.slotAt σ j] = L2.start ["_", "_"] [.int n, u] := by
        rw [NdefX.slotAt_of hs]; rfl
      rw [es]
      refine hb _ F' _ _ g1 _ H' _ R0 (hk n hn) _ fun v H'' p => ?_
      obtain ⟨F4, ad4, ρ4, g4, r4, e4, eg4, R4, v4, rfl, rfl⟩ := p
      obtain rfl : v = .int (kf n) := by cases (show Da K F4 v (.int (kf n)) from v4); rfl
      exact ⟨rfl, F4, ad', e'.trans e4, R'.called ⟨R4.fin.base, R4.fin.keep, R4.fin.keepN, R4.fin.new, R4.fin.sub, R4.fin.res, R4.fin.fpF, R4.fin.fpB⟩ rfl⟩
    · exact hP _ H' ⟨F', ad', ρ2, g1, .dt (.int m), e1.trans (e2.trans (e3.trans e')), eg1, R', Da.int m, hQ m hm hle⟩
theorem e_minkey {c : Addr} {k j : Nat} {x y : Str} {e : Expr} {params : Arguments} {body : Expr} {scope : Scope} {p lpos kpos pos : Pos} {ta : TA} {tb : TE} {a : DA (G × OS)} {b : DT (G × OS)} (TB : LamX.TabB X.base X.mg c P) (hcode : X.env.code = .ref c) (hr : RoomG (k + 2) X.A) (hm : X.mg "min" = none)
    (ha : DAs X (ZM mg P q Zr) [e] ta a) (hbody : ∀ (c' f : Addr) (B : Around) (s : Shared) (H : Hp), RoomG k (lamC X [x, y] params scope c' f B s H fun _ _ _ => False).A → DE (lamC X [x, y] params scope c' f B s H fun _ _ _ => False) (ZM mg P q Zr) body tb b)
    (hsim : Sim (ZM mg P q Zr) tb b) (hN : X.N[j]? = some y := by rfl) (hK : K = X.K := by rfl)
    (hq : q = X.env.qual ++ "<lambda>" := by rfl) (hg : Gl X "min" := by rfl) (hdef : defaultsOf params X.env = ([], []) := by rfl)
    (S : NdefX.NScope [x, y] [x] [y] scope := by exact NdefX.nscope_by (by decide +kernel)) (hsc : scope.names = [(x, NameKind.local), (y, NameKind.free)] := by rfl) (hyk : X.env.scope.names.lookup y = some .cell := by rfl)
    (hbind : ∀ (qu : Str) (cl : List (Str × Addr)) (pm cv ctv u : Value), bindArgs (PySem.W.kla_fn "<lambda>" qu params body scope cl pm cv ctv) ⟨[u], []⟩ = pure [(x, u)] := by intro _ _ _ _ _ _; rfl)
    (he2 : backTo pos (starEach [e] X.env) = (false, eval e X.env) :: backTo pos (starEach [] X.env) := by rfl) (hpl : (backTo pos (starEach [e] X.env)).any (·.1) = false := by rfl)
    (hv : bootBuiltins "min" = some (.builtin "min") := by rfl) :
    DE X (ZM mg P q Zr) (.Call (.Name "min" p) [e] [⟨some "key", .Lambda params body scope lpos, kpos⟩] pos) (tMinKey P q K j ta tb) (dMinKey j a b) :=
  ⟨by
    rw [hK]
    exact pe_minkey ha.pa TB hcode hr hm (fun c' f B s H hr' => (hbody c' f B s H hr').pe) hq hg hN hdef S hsc hyk hbind he2 hpl hv, sim_minkey ha.sim hsim⟩
end
end L3
end
section
namespace L3
open PySem PySem.Spec PyProof.Rows L2
section
variable {P : Program} {w : World} {K : PySem.W.Frag} {mg : Str → Option Value} {base : Heap} {CC : CXT}
/-- funG, the code object known -/
theorem funGC {x qual : Str} {st : Stmt} {fa cd : Addr} {fd : FuncData} {N qs : List Str} {n : Nat} {sp : Sp} (Fu : Fun K x qual st fa fd) (hcd0 : fd.code = .ref cd) (Sc : FnScope N qs (defScope st)) (len : ∀ us H Q E, sp us H Q E → us.length = qs.length)
    (body : ∀ (B : Around) (oe : List Env) (s : Shared) (H : Hp) (vs : List V) (Q : VK) (E : XK), RoomG n (B.deeper (PyProof.Rows.envOfC qual (defScope st) s.heap.objs.size fa (.ref cd))) → sp vs H Q E →
      ∃ t, PSs (cxOf CC P w K mg base N qual (defScope st) fa (.ref cd) B oe s H E) (defBody st) t ∧ t { nx := fun _ H' => Q .non H', rt := Q } (L2.start N vs) H) : FnG P w K mg base CC (n + 1) fa fd qs sp := by
  obtain ⟨oc, od, kV, doc, pm, an, cdv, ct, osl, rfl, lk, hcd⟩ := Fu.ex
  obtain rfl : cdv = .ref cd := hcd0
  refine ⟨len, fun B oe s H as us vs Q E hr c0 hb r hsp => ?_⟩
  have vl := len _ _ _ _ hsp
  have kin : K.In s.heap := c0.mod.kin.keeps fun b o q => (c0.bs b o q).1
  have nol : s.heap.NoLimit := c0.mod.nolimit.keeps fun b o q => (c0.bs b o q).1
  have kinds : ∀ y ∈ qs.zip us, (defScope st).names.lookup y.1 = some .local ∨ ((defScope st).names.lookup y.1 = some .cell ∧ ((cellsFrom (s.heap.objs.size + 1) (defScope st).names []).lookup y.1).isSome = true) := fun ⟨m, v⟩ hy => by
    rcases Sc.par m (List.of_mem_zip hy).1 with q | q
    · exact .inl q
    · exact .inr ⟨q, PySem.W.cellsFrom_some _ _ _ (.inl q)⟩
  refine codeAny_call_function hr.rm.depth (kin _ _ lk) rfl Sc.co Sc.gen rfl (PySem.W.codeRec_of kin hcd) (hb _ _ _ _ ?_)
  refine wpAny_newFunctionEnv_cells Sc.kind kinds fun en he s1 y => ?_
  subst he
  refine ⟨nol.keeps y.toInCall.keep, codeAny_func ?_⟩
  obtain ⟨t, ht, hq⟩ := body B oe s H vs Q E (hr.deeper _) hsp
  have J : Inv (cxOf CC P w K mg base N qual (defScope st) fa (.ref cd) B oe s H E) [] (L2.start N vs) H s1 := inv_start Sc hr.rm.hd c0 vl r y
  refine wpAny_mono (ht.run [] s1 (L2.start N vs) H _ J hq) (fun fl s' hs => ?_) fun e s' hs => hs
  cases fl with
  | ret u => obtain ⟨v, σ', H', I, rv, q⟩ := hs; exact ⟨v, H', I.os, I.bare, I.base, I.hok, rv, q⟩
  | next => obtain ⟨σ', H', I, q⟩ := hs; exact ⟨.non, H', I.os, I.bare, I.base, I.hok, rfl, q⟩
  | brk => obtain ⟨_, _, _, q⟩ := hs; exact q.elim
  | cont => obtain ⟨_, _, _, q⟩ := hs; exact q.elim
/-- a method that stands in its class, its code object at cd -/
def DfnMC (K : PySem.W.Frag) (mg : Str → Option Value) (x m q : Str) (s : Stmt) (ps : List Str) (cd : Addr) : Prop := ∃ C fa fd, mg x = some (.ref C) ∧ Fun K m q s fa fd ∧ fd.code = .ref cd ∧ Meth K C m fa ∧ Binds K fd ps []
theorem DfnMC.ok {G : Type} {x m q : Str} {s : Stmt} {N ps : List Str} {k : Nat} {cd : Addr} {Z : Zx K G} {S : Spec G} (D : DfnMC K mg x m q s ps cd) (Sc : FnScope N ps (defScope s)) (hS : ∀ as g T U, S as g T U → as.length = ps.length) (hN : ps.length ≤ N.length)
    (body : ∀ (fa : Addr) (A : Around) (outer : List Env) (s' : Shared) (H : Hp) (E : XK), RoomG k (A.deeper (PyProof.Rows.envOfC q (defScope s) s'.heap.objs.size fa (.ref cd))) →
      ∃ ts t, DSs (cxOf (L2.CX P w) P w K mg base N q (defScope s) fa (.ref cd) A outer s' H E).nox (Z.wish (fun _ _ _ _ => False) Un) (defBody s) ts t ∧ ∀ as g T U, S as g T U → t { nx := fun _ g' => T (.dt .none) g', rt := T } (entry N as) g) : OkM P w K mg base (k + 1) x m ps (spZ Z S) := by
  obtain ⟨C, fa, fd, hm, Fu, hcd, Me, hb⟩ := D
  refine ⟨C, fa, fd, hm, Me, hb, funGC Fu hcd Sc (fun vs H Q E h => ?_) (fun A outer s' H vs Q E hr h => ?_)⟩
  · obtain ⟨F, g, as, T, U, h1, h2, h3, h4, h5, _⟩ := h
    rw [argR_len h4]
    exact hS as g T U h5
  · obtain ⟨F, g, as, T, U, h1, h2, h3, h4, h5, h6, h7⟩ := h
    obtain ⟨ts, t, hd, hb⟩ := body fa A outer s' H E hr
    exact ⟨ts, hd.ps.nox, body3 h1 h2 h3 h4 (hS as g T U h5) hN (fun _ _ _ _ _ _ _ _ _ _ _ _ z => z.elim) h6 hd.sim (hb as g T U h5)⟩
end
/-- the law is called where one table of code objects stands empty -/
theorem law_callGT {P : Program} {w : World} {K : PySem.W.Frag} {mg mb : Str → Option Value} {CC : CXT} {n : Nat} {fa a tp cd : Addr} {fd : FuncData} {x : Str} {sp : Sp} {s0 : Shared} {vs : List Value} {ns : List Int}
    (kin : K.In s0.heap) (hns : s0.heap.Ns mainGlobals mg) (hbn : s0.heap.Ns builtinsNs mb) (hbb : ∀ y : Str, y ≠ "__name__" → mb y = bootBuiltins y) (nol : s0.heap.NoLimit) (gens : s0.gens = #[])
    (tab : s0.heap.get? tp = some { cls := .none, data := .fields #[] }) (ntab : K.lookup tp = none) (chd : PySem.W.CodeHd s0.heap cd tp)
    (bi : ∃ (bm : Addr) (ob : Obj), mg "__builtins__" = some (.ref bm) ∧ bm ≠ builtinsNs ∧ s0.heap.get? bm = some ob ∧ ob.cls = .type "module" ∧ ob.dict = some builtinsNs ∧ ob.data = .plain)
    (ha : s0.heap.get? a = some { cls := .type "list", data := .seq vs.toArray }) (hi : IntsAre vs ns) (hl : ns.length ≤ sizeLine) (hr : RoomG n callerA)
    (F : ∀ base : Heap, K.In base → base.Ns mainGlobals mg → LamX.TabB base mg cd tp → FnG P w K mg base CC n fa fd [x] sp) (hbind : ∀ (s : Shared) (v : Value), BindsTo s fd ⟨[v], []⟩ [(x, v)])
    (hsp : ∀ G : Hp, G tp = some (.tbl #[]) → SqL K G a (ns.map V.int) → sp [.ref a] G (fun v _ => v = .bl true) fun _ _ _ => False)
    (hCC : ∀ G e t, CC [] G s0 (fun _ _ _ => False) e t → False) :
    codeAny (model P w) callerA (.call (.ref fa) ⟨[.ref a], []⟩) (fun r t => r = .ok (.ret (.bool true)) ∧ OldK s0.heap t.heap ∧ t.os = s0.os ∧ AllBare t.gens) s0 := by
  have rv := vals_ints hi
  have vlen := hi.length
  have atp : a ≠ tp := fun z => by rw [z, tab] at ha; cases ha
  have core : ∀ G : Hp, G tp = some (.tbl #[]) → (∀ b, b ≠ tp → G b = none ∨ ∃ o xs, G b = some (.frz o (.lst xs))) → SqL K G a (ns.map V.int) → HOk P w G s0.heap → (∀ b, G b ≠ none → b = a ∨ b = tp) → (G a ≠ none → K.lookup a = none) →
      codeAny (model P w) callerA (.call (.ref fa) ⟨[.ref a], []⟩) (fun r t => r = .ok (.ret (.bool true)) ∧ OldK s0.heap t.heap ∧ t.os = s0.os ∧ AllBare t.gens) s0 := by
    intro G gT gO gS gk gA gK
    have low : ∀ {b : Addr} {o : Obj}, s0.heap.get? b = some o → G b = none → (hidT s0.heap G).get? b = some o := fun q z => hidT_get q z
    have un0 : ∀ {b : Addr}, b ≠ a → b ≠ tp → G b = none := fun {b} h1 h2 => by
      cases z : G b with
      | none => rfl
      | some u => rcases gA b (by rw [z]; simp) with e | e
                  · exact absurd e h1
                  · exact absurd e h2
    have noD : ∀ {b : Addr} {o : Obj} {es : Array DictEntry} {ep : Nat}, s0.heap.get? b = some o → o.data = .dict es ep → G b = none := fun {b o es ep} q d => un0 (fun e => by subst e; rw [ha] at q; cases q; cases d) (fun e => by subst e; rw [tab] at q; cases q; cases d)
    have nsL : ∀ {b : Addr} {m : Str → Option Value}, s0.heap.Ns b m → (hidT s0.heap G).Ns b m := fun {b m} ⟨o, es, ep, q, d, r⟩ => ⟨o, es, ep, low q (noD q d), d, r⟩
    have kinL : K.In (hidT s0.heap G) := fun b o q => low (kin b o q) (by
      cases z : G b with
      | none => rfl
      | some u =>
        rcases gA b (by rw [z]; simp) with ea | ea
        · subst ea
          rw [gK (by rw [z]; simp)] at q; cases q
        · subst ea
          rw [ntab] at q; cases q)
    have md : Mod K mg (hidT s0.heap G) := ⟨kinL, nsL hns, ⟨mb, nsL hbn, hbb⟩, let ⟨mc, h1, h2⟩ := nol; ⟨mc, nsL h1, h2⟩⟩
    have gm : ∀ {b : Addr}, b = mainGlobals → s0.heap.get? b ≠ some { cls := .none, data := .fields #[] } := fun {b} e q => by
      obtain ⟨o, es, ep, e1, d, _⟩ := hns
      rw [e, e1] at q; cases q; cases d
    have TB : LamX.TabB (hidT s0.heap G) mg cd tp := by
      refine ⟨?_, ?_, fun z => gm z.symm tab⟩
      · obtain ⟨o, us, f1, f2, f3, f4, f5, f6, f7, e1, r1, r2, r3, r⟩ := chd
        exact ⟨o, us, f1, f2, f3, f4, f5, f6, f7, low e1 (un0 (fun e => by subst e; rw [ha] at e1; cases e1; cases r2) (fun e => by subst e; rw [tab] at e1; cases e1; cases r2; simp at r3)), r1, r2, r3, r⟩
      · obtain ⟨bm, ob, b1, b2, b3, b4, b5, b6⟩ := bi
        refine ⟨bm, ob, b1, b2, fun z => ?_, fun z => ?_, low b3 (un0 (fun e => by subst e; rw [ha] at b3; cases b3; cases b6) (fun e => by subst e; rw [tab] at b3; cases b3; cases b6)), b4, b5, b6⟩
        · obtain ⟨o, es, ep, e1, d, _⟩ := hns
          rw [z, e1] at b3; cases b3; rw [d] at b6; cases b6
        · rw [z, tab] at b3; cases b3; cases b6
    have c0 : Env0 P w K mg (hidT s0.heap G) callerA [] s0 G := ⟨rfl, md, fun b o q => of_hidT q, Nat.le_of_eq (hidT_size _ _), trivial, fun b hb => (nomatch hb), gk, .of_eq gens⟩
    refine codeAny_mono ((F _ kinL (nsL hns) TB).run callerA [] s0 G ⟨[.ref a], []⟩ [.ref a] [.ref a] _ _ hr c0 (hbind s0 (.ref a)) (.cons rfl .nil) (hsp G gT gS)) fun r t hq => ?_
    cases r with
    | error er => exact (hCC G er t hq).elim
    | ok fl =>
      cases fl with
      | next => exact hq.elim
      | brk => exact hq.elim
      | cont => exact hq.elim
      | ret u =>
        obtain ⟨v, G2, os, bare, un, gk2, r2, q⟩ := hq
        replace q : v = .bl true := q
        subst q
        obtain rfl : u = Value.bool true := r2
        have same : ∀ b o, b ≠ tp → s0.heap.get? b = some o → t.heap.get? b = some o := fun b o nb q => by
          cases z : G b with
          | none => exact un.keep b o q z (fun y => nomatch y) (fun y => nomatch y)
          | some u =>
            rcases gO b nb with y | ⟨ob, xs, y⟩
            · rw [z] at y; cases y
            · have y2 := un.frzs b ob _ y
              obtain ⟨e1, _⟩ := gk b _ y
              obtain ⟨e2, _⟩ := gk2 b _ y2
              rw [q] at e1; cases e1
              exact e2
        obtain ⟨more, hmore⟩ := un.tbls tp #[] gT
        have grown : t.heap.get? tp = some { cls := .none, data := .fields (#[] ++ more) } := gk2 tp _ hmore
        refine ⟨rfl, ⟨fun b o q => ?_, fun b o q => ?_⟩, os, bare⟩ <;> by_cases nb : b = tp
        · subst nb
          rw [tab] at q; cases q
          exact .inr (.inl ⟨(chd.tab tab).isCodeTable, rfl, #[], more, rfl, grown⟩)
        · exact .inl (same b o nb q)
        · subst nb
          exact ⟨_, grown⟩
        · exact ⟨o, same b o nb q⟩
  cases kl : K.lookup a with
  | some o =>
    have q := kin a o kl
    rw [ha] at q
    cases q
    refine core (fun b => if b = tp then some (.tbl #[]) else none) (if_pos rfl) (fun b nb => .inl (if_neg nb)) (.inr ⟨_, vs.toArray, _, kl, rfl, rfl, rfl, by rw [List.size_toArray, vlen]; exact hl, by simpa using rv⟩) (fun b u z => ?_) (fun b z => ?_) fun z => absurd (if_neg atp) z
    · by_cases eb : b = tp
      · have z2 := (if_pos eb).symm.trans z
        cases z2
        rw [eb]; exact tab
      · have z2 := (if_neg eb).symm.trans z
        cases z2
    · by_cases eb : b = tp
      · exact .inr eb
      · exact absurd (if_neg eb) z
  | none =>
    refine core (fun b => if b = a then some (.frz { cls := .type "list", data := .seq vs.toArray } (.lst (ns.map V.int))) else if b = tp then some (.tbl #[]) else none) ((if_neg (fun z => atp z.symm)).trans (if_pos rfl)) (fun b nb => ?_) (.inl (.inr ⟨{ cls := .type "list", data := .seq vs.toArray }, if_pos rfl⟩)) (fun b u z => ?_) (fun b z => ?_) fun _ => kl
    · by_cases eb : b = a
      · exact .inr ⟨_, _, if_pos eb⟩
      · exact .inl ((if_neg eb).trans (if_neg nb))
    · by_cases eb : b = a
      · have z2 := (if_pos eb).symm.trans z
        cases z2
        subst eb
        exact ⟨ha, by rw [List.length_map]; exact hl, vs, _, rv, ha⟩
      · have z2 := (if_neg eb).symm.trans z
        by_cases ec : b = tp
        · have z3 := (if_pos ec).symm.trans z2
          cases z3
          rw [ec]; exact tab
        · have z3 := (if_neg ec).symm.trans z2
          cases z3
    · by_cases eb : b = a
      · exact .inl eb
      · by_cases ec : b = tp
        · exact .inr ec
        · exact absurd ((if_neg eb).trans (if_neg ec)) z
/-- the end of a law with a table -/
theorem walk_ofGT {l : PySem.W.OpenLaw} {m n : Nat} {q : Program} {loose : List Str} {XP : (Str → Option Value) → Heap → Prop} {YP : World → Heap → Prop} {d : DefRec} {K : Params → PySem.W.Frag} {CC : World → CXT} {sp : World → Addr → Sp} {x : Str}
    (hm : l.most = some m) (hm2 : m ≤ sizeLine) (hdf : d.params.defaults = []) (hr : RoomG n callerA) (hY : ∀ (w : World) (h : Heap), YP w h → (K w.params).In h)
    (F : ∀ (w : World) (mg : Str → Option Value) (fa : Addr) (h : Heap), YP w h → (K w.params).In h → h.Ns mainGlobals mg → mg d.name = some (.ref fa) →
      ∃ (fd : FuncData) (cd tp : Addr), (∀ (s : Shared) (v : Value), BindsTo s fd ⟨[v], []⟩ [(x, v)]) ∧ h.get? tp = some { cls := .none, data := .fields #[] } ∧ (K w.params).lookup tp = none ∧ PySem.W.CodeHd h cd tp ∧
        ∀ base : Heap, (K w.params).In base → base.Ns mainGlobals mg → LamX.TabB base mg cd tp → FnG l.prog w (K w.params) mg base (CC w) n fa fd [x] (sp w tp))
    (hsp : ∀ (w : World) (H : Hp) (a tp : Addr) (ns : List Int), ns.length ≤ m → H tp = some (.tbl #[]) → SqL (K w.params) H a (ns.map V.int) → sp w tp [.ref a] H (fun v _ => v = .bl true) fun _ _ _ => False)
    (hCC : ∀ (w : World) (H : Hp) (s : Shared) (e : Value) (t : Shared), CC w [] H s (fun _ _ _ => False) e t → False) : PySem.W.WalkO q loose XP YP l.row.toRowW d [] (fun f vs => PySem.call f vs) := by
  refine Att.attach_call hm hdf fun w s0 s1 mg mb fa o pm cd doc a vs ns G Y ho hd hcd hmg hobj hints hlen hg => ?_
  obtain ⟨fd, c1, tp, hb, ht, hn, hc, hF⟩ := F w mg fa _ Y (hY w _ Y) G.T.g hmg
  exact law_callGT (hY w _ Y) G.T.g G.T.b G.T.builtins G.T.nolimit hg ht hn hc G.T.bmain hobj hints (Nat.le_trans hlen hm2) hr hF hb (fun H hT hS => hsp w H a tp ns hlen hT hS) fun H e t => hCC w H s1 e t
/-- a law's promise where the table stands empty -/
def spLawT (K : PySem.W.Frag) (tp : Addr) : Sp := fun vs H Q _ => ∃ (a : Addr) (ns : List Int), vs = [.ref a] ∧ H tp = some (.tbl #[]) ∧ SqL K H a (ns.map V.int) ∧ ∀ H', Q (.bl true) H'
theorem law_simTT {K : PySem.W.Frag} {ts : TS} {t : DS TPg} {N : List Str} {j : Nat} {a tp : Addr} {q : Str} {ns : List Int} {H : Hp} {Q : VK} (hd : SimS ((ZTab tp q (ZT K)).wish (fun _ _ _ _ => False) Un) ts t) (hT : H tp = some (.tbl #[])) (hS : SqL K H a (ns.map V.int)) (hq : ∀ H', Q (.bl true) H') (hj : j < N.length)
    (hN : 0 < N.length) (hb : ∀ g : TPg, g.left = 1000000000000000 → t (lawD TPg) (lawE N j) g) : tSeq (tAsg (tCallE (spTape K) [] (fun _ => E0) (tCons (tVar 0) tNil)) (gName j)) ts { nx := fun _ H' => Q .non H', rt := Q } (L2.start N [.ref a]) H := by
  have h0 : (L2.start N [.ref a])[0]? = some (some (.ref a)) := by
    unfold L2.start
    rfl
  have hl : (L2.start N [.ref a]).length = N.length := by
    unfold L2.start
    rw [List.length_append, List.length_map, List.length_replicate]
    show 1 + (N.length - 1) = N.length
    omega
  refine ⟨.ref a, h0, a, ns, rfl, hS, fun H' g e n1 n2 hJ hle => ?_⟩
  have hT' : H' tp = some (.tbl #[]) := e _ _ hT
  have hn : tp ∉ (ZT K).fp g := fun hm => by
    have hm : tp ∈ [g.a, g.b] := hm
    simp at hm
    rcases hm with rfl | rfl
    · rw [n1] at hT; cases hT
    · rw [n2] at hT; cases hT
  have hR : (ZTab tp q (ZT K)).R g (fun _ => none) H' := ⟨hJ, ⟨#[], hT', True.intro, fun pos cv hc => by
    have z : codeAmong pos [] = some cv := hc
    simp [codeAmong] at z⟩, hn⟩
  refine hd ⟨H', fun _ => none, (ZTab tp q (ZT K)).fp g⟩ (fun _ => none) (fun _ => 0) (lawE N j) g _ H' (lawD TPg) (law_rel (Z := (ZTab tp q (ZT K)).wish (fun _ _ _ _ => False) Un) hR (by rw [List.length_set, hl]) (by rw [List.getElem?_set_self (by rw [hl]; exact hj)]; rfl) fun _ _ _ _ z => z) (hb g hle) _ ⟨fun _ _ _ _ _ _ _ _ z => z.elim, fun F' g' H2 v r _ _ hv hT => ?_, fun _ _ _ _ _ _ _ _ z => z.elim, fun _ _ _ _ _ _ _ _ z => z.elim⟩
  cases (show r = .dt (.bool true) from hT)
  cases (show Da K F' v (.bool true) from hv)
  exact hq H2
end L3
end
section
namespace L3
open PySem PySem.Spec PyProof.Rows L2
variable {G : Type} {K : PySem.W.Frag} {mg : Str → Option Value} {X : Cx} {Z : Zx K G}
section
variable {W : WXH} {U : UX (G × OS)}
def cellsK : List Rs → En → (List Cell → En → Prop) → Prop
  | [], ρ, k => k [] ρ
  | r :: rs, ρ, k => cellK r ρ fun c ρ1 => cellsK rs ρ1 fun cs ρ2 => k (c :: cs) ρ2
theorem Rel.cells {f : Fx} {ad : Nat → Addr} {g : G × OS} {σ : L2.St} {H : Hp} : ∀ {vs : List V} {rs : List Rs} {F : Hp} {ρ : En} {k : List Cell → En → Prop}, Rel (ZSw mg Z W U) f F ad ρ g σ H → VRs (ZSw mg Z W U) f F ad ρ g σ H vs rs → cellsK rs ρ k →
    ∃ F' cs ρ', Ex F F' ∧ Rel (ZSw mg Z W U) f F' ad ρ' g σ H ∧ CellsV K F' vs cs ∧ k cs ρ'
  | _, [], F, ρ, k, R, .nil, h => ⟨F, [], ρ, Evl.Ex.refl F, R, .nil, h⟩
  | _, r :: rs, F, ρ, k, R, .cons ⟨r0, er, hv⟩ t, h => by
    have hv2 := hv
    rw [← er] at hv2
    obtain ⟨F1, c, ρ1, e1, R1, c1, h1⟩ := R.cell hv2 h
    obtain ⟨F2, cs, ρ2, e2, R2, c2, h2⟩ := Rel.cells R1 (Paired.mapP t fun v r ⟨r0, er, z⟩ => ⟨r0, er, z.held e1 rfl⟩) h1
    exact ⟨F2, c :: cs, ρ2, e1.trans e2, R2, .cons (c1.mono e2) c2, h2⟩
def dTupO (a : DA (G × OS)) : DT (G × OS) := fun ρ g Q => a ρ g fun rs ρ1 g1 => cellsK rs ρ1 fun cs ρ2 => leK cs.length 16777216 (∀ p, OS.look g1.2 p = none → Q (.vv (.ref p)) ρ2 (g1.1, (p, .tp cs) :: g1.2))
theorem sim_tupO {ta : TA} {a : DA (G × OS)} (ha : SimA (ZSw mg Z W U) ta a) : Sim (ZSw mg Z W U) (tTup ta) (dTupO a) := fun f F ad ρ g σ H Q R q P hP => by
  refine ha f F ad ρ g σ H _ R q _ fun vs H1 q => ?_
  obtain ⟨F1, ad1, ρ1, g1, rs, e1, eg1, R1, v1, q⟩ := q
  obtain ⟨F2, cs, ρ2, e2, R2, cv, q⟩ := R1.cells v1 q
  obtain ⟨hl, q⟩ := leK_e q
  refine ⟨by rw [sizeLine_eq, Paired.length cv]; exact hl, fun p hp => ?_⟩
  obtain ⟨R3, n3⟩ := R2.laid (o := .tup vs) hp
  obtain ⟨R4, hn⟩ := R3.newS n3 (y := .tp cs) ⟨vs, upd_same, cv⟩
  exact hP _ _ ⟨F2, ad1, ρ2, (g1.1, (p, .tp cs) :: g1.2), .vv (.ref p), e1.trans e2, eg1, R4, rfl, q p hn⟩
theorem e_tupO {es : List Expr} {ta : TA} {a : DA (G × OS)} {x1} {pos : Pos} (h : DAs X (ZSw mg Z W U) es ta a) : DE X (ZSw mg Z W U) (.Tuple es x1 pos) (tTup ta) (dTupO a) := ⟨pe_tup h.pa, sim_tupO h.sim⟩
end
def frzSp (S : Spec (G × OS)) : Spec G := fun as g T _ => S as (g, []) (fun r g' => g'.1 = g ∧ vvK r fun p => ∃ d, ODat g'.2 (.r p) d ∧ T (.dt d) g) (fun _ _ _ => False)
theorem spFrz {S : Spec (G × OS)} {vs : List V} {H : Hp} {Q : VK} {E : XK} (h : spZ Z (frzSp S) vs H Q E) : spZ (ZS mg Z) S vs H Q E := by
  obtain ⟨F, g, as, T, U, h1, h2, h3, h4, h5, h6, h7⟩ := h
  have fpe : ∀ {a : Addr}, a ∈ (ZS mg Z).fp (g, []) → a ∈ Z.fp g := fun {a} ha => by
    have ha2 : a ∈ Z.fp g ++ [] := ha
    rwa [List.append_nil] at ha2
  refine ⟨F, (g, []), as, _, _, h1, ⟨h2, ⟨fun p hp => (nomatch hp), List.nodup_nil⟩, fun a _ hm => (nomatch hm)⟩, fun a ha => h3 a (fpe ha), Paired.mapP h4 fun v r z => by cases r <;> exact z, h5, fun v r F' g' H' fr er hv hT => ?_, fun c fs dx F' g' H' _ _ _ hu => hu.elim⟩
  obtain ⟨hg, hT1⟩ := hT
  obtain ⟨p, rfl, d, hd, hT2⟩ := vvK_e hT1
  obtain ⟨g2, o⟩ := g'
  obtain rfl : g2 = g := hg
  obtain rfl : v = .ref p := hv
  obtain ⟨r1, r2, r3⟩ : Z.R g2 F' H' ∧ OSR K mg o F' H' ∧ ∀ a ∈ Z.fp g2, a ∉ o.ads := fr.res
  have hF : ∀ a ∈ OS.ads o, F' a = none := fun a ha => fr.fpF a (List.mem_append_right _ ha)
  have newH : ∀ a ∈ o.ads, H a = none := fun a ha => by
    rcases fr.fpB a (List.mem_append_right _ ha) with z | z
    · exact absurd ha (r3 a (fpe z))
    · exact z
  have e3 : Ex F' (frzS o F' H') := frzS_ex hF
  refine h6 (.ref p) (.dt d) (frzS o F' H') g2 H' ⟨fr.ex.trans e3, fun b u e hn => fr.keep b u e fun hm => hn (fpe hm), fr.keepN, fun b u e => ?_, fun b u e => ?_, Z.loc r1 e3 fun _ _ => rfl, fun a ha => ?_, fun a ha => .inl ha⟩ rfl (hd.da hF r2 rfl) hT2
  · unfold frzS at e
    split at e
    · rename_i hm
      exact .inr (newH b hm)
    · exact fr.new b u e
  · unfold frzS at e
    split at e
    · exact e
    · exact fr.sub b u e
  · unfold frzS
    rw [if_neg (r3 a ha)]
    exact fr.fpF a (List.mem_append_left _ ha)
theorem Ok.frz {P : Program} {w : World} {mm : Str → Option Value} {base : Heap} {k : Nat} {x : Str} {ps : List Str} {S : Spec (G × OS)} (h : Ok P w K mm base k x ps (spZ (ZS mg Z) S)) : Ok P w K mm base k x ps (spZ Z (frzSp S)) := by
  obtain ⟨fa, fd, h1, h2, h3, h0, h4⟩ := h
  exact ⟨fa, fd, h1, h2, h3, h0, fun vs H Q E q => h4.len vs H Q E (spFrz q), fun A outer s H args us vs Q E hr he hb hv hs => h4.run A outer s H args us vs Q E hr he hb hv (spFrz hs)⟩
end L3
end
section
namespace L3
open PySem PySem.Spec PyProof.Rows L2
def natC (F : List Nat) : List Cell := F.map fun k : Nat => Cell.d (.int (k : Nat))
def rowC (n : Nat) (f : Nat → Int) : List Cell := (List.range (n + 1)).map fun j => Cell.d (.int (f j))
def rngA (m : Nat) (ra : Nat → Addr) : List Cell := (List.range (m + 1)).map fun i => Cell.r (ra i)
theorem rowC_len (n : Nat) (f : Nat → Int) : (rowC n f).length = n + 1 := by simp [rowC]
theorem rngA_len (m : Nat) (ra : Nat → Addr) : (rngA m ra).length = m + 1 := by simp [rngA]
theorem natC_len (F : List Nat) : (natC F).length = F.length := by simp [natC]
theorem rowC_get {n j : Nat} (f : Nat → Int) (h : j ≤ n) : (rowC n f)[j]? = some (Cell.d (.int (f j))) := by
  unfold rowC
  rw [List.getElem?_map, List.getElem?_range (by omega)]; rfl
theorem rngA_get {m i : Nat} (ra : Nat → Addr) (h : i ≤ m) : (rngA m ra)[i]? = some (Cell.r (ra i)) := by
  unfold rngA
  rw [List.getElem?_map, List.getElem?_range (by omega)]; rfl
theorem natC_get {F : List Nat} {i k : Nat} (h : F[i]? = some k) : (natC F)[i]? = some (Cell.d (.int (k : Nat))) := by
  unfold natC
  rw [List.getElem?_map, h]; rfl
theorem rowC_set (n j : Nat) (f : Nat → Int) (v : Int) : (rowC n f).set j (Cell.d (.int v)) = rowC n (fun k => if k = j then v else f k) := by
  apply List.ext_getElem?
  intro k
  rw [List.getElem?_set]
  unfold rowC
  rw [List.getElem?_map, List.getElem?_map, List.length_map, List.length_range]
  by_cases e : j = k
  · subst e
    rw [if_pos rfl]
    by_cases h : j < n + 1
    · rw [if_pos h, List.getElem?_range h]; simp
    · rw [if_neg h, List.getElem?_eq_none (by simpa using h)]; rfl
  · rw [if_neg e]
    by_cases h : k < n + 1
    · rw [List.getElem?_range h]
      show some (Cell.d (.int (f k))) = some (Cell.d (.int (if k = j then v else f k)))
      rw [if_neg fun z => e z.symm]
    · rw [List.getElem?_eq_none (by simpa using h)]; rfl
theorem natC_set (F : List Nat) (i k : Nat) : (natC F).set i (Cell.d (.int (k : Nat))) = natC (F.set i k) := by
  unfold natC
  rw [List.map_set]
theorem rowC_congr {n : Nat} {f g : Nat → Int} (h : ∀ j, j ≤ n → f j = g j) : rowC n f = rowC n g := by
  unfold rowC
  refine List.map_congr_left fun j hj => ?_
  rw [h j (by have := List.mem_range.mp hj; omega)]
theorem atI_neg1 {α : Type} {xs : List α} {n : Nat} {x : α} (hl : xs.length = n + 1) (h : xs[n]? = some x) : atI xs (-1) = some x := by
  unfold atI ixN
  rw [hl, if_neg (by decide), if_pos (by omega)]
  show xs[(-1 + ((n + 1 : Nat) : Int)).toNat]? = some x
  rw [show (-1 + ((n + 1 : Nat) : Int)).toNat = n by omega]
  exact h
theorem row_last (n : Nat) (f : Nat → Int) : atI (rowC n f) (-1) = some (Cell.d (.int (f n))) := atI_neg1 (rowC_len n f) (rowC_get f (Nat.le_refl n))
theorem row_at {n j : Nat} (f : Nat → Int) (h : j ≤ n) : atI (rowC n f) (j : Nat) = some (Cell.d (.int (f j))) := atI_nat (rowC_get f h)
theorem rng_last (m : Nat) (ra : Nat → Addr) : atI (rngA m ra) (-1) = some (Cell.r (ra m)) := atI_neg1 (rngA_len m ra) (rngA_get ra (Nat.le_refl m))
theorem rng_at {m i : Nat} (ra : Nat → Addr) (h : i ≤ m) : atI (rngA m ra) (i : Nat) = some (Cell.r (ra i)) := atI_nat (rngA_get ra h)
theorem nat_at {F : List Nat} {i k : Nat} (h : F[i]? = some k) : atI (natC F) (i : Nat) = some (Cell.d (.int (k : Nat))) := atI_nat (natC_get h)
theorem ixN_n {n k : Nat} (h : k < n) : ixN n (k : Nat) = some k := by rw [ixN_at (by omega) (by omega)]; simp
structure TabW (o : OS) (p pf pb pr : Addr) (ra : Nat → Addr) (n m : Nat) (d : Int) (F B : List Nat) (T : Nat → Nat → Int) : Prop where
  t : OS.look o p = some (.ins "Table" ["free", "bound", "rows", "divisor"] [.r pf, .r pb, .r pr, .d (.int d)])
  f : OS.look o pf = some (.ls (natC F))
  b : OS.look o pb = some (.ls (natC B))
  r : OS.look o pr = some (.ls (rngA m ra))
  w : ∀ i, i ≤ m → OS.look o (ra i) = some (.ls (rowC n (T i)))
  fb : pf ≠ pb
  fr : pf ≠ pr
  br : pb ≠ pr
  wf : ∀ i, i ≤ m → ra i ≠ pf ∧ ra i ≠ pb ∧ ra i ≠ pr
  ww : ∀ i j, i ≤ m → j ≤ m → ra i = ra j → i = j
def TabM (o : OS) (p : Addr) (n m : Nat) (d : Int) (F B : List Nat) (T : Nat → Nat → Int) : Prop := ∃ pf pb pr ra, TabW o p pf pb pr ra n m d F B T
section
variable {o : OS} {p pf pb pr : Addr} {ra : Nat → Addr} {n m : Nat} {d : Int} {F B : List Nat} {T : Nat → Nat → Int} (h : TabW o p pf pb pr ra n m d F B T)
include h
theorem TabW.pn {a : Addr} {cs : List Cell} (l : OS.look o a = some (.ls cs)) : p ≠ a := fun e => by
  have := h.t
  rw [e, l] at this
  cases this
/-- a row is written -/
theorem TabW.putRow {i : Nat} (hi : i ≤ m) (f : Nat → Int) : TabW (OS.put o (ra i) (.ls (rowC n f))) p pf pb pr ra n m d F B (fun k => if k = i then f else T k) := by
  have l := h.w i hi
  obtain ⟨h1, h2, h3⟩ := h.wf i hi
  refine ⟨?_, ?_, ?_, ?_, fun k hk => ?_, h.fb, h.fr, h.br, h.wf, h.ww⟩
  · rw [OS.put_ne l (fun e => h.pn l e.symm)]; exact h.t
  · rw [OS.put_ne l h1]; exact h.f
  · rw [OS.put_ne l h2]; exact h.b
  · rw [OS.put_ne l h3]; exact h.r
  · by_cases e : k = i
    · subst e
      rw [OS.put_self l, if_pos rfl]
    · rw [OS.put_ne l (fun z => e (h.ww i k hi hk z).symm), if_neg e]
      exact h.w k hk
theorem TabW.putD (d' : Int) : TabW (OS.put o p (.ins "Table" ["free", "bound", "rows", "divisor"] [.r pf, .r pb, .r pr, .d (.int d')])) p pf pb pr ra n m d' F B T := by
  refine ⟨OS.put_self h.t, ?_, ?_, ?_, fun k hk => ?_, h.fb, h.fr, h.br, h.wf, h.ww⟩
  · rw [OS.put_ne h.t (h.pn h.f)]; exact h.f
  · rw [OS.put_ne h.t (h.pn h.b)]; exact h.b
  · rw [OS.put_ne h.t (h.pn h.r)]; exact h.r
  · rw [OS.put_ne h.t (h.pn (h.w k hk))]; exact h.w k hk
theorem TabW.putF (F' : List Nat) : TabW (OS.put o pf (.ls (natC F'))) p pf pb pr ra n m d F' B T := by
  refine ⟨?_, OS.put_self h.f, ?_, ?_, fun k hk => ?_, h.fb, h.fr, h.br, h.wf, h.ww⟩
  · rw [OS.put_ne h.f (fun e => h.pn h.f e.symm)]; exact h.t
  · rw [OS.put_ne h.f h.fb]; exact h.b
  · rw [OS.put_ne h.f h.fr]; exact h.r
  · rw [OS.put_ne h.f (h.wf k hk).1.symm]; exact h.w k hk
theorem TabW.putB (B' : List Nat) : TabW (OS.put o pb (.ls (natC B'))) p pf pb pr ra n m d F B' T := by
  refine ⟨?_, ?_, OS.put_self h.b, ?_, fun k hk => ?_, h.fb, h.fr, h.br, h.wf, h.ww⟩
  · rw [OS.put_ne h.b (fun e => h.pn h.b e.symm)]; exact h.t
  · rw [OS.put_ne h.b h.fb.symm]; exact h.f
  · rw [OS.put_ne h.b h.br]; exact h.r
  · rw [OS.put_ne h.b (h.wf k hk).2.1.symm]; exact h.w k hk
theorem TabW.congr {T' : Nat → Nat → Int} (e : ∀ i j, i ≤ m → j ≤ n → T i j = T' i j) : TabW o p pf pb pr ra n m d F B T' :=
  ⟨h.t, h.f, h.b, h.r, fun i hi => by rw [h.w i hi, rowC_congr fun j hj => e i j hi hj], h.fb, h.fr, h.br, h.wf, h.ww⟩
end
end L3
namespace L3
open PySem
/-- a table of a program of this kind -/
def TabA (o : OS) (p : Addr) (P : Dt.Lp) (B F : List Nat) : Prop := TabM o p P.n P.m (P.D B) F B (P.tb B F)
/-- the numbers stay small -/
def Sml (P : Dt.Lp) : Prop := ∃ c d, P.Bnd c d ∧ c ^ P.M * d ≤ 2 ^ 1000
theorem Sml.T {P : Dt.Lp} (h : Sml P) {B F : List Nat} (G : P.Good B F) (i : Nat) {l : Nat} (hl : l ≤ P.rhs) : (P.T B i l).natAbs ≤ 2 ^ 1000 := by
  obtain ⟨c, d, h1, h2⟩ := h
  exact Nat.le_trans (h1.T G i hl) h2
theorem Sml.D {P : Dt.Lp} (h : Sml P) {B F : List Nat} (G : P.Good B F) : (P.D B).natAbs ≤ 2 ^ 1000 := by
  obtain ⟨c, d, h1, h2⟩ := h
  refine Nat.le_trans (h1.D G) (Nat.le_trans ?_ h2)
  exact Nat.le_mul_of_pos_right _ h1.d1
theorem Sml.tb {P : Dt.Lp} (h : Sml P) {B F : List Nat} (G : P.Good B F) (i j : Nat) : (P.tb B F i j).natAbs ≤ 2 ^ 1000 := by
  unfold Dt.Lp.tb
  refine h.T G i ?_
  cases e : (F ++ [P.rhs])[j]? with
  | none => exact Nat.zero_le _
  | some l =>
    rcases List.mem_append.mp (List.mem_of_getElem? e) with hm | hm
    · have := G.lab.mp (.inl hm)
      show l ≤ P.n + P.m + 1
      omega
    · rw [List.mem_singleton.mp hm]; exact Nat.le_refl _
theorem mul_1000 {a b : Int} (ha : a.natAbs ≤ 2 ^ 1000) (hb : b.natAbs ≤ 2 ^ 1000) : L3.MulOk a b := .inr (L2.mulx_ok (a := 1001) (b := 1001) (Nat.lt_of_le_of_lt ha (Nat.pow_lt_pow_right (by decide) (by decide))) (Nat.lt_of_le_of_lt hb (Nat.pow_lt_pow_right (by decide) (by decide))) (by decide))
namespace Dt.Lp
theorem F0_get (P : Dt.Lp) {j : Nat} (h : j < P.n) : (P.F0 ++ [P.rhs])[j]?.getD 0 = j := by
  unfold F0
  rw [List.getElem?_append_left (by simpa using h), List.getElem?_range h]; rfl
theorem F0_rhs (P : Dt.Lp) : (P.F0 ++ [P.rhs])[P.n]?.getD 0 = P.rhs := by
  unfold F0
  rw [List.getElem?_append_right (by simp)]; simp
theorem tb_rhs {P : Dt.Lp} {B F : List Nat} (hF : F.length = P.n) (i : Nat) : P.tb B F i P.n = P.T B i P.rhs := by
  unfold tb
  rw [← hF, List.getElem?_append_right (by omega)]; simp
theorem tb_at {P : Dt.Lp} {B F : List Nat} {j l : Nat} (h : F[j]? = some l) (i : Nat) : P.tb B F i j = P.T B i l := by
  unfold tb
  rw [List.getElem?_append_left (List.getElem?_eq_some_iff.mp h).1, h]; rfl
theorem row0 (P : Dt.Lp) {i : Nat} (hi : i < P.m) : (((List.range P.n).map fun k => PyData.int (P.A i k)) ++ [PyData.int (P.sd i)]).map Cell.d = rowC P.n (P.tb P.B0 P.F0 i) := by
  unfold rowC
  rw [List.range_succ, List.map_append, List.map_append, List.map_map]
  congr 1
  · refine List.map_congr_left fun j hj => ?_
    have hj := List.mem_range.mp hj
    show Cell.d (.int (P.A i j)) = Cell.d (.int (P.tb P.B0 P.F0 i j))
    unfold tb
    rw [F0_get P hj, T0 P (by unfold M; omega), col_A P hj hi]
  · show [Cell.d (.int (P.sd i))] = [Cell.d (.int (P.tb P.B0 P.F0 i P.n))]
    unfold tb
    rw [F0_rhs, T0 P (by unfold M; omega), col_s P hi]
theorem rowG (P : Dt.Lp) : (((List.range P.n).map fun k => PyData.int (-P.gl k)) ++ [PyData.int 0]).map Cell.d = rowC P.n (P.tb P.B0 P.F0 P.m) := by
  unfold rowC
  rw [List.range_succ, List.map_append, List.map_append, List.map_map]
  congr 1
  · refine List.map_congr_left fun j hj => ?_
    have hj := List.mem_range.mp hj
    show Cell.d (.int (-P.gl j)) = Cell.d (.int (P.tb P.B0 P.F0 P.m j))
    unfold tb
    rw [F0_get P hj, T0 P (by unfold M; omega), col_g P hj]
  · show [Cell.d (.int 0)] = [Cell.d (.int (P.tb P.B0 P.F0 P.m P.n))]
    unfold tb
    rw [F0_rhs, T0 P (by unfold M; omega), col_s0 P]
theorem F0c (P : Dt.Lp) : (rngD 0 ((P.n : Nat) : Int).toNat).map Cell.d = natC P.F0 := by
  unfold F0 natC
  rw [rngD_map, List.map_map]
  simp
theorem B0c (P : Dt.Lp) : (rngD ((P.n : Nat) : Int) (((P.n : Nat) : Int) + ((P.m : Nat) : Int) - ((P.n : Nat) : Int)).toNat).map Cell.d = natC P.B0 := by
  unfold B0 natC
  rw [rngD_map, List.map_map, show (((P.n : Nat) : Int) + ((P.m : Nat) : Int) - ((P.n : Nat) : Int)).toNat = P.m by omega, List.range'_eq_map_range, List.map_map]
  refine List.map_congr_left fun j hj => ?_
  simp
end Dt.Lp
end L3
end
section
namespace L3
open PySem PySem.Spec PyProof.Rows L2
def zlC (n : Nat) (f : Nat → Int) : List Cell := (List.range n).map fun j => Cell.d (.int (f j))
theorem zlC_len (n : Nat) (f : Nat → Int) : (zlC n f).length = n := by simp [zlC]
theorem zlC_set (n j : Nat) (f : Nat → Int) (v : Int) : (zlC n f).set j (Cell.d (.int v)) = zlC n (fun k => if k = j then v else f k) := by
  apply List.ext_getElem?
  intro k
  rw [List.getElem?_set]
  unfold zlC
  rw [List.getElem?_map, List.getElem?_map, List.length_map, List.length_range]
  by_cases e : j = k
  · subst e
    rw [if_pos rfl]
    by_cases h : j < n
    · rw [if_pos h, List.getElem?_range h]; simp
    · rw [if_neg h, List.getElem?_eq_none (by simpa using h)]; rfl
  · rw [if_neg e]
    by_cases h : k < n
    · rw [List.getElem?_range h]
      show some (Cell.d (.int (f k))) = some (Cell.d (.int (if k = j then v else f k)))
      rw [if_neg fun z => e z.symm]
    · rw [List.getElem?_eq_none (by simpa using h)]; rfl
theorem zlC_congr {n : Nat} {f g : Nat → Int} (h : ∀ j, j < n → f j = g j) : zlC n f = zlC n g := by
  unfold zlC
  refine List.map_congr_left fun j hj => ?_
  rw [h j (List.mem_range.mp hj)]
/-- the numbers laid so far by the first j names -/
def PSm (B : List Nat) (w : Nat → Int) (j u : Nat) : Int := Dt.sm j fun i => if B[i]?.getD 0 = u then w i else 0
theorem PSm_zero {B : List Nat} {w : Nat → Int} : ∀ {j u : Nat}, j ≤ B.length → u ∉ B.take j → PSm B w j u = 0
  | 0, _, _, _ => rfl
  | j + 1, u, hj, h => by
    have hj' : j < B.length := by omega
    rw [List.take_succ_eq_append_getElem hj', List.mem_append, List.mem_singleton] at h
    show PSm B w j u + (if B[j]?.getD 0 = u then w j else 0) = 0
    rw [PSm_zero (by omega) (fun z => h (.inl z)), List.getElem?_eq_getElem hj', if_neg (fun z => h (.inr z.symm))]; rfl
theorem PSm_step {B : List Nat} (nd : B.Nodup) {w : Nat → Int} {j b : Nat} (h : B[j]? = some b) (u : Nat) : PSm B w (j + 1) u = if u = b then w j else PSm B w j u := by
  show PSm B w j u + (if B[j]?.getD 0 = u then w j else 0) = _
  rw [h]
  show PSm B w j u + (if b = u then w j else 0) = _
  by_cases e : u = b
  · subst e
    rw [if_pos rfl, if_pos rfl, PSm_zero (by have := (List.getElem?_eq_some_iff.mp h).1; omega), Int.zero_add]
    intro hm
    obtain ⟨i, hi, q⟩ := List.mem_take_iff_getElem.mp hm
    have hj := (List.getElem?_eq_some_iff.mp h)
    have : i = j := by
      refine (List.getElem?_inj (by omega) nd).mp ?_
      rw [h, List.getElem?_eq_getElem (by omega), q]
    omega
  · rw [if_neg e, if_neg (fun z => e z.symm), Int.add_zero]
theorem PSm_at {B : List Nat} (nd : B.Nodup) {w : Nat → Int} {j b : Nat} (h : B[j]? = some b) : ∀ k, j < k → k ≤ B.length → PSm B w k b = w j
  | 0, h1, _ => by omega
  | k + 1, h1, h2 => by
    have hk : B[k]? = some B[k] := List.getElem?_eq_getElem (by omega)
    rw [PSm_step nd hk]
    by_cases e : b = B[k]
    · rw [if_pos e]
      have : j = k := (List.getElem?_inj (by omega) nd).mp (by rw [h, hk, e])
      rw [this]
    · rw [if_neg e]
      refine PSm_at nd h k ?_ (by omega)
      rcases Nat.lt_or_eq_of_le (Nat.le_of_lt_succ h1) with q | q
      · exact q
      · subst q
        rw [h] at hk
        cases hk
        exact absurd rfl e
/-- what stays of a store -/
def OKp (o o' : OS) : Prop := ∀ a x, OS.look o a = some x → OS.look o' a = some x
theorem tabW_ext {o o' : OS} {p pf pb pr : Addr} {ra : Nat → Addr} {n m : Nat} {d : Int} {F B : List Nat} {T : Nat → Nat → Int} (h : TabW o p pf pb pr ra n m d F B T) (e : OKp o o') : TabW o' p pf pb pr ra n m d F B T :=
  ⟨e _ _ h.t, e _ _ h.f, e _ _ h.b, e _ _ h.r, fun i hi => e _ _ (h.w i hi), h.fb, h.fr, h.br, h.wf, h.ww⟩
theorem tabA_ext {o o' : OS} {p : Addr} {P : Dt.Lp} {B F : List Nat} (h : TabA o p P B F) (e : OKp o o') : TabA o' p P B F := by
  obtain ⟨pf, pb, pr, ra, hT⟩ := h
  exact ⟨pf, pb, pr, ra, tabW_ext hT e⟩
theorem OKp.new {o : OS} {q : Addr} {x : OO} (h : OS.look o q = none) : OKp o ((q, x) :: o) := fun a y e => OS.look_old h e
theorem OKp.trans {a b c : OS} (h : OKp a b) (h2 : OKp b c) : OKp a c := fun p x e => h2 p x (h p x e)
theorem OKp.put {o o' : OS} {q : Addr} {x y : OO} (h : OKp o o') (h1 : OS.look o q = none) (h2 : OS.look o' q = some x) : OKp o (OS.put o' q y) := fun a z e => by
  rw [OS.put_ne h2 (fun c => by rw [← c, h1] at e; cases e)]
  exact h a z e
theorem zero_cells (n : Nat) : ∀ f : Nat → Int, (∀ j, f j = 0) → (List.replicate n (PyData.int 0)).map Cell.d = zlC n f := fun f h => by
  unfold zlC
  apply List.ext_getElem?
  intro k
  rw [List.getElem?_map, List.getElem?_map, List.getElem?_replicate]
  by_cases e : k < n
  · rw [if_pos e, List.getElem?_range e]
    show some (Cell.d (.int 0)) = some (Cell.d (.int (f k)))
    rw [h k]
  · rw [if_neg e, List.getElem?_eq_none (by simpa using e)]; rfl
end L3
end
section
set_option exponentiation.threshold 3000
namespace L3
open PySem PySem.Spec PyProof.Rows L2
/-- the greatest number that divides them all -/
def gcdL (xs : List Int) : Nat := xs.foldl (fun g x => Nat.gcd g x.natAbs) 0
theorem gcdL_snoc (xs : List Int) (x : Int) : gcdL (xs ++ [x]) = Nat.gcd (gcdL xs) x.natAbs := by
  unfold gcdL
  rw [List.foldl_append]; rfl
/-- numbers without what divides them all -/
def lessL (xs : List Int) : List Int := xs.map fun x => x / (max 1 (gcdL xs) : Nat)
theorem gcd_le {M : Nat} : ∀ (xs : List Int) (g : Nat), g ≤ M → (∀ x ∈ xs, x.natAbs ≤ M) → xs.foldl (fun g x => Nat.gcd g x.natAbs) g ≤ M
  | [], g, h, _ => h
  | x :: xs, g, h, hx => gcd_le xs _ (by
      by_cases e : x.natAbs = 0
      · show Nat.gcd g x.natAbs ≤ M
        rw [e, Nat.gcd_zero_right]; exact h
      · exact Nat.le_trans (Nat.gcd_le_right _ (by omega)) (hx x List.mem_cons_self)) fun y hy => hx y (List.mem_cons_of_mem _ hy)
theorem gcdL_le {M : Nat} {xs : List Int} (h : ∀ x ∈ xs, x.natAbs ≤ M) : gcdL xs ≤ M := gcd_le xs 0 (Nat.zero_le _) h
theorem gcd_dvd : ∀ (xs : List Int) (g : Nat), (xs.foldl (fun g x => Nat.gcd g x.natAbs) g ∣ g) ∧ ∀ x ∈ xs, xs.foldl (fun g x => Nat.gcd g x.natAbs) g ∣ x.natAbs
  | [], g => ⟨Nat.dvd_refl _, fun _ h => nomatch h⟩
  | x :: xs, g => by
    obtain ⟨h1, h2⟩ := gcd_dvd xs (Nat.gcd g x.natAbs)
    refine ⟨Nat.dvd_trans h1 (Nat.gcd_dvd_left _ _), fun y hy => ?_⟩
    rcases List.mem_cons.mp hy with rfl | hy
    · exact Nat.dvd_trans h1 (Nat.gcd_dvd_right _ _)
    · exact h2 y hy
theorem gcdL_dvd {xs : List Int} {x : Int} (h : x ∈ xs) : ((gcdL xs : Nat) : Int) ∣ x := Int.ofNat_dvd_left.mpr ((gcd_dvd xs 0).2 x h)
theorem mx_dvd {xs : List Int} {x : Int} (h : x ∈ xs) : ((max 1 (gcdL xs) : Nat) : Int) ∣ x := by
  by_cases e : gcdL xs = 0
  · rw [e]; exact Int.one_dvd x
  · rw [Nat.max_eq_right (by omega)]; exact gcdL_dvd h
theorem less_mul {xs : List Int} {x : Int} (h : x ∈ xs) : x / (max 1 (gcdL xs) : Nat) * (max 1 (gcdL xs) : Nat) = x := Int.ediv_mul_cancel (mx_dvd h)
/-- a row of the flow at a way: a purse's, or a room's -/
def fwR (B : Book) (t : Nat) (k : Int) : Int := if t < B.purses.toNat then - (wAt B k).gs.getD t 0 else (if (wAt B k).a = ((t - B.purses.toNat : Nat) : Int) then 1 else 0) - (if (wAt B k).b = ((t - B.purses.toNat : Nat) : Int) then 1 else 0)
def rowD (B : Book) (ns : List Int) (t : Nat) : PyData := .list (ns.map fun k => .int (fwR B t k))
def flowD (B : Book) (ns : List Int) (n : Nat) : List PyData := (List.range n).map (rowD B ns)
structure FlOk (B : Book) (ns : List Int) : Prop where
  ok : ∃ mr mw, B.Ok mr mw ∧ mr ≤ 16
  w : ∀ k ∈ ns, inW B k = true
  n : ns.length ≤ 1000
theorem flowD_succ (B : Book) (ns : List Int) (n : Nat) : flowD B ns (n + 1) = flowD B ns n ++ [rowD B ns n] := by
  unfold flowD
  rw [List.range_succ, List.map_append]; rfl
/-- a program as it is handed over -/
def LpD (P : Dt.Lp) (r s gl : PyData) : Prop := r = .list ((List.range P.m).map fun i => .list ((List.range P.n).map fun k => .int (P.A i k))) ∧ s = .list ((List.range P.m).map fun i => .int (P.sd i)) ∧ gl = .list ((List.range P.n).map fun k => .int (P.gl k))
structure SumOk (B : Book) (ws hs : List Int) : Prop where
  w : (ws.length : Int) = B.purses
  h : (hs.length : Int) = B.rooms
  bw : ∀ x ∈ ws, Big x
open Dt
def flT (B : Book) : Nat := B.purses.toNat + B.rooms.toNat
theorem map_rng (ns : List Int) (f : Int → PyData) : ns.map f = (List.range ns.length).map fun j => f (ns.getD j 0) := by
  apply List.ext_getElem?
  intro i
  rw [List.getElem?_map, List.getElem?_map]
  by_cases h : i < ns.length
  · rw [List.getElem?_range h, List.getElem?_eq_getElem h]
    show some _ = some (f (ns.getD i 0))
    rw [List.getD_eq_getElem?_getD, List.getElem?_eq_getElem h]; rfl
  · rw [List.getElem?_eq_none (by omega), List.getElem?_eq_none (by simpa using h)]; rfl
theorem nrm_le {b : Nat} : ∀ {v : List Int}, (∀ x ∈ v, x.natAbs ≤ b) → nrm v ≤ v.length * b
  | [], _ => Nat.zero_le _
  | x :: v, h => by
    show x.natAbs + nrm v ≤ (v.length + 1) * b
    have h1 := h x List.mem_cons_self
    have h2 := nrm_le (v := v) fun y hy => h y (List.mem_cons_of_mem _ hy)
    rw [Nat.add_mul]
    omega
theorem unt_mem {M i : Nat} {x : Int} (h : x ∈ unt M i) : x.natAbs ≤ 1 := by
  unfold unt at h
  obtain ⟨k, _, rfl⟩ := List.mem_map.mp h
  split <;> decide
theorem fw_abs {B : Book} {mr mw : Int} (hB : B.Ok mr mw) {k : Int} (hk : inW B k = true) (t : Nat) : (fwR B t k).natAbs ≤ 99 := by
  unfold fwR
  split
  · rw [List.getD_eq_getElem?_getD]
    cases e : (wAt B k).gs[t]? with
    | none => exact Nat.zero_le _
    | some x =>
      have := (hB.w _ (wAt_mem hk)).g x (List.mem_of_getElem? e)
      show (-x).natAbs ≤ 99
      omega
  · split <;> split <;> decide
theorem FlOk.dim {B : Book} {ns : List Int} (h : FlOk B ns) : flT B ≤ 22 ∧ 1 ≤ B.purses ∧ 1 ≤ B.rooms ∧ B.purses ≤ 6 ∧ B.rooms ≤ 16 := by
  obtain ⟨mr, mw, hB, hm⟩ := h.ok
  have := hB.r0
  have := hB.r1
  have := hB.p0
  have := hB.p1
  unfold flT
  omega
theorem getD_in {ns : List Int} {j : Nat} (h : j < ns.length) : ns.getD j 0 ∈ ns := by
  rw [List.getD_eq_getElem?_getD, List.getElem?_eq_getElem h]
  exact List.getElem_mem h
/-- a solution's number is small -/
theorem X_abs {P : Dt.Lp} {b f : List Nat} (G : P.Good b f) {M : Nat} (h : ∀ i, (P.T b i P.rhs).natAbs ≤ M) (k : Nat) : (P.X b k).natAbs ≤ M := by
  have nd := (List.nodup_append.mp G.nd).2.1
  have key : ∀ j, j ≤ b.length → (PSm b (fun i => P.T b i P.rhs) j k).natAbs ≤ M := fun j => by
    induction j with
    | zero => intro _; exact Nat.zero_le _
    | succ j ih =>
      intro hj
      rw [PSm_step nd (List.getElem?_eq_getElem (show j < b.length by omega))]
      split
      · exact h j
      · exact ih (by omega)
  have := key b.length (Nat.le_refl _)
  rw [G.b] at this
  exact this
def rndL (B : Book) (ns xs : List Int) : List Int := (List.range B.ways.length).map fun k => PSm (ns.map Int.toNat) (fun j => (lessL xs).getD j 0) ns.length k
structure RndOk (B : Book) (ns cs : List Int) : Prop where
  n : cs.length = B.ways.length
  z : ∀ c ∈ cs, 0 ≤ c ∧ c ≤ 2 ^ 300
  s : ∀ k : Nat, cs.getD k 0 ≠ 0 → ((k : Nat) : Int) ∈ ns
  r : ∀ r : Nat, r < B.rooms.toNat → sm B.ways.length (fun k => ((if (wAt B (k : Nat)).a = (r : Nat) then 1 else 0) - (if (wAt B (k : Nat)).b = (r : Nat) then 1 else 0)) * cs.getD k 0) = 0
  g : ∀ p : Nat, p < B.purses.toNat → 0 ≤ sm B.ways.length (fun k => (wAt B (k : Nat)).gs.getD p 0 * cs.getD k 0)
theorem rnd_get {B : Book} {ns xs : List Int} {k : Nat} (h : k < B.ways.length) : (rndL B ns xs).getD k 0 = PSm (ns.map Int.toNat) (fun j => (lessL xs).getD j 0) ns.length k := by
  unfold rndL
  rw [List.getD_eq_getElem?_getD, List.getElem?_map, List.getElem?_range h]; rfl
theorem rnd_sum {B : Book} {ns xs : List Int} (hw : ∀ k ∈ ns, inW B k = true) (f : Int → Int) : sm B.ways.length (fun k => f ((k : Nat) : Int) * (rndL B ns xs).getD k 0) = sm ns.length (fun j => f (ns.getD j 0) * (lessL xs).getD j 0) := by
  rw [sm_congr (g := fun k => sm ns.length fun j => if k = (ns.getD j 0).toNat then f (ns.getD j 0) * (lessL xs).getD j 0 else 0) fun k hk => ?_, sm_swap]
  · refine sm_congr fun j hj => ?_
    have hi := hw _ (getD_in hj)
    simp only [inW, Bool.and_eq_true, decide_eq_true_eq] at hi
    exact sm_one _ (by omega)
  · rw [rnd_get hk]
    unfold PSm
    rw [← sm_mul]
    refine sm_congr fun j hj => ?_
    have hi := hw _ (getD_in hj)
    simp only [inW, Bool.and_eq_true, decide_eq_true_eq] at hi
    have e : (ns.map Int.toNat)[j]?.getD 0 = (ns.getD j 0).toNat := by
      rw [List.getElem?_map, List.getD_eq_getElem?_getD, List.getElem?_eq_getElem hj]; rfl
    rw [e]
    by_cases q : (ns.getD j 0).toNat = k
    · rw [if_pos q, if_pos q.symm, ← q, show (((ns.getD j 0).toNat : Nat) : Int) = ns.getD j 0 by omega]
    · rw [if_neg q, if_neg (fun z => q z.symm), Int.mul_zero]
theorem less_get {xs : List Int} {j : Nat} (h : j < xs.length) : (lessL xs).getD j 0 * ((max 1 (gcdL xs) : Nat) : Int) = xs.getD j 0 := by
  unfold lessL
  rw [List.getD_eq_getElem?_getD, List.getElem?_map, List.getD_eq_getElem?_getD, List.getElem?_eq_getElem h]
  exact less_mul (List.getElem_mem h)
theorem less_sum {xs : List Int} {n : Nat} (h : n = xs.length) (f : Nat → Int) : sm n (fun j => f j * (lessL xs).getD j 0) * ((max 1 (gcdL xs) : Nat) : Int) = sm n (fun j => f j * xs.getD j 0) := by
  rw [Int.mul_comm, ← sm_mul]
  refine sm_congr fun j hj => ?_
  rw [← less_get (xs := xs) (j := j) (by rw [← h]; exact hj), ← Int.mul_assoc, Int.mul_comm _ (f j), Int.mul_assoc, Int.mul_comm _ ((lessL xs).getD j 0)]
theorem mx_pos (xs : List Int) : (0 : Int) < ((max 1 (gcdL xs) : Nat) : Int) := by omega
theorem pos_of {a g : Int} (hg : 0 < g) : (0 ≤ a * g ↔ 0 ≤ a) ∧ (0 < a * g ↔ 0 < a) := by
  constructor
  · constructor
    · intro h
      by_cases c : 0 ≤ a
      · exact c
      · have := Int.mul_neg_of_neg_of_pos (show a < 0 by omega) hg
        omega
    · intro h; exact Int.mul_nonneg h (Int.le_of_lt hg)
  · constructor
    · intro h
      by_cases c : 0 < a
      · exact c
      · have := Int.mul_nonpos_of_nonpos_of_nonneg (show a ≤ 0 by omega) (Int.le_of_lt hg)
        omega
    · intro h; exact Int.mul_pos h hg
theorem sm_all0 : ∀ {n : Nat} {f : Nat → Int}, (∀ i, i < n → f i ≤ 0) → sm n f = 0 → ∀ i, i < n → f i = 0
  | 0, _, _, _, _, h => by omega
  | n + 1, f, h, e, i, hi => by
    have h1 : sm n f ≤ 0 := by
      have := sm_le (n := n) (f := f) (g := fun _ => 0) fun i hi => h i (by omega)
      rw [sm_zero] at this
      exact this
    have h2 := h n (Nat.lt_succ_self n)
    rw [sm_succ] at e
    by_cases q : i = n
    · subst q; omega
    · exact sm_all0 (n := n) (f := f) (fun i hi => h i (by omega)) (by omega) i (by omega)
theorem sm_pick {n : Nat} {a : Int} (h0 : 0 ≤ a) (h1 : a < n) (v : Int) : sm n (fun r => (if a = ((r : Nat) : Int) then v else 0)) = v := by
  rw [sm_congr (g := fun r => if r = a.toNat then v else 0) fun r _ => by
    by_cases e : a = (r : Nat)
    · rw [if_pos e, if_pos (by omega)]
    · rw [if_neg e, if_neg (by omega)]]
  exact sm_one _ (by omega)
theorem inW_nd {B : Book} {ns : List Int} (h : FlOk B ns) (nd : ns.Nodup) : (ns.map Int.toNat).Nodup := by
  refine List.pairwise_map.mpr (List.Pairwise.imp_of_mem (fun {a b} ha hb ne e => ne ?_) nd)
  have h1 := h.w a ha
  have h2 := h.w b hb
  simp only [inW, Bool.and_eq_true, decide_eq_true_eq] at h1 h2
  omega
theorem rnd_z {B : Book} {ns xs : List Int} (h : FlOk B ns) (nd : ns.Nodup) (hx : xs.length = ns.length) (hb : ∀ x ∈ xs, 0 ≤ x ∧ x.natAbs ≤ 2 ^ 288) : ∀ c ∈ rndL B ns xs, 0 ≤ c ∧ c ≤ 2 ^ 288 := fun c hc => by
  have ndN := inW_nd h nd
  have lz : ∀ j, 0 ≤ (lessL xs).getD j 0 ∧ (lessL xs).getD j 0 ≤ 2 ^ 288 := fun j => by
    by_cases hj : j < xs.length
    · have e := less_get hj
      have hm : xs.getD j 0 ∈ xs := getD_in hj
      have h1 := hb _ hm
      have hp := mx_pos xs
      rw [← e] at h1
      have h0 := (pos_of hp).1.mp h1.1
      refine ⟨h0, ?_⟩
      have h2 := Int.mul_le_mul_of_nonneg_left (show 1 ≤ ((max 1 (gcdL xs) : Nat) : Int) by omega) h0
      have h3 : ((lessL xs).getD j 0 * ((max 1 (gcdL xs) : Nat) : Int)) ≤ ((2 ^ 288 : Nat) : Int) := Int.le_trans Int.le_natAbs (Int.ofNat_le.mpr h1.2)
      rw [Int.mul_one] at h2
      exact Int.le_trans h2 h3
    · rw [List.getD_eq_getElem?_getD, List.getElem?_eq_none (by unfold lessL; rw [List.length_map]; omega)]
      exact ⟨Int.le_refl _, by show (0 : Int) ≤ 2 ^ 288; decide⟩
  unfold rndL at hc
  obtain ⟨k, _, rfl⟩ := List.mem_map.mp hc
  have key : ∀ n, n ≤ ns.length → 0 ≤ PSm (ns.map Int.toNat) (fun j => (lessL xs).getD j 0) n k ∧ PSm (ns.map Int.toNat) (fun j => (lessL xs).getD j 0) n k ≤ 2 ^ 288 := fun n => by
    induction n with
    | zero => intro _; exact ⟨Int.le_refl _, by show (0 : Int) ≤ 2 ^ 288; decide⟩
    | succ n ih =>
      intro hn
      rw [PSm_step ndN (List.getElem?_eq_getElem (show n < (ns.map Int.toNat).length by rw [List.length_map]; omega))]
      split
      · exact lz n
      · exact ih (by omega)
  exact key _ (Nat.le_refl _)
/-- rounds of a solution whose flow rows are kept -/
theorem rnd_ok {B : Book} {ns xs : List Int} (h : FlOk B ns) (nd : ns.Nodup) (hx : xs.length = ns.length) (hb : ∀ x ∈ xs, 0 ≤ x ∧ x.natAbs ≤ 2 ^ 288) (hf : ∀ t, t < flT B → sm ns.length (fun j => fwR B t (ns.getD j 0) * xs.getD j 0) ≤ 0) : RndOk B ns (rndL B ns xs) := by
  have ndN : (ns.map Int.toNat).Nodup := by
    refine List.pairwise_map.mpr (List.Pairwise.imp_of_mem (fun {a b} ha hb ne e => ne ?_) nd)
    have h1 := h.w a ha
    have h2 := h.w b hb
    simp only [inW, Bool.and_eq_true, decide_eq_true_eq] at h1 h2
    omega
  obtain ⟨mr, mw, hB, _⟩ := h.ok
  refine ⟨by unfold rndL; simp, fun c hc => ?_, fun k hk => ?_, fun r hr => ?_, fun p hp => ?_⟩
  · have := rnd_z h nd hx hb c hc
    exact ⟨this.1, Int.le_trans this.2 (by decide)⟩
  · have hkl : k < B.ways.length := by
      by_cases c : k < B.ways.length
      · exact c
      · exact absurd (by rw [List.getD_eq_getElem?_getD, List.getElem?_eq_none (by unfold rndL; simp; omega)]; rfl) hk
    rw [rnd_get hkl] at hk
    by_cases c : k ∈ ns.map Int.toNat
    · obtain ⟨x, hx, e⟩ := List.mem_map.mp c
      have h1 := h.w x hx
      simp only [inW, Bool.and_eq_true, decide_eq_true_eq] at h1
      rw [show ((k : Nat) : Int) = x by omega]
      exact hx
    · exact absurd (PSm_zero (by rw [List.length_map]; exact Nat.le_refl _) (fun z => c (List.mem_of_mem_take z))) hk
  · rw [rnd_sum h.w (fun k => ((if (wAt B k).a = (r : Nat) then 1 else 0) - (if (wAt B k).b = (r : Nat) then 1 else 0)))]
    have hp := mx_pos xs
    have e := less_sum hx.symm (fun j => ((if (wAt B (ns.getD j 0)).a = (r : Nat) then 1 else 0) - (if (wAt B (ns.getD j 0)).b = (r : Nat) then 1 else 0)))
    have z : sm ns.length (fun j => ((if (wAt B (ns.getD j 0)).a = (r : Nat) then 1 else 0) - (if (wAt B (ns.getD j 0)).b = (r : Nat) then 1 else 0)) * xs.getD j 0) = 0 := by
      refine sm_all0 (n := B.rooms.toNat) (f := fun r => sm ns.length (fun j => ((if (wAt B (ns.getD j 0)).a = ((r : Nat) : Int) then 1 else 0) - (if (wAt B (ns.getD j 0)).b = ((r : Nat) : Int) then 1 else 0)) * xs.getD j 0)) (fun i hi => ?_) ?_ r hr
      · have := hf (B.purses.toNat + i) (by unfold flT; omega)
        rw [sm_congr fun j hj => show fwR B (B.purses.toNat + i) (ns.getD j 0) * xs.getD j 0 = ((if (wAt B (ns.getD j 0)).a = ((i : Nat) : Int) then 1 else 0) - (if (wAt B (ns.getD j 0)).b = ((i : Nat) : Int) then 1 else 0)) * xs.getD j 0 by
          unfold fwR
          rw [if_neg (by omega), show B.purses.toNat + i - B.purses.toNat = i by omega]] at this
        exact this
      · rw [sm_swap, sm_congr (g := fun _ => 0) fun j hj => ?_, sm_zero]
        have w := hB.w _ (wAt_mem (h.w _ (getD_in hj)))
        have a0 := w.a0
        have a1 := w.a1
        have b0 := w.b0
        have b1 := w.b1
        rw [sm_congr (g := fun i => (if (wAt B (ns.getD j 0)).a = ((i : Nat) : Int) then xs.getD j 0 else 0) - (if (wAt B (ns.getD j 0)).b = ((i : Nat) : Int) then xs.getD j 0 else 0)) fun i _ => by
          rw [Int.sub_mul]
          congr 1 <;> split <;> simp, sm_sub, sm_pick a0 (by omega), sm_pick b0 (by omega), Int.sub_self]
    rw [z] at e
    rcases Int.mul_eq_zero.mp e with q | q
    · exact q
    · omega
  · have hp' := mx_pos xs
    rw [rnd_sum h.w (fun k => (wAt B k).gs.getD p 0)]
    have e := less_sum hx.symm (fun j => (wAt B (ns.getD j 0)).gs.getD p 0)
    refine (pos_of hp').1.mp ?_
    rw [e]
    have := hf p (by unfold flT; omega)
    rw [sm_congr (g := fun j => - ((wAt B (ns.getD j 0)).gs.getD p 0 * xs.getD j 0)) fun j hj => by
      unfold fwR
      rw [if_pos hp, Int.neg_mul], sm_neg] at this
    omega
theorem rnd_goal {B : Book} {ns xs : List Int} (h : FlOk B ns) (hx : xs.length = ns.length) (gl : Int → Int) (hp : 0 < sm ns.length (fun j => gl (ns.getD j 0) * xs.getD j 0)) : 0 < sm B.ways.length (fun k => gl ((k : Nat) : Int) * (rndL B ns xs).getD k 0) := by
  rw [rnd_sum h.w]
  refine (pos_of (mx_pos xs)).2.mp ?_
  rw [less_sum hx.symm (fun j => gl (ns.getD j 0))]
  exact hp
def fallZ (B : Book) (zs : List Int) (k : Int) : Int := sm (flT B) fun t => fwR B t k * zs.getD t 0
theorem sm_app (m : Nat) (f : Nat → Int) : ∀ n, sm (m + n) f = sm m f + sm n fun i => f (m + i)
  | 0 => (Int.add_zero _).symm
  | n + 1 => by
    show sm (m + n) f + f (m + n) = sm m f + (sm n (fun i => f (m + i)) + f (m + n))
    rw [sm_app m f n, Int.add_assoc]
theorem dotL_sm : ∀ (xs ys : List Int) (n : Nat), xs.length = n → ys.length = n → dotL xs ys = sm n fun t => ys.getD t 0 * xs.getD t 0
  | [], [], 0, _, _ => rfl
  | x :: xs, y :: ys, n + 1, h1, h2 => by
    rw [sm_shift]
    show (x * y + dotL xs ys) = _
    rw [dotL_sm xs ys n (Nat.succ.inj h1) (Nat.succ.inj h2), Int.mul_comm x y]
    rfl
theorem fallZ_eq {B : Book} {mr mw : Int} (hB : B.Ok mr mw) {us : List Int} (hu : us.length = flT B) {k : Int} (hk : inW B k = true) : fallL B (us.take B.purses.toNat) (us.drop B.purses.toNat) k = fallZ B us k := by
  have w := hB.w _ (wAt_mem hk)
  have a0 := w.a0
  have a1 := w.a1
  have b0 := w.b0
  have b1 := w.b1
  have gl := w.len
  unfold fallL fallZ flT
  rw [sm_app, dotL_sm _ _ B.purses.toNat (by rw [List.length_take, hu]; unfold flT; omega) (by omega)]
  have e1 : sm B.purses.toNat (fun t => fwR B t k * us.getD t 0) = - sm B.purses.toNat fun t => (wAt B k).gs.getD t 0 * (us.take B.purses.toNat).getD t 0 := by
    rw [← sm_neg]
    refine sm_congr fun t ht => ?_
    unfold fwR
    rw [if_pos ht, List.getD_eq_getElem?_getD (l := us.take _), List.getElem?_take_of_lt ht, ← List.getD_eq_getElem?_getD, Int.neg_mul]
  have e2 : sm B.rooms.toNat (fun i => fwR B (B.purses.toNat + i) k * us.getD (B.purses.toNat + i) 0) = (us.drop B.purses.toNat).getD (wAt B k).a.toNat 0 - (us.drop B.purses.toNat).getD (wAt B k).b.toNat 0 := by
    rw [sm_congr (g := fun i => (if i = (wAt B k).a.toNat then (us.drop B.purses.toNat).getD (wAt B k).a.toNat 0 else 0) - (if i = (wAt B k).b.toNat then (us.drop B.purses.toNat).getD (wAt B k).b.toNat 0 else 0)) fun i hi => ?_, sm_sub, sm_one _ (by omega), sm_one _ (by omega)]
    unfold fwR
    rw [if_neg (by omega), show B.purses.toNat + i - B.purses.toNat = i by omega, Int.sub_mul]
    have ed : us.getD (B.purses.toNat + i) 0 = (us.drop B.purses.toNat).getD i 0 := by
      rw [List.getD_eq_getElem?_getD, List.getD_eq_getElem?_getD, List.getElem?_drop]
    rw [ed]
    congr 1
    · by_cases e : i = (wAt B k).a.toNat
      · rw [if_pos e, if_pos (by omega), ← e, Int.one_mul]
      · rw [if_neg e, if_neg (by omega), Int.zero_mul]
    · by_cases e : i = (wAt B k).b.toNat
      · rw [if_pos e, if_pos (by omega), ← e, Int.one_mul]
      · rw [if_neg e, if_neg (by omega), Int.zero_mul]
  rw [e1, e2]
  omega
theorem less_len (xs : List Int) : (lessL xs).length = xs.length := by simp [lessL]
theorem rng_set {α : Type} (n i : Nat) (f : Nat → α) (v : α) : ((List.range n).map f).set i v = (List.range n).map fun k => if k = i then v else f k := by
  apply List.ext_getElem?
  intro k
  rw [List.getElem?_set, List.getElem?_map, List.getElem?_map, List.length_map, List.length_range]
  by_cases e : i = k
  · subst e
    rw [if_pos rfl]
    by_cases h : i < n
    · rw [if_pos h, List.getElem?_range h]; simp
    · rw [if_neg h, List.getElem?_eq_none (by simpa using h)]; rfl
  · rw [if_neg e]
    by_cases h : k < n
    · rw [List.getElem?_range h]
      show some (f k) = some (if k = i then v else f k)
      rw [if_neg fun z => e z.symm]
    · rw [List.getElem?_eq_none (by simpa using h)]; rfl
theorem set_ok {B : Book} {mr mw : Int} (h : B.Ok mr mw) (h1 : mr ≤ 16) (h2 : mw ≤ 1000) {S : List Int} (hS : S.Sublist (everyW B.ways.length)) : FlOk B S ∧ S.Nodup ∧ SetOk B S := by
  have hn := h.n
  have hl := hS.length_le
  rw [everyW_len] at hl
  have hw : ∀ k ∈ S, inW B k = true := fun k hk => everyW_mem (hS.subset hk)
  have r1 := h.r1
  have r0 := h.r0
  refine ⟨⟨⟨mr, mw, h, h1⟩, hw, by omega⟩, hS.nodup ((everyW_up _).imp fun z e => by omega), ⟨fun k hk => ⟨hw k hk, wsIn_ok h k (hw k hk)⟩, by omega, by omega, by omega, by omega⟩⟩
def gainR (B : Book) (cs : List Int) (j p : Nat) : Int := sm j fun i => (wAt B (i : Nat)).gs.getD p 0 * cs.getD i 0
structure TotI (B : Book) (ns : List Int) (j : Nat) (ws hs : List Int) : Prop where
  ok : SumOk B ws hs
  w : ∀ w ∈ ws, 0 ≤ w ∧ w ≤ (j : Nat) * 2 ^ 289
  f : ∀ i ∈ ns, 0 ≤ fallL B ws hs i
  p : ∃ i ∈ ns, 0 < fallL B ws hs i
  h : ∀ x ∈ hs, x.natAbs ≤ j * 2 ^ 289
structure WhoI (B : Book) (ns : List Int) (j : Nat) (cs : List Int) : Prop where
  ok : RndOk B ns cs
  c : ∀ c ∈ cs, c ≤ (j : Nat) * 2 ^ 288
  p : ∃ i ∈ ns, 0 < cs.getD i.toNat 0
theorem TotI.mono {B : Book} {ns ws hs : List Int} {j k : Nat} (h : TotI B ns j ws hs) (le : j ≤ k) : TotI B ns k ws hs := ⟨h.ok, fun w hw => ⟨(h.w w hw).1, Int.le_trans (h.w w hw).2 (Int.mul_le_mul_of_nonneg_right (Int.ofNat_le.mpr le) (by decide))⟩, h.f, h.p, fun x hx => Nat.le_trans (h.h x hx) (Nat.mul_le_mul_right _ le)⟩
theorem WhoI.mono {B : Book} {ns cs : List Int} {j k : Nat} (h : WhoI B ns j cs) (le : j ≤ k) : WhoI B ns k cs := ⟨h.ok, fun c hc => Int.le_trans (h.c c hc) (Int.mul_le_mul_of_nonneg_right (Int.ofNat_le.mpr le) (by decide)), h.p⟩
end L3
end
section
set_option exponentiation.threshold 3000
namespace L3
open PySem PySem.Spec PyProof.Rows L2
open Dt
/-- an answer of kept_or_raised -/
inductive An where
  | raised (cs : List Int)
  | kept (ws hs : List Int)
def An.d : An → PyData
  | .raised cs => .tuple [.str "raised", .tuple (cs.map PyData.int)]
  | .kept ws hs => .tuple [.str "kept", totD ws hs]
def An.Ok (B : Book) (ns : List Int) (p : Nat) : An → Prop
  | .raised cs => RndOk B ns cs ∧ 0 < gainR B cs B.ways.length p
  | .kept ws hs => SumOk B ws hs ∧ (∀ w ∈ ws, 0 ≤ w) ∧ (∀ j ∈ ns, 0 ≤ fallL B ws hs j) ∧ 1 ≤ ws.getD p 0
end L3
end
section
namespace L3
open PySem PySem.Spec PyProof.Rows L2
def DfnA (K : PySem.W.Frag) (mg : Str → Option Value) (x q : Str) (s : Stmt) (ps : List Str) : Prop := ∃ fa fd, Fun K q q s fa fd ∧ mg x = some (.ref fa) ∧ Binds K fd ps []
theorem DfnA.ok {P : Program} {w : World} {K : PySem.W.Frag} {mg : Str → Option Value} {base : Heap} {G : Type} {x q : Str} {s : Stmt} {N ps : List Str} {k : Nat} {Z : Zx K G} {S : Spec G} (D : DfnA K mg x q s ps) (Sc : FnScope N ps (defScope s)) (hS : ∀ as g T U, S as g T U → as.length = ps.length) (hN : ps.length ≤ N.length)
    (body : ∀ (fa : Addr) (cdv : Value) (A : Around) (outer : List Env) (s' : Shared) (H : Hp) (E : XK), RoomG k (A.deeper (PyProof.Rows.envOfC q (defScope s) s'.heap.objs.size fa cdv)) →
      ∃ ts t, DSs (cxOf (L2.CX P w) P w K mg base N q (defScope s) fa cdv A outer s' H E).nox (Z.wish (fun _ _ _ _ => False) Un) (defBody s) ts t ∧ ∀ as g T U, S as g T U → t { nx := fun _ g' => T (.dt .none) g', rt := T } (entry N as) g) : Ok P w K mg base (k + 1) x ps (spZ Z S) := by
  obtain ⟨fa, fd, Fu, hm, hb⟩ := D
  exact ⟨fa, fd, hm, Fu.kp, hb, Fun.at_ Fu, fun3 Fu Sc hS hN (body fa)⟩
end L3
end
section
set_option exponentiation.threshold 3000
namespace L3
open PySem PySem.Spec PyProof.Rows L2
open Dt
/-- an answer of sum_or_round -/
inductive SR where
  | rnd (cs : List Int)
  | sum (ws hs : List Int)
def SR.d : SR → PyData
  | .rnd cs => .tuple [.str "round", .tuple (cs.map PyData.int)]
  | .sum ws hs => .tuple [.str "sum", totD ws hs]
def SR.Ok (B : Book) (ns : List Int) (k : Int) : SR → Prop
  | .rnd cs => RndOk B ns cs ∧ 0 < cs.getD k.toNat 0
  | .sum ws hs => SumOk B ws hs ∧ (∀ w ∈ ws, 0 ≤ w ∧ w ≤ 2 ^ 289) ∧ (∀ x ∈ hs, x.natAbs ≤ 2 ^ 289) ∧ (∀ j ∈ ns, 0 ≤ fallL B ws hs j) ∧ 1 ≤ fallL B ws hs k
def SR.s : SR → Option (List Int × List Int)
  | .rnd _ => none
  | .sum ws hs => some (ws, hs)
def SR.r : SR → Option (List Int)
  | .rnd cs => some cs
  | .sum _ _ => none
/-- a sum that is good enough to go on with -/
structure SmI (B : Book) (ns : List Int) (M : Nat) (p : List Int × List Int) : Prop where
  s : SumOk B p.1 p.2
  w : ∀ w ∈ p.1, 0 ≤ w ∧ w ≤ (M : Nat)
  h : ∀ x ∈ p.2, x.natAbs ≤ M
  f : ∀ j ∈ ns, 0 ≤ fallL B p.1 p.2 j
theorem SmI.mono {B : Book} {ns : List Int} {M N : Nat} {p : List Int × List Int} (h : SmI B ns M p) (le : M ≤ N) : SmI B ns N p :=
  ⟨h.s, fun w hw => ⟨(h.w w hw).1, Int.le_trans (h.w w hw).2 (Int.ofNat_le.mpr le)⟩, fun x hx => Nat.le_trans (h.h x hx) le, h.f⟩
theorem SR.sm {B : Book} {ns : List Int} {k : Int} {ws hs : List Int} (h : (SR.sum ws hs).Ok B ns k) : SmI B ns (2 ^ 289) (ws, hs) :=
  ⟨h.1, fun w hw => ⟨(h.2.1 w hw).1, Int.le_trans (h.2.1 w hw).2 (by decide)⟩, h.2.2.1, h.2.2.2.1⟩
theorem TotI.sm {B : Book} {ns ws hs : List Int} {j : Nat} (h : TotI B ns j ws hs) : SmI B ns (j * 2 ^ 289) (ws, hs) :=
  ⟨h.ok, fun w hw => ⟨(h.w w hw).1, Int.le_trans (h.w w hw).2 (by rw [Int.natCast_mul]; exact Int.le_refl _)⟩, h.h, h.f⟩
end L3
end
section
namespace L3
/-- ways one behind the other from a room to a room -/
def Trl (A E : Int → Int) : Int → List Int → Int → Prop
  | u, [], v => u = v
  | u, k :: ks, v => A k = u ∧ Trl A E (E k) ks v
section
variable {A E : Int → Int}
theorem Trl.append : ∀ {p q : List Int} {u v w : Int}, Trl A E u p v → Trl A E v q w → Trl A E u (p ++ q) w
  | [], q, u, v, w, h, h2 => by cases h; exact h2
  | k :: p, q, u, v, w, h, h2 => ⟨h.1, Trl.append (p := p) h.2 h2⟩
theorem Trl.split : ∀ {p q : List Int} {u w : Int}, Trl A E u (p ++ q) w → ∃ v, Trl A E u p v ∧ Trl A E v q w
  | [], q, u, w, h => ⟨u, rfl, h⟩
  | k :: p, q, u, w, h => by
    obtain ⟨v, h1, h2⟩ := Trl.split (p := p) h.2
    exact ⟨v, ⟨h.1, h1⟩, h2⟩
theorem Trl.snoc {p : List Int} {k u v : Int} : Trl A E u (p ++ [k]) v ↔ Trl A E u p (A k) ∧ v = E k := by
  constructor
  · intro h
    obtain ⟨x, h1, h2, h3⟩ := Trl.split h
    cases h3
    exact ⟨by rw [h2]; exact h1, rfl⟩
  · rintro ⟨h, rfl⟩
    exact h.append ⟨rfl, rfl⟩
/-- how often ways of a list lead out of a room, and into it -/
def outN (A : Int → Int) (xs : List Int) (v : Int) : Nat := xs.countP fun k => decide (A k = v)
theorem trl_bal : ∀ {p : List Int} {u v : Int}, Trl A E u p v → ∀ x, (outN A p x : Int) - outN E p x = (if x = u then 1 else 0) - (if x = v then 1 else 0)
  | [], u, v, h, x => by cases h; simp [outN]
  | k :: p, u, v, h, x => by
    have ih := trl_bal h.2 x
    have e1 : outN A (k :: p) x = outN A p x + if A k = x then 1 else 0 := by
      unfold outN
      rw [List.countP_cons]
      by_cases q : A k = x <;> simp [q]
    have e2 : outN E (k :: p) x = outN E p x + if E k = x then 1 else 0 := by
      unfold outN
      rw [List.countP_cons]
      by_cases q : E k = x <;> simp [q]
    rw [e1, e2, ← h.1]
    have f1 : (if A k = x then (1 : Int) else 0) = if x = A k then 1 else 0 := by split <;> split <;> first | rfl | omega
    have f2 : (if E k = x then (1 : Int) else 0) = if x = E k then 1 else 0 := by split <;> split <;> first | rfl | omega
    have c1 : (((if A k = x then 1 else 0 : Nat)) : Int) = if A k = x then (1 : Int) else 0 := by split <;> rfl
    have c2 : (((if E k = x then 1 else 0 : Nat)) : Int) = if E k = x then (1 : Int) else 0 := by split <;> rfl
    rw [Int.natCast_add, Int.natCast_add, c1, c2, f1, f2]
    omega
theorem outN_perm {xs ys : List Int} (h : xs.Perm ys) (v : Int) : outN A xs v = outN A ys v := h.countP_eq _
theorem outN_append (xs ys : List Int) (v : Int) : outN A (xs ++ ys) v = outN A xs v + outN A ys v := List.countP_append
theorem outN_zero {xs : List Int} {v : Int} : outN A xs v = 0 ↔ ∀ k ∈ xs, A k ≠ v := by
  unfold outN
  rw [List.countP_eq_zero]
  simp
theorem outN_rev (xs : List Int) (v : Int) : outN A xs.reverse v = outN A xs v := List.countP_reverse
/-- the state while a walk is gone along: what is left of each room, the way so far, what is found, the room from which that leads -/
structure Hier (A E : Int → Int) (E0 : List Int) (room : Int) (R : Int → List Int) (L ks fs : List Int) (X : Int) : Prop where
  src : ∀ v, (R v).Perm (L.filter fun k => decide (A k = v))
  all : (L ++ (ks ++ fs)).Perm E0
  tl : ∃ v, Trl A E room ks v
  fd : Trl A E X fs.reverse room
  cl : ∀ k ∈ fs, R (E k) = []
/-- where the way so far leads to -/
def topOf (E : Int → Int) (room : Int) (ks : List Int) : Int := (ks.getLast?.map E).getD room
theorem topOf_snoc (room : Int) (ks : List Int) (k : Int) : topOf E room (ks ++ [k]) = E k := by unfold topOf; rw [List.getLast?_append]; rfl
theorem trl_top {ks : List Int} {room v : Int} (h : Trl A E room ks v) : v = topOf E room ks := by
  rcases List.eq_nil_or_concat ks with rfl | ⟨p, k, rfl⟩
  · cases h; rfl
  · rw [List.concat_eq_append] at h ⊢
    rw [topOf_snoc]
    exact (Trl.snoc.mp h).2
variable {E0 : List Int} {room X : Int} {R R2 : Int → List Int} {L ks fs : List Int}
/-- as many ways lead into each room as out of it -/
def Bal (A E : Int → Int) (xs : List Int) : Prop := ∀ v, outN A xs v = outN E xs v
theorem Hier.bal (h : Hier A E E0 room R L ks fs X) (hb : Bal A E E0) (x : Int) : (outN A L x : Int) - outN E L x = (if x = topOf E room ks then 1 else 0) - (if x = X then 1 else 0) := by
  obtain ⟨v, hv⟩ := h.tl
  have ev := trl_top hv
  subst ev
  have b1 := trl_bal hv x
  have b2 := trl_bal h.fd x
  rw [outN_rev, outN_rev] at b2
  have b3 := hb x
  have p1 := outN_perm (A := A) h.all x
  have p2 := outN_perm (A := E) h.all x
  rw [outN_append, outN_append] at p1 p2
  omega
theorem Hier.out0 (h : Hier A E E0 room R L ks fs X) {v : Int} (hr : R v = []) : outN A L v = 0 := by
  have := (h.src v)
  rw [hr] at this
  have e := this.symm.eq_nil
  rw [outN_zero]
  intro k hk hv
  have : k ∈ L.filter fun k => decide (A k = v) := List.mem_filter.mpr ⟨hk, decide_eq_true hv⟩
  rw [e] at this
  cases this
/-- where nothing leads on, what is found begins -/
theorem Hier.stuck (h : Hier A E E0 room R L ks fs X) (hb : Bal A E E0) (hr : R (topOf E room ks) = []) : X = topOf E room ks := by
  have b := h.bal hb (topOf E room ks)
  rw [h.out0 hr, if_pos rfl] at b
  by_cases e : topOf E room ks = X
  · exact e.symm
  · rw [if_neg e] at b; omega
/-- one way on -/
theorem Hier.push (h : Hier A E E0 room R L ks fs X) {k : Int} {init : List Int} (hr : R (topOf E room ks) = init ++ [k]) (h2 : ∀ v, R2 v = if v = topOf E room ks then init else R v) :
    A k = topOf E room ks ∧ k ∈ L ∧ Hier A E E0 room R2 (L.erase k) (ks ++ [k]) fs X := by
  have hp := h.src (topOf E room ks)
  rw [hr] at hp
  have hm : k ∈ L.filter fun j => decide (A j = topOf E room ks) := hp.subset (by simp)
  obtain ⟨hkL, hkA⟩ := List.mem_filter.mp hm
  have hkA := of_decide_eq_true hkA
  obtain ⟨v, hv⟩ := h.tl
  have ev := trl_top hv
  subst ev
  have fe : ∀ v, (L.erase k).filter (fun j => decide (A j = v)) = if A k = v then (L.filter fun j => decide (A j = v)).erase k else L.filter fun j => decide (A j = v) := fun v => by
    rw [List.erase_filter]
    split
    · rename_i e
      rfl
    · rename_i e
      rw [← List.erase_filter]
      rw [List.erase_of_not_mem]
      intro z
      exact e (of_decide_eq_true (List.mem_filter.mp z).2)
  refine ⟨hkA, hkL, fun v => ?_, ?_, ⟨E k, Trl.snoc.mpr ⟨by rw [hkA]; exact hv, rfl⟩⟩, h.fd, fun j hj => ?_⟩
  · rw [h2, fe]
    by_cases e : v = topOf E room ks
    · rw [if_pos e, if_pos (by rw [hkA, e])]
      subst e
      have := (List.perm_append_comm.trans hp).erase k (l₁ := [k] ++ init)
      simpa using this
    · rw [if_neg e, if_neg (by rw [hkA]; exact fun z => e z.symm)]
      exact h.src v
  · refine List.Perm.trans ?_ h.all
    have : L.Perm (k :: L.erase k) := List.perm_cons_erase hkL
    refine List.Perm.trans ?_ (this.symm.append_right _)
    have e1 : L.erase k ++ (ks ++ [k] ++ fs) = (L.erase k ++ ks) ++ k :: fs := by simp
    have e2 : k :: L.erase k ++ (ks ++ fs) = k :: ((L.erase k ++ ks) ++ fs) := by simp
    rw [e1, e2]
    exact List.perm_middle
  · rw [h2]
    have := h.cl j hj
    split
    · rename_i e
      rw [← e, this] at hr
      cases init <;> cases hr
    · exact this
/-- one way back: it is found -/
theorem Hier.pop (hb : Bal A E E0) {k : Int} (h : Hier A E E0 room R L (ks ++ [k]) fs X) (hr : R (E k) = []) : Hier A E E0 room R L ks (fs ++ [k]) (A k) := by
  have hX := h.stuck hb (by rw [topOf_snoc]; exact hr)
  rw [topOf_snoc] at hX
  obtain ⟨v, hv⟩ := h.tl
  obtain ⟨h1, h2⟩ := Trl.snoc.mp hv
  refine ⟨h.src, ?_, ⟨_, h1⟩, ?_, fun j hj => ?_⟩
  · refine List.Perm.trans (List.Perm.append_left _ ?_) h.all
    rw [List.append_assoc]
    exact List.Perm.append_left _ List.perm_append_comm
  · rw [List.reverse_append]
    refine ⟨rfl, ?_⟩
    rw [← hX]; exact h.fd
  · rcases List.mem_append.mp hj with hj | hj
    · exact h.cl j hj
    · rw [List.mem_singleton.mp hj]; exact hr
/-- at the end all ways are found -/
theorem Hier.done (hb : Bal A E E0) (h : Hier A E E0 room R L [] fs X) (hr : R room = []) (hc : ∀ e ∈ E0, ∃ p, (∀ k ∈ p, k ∈ E0) ∧ Trl A E room p (A e)) : Trl A E room fs.reverse room ∧ fs.reverse.Perm E0 := by
  have hX := h.stuck hb (ks := []) hr
  have hX : X = room := hX
  subst hX
  refine ⟨h.fd, ?_⟩
  -- rooms that the found walk comes by have nothing left
  have key : ∀ (p : List Int) (u w : Int), (∀ k ∈ p, k ∈ E0) → Trl A E u p w → R u = [] → R w = [] := fun p => by
    induction p with
    | nil => intro u w _ t hu; cases t; exact hu
    | cons k p ih =>
      intro u w hm t hu
      refine ih _ _ (fun j hj => hm j (List.mem_cons_of_mem _ hj)) t.2 ?_
      have hk0 := hm k List.mem_cons_self
      have hk : k ∈ L ++ ([] ++ fs) := h.all.symm.subset hk0
      rcases List.mem_append.mp hk with hk | hk
      · have := outN_zero.mp (h.out0 hu) k hk
        exact absurd t.1 this
      · exact h.cl k (by simpa using hk)
  have eL : L = [] := by
    cases hL : L with
    | nil => rfl
    | cons e L' =>
      have he : e ∈ E0 := h.all.subset (by rw [hL]; exact List.mem_append_left _ List.mem_cons_self)
      obtain ⟨p, hp, ht⟩ := hc e he
      have := key p _ _ hp ht hr
      exact absurd rfl (outN_zero.mp (h.out0 this) e (by rw [hL]; exact List.mem_cons_self))
  have := h.all
  rw [eL] at this
  exact (List.reverse_perm fs).trans (by simpa using this)
end
/-- a way round -/
structure Cyc (A E : Int → Int) (w : List Int) : Prop where
  ne : w ≠ []
  tl : ∃ u, Trl A E u w u
  nd : (w.map A).Nodup
theorem Trl.at {A E : Int → Int} {w : List Int} {u v : Int} {i : Nat} {k : Int} (h : Trl A E u w v) (hi : w[i]? = some k) : Trl A E (A k) (w.drop i) v ∧ Trl A E u (w.take i) (A k) := by
  have e : w.take i ++ w.drop i = w := List.take_append_drop _ _
  rw [← e] at h
  obtain ⟨x, h1, h2⟩ := h.split
  have hl := (List.getElem?_eq_some_iff.mp hi)
  obtain ⟨hl, ek⟩ := hl
  rw [List.drop_eq_getElem_cons hl] at h2 ⊢
  have : A w[i] = x := h2.1
  subst ek
  subst this
  exact ⟨⟨rfl, h2.2⟩, h1⟩
theorem trl_hd {A E : Int → Int} {w : List Int} {u v : Int} (hw : w ≠ []) (h : Trl A E u w v) : A (w.head hw) = u := by
  cases w with
  | nil => exact absurd rfl hw
  | cons k w => exact h.1
theorem Cyc.start {A E : Int → Int} {w : List Int} (h : Cyc A E w) : Trl A E (A (w.head h.ne)) w (A (w.head h.ne)) := by
  obtain ⟨u, hu⟩ := h.tl
  rw [trl_hd h.ne hu]; exact hu
theorem Cyc.nodup {A E : Int → Int} {w : List Int} (h : Cyc A E w) : w.Nodup := (List.pairwise_map.mp h.nd).imp fun q e => q (by rw [e])
theorem Cyc.bal {A E : Int → Int} {w : List Int} (h : Cyc A E w) : Bal A E w := fun v => by
  obtain ⟨u, hu⟩ := h.tl
  have := trl_bal hu v
  omega
end L3
end
section
namespace L3
open PySem L2
end L3
end
section
namespace L3
open PySem PySem.Spec PyProof.Rows L2
open Dt
abbrev bA (B : Book) (k : Int) : Int := (wAt B k).a
abbrev bE (B : Book) (k : Int) : Int := (wAt B k).b
theorem trl_rch {B : Book} {ws : List Int} : ∀ {p : List Int} {a b : Int}, (∀ k ∈ p, k ∈ ws) → Trl (bA B) (bE B) a p b → Rch B ws a b
  | [], a, b, _, h => by cases h; exact .refl _
  | k :: p, a, b, hm, h => by
    have e : (wAt B k).a = a := h.1
    rw [← e]
    exact (Rch.one (hm k List.mem_cons_self)).trans (trl_rch (fun j hj => hm j (List.mem_cons_of_mem _ hj)) h.2)
/-- the dict of lists while it is filled, and emptied -/
structure LkI (g : DLG) (R : Int → List Int) (N : Nat) : Prop where
  l : ∀ v : Int, (g.look (.inl v)).getD [] = (R v).map PyData.int
  n : g.es.length ≤ N
theorem LkI.set {g g' : DLG} {R : Int → List Int} {N M : Nat} (h : LkI g R N) {v : Int} {xs : List Int} (hl : ∀ j, g'.look j = if j = .inl v then some (xs.map PyData.int) else g.look j) (hn : g'.es.length ≤ M) : LkI g' (fun u => if u = v then xs else R u) M := by
  refine ⟨fun u => ?_, hn⟩
  rw [hl]
  by_cases e : u = v
  · subst e; rw [if_pos rfl, if_pos rfl]; rfl
  · rw [if_neg e, if_neg (fun z => e (by cases z; rfl))]; exact h.l u
theorem LkI.some {g : DLG} {R : Int → List Int} {N : Nat} (h : LkI g R N) {v : Int} {l : List Int} {k : Int} (e : R v = l ++ [k]) : g.look (.inl v) = some ((l ++ [k]).map PyData.int) := by
  have := h.l v
  rw [e] at this
  cases q : g.look (.inl v) with
  | none => rw [q] at this; simp at this
  | some ds => rw [q] at this; exact congrArg Option.some this
end L3
end
section
namespace L3
open PySem PySem.Spec PyProof.Rows L2
open Dt
def outC (B : Book) (cs : List Int) (r : Int) : Int := sm B.ways.length fun k => if (wAt B (k : Nat)).a = r then cs.getD k 0 else 0
def inC (B : Book) (cs : List Int) (r : Int) : Int := sm B.ways.length fun k => if (wAt B (k : Nat)).b = r then cs.getD k 0 else 0
structure Circ (B : Book) (cs : List Int) : Prop where
  n : cs.length = B.ways.length
  z : ∀ c ∈ cs, 0 ≤ c
  b : ∀ r : Int, outC B cs r = inC B cs r
theorem sm_ge1 : ∀ {n k : Nat} {f : Nat → Int}, (∀ i, i < n → 0 ≤ f i) → k < n → f k ≤ sm n f
  | n + 1, k, f, h, hk => by
    rw [sm_succ]
    have h0 := sm_ge0 (n := n) (f := f) fun i hi => h i (by omega)
    by_cases e : k = n
    · subst e; omega
    · have := sm_ge1 (n := n) (k := k) (f := f) (fun i hi => h i (by omega)) (by omega)
      have := h n (Nat.lt_succ_self n)
      omega
theorem Circ.at {B : Book} {cs : List Int} (h : Circ B cs) (k : Nat) : 0 ≤ cs.getD k 0 := by
  rw [List.getD_eq_getElem?_getD]
  cases e : cs[k]? with
  | none => exact Int.le_refl _
  | some x => exact h.z x (List.mem_of_getElem? e)
theorem cnt_cons (x k : Int) (w : List Int) : (((x :: w).count k : Nat) : Int) = (w.count k : Nat) + if x = k then 1 else 0 := by
  rw [List.count_cons]
  by_cases e : x = k
  · simp [e]
  · simp [e]
theorem cnt_out {B : Book} (f : Int → Int) (r : Int) : ∀ {w : List Int}, (∀ k ∈ w, inW B k = true) → sm B.ways.length (fun k => if f ((k : Nat) : Int) = r then ((w.count ((k : Nat) : Int) : Nat) : Int) else 0) = (outN f w r : Nat)
  | [], _ => by
    rw [sm_congr (g := fun _ => 0) fun i _ => by simp, sm_zero]; rfl
  | x :: w, h => by
    have ih := cnt_out (B := B) f r (w := w) fun k hk => h k (List.mem_cons_of_mem _ hk)
    have hx := h x List.mem_cons_self
    simp only [inW, Bool.and_eq_true, decide_eq_true_eq] at hx
    rw [sm_congr (g := fun k => (if f ((k : Nat) : Int) = r then ((w.count ((k : Nat) : Int) : Nat) : Int) else 0) + if k = x.toNat then (if f x = r then 1 else 0) else 0) fun k hk => ?_, sm_add, ih, sm_one _ (by omega)]
    · unfold outN
      rw [List.countP_cons]
      by_cases e : f x = r
      · simp [e]
      · simp [e]
    · rw [cnt_cons]
      by_cases e : x = ((k : Nat) : Int)
      · rw [if_pos e, if_pos (show k = x.toNat by omega), e]
        split <;> simp
      · rw [if_neg e, if_neg (show ¬ k = x.toNat by omega)]
        split <;> simp
/-- a way round so often is taken off -/
theorem Circ.less {B : Book} {cs ds w : List Int} {m : Int} (h : Circ B cs) (hw : ∀ k ∈ w, inW B k = true) (hb : Bal (bA B) (bE B) w) (hl : ds.length = cs.length) (hd : ∀ j : Nat, ds.getD j 0 = cs.getD j 0 - m * (w.count ((j : Nat) : Int) : Nat)) (h0 : ∀ d ∈ ds, 0 ≤ d) : Circ B ds := by
  refine ⟨by rw [hl]; exact h.n, h0, fun r => ?_⟩
  have e : ∀ f : Int → Int, sm B.ways.length (fun k => if f ((k : Nat) : Int) = r then ds.getD k 0 else 0) = sm B.ways.length (fun k => if f ((k : Nat) : Int) = r then cs.getD k 0 else 0) - m * (outN f w r : Nat) := fun f => by
    rw [← cnt_out f r hw, ← sm_mul, ← sm_sub]
    refine sm_congr fun k _ => ?_
    rw [hd k]
    split
    · rfl
    · rw [Int.mul_zero]; rfl
  have a := e (bA B)
  have b := e (bE B)
  have c := h.b r
  unfold outC inC at c ⊢
  rw [show sm B.ways.length (fun k => if (wAt B (k : Nat)).a = r then ds.getD k 0 else 0) = _ from a, show sm B.ways.length (fun k => if (wAt B (k : Nat)).b = r then ds.getD k 0 else 0) = _ from b, c, hb r]
/-- how many ways are left -/
def pcN (n : Nat) (cs : List Int) : Nat := (List.range n).countP fun j => decide (0 < cs.getD j 0)
theorem countP_lt {α : Type} {p q : α → Bool} : ∀ {l : List α}, (∀ x ∈ l, q x = true → p x = true) → (∃ x ∈ l, p x = true ∧ q x = false) → l.countP q < l.countP p
  | [], _, h => by obtain ⟨x, hx, _⟩ := h; cases hx
  | a :: l, h, hx => by
    have le : l.countP q ≤ l.countP p := List.countP_mono_left fun x hx => h x (List.mem_cons_of_mem _ hx)
    have ha := h a List.mem_cons_self
    rw [List.countP_cons, List.countP_cons]
    obtain ⟨x, hx, h1, h2⟩ := hx
    rcases List.mem_cons.mp hx with rfl | hx
    · rw [h1, h2]; simp; omega
    · have := countP_lt (l := l) (fun y hy => h y (List.mem_cons_of_mem _ hy)) ⟨x, hx, h1, h2⟩
      cases e : q a with
      | false => cases p a <;> simp <;> omega
      | true => rw [ha e]; simp; omega
/-- counts as ways round, each so often -/
structure RsOk (B : Book) (cs : List Int) (rs : List (Int × List Int)) : Prop where
  m : ∀ p ∈ rs, 1 ≤ p.1
  c : ∀ p ∈ rs, Cyc (bA B) (bE B) p.2
  w : ∀ p ∈ rs, ∀ k ∈ p.2, inW B k = true
  l : ∀ p ∈ rs, (p.2.length : Int) ≤ B.rooms
  s : ∀ j : Nat, j < B.ways.length → cs.getD j 0 = cntW rs (j : Nat)
  n : rs.length ≤ B.ways.length
end L3
end
section
namespace L3
open PySem L2
end L3
end
section
namespace L3
open PySem L2
end L3
namespace L3
open PySem PySem.Spec PyProof.Rows L2
theorem cntW_app (rs : List (Int × List Int)) (p : Int × List Int) (j : Int) : cntW (rs ++ [p]) j = cntW rs j + p.1 * (p.2.count j : Nat) := by
  unfold cntW
  rw [List.map_append, List.sum_append]; simp
/-- ways round taken off so far -/
structure RsI (B : Book) (cs ds : List Int) (rs : List (Int × List Int)) : Prop where
  m : ∀ p ∈ rs, 1 ≤ p.1
  c : ∀ p ∈ rs, Cyc (bA B) (bE B) p.2
  w : ∀ p ∈ rs, ∀ k ∈ p.2, inW B k = true
  l : ∀ p ∈ rs, (p.2.length : Int) ≤ B.rooms
  s : ∀ j : Nat, j < B.ways.length → cs.getD j 0 = cntW rs (j : Nat) + ds.getD j 0
  n : rs.length + pcN B.ways.length ds ≤ B.ways.length
  d : Circ B ds
theorem count_nd {w : List Int} (nd : w.Nodup) (j : Int) : w.count j = if j ∈ w then 1 else 0 := by
  by_cases h : j ∈ w
  · rw [if_pos h]
    have h1 := List.nodup_iff_count.mp nd j
    have h2 := List.count_pos_iff.mpr h
    omega
  · rw [if_neg h]; exact List.count_eq_zero.mpr h
theorem RsI.step {B : Book} {cs ds es w : List Int} {rs : List (Int × List Int)} {m : Int} (h : RsI B cs ds rs) (hc : Cyc (bA B) (bE B) w) (hw : ∀ k ∈ w, inW B k = true ∧ 0 < ds.getD k.toNat 0) (hl : (w.length : Int) ≤ B.rooms)
    (hm : ∃ k ∈ w, m = ds.getD k.toNat 0) (hmin : ∀ k ∈ w, m ≤ ds.getD k.toNat 0) (el : es.length = ds.length) (he : ∀ j : Nat, es.getD j 0 = ds.getD j 0 - m * (w.count ((j : Nat) : Int) : Nat)) :
    RsI B cs es (rs ++ [(m, w)]) ∧ pcN B.ways.length es < pcN B.ways.length ds := by
  obtain ⟨k0, hk0, em⟩ := hm
  have m1 : 1 ≤ m := by have := (hw k0 hk0).2; omega
  have nd := hc.nodup
  have hb : ∀ k : Int, k ∈ w → 0 ≤ k ∧ k < B.ways.length := fun k hk => by have := (hw k hk).1; simpa [inW] using this
  have e1 : ∀ j : Nat, es.getD j 0 = if ((j : Nat) : Int) ∈ w then ds.getD j 0 - m else ds.getD j 0 := fun j => by
    rw [he j, count_nd nd]
    split
    · simp
    · simp
  have nn : ∀ j : Nat, 0 ≤ es.getD j 0 := fun j => by
    rw [e1 j]
    split
    · rename_i hj
      have := hmin _ hj
      rw [Int.toNat_natCast] at this
      omega
    · exact h.d.at j
  have hlt : pcN B.ways.length es < pcN B.ways.length ds := countP_lt (fun j _ q => by
    have q := of_decide_eq_true q
    rw [e1 j] at q
    refine decide_eq_true ?_
    split at q <;> omega) ⟨k0.toNat, List.mem_range.mpr (by have := hb k0 hk0; omega), decide_eq_true (hw k0 hk0).2, decide_eq_false (by
      have := hb k0 hk0
      rw [e1, if_pos (by rw [show ((k0.toNat : Nat) : Int) = k0 by omega]; exact hk0)]
      omega)⟩
  refine ⟨⟨fun p hp => ?_, fun p hp => ?_, fun p hp => ?_, fun p hp => ?_, fun j hj => ?_, ?_, ?_⟩, hlt⟩
  · rcases List.mem_append.mp hp with hp | hp
    · exact h.m p hp
    · rw [List.mem_singleton.mp hp]; exact m1
  · rcases List.mem_append.mp hp with hp | hp
    · exact h.c p hp
    · rw [List.mem_singleton.mp hp]; exact hc
  · rcases List.mem_append.mp hp with hp | hp
    · exact h.w p hp
    · rw [List.mem_singleton.mp hp]; exact fun k hk => (hw k hk).1
  · rcases List.mem_append.mp hp with hp | hp
    · exact h.l p hp
    · rw [List.mem_singleton.mp hp]; exact hl
  · rw [cntW_app, he j, h.s j hj]
    show cntW rs (j : Nat) + ds.getD j 0 = cntW rs (j : Nat) + m * ((w.count ((j : Nat) : Int) : Nat) : Int) + (ds.getD j 0 - m * ((w.count ((j : Nat) : Int) : Nat) : Int))
    omega
  · have := h.n
    rw [List.length_append, List.length_singleton]
    omega
  · exact h.d.less (fun k hk => (hw k hk).1) hc.bal el he fun d hd => by
      obtain ⟨i, hi, rfl⟩ := List.mem_iff_getElem.mp hd
      have := nn i
      rwa [List.getD_eq_getElem?_getD, List.getElem?_eq_getElem hi] at this
/-- nothing is left -/
theorem RsI.done {B : Book} {cs ds : List Int} {rs : List (Int × List Int)} (h : RsI B cs ds rs) (h0 : ∀ d ∈ ds, d ≤ 0) : RsOk B cs rs := by
  refine ⟨h.m, h.c, h.w, h.l, fun j hj => ?_, by have := h.n; omega⟩
  have a := h.s j hj
  have b := h.d.at j
  have c : ds.getD j 0 ≤ 0 := by
    have := h.d.n
    rw [List.getD_eq_getElem?_getD, List.getElem?_eq_getElem (by omega)]
    exact h0 _ (List.getElem_mem _)
  omega
end L3
end
section
namespace L3
open PySem PySem.Spec PyProof.Rows L2
open Dt
mutual
/-- how often a told walk has a way -/
def cnT : Tw → Int → Int
  | .way k, j => if k = j then 1 else 0
  | .row ps, j => cnTs ps j
  | .times n t, j => n * cnT t j
def cnTs : List Tw → Int → Int
  | [], _ => 0
  | t :: r, j => cnT t j + cnTs r j
end
theorem cnTs_app (j : Int) : ∀ ps qs : List Tw, cnTs (ps ++ qs) j = cnTs ps j + cnTs qs j
  | [], qs => by rw [List.nil_append, cnTs]; omega
  | t :: r, qs => by
    rw [List.cons_append, cnTs, cnTs, cnTs_app j r qs]; omega
theorem cnTs_ways (j : Int) : ∀ w : List Int, cnTs (w.map Tw.way) j = (w.count j : Nat)
  | [] => by rw [List.map_nil, cnTs]; rfl
  | k :: w => by
    rw [List.map_cons, cnTs, cnTs_ways j w, cnT, cnt_cons]
    omega
theorem szs_ways : ∀ w : List Int, Tw.szs (w.map Tw.way) = w.length
  | [] => by rw [List.map_nil, Tw.szs]; rfl
  | k :: w => by rw [List.map_cons, Tw.szs, szs_ways w, Tw.sz, List.length_cons]; omega
theorem trl_pth {B : Book} : ∀ {w : List Int} {a b : Int}, (∀ k ∈ w, inW B k = true) → Trl (bA B) (bE B) a w b → Pth B a w b
  | [], _, _, _, h => h
  | k :: w, _, _, hw, h => ⟨hw k List.mem_cons_self, h.1, trl_pth (fun j hj => hw j (List.mem_cons_of_mem _ hj)) h.2⟩
def tmR (p : Int × List Int) : Tw := .times (p.1 - 1) (.row (p.2.map Tw.way))
def stA (B : Book) (p : Int × List Int) : Int := bA B (p.2.headD 0)
def prS (B : Book) (ws : List (Int × List Int)) (k : Int) : List Tw := (ws.filter fun p => decide (1 < p.1) && decide (stA B p = bA B k)).map tmR
def wtS (B : Book) (ws : List (Int × List Int)) (k : Int) : List (Int × List Int) := ws.filter fun p => decide (stA B p ≠ bA B k)
/-- how many ways the walks have -/
def lenS (rs : List (Int × List Int)) : Nat := (rs.map fun p => p.2.length).sum
/-- counts less one -/
def cnt1 (rs : List (Int × List Int)) (j : Int) : Int := (rs.map fun p => (p.1 - 1) * ((p.2.count j : Nat) : Int)).sum
/-- behind some ways of the walk: dn are the walks that are told so often -/
structure PrI (B : Book) (M : Int) (rs : List (Int × List Int)) (room : Int) (xs : List Int) (ps : List Tw) (ws : List (Int × List Int)) : Prop where
  ch : ∃ v, Trl (bA B) (bE B) room xs v ∧ ChTs B ps room v
  ok : ∀ p ∈ ps, OkT B M 2 p
  dp : ∀ p ∈ ps, p.dp ≤ 3
  dn : ∃ dn, (dn ++ ws).Perm rs ∧ (∀ j, cnTs ps j = (xs.count j : Nat) + cnt1 dn j) ∧ Tw.szs ps ≤ xs.length + 2 * dn.length + lenS dn ∧ ps.length ≤ xs.length + dn.length
  wt : ∀ p ∈ ws, ∀ x ∈ xs, stA B p ≠ bA B x
structure RsM (B : Book) (M : Int) (rs : List (Int × List Int)) : Prop where
  m : ∀ p ∈ rs, 1 ≤ p.1 ∧ p.1 ≤ M
  c : ∀ p ∈ rs, Cyc (bA B) (bE B) p.2
  w : ∀ p ∈ rs, ∀ k ∈ p.2, inW B k = true
  l : ∀ p ∈ rs, p.2.length ≤ 10000
theorem stA_eq {B : Book} {p : Int × List Int} (h : p.2 ≠ []) : stA B p = bA B (p.2.head h) := by
  obtain ⟨m, w⟩ := p
  cases w with
  | nil => exact absurd rfl h
  | cons x r => rfl
theorem tmR_ok {B : Book} {M : Int} {p : Int × List Int} (h1 : 1 < p.1) (h2 : p.1 ≤ M) (hc : Cyc (bA B) (bE B) p.2) (hw : ∀ k ∈ p.2, inW B k = true) (hl : p.2.length ≤ 10000) : OkT B M 2 (tmR p) ∧ ChT B (tmR p) (stA B p) (stA B p) ∧ (tmR p).dp ≤ 3 ∧ (tmR p).sz = 2 + p.2.length ∧ ∀ j, cnT (tmR p) j = (p.1 - 1) * (p.2.count j : Nat) := by
  have hne : p.2.map Tw.way ≠ [] := by simpa using hc.ne
  refine ⟨⟨⟨by omega, by omega⟩, hne, by rw [List.length_map]; exact hl, fun q hq => ?_⟩, ?_, ?_, ?_, fun j => ?_⟩
  · obtain ⟨k, hk, rfl⟩ := List.mem_map.mp hq
    exact hw k hk
  · rw [stA_eq hc.ne, tmR, ChT, ChT]
    exact ⟨⟨hne, chTs_path (trl_pth hw hc.start)⟩, .inr rfl⟩
  · have : ∀ w : List Int, Tw.dps (w.map Tw.way) ≤ 1 := fun w => by
      induction w with
      | nil => rw [List.map_nil, Tw.dps]; omega
      | cons k w ih => rw [List.map_cons, Tw.dps, Tw.dp]; omega
    have := this p.2
    rw [tmR, Tw.dp, Tw.dp]; omega
  · rw [tmR, Tw.sz, Tw.sz, szs_ways]; omega
  · rw [tmR, cnT, cnT, cnTs_ways]
theorem cnt1_app (j : Int) (a b : List (Int × List Int)) : cnt1 (a ++ b) j = cnt1 a j + cnt1 b j := by
  unfold cnt1; rw [List.map_append, List.sum_append]
theorem lenS_app (a b : List (Int × List Int)) : lenS (a ++ b) = lenS a + lenS b := by
  unfold lenS; rw [List.map_append, List.sum_append_nat]
theorem chTs_same {B : Book} {r : Int} : ∀ {ps : List Tw}, (∀ p ∈ ps, ChT B p r r) → ChTs B ps r r
  | [], _ => by rw [ChTs]
  | p :: ps, h => by
    rw [ChTs]
    exact ⟨r, h p List.mem_cons_self, chTs_same fun q hq => h q (List.mem_cons_of_mem _ hq)⟩
/-- what the loop puts to the parts for one way -/
theorem prS_ok {B : Book} {M : Int} {k : Int} : ∀ {ws : List (Int × List Int)}, RsM B M ws → (∀ p ∈ prS B ws k, OkT B M 2 p ∧ ChT B p (bA B k) (bA B k) ∧ p.dp ≤ 3) ∧
    (∀ j, cnTs (prS B ws k) j = cnt1 (ws.filter fun p => decide (stA B p = bA B k)) j) ∧ Tw.szs (prS B ws k) ≤ 2 * (ws.filter fun p => decide (stA B p = bA B k)).length + lenS (ws.filter fun p => decide (stA B p = bA B k)) ∧ (prS B ws k).length ≤ (ws.filter fun p => decide (stA B p = bA B k)).length
  | [], _ => ⟨fun p h => (nomatch h), fun j => by show cnTs [] j = _; rw [cnTs]; rfl, by show Tw.szs [] ≤ _; rw [Tw.szs]; exact Nat.zero_le _, Nat.le_refl _⟩
  | p :: ws, h => by
    obtain ⟨i1, i2, i3, i4⟩ := prS_ok (M := M) (k := k) (ws := ws) ⟨fun q hq => h.m q (List.mem_cons_of_mem _ hq), fun q hq => h.c q (List.mem_cons_of_mem _ hq), fun q hq => h.w q (List.mem_cons_of_mem _ hq), fun q hq => h.l q (List.mem_cons_of_mem _ hq)⟩
    have hm := h.m p List.mem_cons_self
    by_cases e : stA B p = bA B k
    · by_cases c : 1 < p.1
      · obtain ⟨t1, t2, t3, t4, t5⟩ := tmR_ok c hm.2 (h.c p List.mem_cons_self) (h.w p List.mem_cons_self) (h.l p List.mem_cons_self)
        have ep : prS B (p :: ws) k = tmR p :: prS B ws k := by unfold prS; rw [List.filter_cons_of_pos (by simp [c, e]), List.map_cons]
        have ef : (p :: ws).filter (fun p => decide (stA B p = bA B k)) = p :: ws.filter fun p => decide (stA B p = bA B k) := List.filter_cons_of_pos (by simp [e])
        rw [ep, ef]
        rw [e] at t2
        refine ⟨fun q hq => ?_, fun j => ?_, ?_, ?_⟩
        · rcases List.mem_cons.mp hq with rfl | hq
          · exact ⟨t1, t2, t3⟩
          · exact i1 q hq
        · rw [cnTs, t5, i2]; unfold cnt1; rw [List.map_cons, List.sum_cons]
        · rw [Tw.szs, t4, List.length_cons]
          unfold lenS at i3 ⊢
          rw [List.map_cons, List.sum_cons]; omega
        · rw [List.length_cons, List.length_cons]; omega
      · have ep : prS B (p :: ws) k = prS B ws k := by unfold prS; rw [List.filter_cons_of_neg (by simp [c])]
        have ef : (p :: ws).filter (fun p => decide (stA B p = bA B k)) = p :: ws.filter fun p => decide (stA B p = bA B k) := List.filter_cons_of_pos (by simp [e])
        rw [ep, ef]
        refine ⟨i1, fun j => ?_, ?_, ?_⟩
        · rw [i2]; unfold cnt1; rw [List.map_cons, List.sum_cons, show p.1 - 1 = 0 by omega]; omega
        · rw [List.length_cons]
          unfold lenS at i3 ⊢
          rw [List.map_cons, List.sum_cons]; omega
        · rw [List.length_cons]; omega
    · have ep : prS B (p :: ws) k = prS B ws k := by unfold prS; rw [List.filter_cons_of_neg (by simp [e])]
      have ef : (p :: ws).filter (fun p => decide (stA B p = bA B k)) = ws.filter fun p => decide (stA B p = bA B k) := List.filter_cons_of_neg (by simp [e])
      rw [ep, ef]
      exact ⟨i1, i2, i3, i4⟩
theorem PrI.step {B : Book} {M : Int} {rs : List (Int × List Int)} {room : Int} {xs : List Int} {ps : List Tw} {ws : List (Int × List Int)} (hR : RsM B M rs) (h : PrI B M rs room xs ps ws) {k u : Int} (hk : inW B k = true) (ht : Trl (bA B) (bE B) room (xs ++ [k]) u) :
    PrI B M rs room (xs ++ [k]) (ps ++ prS B ws k ++ [.way k]) (wtS B ws k) := by
  obtain ⟨dn, d1, d2, d3, d4⟩ := h.dn
  have hsub : ∀ p ∈ ws, p ∈ rs := fun p hp => d1.subset (List.mem_append_right _ hp)
  obtain ⟨i1, i2, i3, i4⟩ := prS_ok (k := k) (ws := ws) ⟨fun q hq => hR.m q (hsub q hq), fun q hq => hR.c q (hsub q hq), fun q hq => hR.w q (hsub q hq), fun q hq => hR.l q (hsub q hq)⟩
  obtain ⟨v, c1, c2⟩ := h.ch
  obtain ⟨t1, t2⟩ := Trl.snoc.mp ht
  have ev : v = bA B k := (trl_top c1).trans (trl_top t1).symm
  subst ev
  refine ⟨⟨u, ht, (c2.app (chTs_same fun p hp => (i1 p hp).2.1)).app ?_⟩, fun p hp => ?_, fun p hp => ?_, ⟨dn ++ ws.filter (fun p => decide (stA B p = bA B k)), ?_, fun j => ?_, ?_, ?_⟩, fun p hp x hx => ?_⟩
  · refine chTs_one ?_
    rw [ChT]
    exact ⟨hk, rfl, t2.symm⟩
  · rcases List.mem_append.mp hp with hp | hp
    · rcases List.mem_append.mp hp with hp | hp
      · exact h.ok p hp
      · exact (i1 p hp).1
    · rw [List.mem_singleton.mp hp]; exact hk
  · rcases List.mem_append.mp hp with hp | hp
    · rcases List.mem_append.mp hp with hp | hp
      · exact h.dp p hp
      · exact (i1 p hp).2.2
    · rw [List.mem_singleton.mp hp, Tw.dp]; omega
  · rw [List.append_assoc]
    refine List.Perm.trans (List.Perm.append_left _ ?_) d1
    have := List.filter_append_perm (fun p => decide (stA B p = bA B k)) ws
    have e : wtS B ws k = ws.filter fun p => !decide (stA B p = bA B k) := by
      unfold wtS
      congr 1
      funext p
      simp
    rw [e]; exact this
  · rw [cnTs_app, cnTs_app, d2, i2, cnt1_app, List.count_append, List.count_singleton, cnTs, cnTs, cnT]
    by_cases e : k = j
    · simp [e]; omega
    · simp [e]; omega
  · rw [szs_app, szs_app, Tw.szs, Tw.szs, Tw.sz, List.length_append, List.length_append, lenS_app, List.length_singleton]; omega
  · rw [List.length_append, List.length_append, List.length_append, List.length_append, List.length_singleton, List.length_singleton]; omega
  · obtain ⟨hp1, hp2⟩ := List.mem_filter.mp hp
    rcases List.mem_append.mp hx with hx | hx
    · exact h.wt p hp1 x hx
    · rw [List.mem_singleton.mp hx]; exact of_decide_eq_true hp2
/-- a told walk whose round some counts are -/
structure TwOf (B : Book) (cs : List Int) (M room : Int) (t : Tw) : Prop where
  sh : ∃ ps, t = .row ps
  ch : ChT B t room room
  ok : OkT B M 3 t
  cn : ∀ j : Nat, j < B.ways.length → cnT t (j : Nat) = cs.getD j 0
  sz : t.sz ≤ 1 + 2 * B.ways.length + 2 * (B.ways.length * B.rooms.toNat)
  dp : t.dp ≤ 4
theorem cntW_ge : ∀ {rs : List (Int × List Int)} {p : Int × List Int} {j : Int}, (∀ p ∈ rs, 0 ≤ p.1) → p ∈ rs → 0 ≤ cntW rs j ∧ p.1 * ((p.2.count j : Nat) : Int) ≤ cntW rs j
  | q :: rs, p, j, h, hp => by
    have e : cntW (q :: rs) j = q.1 * ((q.2.count j : Nat) : Int) + cntW rs j := by unfold cntW; rw [List.map_cons, List.sum_cons]
    have q0 := Int.mul_nonneg (h q List.mem_cons_self) (Int.natCast_nonneg (q.2.count j))
    have r0 : 0 ≤ cntW rs j := by
      clear hp
      induction rs with
      | nil => exact Int.le_refl _
      | cons x rs ih =>
        have ih := ih (fun p hp => h p (by
          rcases List.mem_cons.mp hp with rfl | hp
          · exact List.mem_cons_self
          · exact List.mem_cons_of_mem _ (List.mem_cons_of_mem _ hp))) (by unfold cntW; rw [List.map_cons, List.sum_cons])
        have e : cntW (x :: rs) j = x.1 * ((x.2.count j : Nat) : Int) + cntW rs j := by unfold cntW; rw [List.map_cons, List.sum_cons]
        have x0 := Int.mul_nonneg (h x (List.mem_cons_of_mem _ List.mem_cons_self)) (Int.natCast_nonneg (x.2.count j))
        rw [e]; omega
    rw [e]
    refine ⟨by omega, ?_⟩
    rcases List.mem_cons.mp hp with rfl | hp
    · omega
    · have := (cntW_ge (rs := rs) (p := p) (j := j) (fun p hp => h p (List.mem_cons_of_mem _ hp)) hp).2
      omega
theorem RsOk.ge {B : Book} {cs : List Int} {rs : List (Int × List Int)} (h : RsOk B cs rs) {p : Int × List Int} (hp : p ∈ rs) {k : Int} (hk : k ∈ p.2) : 0 ≤ k ∧ k < B.ways.length ∧ p.1 ≤ cs.getD k.toNat 0 := by
  have hb := h.w p hp k hk
  simp only [inW, Bool.and_eq_true, decide_eq_true_eq] at hb
  refine ⟨hb.1, hb.2, ?_⟩
  have s := h.s k.toNat (by omega)
  rw [show ((k.toNat : Nat) : Int) = k by omega] at s
  have g := (cntW_ge (rs := rs) (p := p) (j := k) (fun q hq => by have := h.m q hq; omega) hp).2
  have nd := (h.c p hp).nodup
  rw [count_nd nd, if_pos hk] at g
  rw [s]
  have e : p.1 * ((1 : Nat) : Int) = p.1 := Int.mul_one _
  omega
theorem cntW_pos : ∀ {rs : List (Int × List Int)} {j : Int}, 0 < cntW rs j → ∃ p ∈ rs, j ∈ p.2
  | q :: rs, j, h => by
    have e : cntW (q :: rs) j = q.1 * ((q.2.count j : Nat) : Int) + cntW rs j := by unfold cntW; rw [List.map_cons, List.sum_cons]
    by_cases c : j ∈ q.2
    · exact ⟨q, List.mem_cons_self, c⟩
    · rw [e, List.count_eq_zero.mpr c] at h
      have h : 0 < cntW rs j := by
        have z : q.1 * ((0 : Nat) : Int) = 0 := Int.mul_zero _
        omega
      obtain ⟨p, hp, hj⟩ := cntW_pos h
      exact ⟨p, List.mem_cons_of_mem _ hp, hj⟩
theorem posW_iff {n : Nat} {cs : List Int} {k : Int} : k ∈ posW n cs ↔ 0 ≤ k ∧ k < n ∧ 0 < cs.getD k.toNat 0 := by
  unfold posW
  rw [List.mem_map]
  constructor
  · rintro ⟨i, hi, rfl⟩
    obtain ⟨a, b⟩ := List.mem_filter.mp hi
    have a := List.mem_range.mp a
    exact ⟨by omega, by omega, by rw [Int.toNat_natCast]; exact of_decide_eq_true b⟩
  · rintro ⟨a, b, c⟩
    exact ⟨k.toNat, List.mem_filter.mpr ⟨List.mem_range.mpr (by omega), decide_eq_true c⟩, by omega⟩
/-- the ways with a count are just those of the ways round -/
theorem RsOk.pos {B : Book} {cs : List Int} {rs : List (Int × List Int)} (h : RsOk B cs rs) {k : Int} : k ∈ posW B.ways.length cs ↔ k ∈ (rs.map Prod.snd).flatten := by
  rw [posW_iff, List.mem_flatten]
  constructor
  · rintro ⟨a, b, c⟩
    have s := h.s k.toNat (by omega)
    rw [show ((k.toNat : Nat) : Int) = k by omega] at s
    obtain ⟨p, hp, hk⟩ := cntW_pos (rs := rs) (j := k) (by omega)
    exact ⟨p.2, List.mem_map_of_mem hp, hk⟩
  · rintro ⟨w, hw, hk⟩
    obtain ⟨p, hp, rfl⟩ := List.mem_map.mp hw
    obtain ⟨a, b, c⟩ := h.ge hp hk
    have := h.m p hp
    exact ⟨a, b, by omega⟩
/-- each way of a round leads back -/
theorem RsOk.back {B : Book} {cs : List Int} {rs : List (Int × List Int)} (h : RsOk B cs rs) {k : Int} (hk : k ∈ posW B.ways.length cs) : Rch B (posW B.ways.length cs) (wAt B k).b (wAt B k).a := by
  obtain ⟨w, hw, hkw⟩ := List.mem_flatten.mp (h.pos.mp hk)
  obtain ⟨p, hp, rfl⟩ := List.mem_map.mp hw
  obtain ⟨u, hu⟩ := (h.c p hp).tl
  obtain ⟨i, hi⟩ := List.getElem?_of_mem hkw
  have hil := (List.getElem?_eq_some_iff.mp hi).1
  obtain ⟨t1, t2⟩ := hu.at hi
  have sub : ∀ j ∈ p.2, j ∈ posW B.ways.length cs := fun j hj => h.pos.mpr (List.mem_flatten.mpr ⟨_, hw, hj⟩)
  have ek : p.2[i] = k := Option.some.inj ((List.getElem?_eq_getElem hil).symm.trans hi)
  rw [List.drop_eq_getElem_cons hil, ek] at t1
  exact (trl_rch (fun j hj => sub j (List.mem_of_mem_drop hj)) t1.2).trans (trl_rch (fun j hj => sub j (List.mem_of_mem_take hj)) t2)
theorem sum_permI {xs ys : List Int} (h : xs.Perm ys) : xs.sum = ys.sum := by
  induction h with
  | nil => rfl
  | cons x _ ih => rw [List.sum_cons, List.sum_cons, ih]
  | swap x y l => rw [List.sum_cons, List.sum_cons, List.sum_cons, List.sum_cons]; omega
  | trans _ _ a b => exact a.trans b
theorem cnt1_perm {a b : List (Int × List Int)} (h : a.Perm b) (j : Int) : cnt1 a j = cnt1 b j := by
  unfold cnt1
  exact sum_permI (h.map _)
theorem lenS_perm {a b : List (Int × List Int)} (h : a.Perm b) : lenS a = lenS b := by
  unfold lenS
  exact (h.map _).sum_nat
theorem cnt_flat (j : Int) : ∀ rs : List (Int × List Int), ((((rs.map Prod.snd).flatten).count j : Nat) : Int) + cnt1 rs j = cntW rs j
  | [] => rfl
  | p :: rs => by
    have ih := cnt_flat j rs
    unfold cnt1 cntW at ih ⊢
    rw [List.map_cons, List.flatten_cons, List.count_append, List.map_cons, List.sum_cons, List.map_cons, List.sum_cons, Int.sub_mul]
    omega
theorem lenS_flat : ∀ rs : List (Int × List Int), lenS rs = (rs.map Prod.snd).flatten.length
  | [] => rfl
  | p :: rs => by
    have ih := lenS_flat rs
    unfold lenS at ih ⊢
    rw [List.map_cons, List.sum_cons, List.map_cons, List.flatten_cons, List.length_append, ih]
theorem PrI.done {B : Book} {cs : List Int} {M room : Int} {rs ws : List (Int × List Int)} {es : List Int} {ps : List Tw} (h : RsOk B cs rs) (hP : PrI B M rs room es ps ws) (hp : es.Perm (rs.map Prod.snd).flatten) (ht : Trl (bA B) (bE B) room es room)
    (hl : (rs.map Prod.snd).flatten.length ≤ B.ways.length * B.rooms.toNat) (hn : B.ways.length ≤ 60) (hd : B.rooms ≤ 16) (hpos : ∃ k, k < B.ways.length ∧ 0 < cs.getD k 0) : TwOf B cs M room (.row ps) := by
  obtain ⟨dn, d1, d2, d3, d4⟩ := hP.dn
  have ews : ws = [] := by
    cases e : ws with
    | nil => rfl
    | cons p r =>
      have hpr : p ∈ rs := d1.subset (List.mem_append_right _ (by rw [e]; exact List.mem_cons_self))
      have hne := (h.c p hpr).ne
      have hx : p.2.head hne ∈ es := hp.symm.subset (List.mem_flatten.mpr ⟨p.2, List.mem_map_of_mem hpr, List.head_mem hne⟩)
      exact absurd (stA_eq hne) (hP.wt p (by rw [e]; exact List.mem_cons_self) _ hx)
  rw [ews, List.append_nil] at d1
  have cn : ∀ j : Nat, j < B.ways.length → cnTs ps (j : Nat) = cs.getD j 0 := fun j hj => by
    rw [d2, h.s j hj, cnt1_perm d1, ← cnt_flat, hp.count_eq]
  have hel : es.length = (rs.map Prod.snd).flatten.length := hp.length_eq
  have hdl : dn.length = rs.length := d1.length_eq
  have hds : lenS dn = lenS rs := lenS_perm d1
  have hrn := h.n
  have hb : B.ways.length * B.rooms.toNat ≤ 60 * 16 := Nat.mul_le_mul hn (by omega)
  obtain ⟨v, c1, c2⟩ := hP.ch
  have ev : v = room := (trl_top c1).trans (trl_top ht).symm
  subst ev
  have hne : ps ≠ [] := fun e => by
    obtain ⟨k, hk, hkp⟩ := hpos
    have := cn k hk
    rw [e, cnTs] at this
    omega
  refine ⟨⟨ps, rfl⟩, by rw [ChT]; exact ⟨hne, c2⟩, ⟨hne, by omega, hP.ok⟩, fun j hj => by rw [cnT]; exact cn j hj, ?_, ?_⟩
  · rw [Tw.sz]
    rw [hds, lenS_flat] at d3
    omega
  · rw [Tw.dp]
    have : ∀ ps : List Tw, (∀ p ∈ ps, p.dp ≤ 3) → Tw.dps ps ≤ 3 := fun ps => by
      induction ps with
      | nil => intro _; rw [Tw.dps]; omega
      | cons p ps ih =>
        intro hp
        have := hp p List.mem_cons_self
        have ih := ih fun q hq => hp q (List.mem_cons_of_mem _ hq)
        rw [Tw.dps]; omega
    have := this ps hP.dp
    omega
end L3
end
section
namespace L3
open PySem PySem.Spec PyProof.Rows L2
open Dt
theorem cntL_getD {n j : Nat} (wk : List (Int × List Int)) (h : j < n) : (cntL n wk).getD j 0 = cntW wk (j : Nat) := by
  rw [List.getD_eq_getElem?_getD, cntL_get wk h]; rfl
theorem Circ.back {B : Book} {cs : List Int} (h : Circ B cs) (hW : WsIn B) {k : Int} (hk : k ∈ posW B.ways.length cs) : Rch B (posW B.ways.length cs) (wAt B k).b (wAt B k).a := by
  classical
  apply Classical.byContradiction
  intro hn
  obtain ⟨k0, k1, kp⟩ := posW_iff.mp hk
  generalize hP : posW B.ways.length cs = P at *
  have hS : ∃ S : Int → Int, S = fun v => if Rch B P (wAt B k).b v then (1 : Int) else 0 := ⟨_, rfl⟩
  obtain ⟨S, eS⟩ := hS
  have z : sm B.ways.length (fun j => cs.getD j 0 * (S (wAt B (j : Nat)).b - S (wAt B (j : Nat)).a)) = 0 := by
    have e1 : ∀ j, j < B.ways.length → cs.getD j 0 * (S (wAt B (j : Nat)).b - S (wAt B (j : Nat)).a) = sm B.rooms.toNat fun v => S (v : Nat) * ((if (wAt B (j : Nat)).b = (v : Nat) then cs.getD j 0 else 0) - (if (wAt B (j : Nat)).a = (v : Nat) then cs.getD j 0 else 0)) := fun j hj => by
      obtain ⟨⟨a0, a1⟩, b0, b1⟩ := hW ((j : Nat) : Int) (wAt_nat hj)
      rw [sm_congr (g := fun v => (if (wAt B (j : Nat)).b = ((v : Nat) : Int) then S (wAt B (j : Nat)).b * cs.getD j 0 else 0) - (if (wAt B (j : Nat)).a = ((v : Nat) : Int) then S (wAt B (j : Nat)).a * cs.getD j 0 else 0)) fun v _ => ?_, sm_sub, sm_pick b0 (by omega), sm_pick a0 (by omega)]
      · rw [Int.mul_sub, Int.mul_comm (S _), Int.mul_comm (S _)]
      · rw [Int.mul_sub]
        congr 1
        · split
          · rename_i e; rw [e]
          · exact Int.mul_zero _
        · split
          · rename_i e; rw [e]
          · exact Int.mul_zero _
    rw [sm_congr e1, sm_swap, sm_congr (g := fun _ => 0) fun v _ => ?_, sm_zero]
    rw [sm_mul, sm_sub]
    have := h.b ((v : Nat) : Int)
    unfold outC inC at this
    rw [this, Int.sub_self, Int.mul_zero]
  have nn : ∀ j, j < B.ways.length → 0 ≤ cs.getD j 0 * (S (wAt B (j : Nat)).b - S (wAt B (j : Nat)).a) := fun j hj => by
    by_cases c : 0 < cs.getD j 0
    · refine Int.mul_nonneg (Int.le_of_lt c) ?_
      have hjP : ((j : Nat) : Int) ∈ P := by rw [← hP]; exact posW_iff.mpr ⟨by omega, by omega, by rw [Int.toNat_natCast]; exact c⟩
      rw [eS]
      dsimp only
      by_cases ra : Rch B P (wAt B k).b (wAt B (j : Nat)).a
      · rw [if_pos ra, if_pos (Rch.step ra hjP)]; decide
      · rw [if_neg ra]; split <;> decide
    · have e : cs.getD j 0 = 0 := by have := h.at j; omega
      rw [e, Int.zero_mul]; exact Int.le_refl _
  have := sm_ge1 nn (k := k.toNat) (by omega)
  rw [z, show ((k.toNat : Nat) : Int) = k by omega, eS] at this
  dsimp only at this
  rw [if_pos (Rch.refl _), if_neg hn] at this
  omega
end L3
end
section
namespace L3
open PySem L2
variable {G : Type} {K : PySem.W.Frag} {X : Cx} {Z : Zx K G}
def kindL2 (f : Str → Bool) : List Bool := [f "NoEnd", f "NoLine", f "NoPurse", f "NoRing", f "NoRound", f "NoRow", f "NoStand", f "NoWay", f "TooMany", false]
def KOk2 (K : PySem.W.Frag) (mg : Str → Option Value) (c : Value) (k : List Bool → Prop) : Prop := ∃ (D : Addr) (f : Str → Bool), c = .ref D ∧ ExcC K D ∧ KindsOf K mg D f ∧ k (kindL2 f)
def dTryK2 (K : PySem.W.Frag) (mg : Str → Option Value) (y : Str) (ie ik : Nat) (U : UX G) (db : UX G → DS G) : DS G := fun D ρ g =>
  db (fun c fs ρ' g' => (fs = [] ∧ Takes1 K mg c y true ∧ KOk2 K mg c fun bs => ltK ie ρ'.length (ltK ik ρ'.length (D.nx ((ρ'.set ie .un).set ik (.ls (bs.map PyData.bool))) g'))) ∨ (Takes1 K mg c y false ∧ U c fs ρ' g')) D ρ g
def tsK2 (K : PySem.W.Frag) (mg : Str → Option Value) (ie ik : Nat) (a : Addr) (cls : Value) (d : Option Addr) : TS := fun D σ H => ∃ (Dd : Addr) (f : Str → Bool), cls = .ref Dd ∧ d = none ∧ ExcC K Dd ∧ KindsOf K mg Dd f ∧ σ[ie]? = some (some (.ref a)) ∧ ik < σ.length ∧
  ∀ (H' : Hp) (l : Addr), (∀ b o, H b = some o → H' b = some o) → H l = none → H' l = some (.lst ((kindL2 f).map V.bl)) → D.nx (σ.set ik (some (.ref l))) H'
/-- isinstance(n, x) -/
abbrev isiX (n x : Str) (p1 p2 p3 p4 : Pos) : Expr := .Call (.Name "isinstance" p1) [.Name n p2, .Name x p3] [] p4
theorem kinds2_pss {n kn : Str} {ie ik : Nat} {a : Addr} {oe : Obj} {cls : Value} {d : Option Addr} {pn : List (Addr × Obj)} (hz : Zc cls d oe) (hv2 : ∃ vs, oe.data = .fields vs)
    {q1 q2 q3 q4 q5 q6 q7 q8 q9 q10 q11 q12 q13 q14 q15 q16 q17 q18 q19 q20 q21 q22 q23 q24 q25 q26 q27 q28 q29 q30 q31 q32 q33 q34 q35 q36 q37 q38 q39 q40 q41 u1 u2 u3 u4 u5 u6 u7 u8 u9 u10 u11 u12 u13 : Pos}
    (zi : X.mg "isinstance" = none) (zv : X.mg "ValueError" = none) (kk : ∀ x ∈ kindNs, ∃ C, X.mg x = some (.ref C))
    (hN : X.N.Nodup) (hne : ie ≠ ik) (hie : X.N[ie]? = some n) (hik : X.N[ik]? = some kn) (hlk : X.env.scope.names.lookup kn = some .local)
    (hdn : (n == ("__debug__" : Str)) = false) (hcn : (n == ("__classdict__" : Str)) = false) (hv : Vis X.env.scope n) (hdk : (kn == ("__debug__" : Str)) = false) (hck : (kn == ("__classdict__" : Str)) = false) (hvk : Vis X.env.scope kn)
    (gi : Gl X "isinstance") (g1 : Gl X "NoEnd") (g2 : Gl X "NoLine") (g3 : Gl X "NoPurse") (g4 : Gl X "NoRing") (g5 : Gl X "NoRound") (g6 : Gl X "NoRow") (g7 : Gl X "NoStand") (g8 : Gl X "NoWay") (g9 : Gl X "TooMany") (gv : Gl X "ValueError")
    (hs1 : swapsWith (.List [isiX n "NoEnd" q1 q2 q3 q4, isiX n "NoLine" q5 q6 q7 q8, isiX n "NoPurse" q9 q10 q11 q12, isiX n "NoRing" q13 q14 q15 q16] u1) (some (.Name kn u2)) u3.line X.env = pure false)
    (hs2 : swapsWith (.BinOp (.Name kn u4) .Add (.List [isiX n "NoRound" q17 q18 q19 q20, isiX n "NoRow" q21 q22 q23 q24, isiX n "NoStand" q25 q26 q27 q28] u5) u6) (some (.Name kn u7)) u8.line X.env = pure false)
    (hs3 : swapsWith (.BinOp (.Name kn u9) .Add (.List [isiX n "NoWay" q29 q30 q31 q32, isiX n "TooMany" q33 q34 q35 q36, .UnaryOp .Not (isiX n "ValueError" q37 q38 q39 q40) q41] u10) u11) (some (.Name kn u12)) u13.line X.env = pure false) :
    PSs (X.suite a ((a, oe) :: pn)) [.Assign [.Name kn u2] (.List [isiX n "NoEnd" q1 q2 q3 q4, isiX n "NoLine" q5 q6 q7 q8, isiX n "NoPurse" q9 q10 q11 q12, isiX n "NoRing" q13 q14 q15 q16] u1) u3,
      .Assign [.Name kn u7] (.BinOp (.Name kn u4) .Add (.List [isiX n "NoRound" q17 q18 q19 q20, isiX n "NoRow" q21 q22 q23 q24, isiX n "NoStand" q25 q26 q27 q28] u5) u6) u8,
      .Assign [.Name kn u12] (.BinOp (.Name kn u9) .Add (.List [isiX n "NoWay" q29 q30 q31 q32, isiX n "TooMany" q33 q34 q35 q36, .UnaryOp .Not (isiX n "ValueError" q37 q38 q39 q40) q41] u10) u11) u13] (tsK2 X.K X.mg ie ik a cls d) := by
  refine ⟨fun pins s σ H D I q => ?_⟩
  obtain ⟨Dd, f, rfl, rfl, c, hk, hσ, hil, hq⟩ := q
  have nm : ∀ x ∈ kindNs, ∃ C, X.mg x = some (.ref C) ∧ PySem.W.kitOne X.K (.ref Dd) (.ref C) = some (f x) := fun x hx => by
    obtain ⟨C, hC⟩ := kk x hx
    have := hk.k x hx
    rw [cv_of hC] at this
    exact ⟨C, hC, this⟩
  obtain ⟨C1, m1, e1⟩ := nm "NoEnd" (by decide)
  obtain ⟨C2, m2, e2⟩ := nm "NoLine" (by decide)
  obtain ⟨C3, m3, e3⟩ := nm "NoPurse" (by decide)
  obtain ⟨C4, m4, e4⟩ := nm "NoRing" (by decide)
  obtain ⟨C5, m5, e5⟩ := nm "NoRound" (by decide)
  obtain ⟨C6, m6, e6⟩ := nm "NoRow" (by decide)
  obtain ⟨C7, m7, e7⟩ := nm "NoStand" (by decide)
  obtain ⟨C8, m8, e8⟩ := nm "NoWay" (by decide)
  obtain ⟨C9, m9, e9⟩ := nm "TooMany" (by decide)
  let Y : Cx := X.suite a ((a, oe) :: pn)
  have hp : ((a, oe) : Addr × Obj) ∈ Y.pn := List.mem_cons_self
  have pe : ∀ {py : Pos}, PE Y (.Name n py) (tVar ie) := fun {py} => pe_var (X := Y) hie hv hdn hcn
  have pk : ∀ {py : Pos}, PE Y (.Name kn py) (tVar ik) := fun {py} => pe_var (X := Y) hik hvk hdk hck
  have P1 := pss_cons (ps_set (X := Y) (i := ik) hN hik (.inl hlk) (pe_lst (pos := u1) (pa_cons (isE_pe (X := Y) (px := q3) (pp := q1) (pos := q4) c hp hz hv2 zi m1 (pe (py := q2)) gi g1) (pa_cons (isE_pe (X := Y) (px := q7) (pp := q5) (pos := q8) c hp hz hv2 zi m2 (pe (py := q6)) gi g2) (pa_cons (isE_pe (X := Y) (px := q11) (pp := q9) (pos := q12) c hp hz hv2 zi m3 (pe (py := q10)) gi g3) (pa_cons (isE_pe (X := Y) (px := q15) (pp := q13) (pos := q16) c hp hz hv2 zi m4 (pe (py := q14)) gi g4) pa_nil))))) (pos := u3) (pos' := u2) hs1 (.inr hlk))
    (pss_cons (ps_set (X := Y) (i := ik) hN hik (.inl hlk) (pe_op (pos := u6) op_cat (pk (py := u4)) (pe_lst (pos := u5) (pa_cons (isE_pe (X := Y) (px := q19) (pp := q17) (pos := q20) c hp hz hv2 zi m5 (pe (py := q18)) gi g5) (pa_cons (isE_pe (X := Y) (px := q23) (pp := q21) (pos := q24) c hp hz hv2 zi m6 (pe (py := q22)) gi g6) (pa_cons (isE_pe (X := Y) (px := q27) (pp := q25) (pos := q28) c hp hz hv2 zi m7 (pe (py := q26)) gi g7) pa_nil))))) (pos := u8) (pos' := u7) hs2 (.inr hlk))
    (pss_one (ps_set (X := Y) (i := ik) hN hik (.inl hlk) (pe_op (pos := u11) op_cat (pk (py := u9)) (pe_lst (pos := u10) (pa_cons (isE_pe (X := Y) (px := q31) (pp := q29) (pos := q32) c hp hz hv2 zi m8 (pe (py := q30)) gi g8) (pa_cons (isE_pe (X := Y) (px := q35) (pp := q33) (pos := q36) c hp hz hv2 zi m9 (pe (py := q34)) gi g9) (pa_cons (pe_not (pos := q41) (isT_pe (X := Y) (px := q39) (pp := q37) (pos := q40) c hp hz hv2 zi zv rfl (pe (py := q38)) gi gv)) pa_nil))))) (pos := u13) (pos' := u12) hs3 (.inr hlk))))
  refine P1.run pins s σ H D I ?_
  have s0 : ∀ {l : Addr} {x : St}, x[ie]? = some (some (.ref a)) → (x.set ik (some (.ref l)))[ie]? = some (some (.ref a)) := fun {l x} h => by rw [List.getElem?_set_ne (Ne.symm hne)]; exact h
  have sk : ∀ {l : Addr} {x : St}, ik < x.length → (x.set ik (some (.ref l)))[ik]? = some (some (.ref l)) := fun {l x} h => List.getElem?_set_self h
  have st : ∀ {G : Hp} {l : Addr} {o : HO}, (∀ b o, H b = some o → G b = some o) → G l = none → (∀ b o', H b = some o' → (upd G l o) b = some o') := fun {G l o} k n b o' e => by rw [upd_ne (ne_of_none (k b o' e) n)]; exact k b o' e
  refine ⟨_, hσ, .ref C1, .ref C1, _, rfl, (fun u hu => hu), e1, _, hσ, .ref C2, .ref C2, _, rfl, (fun u hu => hu), e2, _, hσ, .ref C3, .ref C3, _, rfl, (fun u hu => hu), e3, _, hσ, .ref C4, .ref C4, _, rfl, (fun u hu => hu), e4, (by show 4 ≤ sizeLine; decide), fun l1 n1 => ?_⟩
  have b1 := st (o := .lst [.bl (f "NoEnd"), .bl (f "NoLine"), .bl (f "NoPurse"), .bl (f "NoRing")]) (fun b o e => e) n1
  refine ⟨_, sk hil, _, s0 hσ, .ref C5, .ref C5, _, rfl, (fun u hu => hu), e5, _, s0 hσ, .ref C6, .ref C6, _, rfl, (fun u hu => hu), e6, _, s0 hσ, .ref C7, .ref C7, _, rfl, (fun u hu => hu), e7, (by show 3 ≤ sizeLine; decide), fun l2 n2 => ?_⟩
  have h12 : l1 ≠ l2 := fun e => by rw [← e, upd_same] at n2; cases n2
  have b2 := st (o := .lst [.bl (f "NoRound"), .bl (f "NoRow"), .bl (f "NoStand")]) b1 n2
  refine ⟨l1, l2, _, _, rfl, rfl, by rw [upd_ne h12, upd_same], upd_same, (by show 7 ≤ sizeLine; decide), fun l3 n3 => ?_⟩
  have b3 := st (o := .lst ([.bl (f "NoEnd"), .bl (f "NoLine"), .bl (f "NoPurse"), .bl (f "NoRing")] ++ [.bl (f "NoRound"), .bl (f "NoRow"), .bl (f "NoStand")])) b2 n3
  have hil2 : ik < (σ.set ik (some (.ref l1))).length := by rw [List.length_set]; exact hil
  refine ⟨_, sk hil2, _, s0 (s0 hσ), .ref C8, .ref C8, _, rfl, (fun u hu => hu), e8, _, s0 (s0 hσ), .ref C9, .ref C9, _, rfl, (fun u hu => hu), e9, _, s0 (s0 hσ), .ty "ValueError", .type "ValueError", _, rfl, (fun u hu => hu), hk.v, _, rfl, (by show 3 ≤ sizeLine; decide), fun l4 n4 => ?_⟩
  have h34 : l3 ≠ l4 := fun e => by rw [← e, upd_same] at n4; cases n4
  have b4 := st (o := .lst [.bl (f "NoWay"), .bl (f "TooMany"), .bl (!true)]) b3 n4
  refine ⟨l3, l4, _, _, rfl, rfl, by rw [upd_ne h34, upd_same], upd_same, (by show 10 ≤ sizeLine; decide), fun l5 n5 => ?_⟩
  have := hq _ l5 (st b4 n5) (by
    cases q : H l5 with
    | none => rfl
    | some o => rw [b4 l5 o q] at n5; cases n5) upd_same
  show D.nx (((σ.set ik _).set ik _).set ik _) _
  rw [List.set_set, List.set_set]
  exact this
theorem s_tryK2 {W : WXH} {U : UX G} {y n kn : Str} (ie ik : Nat) {body : List Stmt} {np pos pos2 : Pos} {db : UX G → DS G} (e : ExX X.K X.mg y) (tk : Takes X W) (zi : X.mg "isinstance" = none) (zv : X.mg "ValueError" = none) (kk : ∀ x ∈ kindNs, ∃ C, X.mg x = some (.ref C))
    {q1 q2 q3 q4 q5 q6 q7 q8 q9 q10 q11 q12 q13 q14 q15 q16 q17 q18 q19 q20 q21 q22 q23 q24 q25 q26 q27 q28 q29 q30 q31 q32 q33 q34 q35 q36 q37 q38 q39 q40 q41 u1 u2 u3 u4 u5 u6 u7 u8 u9 u10 u11 u12 u13 : Pos}
    (hb : ∀ (W' : WXH) (U' : UX G) (pn : List (Addr × Obj)) (xe : Value → Shared → Prop), Takes (X.tr pn xe) W' → PassesOwn (model X.prog X.w) X.A X.env xe → ∃ ts, DSs (X.tr pn xe) (Z.wish W' U') body ts (db U'))
    (hN : X.N.Nodup) (hne : ie ≠ ik := by decide) (hie : X.N[ie]? = some n := by rfl) (hik : X.N[ik]? = some kn := by rfl) (hln : X.env.kindOf n = some .local := by rfl) (hlk : X.env.scope.names.lookup kn = some .local := by rfl)
    (hdn : (n == ("__debug__" : Str)) = false := by decide) (hcn : (n == ("__classdict__" : Str)) = false := by decide) (hv : Vis X.env.scope n := by first | exact Or.inl rfl | exact Or.inr (Or.inl rfl) | exact Or.inr (Or.inr rfl))
    (hdk : (kn == ("__debug__" : Str)) = false := by decide) (hck : (kn == ("__classdict__" : Str)) = false := by decide) (hvk : Vis X.env.scope kn := by first | exact Or.inl rfl | exact Or.inr (Or.inl rfl) | exact Or.inr (Or.inr rfl))
    (gi : Gl X "isinstance" := by rfl) (g1 : Gl X "NoEnd" := by rfl) (g2 : Gl X "NoLine" := by rfl) (g3 : Gl X "NoPurse" := by rfl) (g4 : Gl X "NoRing" := by rfl) (g5 : Gl X "NoRound" := by rfl) (g6 : Gl X "NoRow" := by rfl) (g7 : Gl X "NoStand" := by rfl) (g8 : Gl X "NoWay" := by rfl) (g9 : Gl X "TooMany" := by rfl) (gv : Gl X "ValueError" := by rfl)
    (hK : K = X.K := by rfl) (hs : X.stack = X.env :: X.outer := by rfl) (hf : X.env.frame = some X.env.locals := by rfl) (hg : Gl X y := by rfl) (hdb : (y == ("__debug__" : Str)) = false := by decide)
    (hs1 : swapsWith (.List [isiX n "NoEnd" q1 q2 q3 q4, isiX n "NoLine" q5 q6 q7 q8, isiX n "NoPurse" q9 q10 q11 q12, isiX n "NoRing" q13 q14 q15 q16] u1) (some (.Name kn u2)) u3.line X.env = pure false := by rfl)
    (hs2 : swapsWith (.BinOp (.Name kn u4) .Add (.List [isiX n "NoRound" q17 q18 q19 q20, isiX n "NoRow" q21 q22 q23 q24, isiX n "NoStand" q25 q26 q27 q28] u5) u6) (some (.Name kn u7)) u8.line X.env = pure false := by rfl)
    (hs3 : swapsWith (.BinOp (.Name kn u9) .Add (.List [isiX n "NoWay" q29 q30 q31 q32, isiX n "TooMany" q33 q34 q35 q36, .UnaryOp .Not (isiX n "ValueError" q37 q38 q39 q40) q41] u10) u11) (some (.Name kn u12)) u13.line X.env = pure false := by rfl) :
    DSt X (Z.wish W U) (.Try body [.ExceptHandler (some (.Name y np)) (some n) [.Assign [.Name kn u2] (.List [isiX n "NoEnd" q1 q2 q3 q4, isiX n "NoLine" q5 q6 q7 q8, isiX n "NoPurse" q9 q10 q11 q12, isiX n "NoRing" q13 q14 q15 q16] u1) u3,
      .Assign [.Name kn u7] (.BinOp (.Name kn u4) .Add (.List [isiX n "NoRound" q17 q18 q19 q20, isiX n "NoRow" q21 q22 q23 q24, isiX n "NoStand" q25 q26 q27 q28] u5) u6) u8,
      .Assign [.Name kn u12] (.BinOp (.Name kn u9) .Add (.List [isiX n "NoWay" q29 q30 q31 q32, isiX n "TooMany" q33 q34 q35 q36, .UnaryOp .Not (isiX n "ValueError" q37 q38 q39 q40) q41] u10) u11) u13] pos] [] [] pos2)
      (fun D σ H => (fun W' : WXH => fun D σ H => ∃ U', dTS (Z.wish W' U') (db U') D σ H) (wAs X.K (cv X.mg y) ie (tsK2 X.K X.mg ie ik) W D) D σ H) (dTryK2 K X.mg y ie ik U db) := by
  subst hK
  obtain ⟨C, h1, _⟩ := e.ex
  refine ⟨ps_try_as (tb := fun W' D σ H => ∃ U', dTS (Z.wish W' U') (db U') D σ H) hs hf hN hie hln ⟨hg, hdb, .inl (by rw [cv_of h1]; exact h1)⟩ tk (fun W' pn xe tk' po => ⟨fun pins s σ H D I q => ?_⟩) (fun a oe cls d pn hz hv2 => ?_), fun f F0 ad ρ g σ H D R h D2 le => ?_⟩
  · obtain ⟨U', q⟩ := q
    obtain ⟨ts, hd⟩ := hb W' U' pn xe tk' po
    exact (DSs.imp hd).run pins s σ H D I q
  · exact kinds2_pss hz hv2 zi zv kk hN hne hie hik hlk hdn hcn hv hdk hck hvk gi g1 g2 g3 g4 g5 g6 g7 g8 g9 gv hs1 hs2 hs3
  · have lx : LeX (Z.wish (wAs X.K (cv X.mg y) ie (tsK2 X.K X.mg ie ik) W D2) (fun c fs ρ' g' => (fs = [] ∧ Takes1 X.K X.mg c y true ∧ KOk2 X.K X.mg c fun bs => ltK ie ρ'.length (ltK ik ρ'.length (D.nx ((ρ'.set ie .un).set ik (.ls (bs.map PyData.bool))) g'))) ∨ (Takes1 X.K X.mg c y false ∧ U c fs ρ' g'))) f (Z.ra g) := fun F' ad' ρ' g' σ' H' c dx fs er R' hx hu => by
      rcases hu with ⟨e0, t1, Dd, ff, rfl, ec, kk, hq⟩ | ⟨t1, h2⟩
      · obtain ⟨l1, hq⟩ := ltK_e hq
        obtain ⟨l2, hq⟩ := ltK_e hq
        have hd : dx = none := by
          rcases hx with ⟨_, z⟩ | ⟨_, _, z, _⟩
          · exact z
          · exact absurd e0 z
        have s1 : ie < σ'.length := by rw [← R'.len]; exact l1
        have s2 : ik < σ'.length := by rw [← R'.len]; exact l2
        refine ⟨true, t1, fun _ a ha => ⟨Dd, ff, rfl, hd, ec, kk, by rw [List.getElem?_set_self s1], by rw [List.length_set]; exact s2, fun H2 l k2 n2 h2 => ?_⟩, fun z => by cases z⟩
        have R2 : Rel (Z.wish W U) f F' ad' ρ' g' σ' H' := ⟨R'.wish, by rw [show (Z.wish W U).ra g' = (Z.wish W U).ra g from er]; exact R.lx⟩
        have R3 := (R2.unset ie none).come (i := ik) (by rw [List.length_set]; exact s2) k2 n2 h2 (bools_da (kindL2 ff))
        have es : ((σ'.set ie (some (.ref a))).set ik (some (.ref l))).set ie none = (σ'.set ie none).set ik (some (.ref l)) := by
          rw [List.set_comm _ _ (Ne.symm hne), List.set_set]
        show D2.nx _ H2
        rw [es]
        exact le.nx F' _ _ g' _ H2 er R3 hq
      · exact ⟨false, t1, fun z => (by cases z), fun _ => R.lx F' ad' ρ' g' σ' H' c dx fs er R'.wish hx h2⟩
    exact ⟨_, f, F0, ad, ρ, g, D, R.wish lx, h, le.wish R.lx⟩
end L3
end
section
set_option exponentiation.threshold 3000
namespace L3
open PySem PySem.Spec PyProof.Rows L2
open Dt
def flW (wk : List (Int × List Int)) : List Int := (wk.map Prod.snd).flatten
structure HgI (B : Book) (wk : List (Int × List Int)) (r0 : Int) : Prop where
  c : ∀ p ∈ wk, 1 ≤ p.1 ∧ ∃ a, Pth B a p.2 a
  h : ∀ e ∈ flW wk, Rch B (flW wk) r0 (wAt B e).a ∧ Rch B (flW wk) (wAt B e).b r0
theorem HgI.pos {B : Book} {wk : List (Int × List Int)} {r0 : Int} (h : HgI B wk r0) {k : Int} : k ∈ posW B.ways.length (cntL B.ways.length wk) ↔ k ∈ flW wk := by
  rw [posW_iff]
  constructor
  · rintro ⟨a, b, c⟩
    rw [cntL_getD wk (by omega), show ((k.toNat : Nat) : Int) = k by omega] at c
    obtain ⟨p, hp, hk⟩ := cntW_pos c
    exact List.mem_flatten.mpr ⟨p.2, List.mem_map_of_mem hp, hk⟩
  · intro hk
    obtain ⟨w, hw, hkw⟩ := List.mem_flatten.mp hk
    obtain ⟨p, hp, rfl⟩ := List.mem_map.mp hw
    obtain ⟨m1, a, hpa⟩ := h.c p hp
    have hb := hpa.mem k hkw
    simp only [inW, Bool.and_eq_true, decide_eq_true_eq] at hb
    refine ⟨hb.1, hb.2, ?_⟩
    rw [cntL_getD wk (by omega), show ((k.toNat : Nat) : Int) = k by omega]
    have g := (cntW_ge (rs := wk) (p := p) (j := k) (fun q hq => by have := (h.c q hq).1; omega) hp).2
    have c1 : 1 ≤ p.2.count k := List.count_pos_iff.mpr hkw
    have := Int.mul_le_mul m1 (show (1 : Int) ≤ ((p.2.count k : Nat) : Int) by omega) (by decide) (by omega)
    omega
theorem HgI.one {B : Book} {wk : List (Int × List Int)} {r0 : Int} (h : HgI B wk r0) (hne : posW B.ways.length (cntL B.ways.length wk) ≠ []) : (ringsL B (posW B.ways.length (cntL B.ways.length wk))).length = 1 := by
  rw [rings_one hne fun k hk j hj => ?_]
  · rfl
  · obtain ⟨_, a2⟩ := h.h k (h.pos.mp hk)
    obtain ⟨b1, _⟩ := h.h j (h.pos.mp hj)
    exact (a2.trans b1).mono fun x hx => h.pos.mpr hx
end L3
end
section
namespace L3
open PySem L2
end L3
end
section
namespace L3
open PySem PySem.Spec PyProof.Rows L2
open Dt
end L3
end
section
namespace L3
open PySem PySem.Spec PyProof.Rows L2
section
variable {G : Type} {K : PySem.W.Frag} {X : Cx} {Z : Zx K G}
theorem Frm.wish {W : WXH} {U : UX G} {F F' H H' : Hp} {g g' : G} : Frm (Z.wish W U) F H g F' H' g' ↔ Frm Z F H g F' H' g' :=
  ⟨fun h => ⟨h.ex, h.keep, h.keepN, h.new, h.sub, h.res, h.fpF, h.fpB⟩, fun h => ⟨h.ex, h.keep, h.keepN, h.new, h.sub, h.res, h.fpF, h.fpB⟩⟩
/-- what is wished of errors says nothing of a def -/
theorem spZ_wish {W : WXH} {U : UX G} {S : Spec G} : spZ Z S = spZ (Z.wish W U) S := by
  have ev : ∀ {F' H H' : Hp} {g' : G} {v : V} {r : Rs}, VRet (Z.wish W U) F' H H' g' v r ↔ VRet Z F' H H' g' v r := fun {F' H H' g' v r} => by cases r <;> exact Iff.rfl
  have ea : ∀ {F : Hp} {g : G} {vs : List V} {as : List Rs}, ArgR (Z.wish W U) F g vs as ↔ ArgR Z F g vs as := fun {F g vs as} =>
    ⟨fun h => Paired.mapP h fun v r z => by cases r <;> exact z, fun h => Paired.mapP h fun v r z => by cases r <;> exact z⟩
  funext vs H Q E
  apply propext
  constructor
  · rintro ⟨F, g, as, T, U', h1, h2, h3, h4, h5, h6, h7⟩
    exact ⟨F, g, as, T, U', h1, h2, h3, ea.mpr h4, h5, fun v r F' g' H' r1 er hv hT => h6 v r F' g' H' (Frm.wish.mp r1) er (ev.mp hv) hT, fun c fs dx F' g' H' r1 er hx hu => h7 c fs dx F' g' H' (Frm.wish.mp r1) er hx hu⟩
  · rintro ⟨F, g, as, T, U', h1, h2, h3, h4, h5, h6, h7⟩
    exact ⟨F, g, as, T, U', h1, h2, h3, ea.mp h4, h5, fun v r F' g' H' r1 er hv hT => h6 v r F' g' H' (Frm.wish.mpr r1) er (ev.mpr hv) hT, fun c fs dx F' g' H' r1 er hx hu => h7 c fs dx F' g' H' (Frm.wish.mpr r1) er hx hu⟩
theorem KX.ok2 {mg : Str → Option Value} {x : Str} (h : KX K mg x) {k : List Bool → Prop} (q : k (kindL2 fun y => y == x)) : KOk2 K mg (cv mg x) k := by
  obtain ⟨D, h1, h2, h3⟩ := h
  exact ⟨D, _, h1, h2, h3, q⟩
end
end L3
end
section
set_option exponentiation.threshold 3000
namespace L3
open PySem PySem.Spec L2
open Dt
def hitK (k x : Int) : Int := if x = k then 1 else 0
/-- most of a way's count, within what leads in and what purses hold -/
def lpF (B : Book) (ns : List Int) (r : Int) (xs : List Int) (k : Int) : Dt.Lp where
  n := ns.length
  m := flT B
  A t j := fwR B t (ns.getD j 0)
  sd t := if t < B.purses.toNat then xs.getD t 0 else if ((t - B.purses.toNat : Nat) : Int) = r then 1 else 0
  gl j := hitK k (ns.getD j 0)
theorem lpF_d (B : Book) (ns : List Int) (r : Int) {xs : List Int} (hx : xs.length = B.purses.toNat) (k : Int) :
    LpD (lpF B ns r xs k) (.list (flowD B ns (flT B))) (.list (xs.map PyData.int ++ (everyW B.rooms.toNat).map fun q => PyData.int (if q = r then 1 else 0))) (.list (ns.map fun x => .int (hitK k x))) := by
  refine ⟨?_, ?_, ?_⟩
  · unfold flowD
    show PyData.list ((List.range (flT B)).map (rowD B ns)) = .list ((List.range (flT B)).map _)
    congr 1
    refine List.map_congr_left fun t ht => ?_
    unfold rowD
    rw [map_rng ns]
    rfl
  · show _ = PyData.list ((List.range (flT B)).map _)
    congr 1
    apply List.ext_getElem?
    intro i
    by_cases h1 : i < B.purses.toNat
    · rw [List.getElem?_append_left (by rw [List.length_map, hx]; exact h1), List.getElem?_map, List.getElem?_map, List.getElem?_range (by unfold flT; omega), List.getElem?_eq_getElem (by omega)]
      show some (PyData.int _) = some (PyData.int (if i < B.purses.toNat then xs.getD i 0 else _))
      rw [if_pos h1, List.getD_eq_getElem?_getD, List.getElem?_eq_getElem (by omega)]; rfl
    · by_cases h2 : i < flT B
      · rw [List.getElem?_append_right (by rw [List.length_map, hx]; omega), List.length_map, hx, List.getElem?_map, List.getElem?_map, List.getElem?_range h2]
        unfold everyW
        unfold flT at h2
        rw [List.getElem?_map, List.getElem?_range (by omega)]
        show some (PyData.int (if _ then 1 else 0)) = some (PyData.int (if i < B.purses.toNat then _ else if _ then 1 else 0))
        rw [if_neg h1]
      · rw [List.getElem?_eq_none (by rw [List.length_append, List.length_map, List.length_map, everyW_len, hx]; unfold flT at h2; omega), List.getElem?_eq_none (by rw [List.length_map, List.length_range]; omega)]
  · rw [map_rng ns]; rfl
/-- a stand's numbers as the program takes them -/
structure NumOk (B : Book) (r : Int) (xs : List Int) : Prop where
  l : xs.length = B.purses.toNat
  z : ∀ x ∈ xs, 0 ≤ x ∧ x ≤ 10 ^ 100
  r : 0 ≤ r ∧ r < B.rooms
theorem NumOk.get {B : Book} {r : Int} {xs : List Int} (h : NumOk B r xs) (t : Nat) : 0 ≤ xs.getD t 0 ∧ xs.getD t 0 ≤ 10 ^ 100 := by
  by_cases ht : t < xs.length
  · exact h.z _ (getD_in ht)
  · rw [List.getD_eq_getElem?_getD, List.getElem?_eq_none (by omega)]
    exact ⟨Int.le_refl _, by show (0 : Int) ≤ 10 ^ 100; decide⟩
theorem lpF_s {B : Book} {ns : List Int} {r : Int} {xs : List Int} {k : Int} (h : NumOk B r xs) : ∀ i, i < (lpF B ns r xs k).m → 0 ≤ (lpF B ns r xs k).sd i := fun i _ => by
  show 0 ≤ (if i < B.purses.toNat then xs.getD i 0 else if _ then (1 : Int) else 0)
  split
  · exact (h.get i).1
  · split <;> decide
theorem lpF_bnd {B : Book} {ns : List Int} (h : FlOk B ns) {r : Int} {xs : List Int} {k : Int} (hx : NumOk B r xs) : (lpF B ns r xs k).Bnd 2400 (10 ^ 100) := by
  have hd := h.dim
  have hm : (lpF B ns r xs k).M ≤ 24 := by show flT B + 1 ≤ 24; omega
  have key : ∀ (v : List Int) (b : Nat), v.length = (lpF B ns r xs k).M → (∀ x ∈ v, x.natAbs ≤ b) → nrm v ≤ 24 * b := fun v b hv hb => by
    have := nrm_le hb
    rw [hv] at this
    exact Nat.le_trans this (Nat.mul_le_mul_right b hm)
  have key1 : ∀ v : List Int, v.length = (lpF B ns r xs k).M → (∀ x ∈ v, x.natAbs ≤ 100) → nrm v ≤ 2400 := fun v hv hb => key v 100 hv hb
  obtain ⟨mr, mw, hB, _⟩ := h.ok
  refine ⟨Nat.pow_pos (by decide), fun l hl => key1 _ (Dt.Lp.col_len _ l) fun x hx => ?_, Nat.le_trans (key _ (10 ^ 100) (Dt.Lp.col_len _ _) fun x hx2 => ?_) (Nat.mul_le_mul_right _ (by decide))⟩
  · unfold Dt.Lp.col at hx
    split at hx
    · rename_i hln
      have hin := getD_in (ns := ns) hln
      rcases List.mem_append.mp hx with hx | hx
      · obtain ⟨i, _, rfl⟩ := List.mem_map.mp hx
        exact Nat.le_succ_of_le (fw_abs hB (h.w _ hin) i)
      · rw [List.mem_singleton.mp hx]
        show (-(hitK k (ns.getD l 0))).natAbs ≤ 100
        unfold hitK
        split <;> decide
    · try rw [if_pos hl] at hx
      exact Nat.le_trans (unt_mem hx) (by decide)
  · unfold Dt.Lp.col at hx2
    rw [if_neg (by unfold Dt.Lp.rhs; omega), if_neg (by unfold Dt.Lp.rhs; omega)] at hx2
    rcases List.mem_append.mp hx2 with hx2 | hx2
    · obtain ⟨i, hi, rfl⟩ := List.mem_map.mp hx2
      show (if i < B.purses.toNat then xs.getD i 0 else if _ then (1 : Int) else 0).natAbs ≤ 10 ^ 100
      split
      · have := hx.get i
        omega
      · split <;> decide
    · rw [List.mem_singleton.mp hx2]; decide
theorem big_powF {B : Book} {ns : List Int} (h : FlOk B ns) : 2400 ^ (flT B + 1) * 10 ^ 100 ≤ 2 ^ 620 ∧ 2400 ^ (flT B + 1) ≤ 2 ^ 288 := by
  have := h.dim.1
  have e := Nat.pow_le_pow_right (show 0 < 2400 by decide) (show flT B + 1 ≤ 24 by omega)
  exact ⟨Nat.le_trans (Nat.mul_le_mul_right _ e) (by decide +kernel), Nat.le_trans e (by decide +kernel)⟩
theorem lpF_sml {B : Book} {ns : List Int} (h : FlOk B ns) {r : Int} {xs : List Int} {k : Int} (hx : NumOk B r xs) : Sml (lpF B ns r xs k) := ⟨2400, 10 ^ 100, lpF_bnd h hx, Nat.le_trans (big_powF h).1 (Nat.pow_le_pow_right (by decide) (by decide))⟩
theorem lpF_T {B : Book} {ns : List Int} (h : FlOk B ns) {r : Int} {xs : List Int} {k : Int} (hx : NumOk B r xs) {b f : List Nat} (G : (lpF B ns r xs k).Good b f) (i : Nat) {l : Nat} (hl : l ≤ (lpF B ns r xs k).rhs) : ((lpF B ns r xs k).T b i l).natAbs ≤ 2 ^ 620 := Nat.le_trans ((lpF_bnd h hx).T G i hl) (big_powF h).1
/-- an entry of no side is less -/
theorem bnd_T1 {P : Dt.Lp} {c d : Nat} (h : P.Bnd c d) {B F : List Nat} (G : P.Good B F) (i : Nat) {l : Nat} (hl : l ≤ P.n + P.m) : (P.T B i l).natAbs ≤ c ^ P.M := by
  have hx : nrm (P.col l) ≤ c * 1 := by rw [Nat.mul_one]; exact h.cl l hl
  have := Dt.Lp.nprd_set hx (Nat.le_refl 1) i (h.all G)
  rw [List.length_map, G.bz, Nat.mul_one] at this
  exact Nat.le_trans (Dt.prd_bnd _ _) this
theorem lpF_T1 {B : Book} {ns : List Int} (h : FlOk B ns) {r : Int} {xs : List Int} {k : Int} (hx : NumOk B r xs) {b f : List Nat} (G : (lpF B ns r xs k).Good b f) (i : Nat) {l : Nat} (hl : l ≤ (lpF B ns r xs k).n + (lpF B ns r xs k).m) : ((lpF B ns r xs k).T b i l).natAbs ≤ 2 ^ 288 := Nat.le_trans (bnd_T1 (lpF_bnd h hx) G i hl) (big_powF h).2
theorem lpF_D {B : Book} {ns : List Int} (h : FlOk B ns) {r : Int} {xs : List Int} {k : Int} (hx : NumOk B r xs) {b f : List Nat} (G : (lpF B ns r xs k).Good b f) : ((lpF B ns r xs k).D b).natAbs ≤ 2 ^ 288 := Nat.le_trans ((lpF_bnd h hx).D G) (big_powF h).2
theorem U_abs {P : Dt.Lp} {b f : List Nat} (G : P.Good b f) {l M : Nat} (hl : l ∈ f) (hD : (P.D b).natAbs ≤ M) (h : ∀ i, (P.T b i l).natAbs ≤ M) (k : Nat) : (P.U b l k).natAbs ≤ M := by
  have nd := (List.nodup_append.mp G.nd).2.1
  have key : ∀ j, j ≤ b.length → (PSm b (fun i => - P.T b i l) j k).natAbs ≤ M := fun j => by
    induction j with
    | zero => intro _; exact Nat.zero_le _
    | succ j ih =>
      intro hj
      rw [PSm_step nd (List.getElem?_eq_getElem (show j < b.length by omega))]
      split
      · rw [Int.natAbs_neg]; exact h j
      · exact ih (by omega)
  have e : P.U b l k = (if l = k then P.D b else 0) + PSm b (fun i => - P.T b i l) b.length k := by
    rw [G.b]; rfl
  rw [e]
  by_cases q : l = k
  · subst q
    rw [if_pos rfl, PSm_zero (Nat.le_refl _) (fun hm => (List.nodup_append.mp G.nd).2.2 l hl l (List.mem_of_mem_take hm) rfl), Int.add_zero]
    exact hD
  · rw [if_neg q, Int.zero_add]
    exact key _ (Nat.le_refl _)
def flwL (B : Book) (ns xs : List Int) : List Int := (List.range B.ways.length).map fun k => PSm (ns.map Int.toNat) (fun j => xs.getD j 0) ns.length k
theorem flw_get {B : Book} {ns xs : List Int} {k : Nat} (h : k < B.ways.length) : (flwL B ns xs).getD k 0 = PSm (ns.map Int.toNat) (fun j => xs.getD j 0) ns.length k := by
  unfold flwL
  rw [List.getD_eq_getElem?_getD, List.getElem?_map, List.getElem?_range h]; rfl
theorem flw_sum {B : Book} {ns xs : List Int} (hw : ∀ k ∈ ns, inW B k = true) (f : Int → Int) : sm B.ways.length (fun k => f ((k : Nat) : Int) * (flwL B ns xs).getD k 0) = sm ns.length (fun j => f (ns.getD j 0) * xs.getD j 0) := by
  rw [sm_congr (g := fun k => sm ns.length fun j => if k = (ns.getD j 0).toNat then f (ns.getD j 0) * xs.getD j 0 else 0) fun k hk => ?_, sm_swap]
  · refine sm_congr fun j hj => ?_
    have hi := hw _ (getD_in hj)
    simp only [inW, Bool.and_eq_true, decide_eq_true_eq] at hi
    exact sm_one _ (by omega)
  · rw [flw_get hk]
    unfold PSm
    rw [← sm_mul]
    refine sm_congr fun j hj => ?_
    have hi := hw _ (getD_in hj)
    simp only [inW, Bool.and_eq_true, decide_eq_true_eq] at hi
    have e : (ns.map Int.toNat)[j]?.getD 0 = (ns.getD j 0).toNat := by
      rw [List.getElem?_map, List.getD_eq_getElem?_getD, List.getElem?_eq_getElem hj]; rfl
    rw [e]
    by_cases q : (ns.getD j 0).toNat = k
    · rw [if_pos q, if_pos q.symm, ← q, show (((ns.getD j 0).toNat : Nat) : Int) = ns.getD j 0 by omega]
    · rw [if_neg q, if_neg (fun z => q z.symm), Int.mul_zero]
theorem flw_z {B : Book} {ns xs : List Int} (h : FlOk B ns) (nd : ns.Nodup) {M : Nat} (hb : ∀ j, 0 ≤ xs.getD j 0 ∧ (xs.getD j 0).natAbs ≤ M) : ∀ c ∈ flwL B ns xs, 0 ≤ c ∧ c.natAbs ≤ M := fun c hc => by
  have ndN := inW_nd h nd
  unfold flwL at hc
  obtain ⟨k, _, rfl⟩ := List.mem_map.mp hc
  have key : ∀ n, n ≤ ns.length → 0 ≤ PSm (ns.map Int.toNat) (fun j => xs.getD j 0) n k ∧ (PSm (ns.map Int.toNat) (fun j => xs.getD j 0) n k).natAbs ≤ M := fun n => by
    induction n with
    | zero => intro _; exact ⟨Int.le_refl _, Nat.zero_le _⟩
    | succ n ih =>
      intro hn
      rw [PSm_step ndN (List.getElem?_eq_getElem (show n < (ns.map Int.toNat).length by rw [List.length_map]; omega))]
      split
      · exact hb n
      · exact ih (by omega)
  exact key _ (Nat.le_refl _)
theorem flw_in {B : Book} {ns xs : List Int} (h : FlOk B ns) {k : Nat} (hk : (flwL B ns xs).getD k 0 ≠ 0) : ((k : Nat) : Int) ∈ ns := by
  have hkl : k < B.ways.length := by
    by_cases c : k < B.ways.length
    · exact c
    · exact absurd (by rw [List.getD_eq_getElem?_getD, List.getElem?_eq_none (by unfold flwL; simp; omega)]; rfl) hk
  rw [flw_get hkl] at hk
  by_cases c : k ∈ ns.map Int.toNat
  · obtain ⟨x, hx, e⟩ := List.mem_map.mp c
    have h1 := h.w x hx
    simp only [inW, Bool.and_eq_true, decide_eq_true_eq] at h1
    rw [show ((k : Nat) : Int) = x by omega]
    exact hx
  · exact absurd (PSm_zero (by rw [List.length_map]; exact Nat.le_refl _) (fun z => c (List.mem_of_mem_take z))) hk
/-- a sum and a flow that come to one number -/
structure HowA (B : Book) (ns : List Int) (r : Int) (xs : List Int) (k : Int) (ws hs fl : List Int) (u M : Int) : Prop where
  u0 : 0 < u
  ub : u.natAbs ≤ 2 ^ 288
  mb : 0 ≤ M ∧ M.natAbs ≤ 2 ^ 620
  wl : (ws.length : Int) = B.purses
  hl : (hs.length : Int) = B.rooms
  w0 : ∀ w ∈ ws, 0 ≤ w ∧ w.natAbs ≤ 2 ^ 288
  h0 : ∀ h ∈ hs, 0 ≤ h ∧ h.natAbs ≤ 2 ^ 288
  keep : ∀ j ∈ ns, 0 ≤ fallL B ws hs j
  fk : k ∈ ns → u ≤ fallL B ws hs k
  worth : M = worthL ws hs r xs
  n : fl.length = B.ways.length
  f0 : ∀ c ∈ fl, 0 ≤ c ∧ c.natAbs ≤ 2 ^ 620
  fs : ∀ j : Nat, fl.getD j 0 ≠ 0 → ((j : Nat) : Int) ∈ ns
  rooms : ∀ q : Nat, q < B.rooms.toNat → sm B.ways.length (fun j => ((if (wAt B (j : Nat)).a = (q : Nat) then 1 else 0) - (if (wAt B (j : Nat)).b = (q : Nat) then 1 else 0)) * fl.getD j 0) ≤ if ((q : Nat) : Int) = r then u else 0
  purse : ∀ p : Nat, p < B.purses.toNat → 0 ≤ u * xs.getD p 0 + sm B.ways.length (fun j => (wAt B (j : Nat)).gs.getD p 0 * fl.getD j 0)
  at_ : fl.getD k.toNat 0 = M
theorem sm_one2 {n : Nat} {k : Int} (hk : 0 ≤ k ∧ k < n) (f : Nat → Int) : sm n (fun i => hitK k ((i : Nat) : Int) * f i) = f k.toNat := by
  rw [sm_congr (g := fun i => if i = k.toNat then f k.toNat else 0) fun i hi => by
    unfold hitK
    by_cases e : ((i : Nat) : Int) = k
    · rw [if_pos e, if_pos (by omega), Int.one_mul, show i = k.toNat by omega]
    · rw [if_neg e, if_neg (by omega), Int.zero_mul]]
  exact sm_one _ (by omega)
theorem how_ok {B : Book} {ns : List Int} (h : FlOk B ns) (nd : ns.Nodup) {r : Int} {xs : List Int} {k : Int} (hx : NumOk B r xs) (hk : k ∈ ns) {b f : List Nat} (G : (lpF B ns r xs k).Good b f) (hc : ∀ l ∈ f, 0 ≤ (lpF B ns r xs k).T b (lpF B ns r xs k).m l)
    {Xs Ys : List Int} (eX : Xs = (List.range ns.length).map ((lpF B ns r xs k).X b)) (eY : Ys = (List.range (flT B)).map ((lpF B ns r xs k).Y b)) :
    HowA B ns r xs k (Ys.take B.purses.toNat) (Ys.drop B.purses.toNat) (flwL B ns Xs) ((lpF B ns r xs k).D b) ((lpF B ns r xs k).T b (lpF B ns r xs k).m (lpF B ns r xs k).rhs) := by
  have hd := h.dim
  obtain ⟨mr, mw, hB, _⟩ := h.ok
  have xg : ∀ j, j < ns.length → Xs.getD j 0 = (lpF B ns r xs k).X b j := fun j hj => by
    rw [eX, List.getD_eq_getElem?_getD, List.getElem?_map, List.getElem?_range hj]; rfl
  have xb : ∀ j, 0 ≤ Xs.getD j 0 ∧ (Xs.getD j 0).natAbs ≤ 2 ^ 620 := fun j => by
    by_cases hj : j < ns.length
    · rw [xg j hj]
      exact ⟨Dt.Lp.X_ge G j, X_abs G (fun i => lpF_T h hx G i (Nat.le_refl _)) j⟩
    · rw [List.getD_eq_getElem?_getD, List.getElem?_eq_none (by rw [eX]; simp; omega)]
      exact ⟨Int.le_refl _, Nat.zero_le _⟩
  have yl : Ys.length = flT B := by rw [eY]; simp
  have yg : ∀ t, t < flT B → Ys.getD t 0 = (lpF B ns r xs k).Y b t := fun t ht => by
    rw [eY, List.getD_eq_getElem?_getD, List.getElem?_map, List.getElem?_range ht]; rfl
  have yb : ∀ y ∈ Ys, 0 ≤ y ∧ y.natAbs ≤ 2 ^ 288 := fun y hy => by
    rw [eY] at hy
    obtain ⟨t, ht, rfl⟩ := List.mem_map.mp hy
    have ht := List.mem_range.mp ht
    exact ⟨Dt.Lp.Y_ge G hc (t := t) ht, lpF_T1 h hx G _ (show ns.length + t ≤ ns.length + flT B by omega)⟩
  have fz := flw_z (xs := Xs) h nd xb
  have kk := h.w k hk
  have kk2 := kk
  simp only [inW, Bool.and_eq_true, decide_eq_true_eq] at kk2
  have dfall : ∀ j ∈ ns, (lpF B ns r xs k).D b * hitK k j ≤ fallL B (Ys.take B.purses.toNat) (Ys.drop B.purses.toNat) j := fun j hj => by
    rw [fallZ_eq hB yl (h.w j hj)]
    obtain ⟨i, hi, e⟩ := List.getElem_of_mem hj
    have ei : ns.getD i 0 = j := by rw [List.getD_eq_getElem?_getD, List.getElem?_eq_getElem hi]; exact e
    have := Dt.Lp.dual G hc (k := i) hi
    have q : (lpF B ns r xs k).D b * hitK k (ns.getD i 0) ≤ sm (flT B) (fun t => (lpF B ns r xs k).Y b t * fwR B t (ns.getD i 0)) := this
    rw [ei] at q
    refine Int.le_trans q (Int.le_of_eq ?_)
    unfold fallZ
    exact sm_congr fun t ht => by rw [yg t ht, Int.mul_comm]
  have hu := G.d
  have hit0 : ∀ j, 0 ≤ hitK k j := fun j => by unfold hitK; split <;> decide
  have eM : (lpF B ns r xs k).T b (lpF B ns r xs k).m (lpF B ns r xs k).rhs = (flwL B ns Xs).getD k.toNat 0 := by
    rw [Dt.Lp.val G]
    have e1 : sm (lpF B ns r xs k).n (fun j => (lpF B ns r xs k).gl j * (lpF B ns r xs k).X b j) = sm ns.length (fun j => hitK k (ns.getD j 0) * Xs.getD j 0) := sm_congr fun j hj => by rw [xg j hj]; rfl
    rw [e1, ← flw_sum h.w (hitK k)]
    exact sm_one2 ⟨kk2.1, kk2.2⟩ _
  have hfl : (flwL B ns Xs).length = B.ways.length := by unfold flwL; simp
  have hfeas : ∀ t, t < flT B → sm B.ways.length (fun j => fwR B t ((j : Nat) : Int) * (flwL B ns Xs).getD j 0) ≤ (lpF B ns r xs k).D b * (lpF B ns r xs k).sd t := fun t ht => by
    rw [flw_sum h.w (fwR B t)]
    have := Dt.Lp.feas G (t := t) ht
    refine Int.le_trans (Int.le_of_eq ?_) this
    exact sm_congr fun j hj => by rw [xg j hj]; rfl
  refine ⟨hu, lpF_D h hx G, ⟨?_, ?_⟩, ?_, ?_, fun w hw => yb w (List.mem_of_mem_take hw), fun w hw => yb w (List.mem_of_mem_drop hw), fun j hj => Int.le_trans (Int.mul_nonneg (Int.le_of_lt hu) (hit0 j)) (dfall j hj), fun hk => ?_, ?_, hfl, fz, fun j hj => flw_in h hj, fun q hq => ?_, fun p hp => ?_, eM.symm⟩
  · rw [eM]
    exact (fz _ (getD_in (by rw [hfl]; omega))).1
  · exact lpF_T h hx G _ (Nat.le_refl _)
  · rw [List.length_take, yl]; unfold flT; omega
  · rw [List.length_drop, yl]; unfold flT; omega
  · have := dfall k hk
    unfold hitK at this
    rw [if_pos rfl, Int.mul_one] at this
    exact this
  · rw [Dt.Lp.valY G]
    have e1 : sm (lpF B ns r xs k).m (fun t => (lpF B ns r xs k).Y b t * (lpF B ns r xs k).sd t) = sm (B.purses.toNat + B.rooms.toNat) (fun t => Ys.getD t 0 * (lpF B ns r xs k).sd t) := sm_congr fun t ht => by rw [yg t ht]
    rw [e1, sm_app]
    unfold worthL
    have hr := hx.r
    rw [Int.add_comm]
    congr 1
    · rw [sm_congr (g := fun i => if i = r.toNat then (Ys.drop B.purses.toNat).getD r.toNat 0 else 0) fun i hi => ?_]
      · exact sm_one _ (by omega)
      · show Ys.getD (B.purses.toNat + i) 0 * (if B.purses.toNat + i < B.purses.toNat then _ else if ((B.purses.toNat + i - B.purses.toNat : Nat) : Int) = r then 1 else 0) = _
        rw [if_neg (by omega), show B.purses.toNat + i - B.purses.toNat = i by omega]
        by_cases e : ((i : Nat) : Int) = r
        · rw [if_pos e, if_pos (by omega), Int.mul_one, List.getD_eq_getElem?_getD, List.getD_eq_getElem?_getD, List.getElem?_drop, show r.toNat = i by omega]
        · rw [if_neg e, if_neg (by omega), Int.mul_zero]
    · rw [dotL_sm (Ys.take B.purses.toNat) xs B.purses.toNat (by rw [List.length_take, yl]; unfold flT; omega) hx.l]
      refine sm_congr fun t ht => ?_
      show Ys.getD t 0 * (if t < B.purses.toNat then xs.getD t 0 else _) = _
      rw [if_pos ht, Int.mul_comm]
      congr 1
      rw [List.getD_eq_getElem?_getD, List.getD_eq_getElem?_getD, List.getElem?_take_of_lt ht]
  · have := hfeas (B.purses.toNat + q) (by unfold flT; omega)
    rw [sm_congr fun j hj => show fwR B (B.purses.toNat + q) ((j : Nat) : Int) * (flwL B ns Xs).getD j 0 = ((if (wAt B (j : Nat)).a = (q : Nat) then 1 else 0) - (if (wAt B (j : Nat)).b = (q : Nat) then 1 else 0)) * (flwL B ns Xs).getD j 0 by
      unfold fwR
      rw [if_neg (by omega), show B.purses.toNat + q - B.purses.toNat = q by omega]] at this
    refine Int.le_trans this (Int.le_of_eq ?_)
    show _ * (if B.purses.toNat + q < B.purses.toNat then _ else if ((B.purses.toNat + q - B.purses.toNat : Nat) : Int) = r then (1 : Int) else 0) = _
    rw [if_neg (by omega), show B.purses.toNat + q - B.purses.toNat = q by omega]
    split
    · exact Int.mul_one _
    · exact Int.mul_zero _
  · have := hfeas p (by unfold flT; omega)
    rw [sm_congr fun j hj => show fwR B p ((j : Nat) : Int) * (flwL B ns Xs).getD j 0 = - ((wAt B (j : Nat)).gs.getD p 0 * (flwL B ns Xs).getD j 0) by
      unfold fwR
      rw [if_pos hp, Int.neg_mul], sm_neg] at this
    have e : (lpF B ns r xs k).D b * (lpF B ns r xs k).sd p = (lpF B ns r xs k).D b * xs.getD p 0 := by
      show _ * (if p < B.purses.toNat then xs.getD p 0 else _) = _
      rw [if_pos hp]
    rw [e] at this
    omega
/-- .. or a round with the way -/
theorem how_up {B : Book} {ns : List Int} (h : FlOk B ns) (nd : ns.Nodup) {r : Int} {xs : List Int} {k : Int} (hx : NumOk B r xs) (hk : k ∈ ns) {b f : List Nat} (G : (lpF B ns r xs k).Good b f) {l : Nat} (hl : l ∈ f) (hn : (lpF B ns r xs k).T b (lpF B ns r xs k).m l < 0) (hle : ∀ i, i < (lpF B ns r xs k).m → (lpF B ns r xs k).T b i l ≤ 0)
    {Us : List Int} (eU : Us = (List.range ns.length).map ((lpF B ns r xs k).U b l)) : Us.length = ns.length ∧ (∀ x ∈ Us, 0 ≤ x ∧ x.natAbs ≤ 2 ^ 288) ∧ RndOk B ns (rndL B ns Us) ∧ 0 < (rndL B ns Us).getD k.toNat 0 := by
  have ul : Us.length = ns.length := by rw [eU]; simp
  have ug : ∀ j, j < ns.length → Us.getD j 0 = (lpF B ns r xs k).U b l j := fun j hj => by
    rw [eU, List.getD_eq_getElem?_getD, List.getElem?_map, List.getElem?_range hj]; rfl
  have hll : l < (lpF B ns r xs k).n + (lpF B ns r xs k).m := G.lab.mp (.inl hl)
  have ub : ∀ x ∈ Us, 0 ≤ x ∧ x.natAbs ≤ 2 ^ 288 := fun x hx' => by
    rw [eU] at hx'
    obtain ⟨j, _, rfl⟩ := List.mem_map.mp hx'
    exact ⟨Dt.Lp.U_ge G hle j, U_abs G hl (lpF_D h hx G) (fun i => lpF_T1 h hx G i (Nat.le_of_lt hll)) j⟩
  have kk := h.w k hk
  simp only [inW, Bool.and_eq_true, decide_eq_true_eq] at kk
  refine ⟨ul, ub, rnd_ok h nd ul ub fun t ht => ?_, ?_⟩
  · have := Dt.Lp.upF G hl hle (t := t) ht
    refine Int.le_trans (Int.le_of_eq ?_) this
    exact sm_congr fun j hj => by rw [ug j hj]; rfl
  · have gp := rnd_goal h ul (hitK k) (by
      have := Dt.Lp.upG G hl hn
      refine Int.lt_of_lt_of_le this (Int.le_of_eq ?_)
      exact sm_congr fun j hj => by rw [ug j hj]; rfl)
    rw [sm_one2 ⟨kk.1, kk.2⟩] at gp
    exact gp
noncomputable def metW (B : Book) (r : Int) : List Int := (everyW B.ways.length).filter fun k => rch B (everyW B.ways.length) r (wAt B k).a
theorem every_get {n i : Nat} (h : i < n) : (everyW n)[i]? = some (i : Int) := by
  unfold everyW
  rw [List.getElem?_map, List.getElem?_range h]; rfl
theorem enum_ways (B : Book) : enumD (B.ways.map Way.d) = (everyW B.ways.length).map fun k => PyData.tuple [.int k, (wAt B k).d] := by
  apply List.ext_getElem?
  intro i
  by_cases hi : i < B.ways.length
  · rw [List.getElem?_map, every_get hi, enumD_get (by rw [List.getElem?_map, List.getElem?_eq_getElem hi]; rfl)]
    unfold wAt
    rw [Option.map_some, Int.toNat_natCast, List.getD_eq_getElem?_getD, List.getElem?_eq_getElem hi]; rfl
  · rw [List.getElem?_eq_none (by rw [enumD_len, List.length_map]; omega), List.getElem?_eq_none (by rw [List.length_map, everyW_len]; omega)]
theorem metW_iff {B : Book} {r k : Int} : k ∈ metW B r ↔ k ∈ everyW B.ways.length ∧ Rch B (everyW B.ways.length) r (wAt B k).a := by
  unfold metW
  rw [List.mem_filter, rch_iff]
theorem every_iff {n : Nat} {k : Int} : k ∈ everyW n ↔ 0 ≤ k ∧ k < n := by
  unfold everyW
  rw [List.mem_map]
  constructor
  · rintro ⟨i, hi, rfl⟩
    have := List.mem_range.mp hi
    omega
  · rintro ⟨h0, h1⟩
    exact ⟨k.toNat, List.mem_range.mpr (by omega), by omega⟩
structure HowC (B : Book) (mr mw : Int) (r : Int) (xs : List Int) (k : Int) (ws hs fl : List Int) (u M : Int) : Prop where
  ok : B.Ok mr mw
  mr : mr ≤ 16
  mw : mw ≤ 1000
  x : NumOk B r xs
  a : HowA B (metW B r) r xs k ws hs fl u M
def howD (ws hs fl : List Int) (u M : Int) : PyData := .tuple [.str "most", .int (M / (gcdL [M, u] : Nat)), .int (u / (gcdL [M, u] : Nat)), totD ws hs, .int u, .tuple (fl.map PyData.int), .int u]
def how0 (B : Book) : PyData := .tuple [.str "most", .int 0, .int 1, .tuple [.tuple (List.replicate B.purses.toNat (.int 0)), .tuple (List.replicate B.rooms.toNat (.int 0))], .int 1, .tuple (List.replicate B.ways.length (.int 0)), .int 1]
/-- a fraction in lowest terms -/
theorem low_ok {M u : Int} (h0 : 0 ≤ M) (hu : 0 < u) : ∃ n d : Int, M / (gcdL [M, u] : Nat) = n ∧ u / (gcdL [M, u] : Nat) = d ∧ 0 ≤ n ∧ 0 < d ∧ Nat.gcd n.natAbs d.natAbs = 1 ∧ n ≤ M ∧ d ≤ u ∧ M * d = n * u := by
  obtain ⟨m, rfl⟩ := Int.eq_ofNat_of_zero_le h0
  obtain ⟨v, rfl⟩ := Int.eq_ofNat_of_zero_le (Int.le_of_lt hu)
  have eg : gcdL [(m : Int), (v : Int)] = Nat.gcd m v := by
    show Nat.gcd (Nat.gcd 0 m) v = _
    rw [Nat.gcd_zero_left]
  have hv : 0 < v := by omega
  have gp : 0 < Nat.gcd m v := Nat.gcd_pos_of_pos_right _ hv
  rw [eg]
  refine ⟨((m / Nat.gcd m v : Nat) : Int), ((v / Nat.gcd m v : Nat) : Int), rfl, rfl, Int.natCast_nonneg _, ?_, ?_, ?_, ?_, ?_⟩
  · have := Nat.div_pos (Nat.le_of_dvd hv (Nat.gcd_dvd_right m v)) gp
    omega
  · rw [Int.natAbs_natCast, Int.natAbs_natCast]
    rw [Nat.gcd_div (Nat.gcd_dvd_left m v) (Nat.gcd_dvd_right m v), Nat.div_self gp]
  · exact Int.ofNat_le.mpr (Nat.div_le_self _ _)
  · exact Int.ofNat_le.mpr (Nat.div_le_self _ _)
  · rw [← Int.natCast_mul, ← Int.natCast_mul]
    congr 1
    rw [← Nat.mul_div_assoc _ (Nat.gcd_dvd_right m v), Nat.mul_comm (m / _) v, ← Nat.mul_div_assoc _ (Nat.gcd_dvd_left m v), Nat.mul_comm v m]
theorem HowA.sum {B : Book} {ns : List Int} {r : Int} {xs : List Int} {k : Int} {ws hs fl : List Int} {u M : Int} (h : HowA B ns r xs k ws hs fl u M) : SumOk B ws hs := ⟨h.wl, h.hl, fun x hx => Nat.lt_of_le_of_lt (h.w0 x hx).2 (Nat.pow_lt_pow_right (by decide) (by decide))⟩
end L3
end
section
set_option exponentiation.threshold 3000
namespace L3
open PySem PySem.Spec L2
open Dt
theorem dot_abs2 {B : Book} {mr mw : Int} (hB : B.Ok mr mw) (hp : B.purses ≤ 6) {ws hs : List Int} (hw : (ws.length : Int) = B.purses) (h1 : ∀ w ∈ ws, 0 ≤ w ∧ w.natAbs ≤ 2 ^ 288) (h2 : ∀ x ∈ hs, 0 ≤ x ∧ x.natAbs ≤ 2 ^ 288) {k : Int} (hk : inW B k = true) : (fallL B ws hs k).natAbs ≤ 2 ^ 320 := by
  have wo := hB.w _ (wAt_mem hk)
  have gl := wo.len
  have hx : ∀ i : Nat, (hs.getD i 0).natAbs ≤ 2 ^ 288 := fun i => by
    rw [List.getD_eq_getElem?_getD]
    cases e : hs[i]? with
    | none => exact Nat.zero_le _
    | some x => exact (h2 x (List.mem_of_getElem? e)).2
  have a1 := hx (wAt B k).a.toNat
  have a2 := hx (wAt B k).b.toNat
  have a3 := dot_abs (M := 2 ^ 288) (N := 99) (xs := ws) (ys := (wAt B k).gs) (fun x hx => by have := h1 x hx; omega) (fun y hy => wo.g y hy) (by omega) (by decide)
  unfold fallL
  omega
/-- what a flow lets fall of a sum is no more than the sum's worth where it begins -/
theorem flow_le {B : Book} {mr mw : Int} (hB : B.Ok mr mw) {ws hs fl xs : List Int} {u r : Int} (hw : (ws.length : Int) = B.purses) (hh : (hs.length : Int) = B.rooms) (w0 : ∀ w ∈ ws, 0 ≤ w) (h0 : ∀ x ∈ hs, 0 ≤ x) (hx : xs.length = B.purses.toNat) (hr : 0 ≤ r ∧ r < B.rooms)
    (hR : ∀ q : Nat, q < B.rooms.toNat → sm B.ways.length (fun j => ((if (wAt B (j : Nat)).a = (q : Nat) then 1 else 0) - (if (wAt B (j : Nat)).b = (q : Nat) then 1 else 0)) * fl.getD j 0) ≤ if ((q : Nat) : Int) = r then u else 0)
    (hP : ∀ p : Nat, p < B.purses.toNat → 0 ≤ u * xs.getD p 0 + sm B.ways.length (fun j => (wAt B (j : Nat)).gs.getD p 0 * fl.getD j 0)) :
    sm B.ways.length (fun j => fl.getD j 0 * fallL B ws hs (j : Nat)) ≤ u * worthL ws hs r xs := by
  have hul : (ws ++ hs).length = flT B := by rw [List.length_append]; unfold flT; omega
  have et : (ws ++ hs).take B.purses.toNat = ws := List.take_left' (by omega)
  have ed : (ws ++ hs).drop B.purses.toNat = hs := List.drop_left' (by omega)
  have u0 : ∀ t, 0 ≤ (ws ++ hs).getD t 0 := fun t => by
    rw [List.getD_eq_getElem?_getD]
    cases e : (ws ++ hs)[t]? with
    | none => exact Int.le_refl _
    | some x =>
      rcases List.mem_append.mp (List.mem_of_getElem? e) with z | z
      · exact w0 x z
      · exact h0 x z
  have e1 : sm B.ways.length (fun j => fl.getD j 0 * fallL B ws hs (j : Nat)) = sm (flT B) fun t => (ws ++ hs).getD t 0 * sm B.ways.length fun j => fwR B t ((j : Nat) : Int) * fl.getD j 0 := by
    rw [sm_congr (g := fun j => sm (flT B) fun t => (ws ++ hs).getD t 0 * (fwR B t ((j : Nat) : Int) * fl.getD j 0)) fun j hj => ?_, sm_swap]
    · exact sm_congr fun t _ => sm_mul _ _ _
    · have := fallZ_eq hB hul (wAt_nat hj)
      rw [et, ed] at this
      rw [this]
      unfold fallZ
      rw [← sm_mul]
      exact sm_congr fun t _ => by
        rw [Int.mul_comm, Int.mul_assoc, Int.mul_comm ((ws ++ hs).getD t 0) _, ← Int.mul_assoc, Int.mul_comm]
  rw [e1]
  have e2 : u * worthL ws hs r xs = sm (flT B) fun t => (ws ++ hs).getD t 0 * (if t < B.purses.toNat then u * xs.getD t 0 else if ((t - B.purses.toNat : Nat) : Int) = r then u else 0) := by
    unfold flT worthL
    rw [sm_app, Int.mul_add, Int.add_comm]
    congr 1
    · rw [dotL_sm ws xs B.purses.toNat (by omega) hx, ← sm_mul]
      refine sm_congr fun t ht => ?_
      rw [if_pos ht, List.getD_eq_getElem?_getD, List.getD_eq_getElem?_getD, List.getD_eq_getElem?_getD, List.getElem?_append_left (by omega), Int.mul_comm u (_ * _), Int.mul_comm (xs[t]?.getD 0), Int.mul_assoc, Int.mul_comm (xs[t]?.getD 0)]
    · rw [sm_congr (g := fun i => if i = r.toNat then hs.getD r.toNat 0 * u else 0) fun i hi => ?_]
      · rw [sm_one _ (by omega), Int.mul_comm]
      · rw [if_neg (by omega), show B.purses.toNat + i - B.purses.toNat = i by omega, List.getD_eq_getElem?_getD, List.getElem?_append_right (by omega), show B.purses.toNat + i - ws.length = i by omega]
        by_cases e : ((i : Nat) : Int) = r
        · rw [if_pos e, if_pos (by omega), List.getD_eq_getElem?_getD, show r.toNat = i by omega]
        · rw [if_neg e, if_neg (by omega), Int.mul_zero]
  rw [e2]
  refine sm_le fun t ht => Int.mul_le_mul_of_nonneg_left ?_ (u0 t)
  by_cases c : t < B.purses.toNat
  · rw [if_pos c]
    have := hP t c
    rw [sm_congr fun j hj => show fwR B t ((j : Nat) : Int) * fl.getD j 0 = - ((wAt B (j : Nat)).gs.getD t 0 * fl.getD j 0) by
      unfold fwR
      rw [if_pos c, Int.neg_mul], sm_neg]
    omega
  · rw [if_neg c]
    have := hR (t - B.purses.toNat) (by unfold flT at ht; omega)
    rw [sm_congr fun j hj => show fwR B t ((j : Nat) : Int) * fl.getD j 0 = ((if (wAt B (j : Nat)).a = ((t - B.purses.toNat : Nat) : Int) then 1 else 0) - (if (wAt B (j : Nat)).b = ((t - B.purses.toNat : Nat) : Int) then 1 else 0)) * fl.getD j 0 by
      unfold fwR
      rw [if_neg c]]
    exact this
theorem worth_step {B : Book} {ws hs xs : List Int} {n : Nat} (hw : ws.length = n) (hx : xs.length = n) {k : Int} (hg : (wAt B k).gs.length = n) : worthL ws hs (wAt B k).b (addL xs (wAt B k).gs) = worthL ws hs (wAt B k).a xs - fallL B ws hs k := by
  unfold worthL fallL
  rw [dotL_sm ws _ n hw (addL_len hx hg), dotL_sm ws xs n hw hx, dotL_sm ws _ n hw hg, sm_congr (g := fun t => xs.getD t 0 * ws.getD t 0 + (wAt B k).gs.getD t 0 * ws.getD t 0) fun t ht => by
    rw [addL_getD (by omega) (by omega), Int.add_mul], sm_add]
  omega
/-- a walk that can be done from a stand, way by way -/
def DoneW (B : Book) : Int → List Int → List Int → Prop
  | _, _, [] => True
  | r, xs, k :: ks => inW B k = true ∧ fitsW (wAt B k) r xs = true ∧ DoneW B (wAt B k).b (addL xs (wAt B k).gs) ks
theorem fits_iff {w : Way} {r : Int} {xs : List Int} : fitsW w r xs = true ↔ w.a = r ∧ ∀ x ∈ addL xs w.gs, 0 ≤ x := by
  unfold fitsW
  rw [Bool.and_eq_true, decide_eq_true_iff, List.all_eq_true]
  exact ⟨fun h => ⟨h.1, fun x hx => of_decide_eq_true (h.2 x hx)⟩, fun h => ⟨h.1, fun x hx => decide_eq_true (h.2 x hx)⟩⟩
theorem DoneW.snoc {B : Book} : ∀ {ks : List Int} {r : Int} {xs : List Int} {k : Int}, DoneW B r xs ks → inW B k = true → fitsW (wAt B k) (ks.foldl (fun _ k => (wAt B k).b) r) (ks.foldl (fun xs k => addL xs (wAt B k).gs) xs) = true → DoneW B r xs (ks ++ [k])
  | [], _, _, _, _, h1, h2 => ⟨h1, h2, trivial⟩
  | _ :: _, _, _, _, ⟨a, b, c⟩, h1, h2 => ⟨a, b, DoneW.snoc c h1 h2⟩
theorem DoneW.mem {B : Book} {r0 : Int} : ∀ {ks : List Int} {r : Int} {xs : List Int}, DoneW B r xs ks → Rch B (everyW B.ways.length) r0 r → ∀ k ∈ ks, k ∈ metW B r0
  | [], _, _, _, _, _, h => nomatch h
  | k :: ks, r, xs, ⟨a, b, c⟩, hr, j, hj => by
    have ha := (fits_iff.mp b).1
    have hk : k ∈ everyW B.ways.length := by
      simp only [inW, Bool.and_eq_true, decide_eq_true_eq] at a
      exact every_iff.mpr a
    have hr2 : Rch B (everyW B.ways.length) r0 (wAt B k).a := by rw [ha]; exact hr
    rcases List.mem_cons.mp hj with e | e
    · rw [e]; exact metW_iff.mpr ⟨hk, hr2⟩
    · exact DoneW.mem c (.step hr2 hk) j e
/-- no way stands on a walk more often than a sum's worth tells -/
theorem count_le {B : Book} {mr mw : Int} (hB : B.Ok mr mw) {ws hs : List Int} {u k r0 : Int} (hw : (ws.length : Int) = B.purses) (w0 : ∀ w ∈ ws, 0 ≤ w) (h0 : ∀ x ∈ hs, 0 ≤ x) (hu : 0 < u) (kp : ∀ j ∈ metW B r0, 0 ≤ fallL B ws hs j) (fk : k ∈ metW B r0 → u ≤ fallL B ws hs k) :
    ∀ {ks : List Int} {r : Int} {xs : List Int}, DoneW B r xs ks → Rch B (everyW B.ways.length) r0 r → xs.length = B.purses.toNat → (∀ x ∈ xs, 0 ≤ x) → (ks.count k : Int) * u ≤ worthL ws hs r xs
  | [], r, xs, _, _, hl, hx => by
    rw [List.count_nil]
    have a : 0 ≤ hs.getD r.toNat 0 := by
      rw [List.getD_eq_getElem?_getD]
      cases e : hs[r.toNat]? with
      | none => exact Int.le_refl _
      | some x => exact h0 x (List.mem_of_getElem? e)
    have b : 0 ≤ dotL ws xs := by
      rw [dotL_sm ws xs B.purses.toNat (by omega) hl]
      refine sm_ge0 fun t ht => Int.mul_nonneg ?_ ?_
      · exact hx _ (getD_in (by omega))
      · exact w0 _ (getD_in (by omega))
    unfold worthL
    omega
  | j :: ks, r, xs, ⟨a, b, c⟩, hr, hl, hx => by
    obtain ⟨ha, hp⟩ := fits_iff.mp b
    have hj : j ∈ metW B r0 := DoneW.mem (ks := j :: ks) ⟨a, b, c⟩ hr j List.mem_cons_self
    have hr2 : Rch B (everyW B.ways.length) r0 (wAt B j).a := by rw [ha]; exact hr
    have gl : (wAt B j).gs.length = B.purses.toNat := by have := (hB.w _ (wAt_mem a)).len; omega
    have ih := count_le hB hw w0 h0 hu kp fk c (.step hr2 (metW_iff.mp hj).1) (addL_len hl gl) hp
    rw [worth_step (n := B.purses.toNat) (by omega) hl gl, ha] at ih
    have hf := kp j hj
    rw [List.count_cons]
    by_cases e : j = k
    · subst e
      have := fk hj
      rw [if_pos (beq_self_eq_true j)]
      rw [show (((ks.count j + 1 : Nat)) : Int) = (ks.count j : Int) + 1 from rfl, Int.add_mul, Int.one_mul]
      omega
    · rw [if_neg (by simpa using e), Nat.add_zero]
      omega
theorem HowA.zero {B : Book} {ns : List Int} {r k : Int} {xs : List Int} (hk : k ∉ ns) (hd : 1 ≤ B.purses ∧ 1 ≤ B.rooms) (hx : NumOk B r xs) (hw : ∀ w ∈ B.ways, w.gs.length = B.purses.toNat) (hns : ∀ j ∈ ns, inW B j = true) : HowA B ns r xs k (List.replicate B.purses.toNat 0) (List.replicate B.rooms.toNat 0) (List.replicate B.ways.length 0) 1 0 := by
  have z : ∀ n i : Nat, (List.replicate n (0 : Int)).getD i 0 = 0 := fun n i => by
    rw [List.getD_eq_getElem?_getD, List.getElem?_replicate]
    split <;> rfl
  have dz : ∀ ys : List Int, ys.length = B.purses.toNat → dotL (List.replicate B.purses.toNat 0) ys = 0 := fun ys hy => by
    rw [dotL_sm _ ys B.purses.toNat (by simp) hy, sm_congr (g := fun _ => 0) fun t _ => by rw [z, Int.mul_zero], sm_zero]
  have fz : ∀ j ∈ ns, fallL B (List.replicate B.purses.toNat 0) (List.replicate B.rooms.toNat 0) j = 0 := fun j hj => by
    unfold fallL
    rw [z, z, dz _ (hw _ (wAt_mem (hns j hj)))]; rfl
  have sz : ∀ f : Nat → Int, sm B.ways.length (fun j => f j * (List.replicate B.ways.length (0 : Int)).getD j 0) = 0 := fun f => by
    rw [sm_congr (g := fun _ => 0) fun t _ => by rw [z, Int.mul_zero], sm_zero]
  refine ⟨by decide, by decide, ⟨by decide, Nat.zero_le _⟩, by rw [List.length_replicate]; omega, by rw [List.length_replicate]; omega, fun w hw => ?_, fun w hw => ?_, fun j hj => by rw [fz j hj]; exact Int.le_refl _, fun h => (hk h).elim, ?_, by rw [List.length_replicate], fun w hw => ?_, fun j hj => (hj (z _ _)).elim, fun q _ => ?_, fun p _ => ?_, z _ _⟩
  · rw [List.eq_of_mem_replicate hw]; exact ⟨Int.le_refl _, Nat.zero_le _⟩
  · rw [List.eq_of_mem_replicate hw]; exact ⟨Int.le_refl _, Nat.zero_le _⟩
  · unfold worthL
    rw [z, dz xs hx.l]; rfl
  · rw [List.eq_of_mem_replicate hw]; exact ⟨Int.le_refl _, Nat.zero_le _⟩
  · rw [sz]
    split <;> decide
  · rw [sz, Int.one_mul, Int.add_zero]
    exact (hx.get p).1
theorem how0_eq (B : Book) : how0 B = howD (List.replicate B.purses.toNat 0) (List.replicate B.rooms.toNat 0) (List.replicate B.ways.length 0) 1 0 := by
  unfold how0 howD totD
  rw [List.map_replicate, List.map_replicate, List.map_replicate]
  rfl
/-- .. of the stand behind a way: less by one at least for the way done -/
theorem how_mono {B : Book} {mr mw : Int} (hB : B.Ok mr mw) {r k j : Int} {xs ws hs fl ws2 hs2 fl2 : List Int} {u M u2 M2 : Int} (hx : NumOk B r xs) (h : HowA B (metW B r) r xs k ws hs fl u M) (hj : inW B j = true) (hf : fitsW (wAt B j) r xs = true)
    (h2 : HowA B (metW B (wAt B j).b) (wAt B j).b (addL xs (wAt B j).gs) k ws2 hs2 fl2 u2 M2) (hk : inW B k = true) : (M2 + (if j = k then 1 else 0) * u2) * u ≤ M * u2 := by
  obtain ⟨ha, hp⟩ := fits_iff.mp hf
  have hD : DoneW B r xs [j] := ⟨hj, hf, trivial⟩
  have hjm : j ∈ metW B r := hD.mem (.refl _) j (by simp)
  have hrr : Rch B (everyW B.ways.length) r (wAt B j).b := by
    have := metW_iff.mp hjm
    exact .step this.2 this.1
  have hsub : ∀ i ∈ metW B (wAt B j).b, i ∈ metW B r := fun i hi => by
    have := metW_iff.mp hi
    exact metW_iff.mpr ⟨this.1, hrr.trans this.2⟩
  have wj := hB.w _ (wAt_mem hj)
  have gl : (wAt B j).gs.length = B.purses.toNat := by have := wj.len; omega
  have hl := hx.l
  have c1 := flow_le hB h.wl h.hl (fun w hw => (h.w0 w hw).1) (fun w hw => (h.h0 w hw).1) (addL_len hl gl) ⟨wj.b0, wj.b1⟩ h2.rooms h2.purse
  have hwl := h.wl
  have e1 := worth_step (B := B) (ws := ws) (hs := hs) (n := B.purses.toNat) (by omega) hl gl
  rw [e1, ha, ← h.worth] at c1
  have hki := hk
  simp only [inW, Bool.and_eq_true, decide_eq_true_eq] at hki
  have n2 := h2.n
  have pos : ∀ i, i < B.ways.length → 0 ≤ fl2.getD i 0 * fallL B ws hs (i : Nat) := fun i hi => by
    have f0 := (h2.f0 _ (getD_in (ns := fl2) (j := i) (by omega))).1
    by_cases z : fl2.getD i 0 = 0
    · rw [z, Int.zero_mul]; exact Int.le_refl _
    · exact Int.mul_nonneg f0 (h.keep _ (hsub _ (h2.fs i z)))
  have c2 := sm_ge1 pos (show k.toNat < B.ways.length by omega)
  have ek : ((k.toNat : Nat) : Int) = k := by omega
  have hM2 := h2.at_
  have c3 : M2 * u ≤ fl2.getD k.toNat 0 * fallL B ws hs ((k.toNat : Nat) : Int) := by
    rw [hM2, ek]
    by_cases z : M2 = 0
    · rw [z, Int.zero_mul, Int.zero_mul]; exact Int.le_refl _
    · have := h2.fs k.toNat (by rw [hM2]; exact z)
      rw [ek] at this
      exact Int.mul_le_mul_of_nonneg_left (h.fk (hsub _ this)) h2.mb.1
  have hu2 := h2.u0
  have c4 : (if j = k then 1 else 0) * u ≤ fallL B ws hs j := by
    by_cases e : j = k
    · rw [if_pos e, Int.one_mul, e]
      exact h.fk (by rw [← e]; exact hjm)
    · rw [if_neg e, Int.zero_mul]
      exact h.keep j hjm
  have c5 := Int.mul_le_mul_of_nonneg_left c4 (Int.le_of_lt hu2)
  rw [Int.mul_sub] at c1
  have e3 : (M2 + (if j = k then 1 else 0) * u2) * u = M2 * u + u2 * ((if j = k then 1 else 0) * u) := by
    rw [Int.add_mul, Int.mul_comm _ u2, Int.mul_assoc]
  rw [e3, Int.mul_comm M u2]
  omega
theorem how_no_up {B : Book} {mr mw : Int} (hB : B.Ok mr mw) {r r2 k : Int} {xs ws hs fl cs : List Int} {u M : Int} (h : HowA B (metW B r) r xs k ws hs fl u M) (hr : 0 ≤ r2 ∧ r2 < B.rooms) (hrr : Rch B (everyW B.ways.length) r r2) (hc : RndOk B (metW B r2) cs) (hk : inW B k = true) (hp : 0 < cs.getD k.toNat 0) : False := by
  have hsub : ∀ i ∈ metW B r2, i ∈ metW B r := fun i hi => by
    have := metW_iff.mp hi
    exact metW_iff.mpr ⟨this.1, hrr.trans this.2⟩
  have hki := hk
  simp only [inW, Bool.and_eq_true, decide_eq_true_eq] at hki
  have n2 := hc.n
  have c1 := flow_le hB (u := 0) (r := r2) (xs := List.replicate B.purses.toNat 0) h.wl h.hl (fun w hw => (h.w0 w hw).1) (fun w hw => (h.h0 w hw).1) (by simp) hr (fun q hq => by rw [hc.r q hq]; split <;> exact Int.le_refl _) (fun p hp => by rw [Int.zero_mul, Int.zero_add]; exact hc.g p hp)
  rw [Int.zero_mul] at c1
  have pos : ∀ i, i < B.ways.length → 0 ≤ cs.getD i 0 * fallL B ws hs (i : Nat) := fun i hi => by
    have f0 := (hc.z _ (getD_in (ns := cs) (j := i) (by omega))).1
    by_cases z : cs.getD i 0 = 0
    · rw [z, Int.zero_mul]; exact Int.le_refl _
    · exact Int.mul_nonneg f0 (h.keep _ (hsub _ (hc.s i z)))
  have c2 := sm_ge1 pos (show k.toNat < B.ways.length by omega)
  have ek : ((k.toNat : Nat) : Int) = k := by omega
  have hkm := hc.s k.toNat (by omega)
  rw [ek] at hkm
  have c3 := h.fk (hsub _ hkm)
  have hu := h.u0
  rw [ek] at c2
  have := Int.mul_pos hp (show 0 < fallL B ws hs k by omega)
  omega
end L3
end
local macro_rules | `(tactic| walk_at "w") => `(tactic| ((conv => whnf); repeat ((first | (refine L3.insK_of (by (apply Eq.trans; (first | assumption | exact L3.OS.put_self (by assumption) | exact L3.OS.look_new)); rfl) ?_) | (refine L3.keep_of rfl ?_) | (refine L3.opK_of (L3.intsL_map _) ?_) | (refine L3.opK_of (L3.boolsF _ _) ?_) | (refine L3.opK_of (L3.intsF _ _) ?_) | (refine L3.sh_of (by first | rfl | exact L3.shaped_ints _ | exact L3.shaped_tints _ | exact L3.shaped_ways _) (by first | rfl | exact L3.shaped_ints _ | exact L3.shaped_tints _ | exact L3.shaped_ways _) ?_)); (conv => whnf))))
local macro_rules | `(tactic| walk_at "lcw") => `(tactic| ((try simp only [L3.wipeE, L3.entry, L3.slOf, List.map_cons, List.map_nil, List.set_cons_zero, List.set_cons_succ, List.length_cons, List.length_nil, List.cons_append, List.nil_append, List.replicate, Nat.add_sub_cancel, Nat.reduceAdd, Nat.reduceSub]); rfl))
namespace Lw
open PySem PySem.Spec PyProof.Rows L2 L3
abbrev qT : Str := (("Table.entering" : Str) ++ ".<locals>.") ++ "<lambda>"
def topS (i : Nat) : Stmt := PySem.Challenge.pw_fallsum_k51_whole_often_and_walks.main.body.getD i (.Pass ⟨0, 0, 0, 0⟩)
abbrev L_Table : List Str := ["free", "bound", "rows", "divisor"]
theorem fa_Table_free : FldAt L_Table 0 "free" := rfl
theorem fa_Table_bound : FldAt L_Table 1 "bound" := ⟨by decide, rfl⟩
theorem fa_Table_rows : FldAt L_Table 2 "rows" := ⟨by decide, ⟨by decide, rfl⟩⟩
theorem fa_Table_divisor : FldAt L_Table 3 "divisor" := ⟨by decide, ⟨by decide, ⟨by decide, rfl⟩⟩⟩
abbrev s__law_tape : Stmt := topS 32
theorem c__law_tape : FnScope ["_law_script"] ["_law_script"] (defScope s__law_tape) := ⟨rfl, rfl, rfl, by decide +kernel, rfl, by decide +kernel, by decide +kernel⟩
theorem ok__law_tape {P : Program} {w : World} {K : PySem.W.Frag} {mg : Str → Option Value} {base : Heap} {k : Nat} (D : Dfn K mg "_law_tape" s__law_tape ["_law_script"]) (z_list : mg "list" = none) : Ok P w K mg base (k + 1) "_law_tape" ["_law_script"] (spTape K) := by
  refine D.raw c__law_tape (fun vs H Q E h => ?_) fun fa cdv A outer s' H vs Q E hr h => ?_
  · obtain ⟨a, ns, rfl, _⟩ := h
    rfl
  · refine ⟨_, pss_one (ps_ret (pe_lst (pa_cons (pe_callTy call_list_of (by rfl) z_list rfl (pa_cons (pe_slice sl_list (pv 0) po_none (po_some pe_int)) pa_nil)) (pa_cons pe_int (pa_cons pe_int pa_nil))))), ?_⟩
    clear hr
    obtain ⟨a, ns, rfl, hS, hq⟩ := h
    show tRet _ _ [some (.ref a)] H
    refine ⟨.ref a, rfl, 63, rfl, a, ns.map V.int, rfl, hS, fun d nd => ?_⟩
    obtain ⟨ms, hms⟩ := cut_ints ns none (some 63)
    rw [hms]
    refine ⟨d, ms.map V.int, rfl, .inl (.inl (.inl upd_same)), fun l nl => ?_⟩
    have nld : l ≠ d := fun e => by rw [e, upd_same] at nl; cases nl
    rw [upd_ne nld] at nl
    have e1 : ∀ b o, H b = some o → (upd H d (.lst (ms.map V.int))) b = some o := fun b o e => by rw [upd_ne (ne_of_none e nd)]; exact e
    have e2 : ∀ b o, H b = some o → (upd (upd H d (.lst (ms.map V.int))) l (.lst (ms.map V.int))) b = some o := fun b o e => by rw [upd_ne (ne_of_none e nl)]; exact e1 b o e
    refine ⟨(by show 3 ≤ sizeLine; decide), fun p hp => ?_⟩
    have npl : p ≠ l := fun e => by rw [e, upd_same] at hp; cases hp
    have np : H p = none := by
      cases q : H p with
      | none => rfl
      | some o => rw [e2 p o q] at hp; cases hp
    refine hq _ ⟨p, l, 1000000000000000⟩ (fun b o e => ?_) np nl ⟨ms, 0, 0, ⟨upd_same, ?_, npl⟩, Int.le_refl _, (by show (0 : Int) + (1000000000000000 : Nat) ≤ 2 ^ 60; decide)⟩ rfl
    · rw [upd_ne (ne_of_none (e2 b o e) hp)]
      exact e2 b o e
    · rw [upd_ne npl.symm, upd_same]
abbrev s__law_draw : Stmt := topS 33
theorem c__law_draw : FnScope ["_law_tape_here", "_law_many", "_law_digit", "_law_at", "_law_cell", "_law_mixed"] ["_law_tape_here", "_law_many"] (defScope s__law_draw) := ⟨rfl, rfl, rfl, by decide +kernel, rfl, by decide +kernel, by decide +kernel⟩
theorem ok__law_draw {P : Program} {w : World} {K : PySem.W.Frag} {mg : Str → Option Value} {base : Heap} {k : Nat} (D : Dfn K mg "_law_draw" s__law_draw ["_law_tape_here", "_law_many"]) (z_len : mg "len" = none) : Ok P w K mg base (k + 1) "_law_draw" ["_law_tape_here", "_law_many"] (spZ (ZT K) S__law_draw) := by
  refine D.raw c__law_draw (fun vs H Q E h => ?_) fun fa cdv A outer s' H vs Q E hr h => ?_
  · obtain ⟨F, g, as, T, U, _, _, _, h4, h5, _⟩ := h
    rw [argR_len h4]
    unfold S__law_draw at h5
    split at h5 <;> first | rfl | cases h5
  · have hu := hu_of hr.rm
    have ix : ∀ {j : Int}, True := trivial
    refine ⟨_, pss_cons (ps_if (pt_cmpR op_gt (pe_ix ix_list (pv 0) pe_int (fun _ _ => rfl)) pe_int (nomark _))
        (pss_cons (ps_set (i := 2) c__law_draw.nd rfl (.inl rfl) (pe_op op_mod (pe_ix ix_list (pv 0) pe_int (fun _ _ => rfl)) (pv 1)))
        (pss_cons (ps_asg (pe_op op_fdivW (pe_ix ix_list (pv 0) pe_int (fun _ _ => rfl)) (pv 1)) (pg_sub (pv 0) pe_int set_list (fun _ => rfl)) (by rfl) (by rfl) (by rfl))
        (pss_one (ps_ret (pv 2))))) pss_nil)
      (pss_cons (ps_set (i := 3) c__law_draw.nd rfl (.inl rfl) (pe_ix ix_list (pv 0) pe_int (fun _ _ => rfl)))
      (pss_cons (ps_asg (pe_op op_add (pv 3) pe_int) (pg_sub (pv 0) pe_int set_list (fun _ => rfl)) (by rfl) (by rfl) (by rfl))
      (pss_cons (ps_set (i := 4) c__law_draw.nd rfl (.inl rfl) pe_int)
      (pss_cons (ps_if (pt_cmpR op_gt (pe_callB call_len (by rfl) z_len rfl (pa_cons (pe_ix ix_list (pv 0) pe_int (fun _ _ => rfl)) pa_nil)) pe_int (nomark _))
        (pss_one (ps_set (i := 4) c__law_draw.nd rfl (.inl rfl) (pe_ix ix_list (pe_ix ix_list (pv 0) pe_int (fun _ _ => rfl)) (pe_op op_mod (pv 3) (pe_callB call_len (by rfl) z_len rfl (pa_cons (pe_ix ix_list (pv 0) pe_int (fun _ _ => rfl)) pa_nil))) (fun _ _ => rfl)))) pss_nil)
      (pss_cons (ps_if (pw_and (pt_cmpR op_lt (pv 3) (pe_callB call_len (by rfl) z_len rfl (pa_cons (pe_ix ix_list (pv 0) pe_int (fun _ _ => rfl)) pa_nil)) (nomark _)) (pw_and1 (pt_cmpR op_ge (pv 4) (pe_op op_pow pe_int pe_int) (nomark _)))).pt
        (pss_cons (ps_asg (pe_op op_fdivW (pv 4) (pv 1)) (pg_sub (pv 0) pe_int set_list (fun _ => rfl)) (by rfl) (by rfl) (by rfl))
        (pss_one (ps_ret (pe_op op_mod (pv 4) (pv 1))))) pss_nil)
      (pss_cons (ps_set (i := 5) c__law_draw.nd rfl (.inl rfl) (pe_op op_mod (pe_op op_mul (pe_op op_add (pe_op op_mod (pv 4) pe_int) pe_int) (pe_op op_add (pe_op op_add (pe_op op_mul (pe_op op_mul pe_int (pv 3)) (pv 3)) (pe_op op_mul pe_int (pv 3))) pe_int)) pe_int))
      (pss_cons (ps_set (i := 5) c__law_draw.nd rfl (.inl rfl) (pe_op op_mod (pe_op op_add (pe_op op_add (pe_op op_mul (pv 5) (pv 5)) (pe_op op_mul pe_int (pv 3))) (pe_op op_mod (pv 4) pe_int)) pe_int))
      (pss_one (ps_ret (pe_op op_mod (pe_op op_fdivW (pv 5) pe_int) (pv 1))))))))))), ?_⟩
    clear hr
    obtain ⟨F, g, as, T, U, h1, h2, h3, h4, h5, h6, _⟩ := h
    unfold S__law_draw at h5
    split at h5
    · rename_i m
      obtain ⟨hle, h5⟩ := h5
      obtain ⟨⟨hm, hm2⟩, hT⟩ := dvK_e h5
      obtain ⟨ta, cl, lf⟩ := g
      replace hle : 1 ≤ lf := hle
      cases h4 with
      | cons a1 t1 =>
        cases t1 with
        | cons a2 t2 =>
          cases t2
          cases (show _ = V.ref ta from a1)
          cases (show Da K F _ (.int m) from a2)
          obtain ⟨cells, s, t, hJ, hs0, hs1⟩ := h2
          replace hJ : TAt ta cl cells s t H := hJ
          replace hs1 : s + (lf : Int) ≤ 2 ^ 60 := hs1
          have sq : ∀ {s t : Int} {H : Hp}, TAt ta cl cells s t H → SqL K H ta [.ref cl, .int s, .int t] := fun j => .inl (.inl j.1)
          have sc : ∀ {s t : Int} {H : Hp}, TAt ta cl cells s t H → SqL K H cl (cells.map V.int) := fun j => .inl (.inl j.2.1)
          have hlen : ∀ {s t : Int} {H : Hp}, TAt ta cl cells s t H → LenV K (.ref cl) H cells.length := fun j => .inl ⟨_, sc j, by rw [List.length_map]⟩
          have fin : ∀ (H' : Hp) (r s' t' : Int), JF ta cl H H' → TAt ta cl cells s' t' H' → 0 ≤ s' → s' + ((lf - 1 : Nat) : Int) ≤ 2 ^ 60 → 0 ≤ r → r < m → Q (.int r) H' := fun H' r s' t' jf j q1 q2 r1 r2 =>
            h6 _ (.dt (.int r)) F (TPg.w ⟨ta, cl, lf⟩ (lf - 1)) _ (JF.frmT (g := ⟨ta, cl, lf⟩) (n := lf - 1) jf h1 h3 ⟨cells, s', t', j, q1, q2⟩) rfl (.int _) (hT r r1 r2)
          show tSeq _ _ _ [some (.ref ta), some (.int m), none, none, none, none] H
          refine ⟨_, rfl, ta, _, 2, _, rfl, rfl, sq hJ, rfl, t, 0, rfl, rfl, _, rfl, ite2 (fun _ => ?_) (fun _ => ?_)⟩
          · refine ⟨_, rfl, ta, _, 2, _, rfl, rfl, sq hJ, rfl, _, rfl, t, m, rfl, rfl, hm, ?_⟩
            refine ⟨_, rfl, ta, _, 2, _, rfl, rfl, sq hJ, rfl, _, rfl, t, m, rfl, rfl, ⟨hm, hm2⟩, _, rfl, ta, _, 2, 2, rfl, rfl, hJ.1, rfl, ?_⟩
            refine ⟨_, rfl, ?_⟩
            exact fin _ _ _ _ .dict hJ.put hs0 (by omega) (Int.emod_nonneg _ (by omega)) (Int.emod_lt_of_pos _ hm)
          · refine ⟨_, rfl, ta, _, 1, _, rfl, rfl, sq hJ, rfl, ?_⟩
            refine ⟨_, rfl, s, 1, rfl, rfl, _, rfl, ta, _, 1, 1, rfl, rfl, hJ.1, rfl, ?_⟩
            have j1 : TAt ta cl cells (s + 1) t _ := hJ.put
            have f1 : JF ta cl H _ := JF.dict (o := .lst [.ref cl, .int (s + 1), .int t])
            refine ⟨_, rfl, ta, _, 0, .ref cl, rfl, rfl, sq j1, rfl, .ref cl, cells.length, rfl, hlen j1, _, 0, rfl, rfl, _, rfl, ite2 (fun hb => ?_) (fun hb => ?_)⟩
            · have hb : (0 : Int) < (cells.length : Int) := of_decide_eq_true hb
              have hq0 := Int.emod_nonneg s (show (cells.length : Int) ≠ 0 by omega)
              have hq1 := Int.emod_lt_of_pos s hb
              have hi : atI (cells.map V.int) (s % (cells.length : Int)) = some (.int (cells.getD (s % (cells.length : Int)).toNat 0)) := by
                obtain ⟨hl, e⟩ := atI_at (xs := cells) hq0 hq1
                rw [atI_map V.int e, List.getD_eq_getElem?_getD, List.getElem?_eq_getElem hl]; rfl
              refine ⟨_, rfl, ta, _, 0, .ref cl, rfl, rfl, sq j1, rfl, _, rfl, _, rfl, ta, _, 0, .ref cl, rfl, rfl, sq j1, rfl, .ref cl, cells.length, rfl, hlen j1, s, _, rfl, rfl, hb, cl, _, _, _, rfl, rfl, sc j1, hi, ?_⟩
              generalize cells.getD (s % (cells.length : Int)).toNat 0 = c
              refine ⟨_, rfl, _, rfl, ta, _, 0, .ref cl, rfl, rfl, sq j1, rfl, .ref cl, cells.length, rfl, hlen j1, s, _, rfl, rfl, _, rfl, ite2 (fun hx => ?_) (fun hx => ?_)⟩
              · refine ⟨_, rfl, 10, 18, rfl, rfl, ⟨by decide, by decide, by decide⟩, _, _, rfl, rfl, _, rfl, ite2 (fun hy => ?_) (fun hy => ?_)⟩
                · refine ⟨_, rfl, _, rfl, c, m, rfl, rfl, ⟨hm, hm2⟩, _, rfl, ta, _, 2, 2, rfl, rfl, j1.1, rfl, ?_⟩
                  refine ⟨_, rfl, _, rfl, c, m, rfl, rfl, hm, ?_⟩
                  exact fin _ _ _ _ (f1.trans .dict) j1.put (by omega) (by omega) (Int.emod_nonneg _ (by omega)) (Int.emod_lt_of_pos _ hm)
                · refine ⟨_, rfl, c, 1000003, rfl, rfl, (by decide : (0 : Int) < 1000003), _, 1, rfl, rfl, _, rfl, 7919, s, rfl, rfl, .inl (by decide), _, rfl, _, s, rfl, rfl, .inr ⟨by omega, by omega⟩, _, rfl, 104729, s, rfl, rfl, .inl (by decide), _, _, rfl, rfl, _, 12345, rfl, rfl, _, _, rfl, rfl, .inl ⟨by have := Int.emod_nonneg (c) (show (1000003 : Int) ≠ 0 by decide); omega, by have := Int.emod_lt_of_pos (c) (show (0 : Int) < 1000003 by decide); omega⟩, _, 2147483647, rfl, rfl, (by decide : (0 : Int) < 2147483647), ?_⟩
                  have y1 := Int.emod_nonneg ((c % 1000003 + 1) * (7919 * s * s + 104729 * s + 12345)) (show (2147483647 : Int) ≠ 0 by decide)
                  have y2 := Int.emod_lt_of_pos ((c % 1000003 + 1) * (7919 * s * s + 104729 * s + 12345)) (show (0 : Int) < 2147483647 by decide)
                  refine ⟨_, rfl, _, rfl, _, _, rfl, rfl, .inl ⟨Int.lt_of_lt_of_le (by decide) y1, Int.lt_trans y2 (by decide)⟩, _, rfl, 48271, s, rfl, rfl, .inl (by decide), _, _, rfl, rfl, _, rfl, c, 65537, rfl, rfl, (by decide : (0 : Int) < 65537), _, _, rfl, rfl, _, 2147483629, rfl, rfl, (by decide : (0 : Int) < 2147483629), ?_⟩
                  refine ⟨_, rfl, _, 8, rfl, rfl, ⟨by decide, by decide +kernel⟩, _, rfl, _, m, rfl, rfl, hm, ?_⟩
                  exact fin _ _ _ _ f1 j1 (by omega) (by omega) (Int.emod_nonneg _ (by omega)) (Int.emod_lt_of_pos _ hm)
              · refine ⟨_, rfl, c, 1000003, rfl, rfl, (by decide : (0 : Int) < 1000003), _, 1, rfl, rfl, _, rfl, 7919, s, rfl, rfl, .inl (by decide), _, rfl, _, s, rfl, rfl, .inr ⟨by omega, by omega⟩, _, rfl, 104729, s, rfl, rfl, .inl (by decide), _, _, rfl, rfl, _, 12345, rfl, rfl, _, _, rfl, rfl, .inl ⟨by have := Int.emod_nonneg (c) (show (1000003 : Int) ≠ 0 by decide); omega, by have := Int.emod_lt_of_pos (c) (show (0 : Int) < 1000003 by decide); omega⟩, _, 2147483647, rfl, rfl, (by decide : (0 : Int) < 2147483647), ?_⟩
                have y1 := Int.emod_nonneg ((c % 1000003 + 1) * (7919 * s * s + 104729 * s + 12345)) (show (2147483647 : Int) ≠ 0 by decide)
                have y2 := Int.emod_lt_of_pos ((c % 1000003 + 1) * (7919 * s * s + 104729 * s + 12345)) (show (0 : Int) < 2147483647 by decide)
                refine ⟨_, rfl, _, rfl, _, _, rfl, rfl, .inl ⟨Int.lt_of_lt_of_le (by decide) y1, Int.lt_trans y2 (by decide)⟩, _, rfl, 48271, s, rfl, rfl, .inl (by decide), _, _, rfl, rfl, _, rfl, c, 65537, rfl, rfl, (by decide : (0 : Int) < 65537), _, _, rfl, rfl, _, 2147483629, rfl, rfl, (by decide : (0 : Int) < 2147483629), ?_⟩
                refine ⟨_, rfl, _, 8, rfl, rfl, ⟨by decide, by decide +kernel⟩, _, rfl, _, m, rfl, rfl, hm, ?_⟩
                exact fin _ _ _ _ f1 j1 (by omega) (by omega) (Int.emod_nonneg _ (by omega)) (Int.emod_lt_of_pos _ hm)
            · refine ⟨_, rfl, _, rfl, ta, _, 0, .ref cl, rfl, rfl, sq j1, rfl, .ref cl, cells.length, rfl, hlen j1, s, _, rfl, rfl, _, rfl, ite2 (fun hx => ?_) (fun hx => ?_)⟩
              · refine ⟨_, rfl, 10, 18, rfl, rfl, ⟨by decide, by decide, by decide⟩, _, _, rfl, rfl, _, rfl, ite2 (fun hy => ?_) (fun hy => ?_)⟩
                · refine ⟨_, rfl, _, rfl, 0, m, rfl, rfl, ⟨hm, hm2⟩, _, rfl, ta, _, 2, 2, rfl, rfl, j1.1, rfl, ?_⟩
                  refine ⟨_, rfl, _, rfl, 0, m, rfl, rfl, hm, ?_⟩
                  exact fin _ _ _ _ (f1.trans .dict) j1.put (by omega) (by omega) (Int.emod_nonneg _ (by omega)) (Int.emod_lt_of_pos _ hm)
                · refine ⟨_, rfl, 0, 1000003, rfl, rfl, (by decide : (0 : Int) < 1000003), _, 1, rfl, rfl, _, rfl, 7919, s, rfl, rfl, .inl (by decide), _, rfl, _, s, rfl, rfl, .inr ⟨by omega, by omega⟩, _, rfl, 104729, s, rfl, rfl, .inl (by decide), _, _, rfl, rfl, _, 12345, rfl, rfl, _, _, rfl, rfl, .inl ⟨by have := Int.emod_nonneg (0) (show (1000003 : Int) ≠ 0 by decide); omega, by have := Int.emod_lt_of_pos (0) (show (0 : Int) < 1000003 by decide); omega⟩, _, 2147483647, rfl, rfl, (by decide : (0 : Int) < 2147483647), ?_⟩
                  have y1 := Int.emod_nonneg ((0 % 1000003 + 1) * (7919 * s * s + 104729 * s + 12345)) (show (2147483647 : Int) ≠ 0 by decide)
                  have y2 := Int.emod_lt_of_pos ((0 % 1000003 + 1) * (7919 * s * s + 104729 * s + 12345)) (show (0 : Int) < 2147483647 by decide)
                  refine ⟨_, rfl, _, rfl, _, _, rfl, rfl, .inl ⟨Int.lt_of_lt_of_le (by decide) y1, Int.lt_trans y2 (by decide)⟩, _, rfl, 48271, s, rfl, rfl, .inl (by decide), _, _, rfl, rfl, _, rfl, 0, 65537, rfl, rfl, (by decide : (0 : Int) < 65537), _, _, rfl, rfl, _, 2147483629, rfl, rfl, (by decide : (0 : Int) < 2147483629), ?_⟩
                  refine ⟨_, rfl, _, 8, rfl, rfl, ⟨by decide, by decide +kernel⟩, _, rfl, _, m, rfl, rfl, hm, ?_⟩
                  exact fin _ _ _ _ f1 j1 (by omega) (by omega) (Int.emod_nonneg _ (by omega)) (Int.emod_lt_of_pos _ hm)
              · refine ⟨_, rfl, 0, 1000003, rfl, rfl, (by decide : (0 : Int) < 1000003), _, 1, rfl, rfl, _, rfl, 7919, s, rfl, rfl, .inl (by decide), _, rfl, _, s, rfl, rfl, .inr ⟨by omega, by omega⟩, _, rfl, 104729, s, rfl, rfl, .inl (by decide), _, _, rfl, rfl, _, 12345, rfl, rfl, _, _, rfl, rfl, .inl ⟨by have := Int.emod_nonneg (0) (show (1000003 : Int) ≠ 0 by decide); omega, by have := Int.emod_lt_of_pos (0) (show (0 : Int) < 1000003 by decide); omega⟩, _, 2147483647, rfl, rfl, (by decide : (0 : Int) < 2147483647), ?_⟩
                have y1 := Int.emod_nonneg ((0 % 1000003 + 1) * (7919 * s * s + 104729 * s + 12345)) (show (2147483647 : Int) ≠ 0 by decide)
                have y2 := Int.emod_lt_of_pos ((0 % 1000003 + 1) * (7919 * s * s + 104729 * s + 12345)) (show (0 : Int) < 2147483647 by decide)
                refine ⟨_, rfl, _, rfl, _, _, rfl, rfl, .inl ⟨Int.lt_of_lt_of_le (by decide) y1, Int.lt_trans y2 (by decide)⟩, _, rfl, 48271, s, rfl, rfl, .inl (by decide), _, _, rfl, rfl, _, rfl, 0, 65537, rfl, rfl, (by decide : (0 : Int) < 65537), _, _, rfl, rfl, _, 2147483629, rfl, rfl, (by decide : (0 : Int) < 2147483629), ?_⟩
                refine ⟨_, rfl, _, 8, rfl, rfl, ⟨by decide, by decide +kernel⟩, _, rfl, _, m, rfl, rfl, hm, ?_⟩
                exact fin _ _ _ _ f1 j1 (by omega) (by omega) (Int.emod_nonneg _ (by omega)) (Int.emod_lt_of_pos _ hm)
    · cases h5
abbrev s__law_gain : Stmt := topS 34
theorem c__law_gain : FnScope ["_law_tape_here", "_law_way"] ["_law_tape_here"] (defScope s__law_gain) := ⟨rfl, rfl, rfl, by decide +kernel, rfl, by decide +kernel, by decide +kernel⟩
def S__law_gain : Spec TPg := fun as g T U => match as with
  | [.rs 0] => 4 ≤ g.left ∧ ∀ (z : Int) (n : Nat), -98 ≤ z → z ≤ 98 → g.left ≤ n + 4 → T (.dt (.int z)) (g.w n)
  | _ => False
theorem ok__law_gain {P : Program} {w : World} {K : PySem.W.Frag} {mg : Str → Option Value} {base : Heap} {k : Nat} (D : Dfn K mg "_law_gain" s__law_gain ["_law_tape_here"]) (f__law_draw : Ok P w K mg base k "_law_draw" ["_law_tape_here", "_law_many"] (spZ (ZT K) S__law_draw)) : Ok P w K mg base (k + 1) "_law_gain" ["_law_tape_here"] (spZ (ZT K) S__law_gain) := by
  refine D.ok c__law_gain (fun as g T U h => by unfold S__law_gain at h; split at h <;> first | rfl | cases h) (by decide) fun fa cdv A outer s' H E hr => ⟨_, _, (s_cons (s_set 1 c__law_gain.nd (e_fnU let_n f__law_draw hr (a_cons (e_v 0) (a_cons e_int a_nil))))
      (s_cons (s_if (t_cmp (c_eq hr.units) (e_v 1) e_int) (s_one (s_ret (e_op b_sub (e_fnU let_n f__law_draw hr (a_cons (e_v 0) (a_cons e_int a_nil))) e_int))) s_nil)
      (s_one (s_ret (e_ixX hr.units (e_lst (a_cons e_int (a_cons e_int (a_cons (e_un u_neg e_int) (a_cons (e_un u_neg e_int) (a_cons (e_un u_neg e_int) (a_cons e_int (a_cons e_int (a_cons e_int (a_cons (e_un u_neg e_int) a_nil)))))))))) (e_v 1)))))), ?_⟩
  intro as g T U h
  unfold S__law_gain at h
  clear hr f__law_draw
  split at h
  · obtain ⟨hl, h⟩ := h
    walk_at "w"
    refine ⟨by omega, ?_⟩
    walk_at "w"
    intro a a1 a2
    walk_at "w"
    refine ifb_of (fun q1 => ?_) (fun q1 => ?_) <;> simp at q1 <;> walk_at "w"
    · refine ⟨by show 1 ≤ g.left - 1; omega, ?_⟩
      walk_at "w"
      intro b b1 b2
      walk_at "w"
      exact h _ (g.left - 1 - 1) (by omega) (by omega) (by omega)
    · obtain ⟨z, hz, ez⟩ := atI_int (zs := [0, 0, -1, -1, -1, 1, 1, 2, -2]) a1 (by simp; omega)
      refine opK_of ez ?_
      walk_at "w"
      simp at hz
      exact h z (g.left - 1) (by omega) (by omega) (by omega)
  · cases h
abbrev s__law_gains : Stmt := topS 35
theorem c__law_gains : FnScope ["_law_tape_here", "_law_purses", "_law_p"] ["_law_tape_here", "_law_purses"] (defScope s__law_gains) := ⟨rfl, rfl, rfl, by decide +kernel, rfl, by decide +kernel, by decide +kernel⟩
def S__law_gains : Spec TPg := fun as g T U => match as with
  | [.rs 0, .dt (.int p)] => (0 ≤ p ∧ p ≤ 6) ∧ 30 ≤ g.left ∧ ∀ (gs : List Int) (n : Nat), (gs.length : Int) = p → (∀ x ∈ gs, -98 ≤ x ∧ x ≤ 98) → g.left ≤ n + 30 → T (.dt (.tuple (gs.map PyData.int))) (g.w n)
  | _ => False
theorem ok__law_gains {P : Program} {w : World} {K : PySem.W.Frag} {mg : Str → Option Value} {base : Heap} {k : Nat} (D : Dfn K mg "_law_gains" s__law_gains ["_law_tape_here", "_law_purses"]) (f__law_gain : Ok P w K mg base k "_law_gain" ["_law_tape_here"] (spZ (ZT K) S__law_gain)) (z_range : mg "range" = none) (z_tuple : mg "tuple" = none) : Ok P w K mg base (k + 1) "_law_gains" ["_law_tape_here", "_law_purses"] (spZ (ZT K) S__law_gains) := by
  refine D.ok c__law_gains (fun as g T U h => by unfold S__law_gains at h; split at h <;> first | rfl | cases h) (by decide) fun fa cdv A outer s' H E hr => ⟨_, _, (s_one (s_ret (e_callTy k_tuple (a_cons (e_lc [("_law_p", 2)] c__law_gains.nd (i_rng1 z_range (a_cons (e_v 1) a_nil)) (fun _ _ _ _ _ => (g_name 2 c__law_gains.nd)) (own_name (by decide)) (fun _ _ _ _ _ => ts_nil) (fun _ _ _ _ _ => (e_fnU let_n f__law_gain hr (a_cons (e_v 0) a_nil)))) a_nil) z_tuple rfl))), ?_⟩
  intro as g T U h
  unfold S__law_gains at h
  clear hr f__law_gain
  split at h
  · rename_i p
    obtain ⟨hp, hl, h⟩ := h
    walk_at "w"
    refine rgK_of (by omega) (by omega) ?_
    walk_at "w"
    refine leK_of (by rw [rngD_len]; omega) (lc_allG (fun _ d => ∃ z, d = .int z ∧ -98 ≤ z ∧ z ≤ 98) (fun k g' => ∃ n, g' = g.w n ∧ g.left ≤ n + 4 * k) ⟨g.left, rfl, by omega⟩ (by walk_at "lcw") (fun k d g' hk hJ C1 C0 q => ?_) (fun acc g' hl2 hp2 hJ => ?_))
    · obtain ⟨rfl, hk⟩ := rngD_inv hk
      obtain ⟨n, rfl, hn⟩ := hJ
      walk_at "w"
      refine ⟨by show 4 ≤ n; omega, fun z m z1 z2 hm => ?_⟩
      replace hm : n ≤ m + 4 := hm
      walk_at "w"
      exact q _ _ ⟨z, rfl, z1, z2⟩ ⟨m, rfl, by omega⟩
    · obtain ⟨n, rfl, hn⟩ := hJ
      rw [rngD_len] at hl2 hn
      obtain ⟨gs, rfl, hgs⟩ := ints_of_get hp2
      rw [List.length_map] at hl2
      walk_at "w"
      exact h gs n (by omega) hgs (by omega)
  · cases h
abbrev s__law_nested : Stmt := topS 36
theorem c__law_nested : FnScope ["_law_tape_here", "_law_rooms", "_law_purses", "_law_ways", "_law_pair", "_law_extra", "_law_room", "_law_one", "_law_step", "_law_number"] ["_law_tape_here", "_law_rooms", "_law_purses"] (defScope s__law_nested) := ⟨rfl, rfl, rfl, by decide +kernel, rfl, by decide +kernel, by decide +kernel⟩
def S__law_nested : Spec TPg := fun as g T U => match as with
  | [.rs 0, .dt (.int rooms), .dt (.int p)] => (1 ≤ rooms ∧ rooms ≤ 12) ∧ (1 ≤ p ∧ p ≤ 6) ∧ 100 ≤ g.left ∧ ∀ (ws : List Way) (n : Nat), (ws.length : Int) = 2 * rooms → (∀ w ∈ ws, w.Ok rooms p) → g.left ≤ n + 100 → T (.nl (ws.map Way.d)) (g.w n)
  | _ => False
theorem ok__law_nested {P : Program} {w : World} {K : PySem.W.Frag} {mg : Str → Option Value} {base : Heap} {k : Nat} (D : Dfn K mg "_law_nested" s__law_nested ["_law_tape_here", "_law_rooms", "_law_purses"]) (f__law_gains : Ok P w K mg base k "_law_gains" ["_law_tape_here", "_law_purses"] (spZ (ZT K) S__law_gains)) (f__law_draw : Ok P w K mg base k "_law_draw" ["_law_tape_here", "_law_many"] (spZ (ZT K) S__law_draw)) (z_tuple : mg "tuple" = none) (z_range : mg "range" = none) (z_list : mg "list" = none) : Ok P w K mg base (k + 1) "_law_nested" ["_law_tape_here", "_law_rooms", "_law_purses"] (spZ (ZT K) S__law_nested) := by
  refine D.ok c__law_nested (fun as g T U h => by unfold S__law_nested at h; split at h <;> first | rfl | cases h) (by decide) fun fa cdv A outer s' H E hr => ⟨_, _, (s_cons (s_set 3 c__law_nested.nd (e_lst a_nil))
      (s_cons (s_set 4 c__law_nested.nd (e_lst (a_cons (e_fnU let_n f__law_gains hr (a_cons (e_v 0) (a_cons (e_v 2) a_nil))) a_nil)))
      (s_cons (s_expr (e_ml PySem.F.slot_list_append PySem.F.type_list_append mt_append m_app 4 (a_cons (e_callTy k_tuple (a_cons (e_lc [("_law_number", 9)] c__law_nested.nd (i_seq (e_ixX hr.units (e_v 4) e_int)) (fun _ _ _ _ _ => (g_name 9 c__law_nested.nd)) (own_name (by decide)) (fun _ _ _ _ _ => ts_nil) (fun _ _ _ _ _ => (e_un u_neg (e_v 9)))) a_nil) z_tuple rfl) a_nil)))
      (s_cons (s_set 5 c__law_nested.nd (e_fnU let_n f__law_draw hr (a_cons (e_v 0) (a_cons (e_v 2) a_nil))))
      (s_cons (s_for (i_rng1 z_range (a_cons (e_v 1) a_nil)) (g_name 6 c__law_nested.nd) (s_cons (s_set 7 c__law_nested.nd (e_callTy k_list (a_cons (e_ixX hr.units (e_v 4) (e_op b_mod (e_v 6) e_int)) a_nil) z_list rfl))
      (s_cons (s_setIx 7 (e_op b_add (e_ixX hr.units (e_v 7) (e_v 5)) (e_ixX hr.units (e_lst (a_cons e_int (a_cons e_int (a_cons e_int (a_cons e_int (a_cons (e_un u_neg e_int) a_nil)))))) (e_fnU let_n f__law_draw hr (a_cons (e_v 0) (a_cons e_int a_nil))))) (e_v 5))
      (s_cons (s_expr (e_ml PySem.F.slot_list_append PySem.F.type_list_append mt_append m_app 3 (a_cons (e_tup (a_cons (e_v 6) (a_cons (e_v 6) (a_cons (e_callTy k_tuple (a_cons (e_v 7) a_nil) z_tuple rfl) a_nil)))) a_nil)))
      (s_cons (s_set 8 c__law_nested.nd (e_op b_mul (e_lst (a_cons e_int a_nil)) (e_v 2)))
      (s_cons (s_setIx 8 (e_ixX hr.units (e_lst (a_cons (e_un u_neg e_int) (a_cons (e_un u_neg e_int) (a_cons (e_un u_neg e_int) (a_cons e_int (a_cons e_int a_nil)))))) (e_fnU let_n f__law_draw hr (a_cons (e_v 0) (a_cons e_int a_nil)))) (e_fnU let_n f__law_draw hr (a_cons (e_v 0) (a_cons (e_v 2) a_nil))))
      (s_one (s_expr (e_ml PySem.F.slot_list_append PySem.F.type_list_append mt_append m_app 3 (a_cons (e_tup (a_cons (e_v 6) (a_cons (e_op b_mod (e_op b_add (e_v 6) e_int) (e_v 1)) (a_cons (e_callTy k_tuple (a_cons (e_v 8) a_nil) z_tuple rfl) a_nil)))) a_nil))))))))))
      (s_one (s_ret (e_v 3)))))))), ?_⟩
  intro as g T U h
  unfold S__law_nested at h
  clear hr f__law_gains f__law_draw
  split at h
  · rename_i rooms p
    obtain ⟨hr, hp, hl, h⟩ := h
    walk_at "w"
    refine ⟨⟨by omega, hp.2⟩, by omega, fun gs n1 e1 hg1 hn1 => ?_⟩
    walk_at "w"
    refine leK_of (by rw [List.length_map]; omega) (lc_mapL (fun x => .int (-x)) (by walk_at "lcw") (fun x hx C1 C0 q => ?_) ?_)
    · walk_at "w"
      exact q
    walk_at "w"
    refine ⟨by show 1 ≤ n1; omega, pk_of (by omega) (by omega) fun x x1 x2 => ?_⟩
    walk_at "w"
    refine rgK_of (by omega) (by omega) ?_
    walk_at "w"
    refine ⟨⟨fun k ρ' g' => Hold (∃ n, g' = g.w n ∧ g.left ≤ n + 31 + 3 * k ∧ ∃ (ws : List Way) (s6 s7 s8 : Sl), ρ' = [.rs 0, .dt (.int rooms), .dt (.int p), .ls (ws.map Way.d), .ls [.tuple (gs.map PyData.int), .tuple (gs.map fun x => PyData.int (-x))], .dt (.int x), s6, s7, s8, .un] ∧ ws.length = 2 * k ∧ ∀ w ∈ ws, w.Ok rooms p),
      hold ⟨n1 - 1, rfl, by omega, [], _, _, _, rfl, rfl, fun w hw => by cases hw⟩, fun k d ρ' g' hk hI => ?_, fun ρ' g' hI => ?_⟩⟩
    · obtain ⟨n, rfl, hn, ws, s6, s7, s8, rfl, hw1, hw2⟩ := hI.h
      obtain ⟨rfl, hk⟩ := rngD_inv hk
      walk_at "w"
      refine atI_gen (by omega) (by show _ < (2 : Int); omega) fun d hd => ?_
      obtain ⟨xs, rfl, hx1, hx2⟩ : ∃ xs : List Int, d = .tuple (xs.map PyData.int) ∧ (xs.length : Int) = p ∧ ∀ y ∈ xs, -98 ≤ y ∧ y ≤ 98 := by
        simp at hd
        rcases hd with rfl | rfl
        · exact ⟨gs, rfl, e1, hg1⟩
        · refine ⟨gs.map fun x => -x, by rw [List.map_map]; rfl, by rw [List.length_map]; exact e1, fun y hy => ?_⟩
          obtain ⟨z, hz, rfl⟩ := List.mem_map.mp hy
          have := hg1 z hz
          omega
      walk_at "w"
      obtain ⟨z, hz, ez⟩ := atI_int (zs := xs) x1 (by omega)
      have hz2 := hx2 z hz
      refine opK_of ez ?_
      walk_at "w"
      refine ⟨by show 1 ≤ n; omega, ?_⟩
      walk_at "w"
      intro c c1 c2
      walk_at "w"
      obtain ⟨y, hy, ey⟩ := atI_int (zs := [0, 0, 0, 1, -1]) c1 (by simp; omega)
      refine opK_of ey ?_
      simp at hy
      walk_at "w"
      refine opK_of (ixN_at x1 (by rw [List.length_map]; omega)) ?_
      rw [show (xs.map PyData.int).set x.toNat (.int (z + y)) = (xs.set x.toNat (z + y)).map PyData.int from by rw [List.map_set]]
      walk_at "w"
      refine ltK_of (by rw [List.length_map]; omega) ?_
      walk_at "w"
      refine ⟨⟨by omega, by omega, by show 1 * _ ≤ _; omega⟩, ?_⟩
      rw [rep_flat, show List.replicate p.toNat (PyData.int 0) = (List.replicate p.toNat (0 : Int)).map PyData.int from by simp]
      walk_at "w"
      refine ⟨by show 1 ≤ n - 1; omega, ?_⟩
      walk_at "w"
      intro e e1 e2
      walk_at "w"
      obtain ⟨u, hu, eu⟩ := atI_int (zs := [-1, -1, -1, 0, 1]) e1 (by simp; omega)
      refine opK_of eu ?_
      simp at hu
      walk_at "w"
      refine ⟨by show 1 ≤ n - 1 - 1; omega, pk_of (by omega) (by omega) fun f f1 f2 => ?_⟩
      walk_at "w"
      refine opK_of (ixN_at f1 (by rw [List.length_map, List.length_replicate]; omega)) ?_
      rw [show ((List.replicate p.toNat (0 : Int)).map PyData.int).set f.toNat (.int u) = ((List.replicate p.toNat (0 : Int)).set f.toNat u).map PyData.int from by rw [List.map_set]]
      walk_at "w"
      refine mdK_of (i := 0) (by omega) ?_
      walk_at "w"
      refine ltK_of (by rw [List.length_append, List.length_map]; show ws.length + 1 < _; omega) ?_
      walk_at "w"
      have m0 := Int.emod_nonneg (0 + (k : Int) + 1) (show rooms ≠ 0 by omega)
      have m1 := Int.emod_lt_of_pos (0 + (k : Int) + 1) (show 0 < rooms by omega)
      refine hold ⟨n - 1 - 1 - 1, rfl, by omega, ws ++ [⟨0 + (k : Int), 0 + (k : Int), xs.set x.toNat (z + y)⟩] ++ [⟨0 + (k : Int), (0 + (k : Int) + 1) % rooms, (List.replicate p.toNat (0 : Int)).set f.toNat u⟩], _, _, _, by rw [List.map_append, List.map_append]; rfl, by rw [List.length_append, List.length_append]; show ws.length + 1 + 1 = _; omega, fun w hw => ?_⟩
      rcases List.mem_append.mp hw with hw | hw
      · rcases List.mem_append.mp hw with hw | hw
        · exact hw2 w hw
        · cases List.mem_singleton.mp hw
          refine ⟨by show 0 ≤ 0 + (k : Int); omega, by show 0 + (k : Int) < rooms; omega, by show 0 ≤ 0 + (k : Int); omega, by show 0 + (k : Int) < rooms; omega, by show ((xs.set x.toNat (z + y)).length : Int) = p; rw [List.length_set]; exact hx1, fun v hv => ?_⟩
          rcases List.mem_or_eq_of_mem_set hv with hv | rfl
          · have := hx2 v hv; omega
          · omega
      · cases List.mem_singleton.mp hw
        refine ⟨by show 0 ≤ 0 + (k : Int); omega, by show 0 + (k : Int) < rooms; omega, m0, m1, by show (((List.replicate p.toNat (0 : Int)).set f.toNat u).length : Int) = p; rw [List.length_set, List.length_replicate]; omega, fun v hv => ?_⟩
        rcases List.mem_or_eq_of_mem_set hv with hv | rfl
        · have := List.eq_of_mem_replicate hv; omega
        · omega
    · obtain ⟨n, rfl, hn, ws, s6, s7, s8, rfl, hw1, hw2⟩ := hI.h
      rw [rngD_len] at hn hw1
      walk_at "w"
      exact h ws n (by omega) hw2 (by omega)
  · cases h
abbrev s__law_book : Stmt := topS 37
theorem c__law_book : FnScope ["_law_tape_here", "_law_most", "_law_rooms", "_law_purses", "_law_ways", "_law_down", "_law_k", "_law_one", "_law_at", "_law_a", "_law_b", "_law_end"] ["_law_tape_here", "_law_most"] (defScope s__law_book) := ⟨rfl, rfl, rfl, by decide +kernel, rfl, by decide +kernel, by decide +kernel⟩
def S__law_book : Spec TPg := fun as g T U => match as with
  | [.rs 0, .dt x] => ∃ a b c : Int, x = .tuple [.int a, .int b, .int c] ∧ (1 ≤ a ∧ a ≤ 12) ∧ (1 ≤ b ∧ b ≤ 6) ∧ (0 ≤ c ∧ c ≤ 60) ∧ 5000 ≤ g.left ∧ ∀ (B : Book) (n : Nat), B.Ok a (max (2 * a) c) → B.purses ≤ b → g.left ≤ n + 5000 → T (.dt B.d) (g.w n)
  | _ => False
theorem ok__law_book {P : Program} {w : World} {K : PySem.W.Frag} {mg : Str → Option Value} {base : Heap} {k : Nat} (D : Dfn K mg "_law_book" s__law_book ["_law_tape_here", "_law_most"]) (f__law_draw : Ok P w K mg base k "_law_draw" ["_law_tape_here", "_law_many"] (spZ (ZT K) S__law_draw)) (f__law_nested : Ok P w K mg base k "_law_nested" ["_law_tape_here", "_law_rooms", "_law_purses"] (spZ (ZT K) S__law_nested)) (f__law_gains : Ok P w K mg base k "_law_gains" ["_law_tape_here", "_law_purses"] (spZ (ZT K) S__law_gains)) (z_range : mg "range" = none) (z_len : mg "len" = none) (z_max : mg "max" = none) (z_list : mg "list" = none) (z_min : mg "min" = none) (z_tuple : mg "tuple" = none) : Ok P w K mg base (k + 1) "_law_book" ["_law_tape_here", "_law_most"] (spZ (ZT K) S__law_book) := by
  refine D.ok c__law_book (fun as g T U h => by unfold S__law_book at h; split at h <;> first | rfl | cases h) (by decide) fun fa cdv A outer s' H E hr => ⟨_, _, (s_cons (s_set 2 c__law_book.nd (e_op b_add e_int (e_fnU let_n f__law_draw hr (a_cons (e_v 0) (a_cons (e_ixX hr.units (e_v 1) e_int) a_nil)))))
      (s_cons (s_set 3 c__law_book.nd (e_op b_add e_int (e_fnU let_n f__law_draw hr (a_cons (e_v 0) (a_cons (e_ixX hr.units (e_v 1) e_int) a_nil)))))
      (s_cons (s_set 4 c__law_book.nd (e_lst a_nil))
      (s_cons (s_if (t_cmp (c_eq hr.units) (e_fnU let_n f__law_draw hr (a_cons (e_v 0) (a_cons e_int a_nil))) e_int) (s_one (s_set 4 c__law_book.nd (e_fnU let_n f__law_nested hr (a_cons (e_v 0) (a_cons (e_v 2) (a_cons (e_v 3) a_nil)))))) s_nil)
      (s_cons (s_set 5 c__law_book.nd (e_fnU let_n f__law_draw hr (a_cons (e_v 0) (a_cons e_int a_nil))))
      (s_cons (s_for (i_rng1 z_range (a_cons (e_fnU let_n f__law_draw hr (a_cons (e_v 0) (a_cons (e_callB k_max2 (a_cons e_int (a_cons (e_op b_sub (e_op b_add (e_ixX hr.units (e_v 1) e_int) e_int) (e_callB k_len (a_cons (e_v 4) a_nil) z_len rfl)) a_nil)) z_max rfl) a_nil))) a_nil)) (g_name 6 c__law_book.nd) (s_cons (s_set 7 c__law_book.nd (e_callTy k_list (a_cons (e_fnU let_n f__law_gains hr (a_cons (e_v 0) (a_cons (e_v 3) a_nil))) a_nil) z_list rfl))
      (s_cons (s_if (t_cmp (c_eq hr.units) (e_v 5) e_int) (s_cons (s_set 8 c__law_book.nd (e_fnU let_n f__law_draw hr (a_cons (e_v 0) (a_cons (e_v 3) a_nil))))
      (s_one (s_setIx 7 (e_callB k_min2 (a_cons (e_ixX hr.units (e_v 7) (e_v 8)) (a_cons (e_un u_neg e_int) a_nil)) z_min rfl) (e_v 8)))) s_nil)
      (s_cons (s_asg (e_lc [("_law_end", 11)] c__law_book.nd (i_rng1 z_range (a_cons e_int a_nil)) (fun _ _ _ _ _ => (g_name 11 c__law_book.nd)) (own_name (by decide)) (fun _ _ _ _ _ => ts_nil) (fun _ _ _ _ _ => (e_fnU let_n f__law_draw hr (a_cons (e_v 0) (a_cons (e_v 2) a_nil))))) (g_tup (n := 2) (gs_cons (g_name 9 c__law_book.nd) (gs_cons (g_name 10 c__law_book.nd) gs_nil))))
      (s_one (s_expr (e_ml PySem.F.slot_list_append PySem.F.type_list_append mt_append m_app 4 (a_cons (e_tup (a_cons (e_v 9) (a_cons (e_v 10) (a_cons (e_callTy k_tuple (a_cons (e_v 7) a_nil) z_tuple rfl) a_nil)))) a_nil))))))))
      (s_one (s_ret (e_tup (a_cons (e_v 2) (a_cons (e_v 3) (a_cons (e_callTy k_tuple (a_cons (e_v 4) a_nil) z_tuple rfl) a_nil)))))))))))), ?_⟩
  intro as g T U h
  unfold S__law_book at h
  clear hr f__law_draw f__law_nested f__law_gains
  split at h
  · rename_i x
    obtain ⟨a, b, c, rfl, ha, hb, hc, hl, h⟩ := h
    walk_at "w"
    refine ⟨by omega, pk_of (by omega) (by omega) fun r r1 r2 => ?_⟩
    walk_at "w"
    refine ⟨by show 1 ≤ g.left - 1; omega, pk_of (by omega) (by omega) fun p p1 p2 => ?_⟩
    walk_at "w"
    refine ⟨by show 1 ≤ g.left - 1 - 1; omega, ?_⟩
    walk_at "w"
    intro q q1 q2
    walk_at "w"
    refine ifb_of (fun q3 => ?_) (fun q3 => ?_)
    · walk_at "w"
      refine ⟨⟨by omega, by omega⟩, ⟨by omega, by omega⟩, by show 100 ≤ g.left - 1 - 1 - 1; omega, fun ws0 n0 lw0 okw0 hn0 => ?_⟩
      replace hn0 : g.left - 1 - 1 - 1 ≤ n0 + 100 := hn0
      walk_at "w"
      refine ⟨by show 1 ≤ n0; omega, ?_⟩
      walk_at "w"
      intro e e1 e2
      walk_at "w"
      refine ⟨by show 1 ≤ n0 - 1; omega, pk_of (by simp only [List.length_map, List.length_nil]; split <;> omega) (by simp only [List.length_map, List.length_nil]; split <;> omega) fun m m1 m2 => ?_⟩
      have hmm : (List.length (α := Way) ws0 : Int) + m ≤ max (2 * a) c := by
        simp only [List.length_map, List.length_nil] at m2 ⊢
        have := lw0
        split at m2 <;> omega
      walk_at "w"
      refine rgK_of (by omega) (by omega) ?_
      walk_at "w"
      refine ⟨⟨fun k ρ' g' => Hold (∃ n, g' = g.w n ∧ g.left ≤ n + 105 + 40 * k ∧ ∃ (ws : List Way) (s6 s7 s8 s9 s10 : Sl), ρ' = [.rs 0, .dt (.tuple [.int a, .int b, .int c]), .dt (.int (1 + r)), .dt (.int (1 + p)), .ls (ws.map Way.d), .dt (.int e), s6, s7, s8, s9, s10, .un] ∧ ws.length = List.length (α := Way) ws0 + k ∧ ∀ w ∈ ws, w.Ok (1 + r) (1 + p)),
        hold ⟨n0 - 1 - 1, rfl, by omega, ws0, _, _, _, _, _, rfl, rfl, okw0⟩, fun k d ρ' g' hk hI => ?_, fun ρ' g' hI => ?_⟩⟩
      · obtain ⟨n, rfl, hn, ws, s6, s7, s8, s9, s10, rfl, hw1, hw2⟩ := hI.h
        obtain ⟨rfl, hk⟩ := rngD_inv hk
        walk_at "w"
        refine ⟨⟨by omega, by omega⟩, by show 30 ≤ n; omega, fun gs n2 g1 g2 g3 => ?_⟩
        replace g3 : n ≤ n2 + 30 := g3
        walk_at "w"
        refine ifb_of (fun q4 => ?_) (fun q4 => ?_)
        · walk_at "w"
          refine ⟨by show 1 ≤ n2; omega, pk_of (by omega) (by omega) fun x x1 x2 => ?_⟩
          walk_at "w"
          obtain ⟨z, hz, ez⟩ := atI_int (zs := gs) x1 (by omega)
          have hz2 := g2 z hz
          refine opK_of ez ?_
          walk_at "w"
          refine opK_of (ixN_at x1 (by rw [List.length_map]; omega)) ?_
          rw [← List.map_set]
          walk_at "w"
          refine lc_allG (fun _ d => ∃ z, d = .int z ∧ 0 ≤ z ∧ z < 1 + r) (fun k g' => ∃ m, g' = g.w m ∧ n2 - 1 ≤ m + k) ⟨n2 - 1, rfl, by omega⟩ (by walk_at "lcw") (fun k2 d g' hk2 hJ C1 C0 qq => ?_) (fun acc g' hl2 hp2 hJ => ?_)
          · obtain ⟨rfl, hk3⟩ := rngD_inv hk2
            obtain ⟨m3, rfl, hm3⟩ := hJ
            walk_at "w"
            replace hk3 : k2 < 2 := hk3
            refine ⟨by show 1 ≤ m3; omega, pk_of (by omega) (by omega) fun z z1 z2 => ?_⟩
            walk_at "w"
            exact qq _ _ ⟨z, rfl, z1, z2⟩ ⟨m3 - 1, rfl, by omega⟩
          obtain ⟨m3, rfl, hm3⟩ := hJ
          rw [rngD_len] at hl2 hm3
          replace hm3 : n2 - 1 ≤ m3 + 2 := hm3
          obtain ⟨zs, rfl, hzs⟩ := ints_of_get hp2
          rw [List.length_map] at hl2
          match zs, hl2, hzs with
          | [u, v], _, hzs =>
            have hu := hzs u (by simp)
            have hv := hzs v (by simp)
            walk_at "w"
            refine ltK_of (by rw [List.length_map]; omega) ?_
            walk_at "w"
            refine hold ⟨m3, rfl, by omega, ws ++ [⟨u, v, gs.set x.toNat (if -1 < z then -1 else z)⟩], _, _, _, _, _, by rw [List.map_append]; rfl, by rw [List.length_append]; show ws.length + 1 = _; omega, fun w hw => ?_⟩
            rcases List.mem_append.mp hw with hw | hw
            · exact hw2 w hw
            · cases List.mem_singleton.mp hw
              refine ⟨hu.1, hu.2, hv.1, hv.2, by show ((gs.set x.toNat (if -1 < z then -1 else z)).length : Int) = 1 + p; rw [List.length_set]; exact g1, fun y hy => ?_⟩
              rcases List.mem_or_eq_of_mem_set hy with hy | rfl
              · have := g2 y hy; omega
              · split <;> omega
        · walk_at "w"
          refine lc_allG (fun _ d => ∃ z, d = .int z ∧ 0 ≤ z ∧ z < 1 + r) (fun k g' => ∃ m, g' = g.w m ∧ n2 ≤ m + k) ⟨n2, rfl, by omega⟩ (by walk_at "lcw") (fun k2 d g' hk2 hJ C1 C0 qq => ?_) (fun acc g' hl2 hp2 hJ => ?_)
          · obtain ⟨rfl, hk3⟩ := rngD_inv hk2
            obtain ⟨m3, rfl, hm3⟩ := hJ
            walk_at "w"
            replace hk3 : k2 < 2 := hk3
            refine ⟨by show 1 ≤ m3; omega, pk_of (by omega) (by omega) fun z z1 z2 => ?_⟩
            walk_at "w"
            exact qq _ _ ⟨z, rfl, z1, z2⟩ ⟨m3 - 1, rfl, by omega⟩
          obtain ⟨m3, rfl, hm3⟩ := hJ
          rw [rngD_len] at hl2 hm3
          replace hm3 : n2 ≤ m3 + 2 := hm3
          obtain ⟨zs, rfl, hzs⟩ := ints_of_get hp2
          rw [List.length_map] at hl2
          match zs, hl2, hzs with
          | [u, v], _, hzs =>
            have hu := hzs u (by simp)
            have hv := hzs v (by simp)
            walk_at "w"
            refine ltK_of (by rw [List.length_map]; omega) ?_
            walk_at "w"
            refine hold ⟨m3, rfl, by omega, ws ++ [⟨u, v, gs⟩], _, _, _, _, _, by rw [List.map_append]; rfl, by rw [List.length_append]; show ws.length + 1 = _; omega, fun w hw => ?_⟩
            rcases List.mem_append.mp hw with hw | hw
            · exact hw2 w hw
            · cases List.mem_singleton.mp hw
              refine ⟨hu.1, hu.2, hv.1, hv.2, by show ((gs).length : Int) = 1 + p; exact g1, fun y hy => ?_⟩
              have := g2 y hy; omega
      · obtain ⟨n, rfl, hn, ws, s6, s7, s8, s9, s10, rfl, hw1, hw2⟩ := hI.h
        rw [rngD_len] at hn hw1
        walk_at "w"
        exact h ⟨1 + r, 1 + p, ws⟩ n ⟨by show 1 ≤ 1 + r; omega, by show 1 + r ≤ a; omega, by show 1 ≤ 1 + p; omega, by show 1 + p ≤ 6; omega, by show (ws.length : Int) ≤ max (2 * a) c; omega, hw2⟩ (by show 1 + p ≤ b; omega) (by omega)
    · walk_at "w"
      refine ⟨by show 1 ≤ (g.left - 1 - 1 - 1); omega, ?_⟩
      walk_at "w"
      intro e e1 e2
      walk_at "w"
      refine ⟨by show 1 ≤ (g.left - 1 - 1 - 1) - 1; omega, pk_of (by simp only [List.length_map, List.length_nil]; split <;> omega) (by simp only [List.length_map, List.length_nil]; split <;> omega) fun m m1 m2 => ?_⟩
      have hmm : (List.length (α := Way) [] : Int) + m ≤ max (2 * a) c := by
        simp only [List.length_map, List.length_nil] at m2 ⊢
        have := Int.le_refl (0 : Int)
        split at m2 <;> omega
      walk_at "w"
      refine rgK_of (by omega) (by omega) ?_
      walk_at "w"
      refine ⟨⟨fun k ρ' g' => Hold (∃ n, g' = g.w n ∧ g.left ≤ n + 105 + 40 * k ∧ ∃ (ws : List Way) (s6 s7 s8 s9 s10 : Sl), ρ' = [.rs 0, .dt (.tuple [.int a, .int b, .int c]), .dt (.int (1 + r)), .dt (.int (1 + p)), .ls (ws.map Way.d), .dt (.int e), s6, s7, s8, s9, s10, .un] ∧ ws.length = List.length (α := Way) [] + k ∧ ∀ w ∈ ws, w.Ok (1 + r) (1 + p)),
        hold ⟨(g.left - 1 - 1 - 1) - 1 - 1, rfl, by omega, [], _, _, _, _, _, rfl, rfl, (fun w hw => by cases hw)⟩, fun k d ρ' g' hk hI => ?_, fun ρ' g' hI => ?_⟩⟩
      · obtain ⟨n, rfl, hn, ws, s6, s7, s8, s9, s10, rfl, hw1, hw2⟩ := hI.h
        obtain ⟨rfl, hk⟩ := rngD_inv hk
        walk_at "w"
        refine ⟨⟨by omega, by omega⟩, by show 30 ≤ n; omega, fun gs n2 g1 g2 g3 => ?_⟩
        replace g3 : n ≤ n2 + 30 := g3
        walk_at "w"
        refine ifb_of (fun q4 => ?_) (fun q4 => ?_)
        · walk_at "w"
          refine ⟨by show 1 ≤ n2; omega, pk_of (by omega) (by omega) fun x x1 x2 => ?_⟩
          walk_at "w"
          obtain ⟨z, hz, ez⟩ := atI_int (zs := gs) x1 (by omega)
          have hz2 := g2 z hz
          refine opK_of ez ?_
          walk_at "w"
          refine opK_of (ixN_at x1 (by rw [List.length_map]; omega)) ?_
          rw [← List.map_set]
          walk_at "w"
          refine lc_allG (fun _ d => ∃ z, d = .int z ∧ 0 ≤ z ∧ z < 1 + r) (fun k g' => ∃ m, g' = g.w m ∧ n2 - 1 ≤ m + k) ⟨n2 - 1, rfl, by omega⟩ (by walk_at "lcw") (fun k2 d g' hk2 hJ C1 C0 qq => ?_) (fun acc g' hl2 hp2 hJ => ?_)
          · obtain ⟨rfl, hk3⟩ := rngD_inv hk2
            obtain ⟨m3, rfl, hm3⟩ := hJ
            walk_at "w"
            replace hk3 : k2 < 2 := hk3
            refine ⟨by show 1 ≤ m3; omega, pk_of (by omega) (by omega) fun z z1 z2 => ?_⟩
            walk_at "w"
            exact qq _ _ ⟨z, rfl, z1, z2⟩ ⟨m3 - 1, rfl, by omega⟩
          obtain ⟨m3, rfl, hm3⟩ := hJ
          rw [rngD_len] at hl2 hm3
          replace hm3 : n2 - 1 ≤ m3 + 2 := hm3
          obtain ⟨zs, rfl, hzs⟩ := ints_of_get hp2
          rw [List.length_map] at hl2
          match zs, hl2, hzs with
          | [u, v], _, hzs =>
            have hu := hzs u (by simp)
            have hv := hzs v (by simp)
            walk_at "w"
            refine ltK_of (by rw [List.length_map]; omega) ?_
            walk_at "w"
            refine hold ⟨m3, rfl, by omega, ws ++ [⟨u, v, gs.set x.toNat (if -1 < z then -1 else z)⟩], _, _, _, _, _, by rw [List.map_append]; rfl, by rw [List.length_append]; show ws.length + 1 = _; omega, fun w hw => ?_⟩
            rcases List.mem_append.mp hw with hw | hw
            · exact hw2 w hw
            · cases List.mem_singleton.mp hw
              refine ⟨hu.1, hu.2, hv.1, hv.2, by show ((gs.set x.toNat (if -1 < z then -1 else z)).length : Int) = 1 + p; rw [List.length_set]; exact g1, fun y hy => ?_⟩
              rcases List.mem_or_eq_of_mem_set hy with hy | rfl
              · have := g2 y hy; omega
              · split <;> omega
        · walk_at "w"
          refine lc_allG (fun _ d => ∃ z, d = .int z ∧ 0 ≤ z ∧ z < 1 + r) (fun k g' => ∃ m, g' = g.w m ∧ n2 ≤ m + k) ⟨n2, rfl, by omega⟩ (by walk_at "lcw") (fun k2 d g' hk2 hJ C1 C0 qq => ?_) (fun acc g' hl2 hp2 hJ => ?_)
          · obtain ⟨rfl, hk3⟩ := rngD_inv hk2
            obtain ⟨m3, rfl, hm3⟩ := hJ
            walk_at "w"
            replace hk3 : k2 < 2 := hk3
            refine ⟨by show 1 ≤ m3; omega, pk_of (by omega) (by omega) fun z z1 z2 => ?_⟩
            walk_at "w"
            exact qq _ _ ⟨z, rfl, z1, z2⟩ ⟨m3 - 1, rfl, by omega⟩
          obtain ⟨m3, rfl, hm3⟩ := hJ
          rw [rngD_len] at hl2 hm3
          replace hm3 : n2 ≤ m3 + 2 := hm3
          obtain ⟨zs, rfl, hzs⟩ := ints_of_get hp2
          rw [List.length_map] at hl2
          match zs, hl2, hzs with
          | [u, v], _, hzs =>
            have hu := hzs u (by simp)
            have hv := hzs v (by simp)
            walk_at "w"
            refine ltK_of (by rw [List.length_map]; omega) ?_
            walk_at "w"
            refine hold ⟨m3, rfl, by omega, ws ++ [⟨u, v, gs⟩], _, _, _, _, _, by rw [List.map_append]; rfl, by rw [List.length_append]; show ws.length + 1 = _; omega, fun w hw => ?_⟩
            rcases List.mem_append.mp hw with hw | hw
            · exact hw2 w hw
            · cases List.mem_singleton.mp hw
              refine ⟨hu.1, hu.2, hv.1, hv.2, by show ((gs).length : Int) = 1 + p; exact g1, fun y hy => ?_⟩
              have := g2 y hy; omega
      · obtain ⟨n, rfl, hn, ws, s6, s7, s8, s9, s10, rfl, hw1, hw2⟩ := hI.h
        rw [rngD_len] at hn hw1
        walk_at "w"
        exact h ⟨1 + r, 1 + p, ws⟩ n ⟨by show 1 ≤ 1 + r; omega, by show 1 + r ≤ a; omega, by show 1 ≤ 1 + p; omega, by show 1 + p ≤ 6; omega, by show (ws.length : Int) ≤ max (2 * a) c; omega, hw2⟩ (by show 1 + p ≤ b; omega) (by omega)
  · cases h
abbrev s_added : Stmt := topS 27
theorem c_added : FnScope ["one", "other", "first", "second"] ["one", "other"] (defScope s_added) := ⟨rfl, rfl, rfl, by decide +kernel, rfl, by decide +kernel, by decide +kernel⟩
def S_added : Spec Unit := fun as g T U => match as with
  | [.dt o, .dt (.list ps)] => ∃ xs : List Int, o = .tuple (xs.map PyData.int) ∧ ∃ ys : List Int, ps = ys.map PyData.int ∧ xs.length ≤ 1000 ∧ T (.dt (.tuple ((addL xs ys).map PyData.int))) g
  | [.dt o, .dt p] => ∃ xs : List Int, o = .tuple (xs.map PyData.int) ∧ ∃ ys : List Int, p = .tuple (ys.map PyData.int) ∧ xs.length ≤ 1000 ∧ T (.dt (.tuple ((addL xs ys).map PyData.int))) g
  | _ => False
theorem ok_added {P : Program} {w : World} {K : PySem.W.Frag} {mg : Str → Option Value} {base : Heap} {k : Nat} (D : Dfn K mg "added" s_added ["one", "other"]) (z_zip : mg "zip" = none) (z_tuple : mg "tuple" = none) : Ok P w K mg base (k + 1) "added" ["one", "other"] (spZ (Z0 K) S_added) := by
  refine D.ok c_added (fun as g T U h => by unfold S_added at h; split at h <;> first | rfl | cases h) (by decide) fun fa cdv A outer s' H E hr => ⟨_, _, (s_one (s_ret (e_callTy k_tuple (a_cons (e_lc [("first", 2), ("second", 3)] c_added.nd (i_zip z_zip (a_cons (e_v 0) (a_cons (e_v 1) a_nil))) (fun _ _ _ _ _ => (g_tup (n := 2) (gs_cons (g_name 2 c_added.nd) (gs_cons (g_name 3 c_added.nd) gs_nil)))) (own_seq (owns_cons (own_name (by decide)) (owns_cons (own_name (by decide)) owns_nil))) (fun _ _ _ _ _ => ts_nil) (fun _ _ _ _ _ => (e_op b_add (e_v 2) (e_v 3)))) a_nil) z_tuple rfl))), ?_⟩
  intro as g T U h
  unfold S_added at h
  clear hr
  split at h
  · obtain ⟨xs, rfl, ys, rfl, hl, h⟩ := h
    walk_at "w"
    rw [zipD_map]
    refine leK_of (by simp; omega) (lc_mapL (fun p => .int (p.1 + p.2)) rfl (fun p _ C1 C0 q => ?_) ?_)
    · walk_at "w"
      exact q
    · walk_at "w"
      exact td h (by rw [addL, List.zip, List.map_zipWith, List.map_zipWith])
  · obtain ⟨xs, rfl, ys, rfl, hl, h⟩ := h
    walk_at "w"
    rw [zipD_map]
    refine leK_of (by simp; omega) (lc_mapL (fun p => .int (p.1 + p.2)) rfl (fun p _ C1 C0 q => ?_) ?_)
    · walk_at "w"
      exact q
    · walk_at "w"
      exact td h (by rw [addL, List.zip, List.map_zipWith, List.map_zipWith])
  · cases h
abbrev s_fits : Stmt := topS 28
theorem c_fits : FnScope ["way", "stand"] ["way", "stand"] (defScope s_fits) := ⟨rfl, rfl, rfl, by decide +kernel, rfl, by decide +kernel, by decide +kernel⟩
def S_fits : Spec Unit := fun as g T U => match as with
  | [.dt x, .dt s] => ∃ w : Way, x = w.d ∧ ∃ (r : Int) (xs : List Int), s = standD r xs ∧ (0 < xs.length ∧ xs.length ≤ 1000 ∧ w.gs.length = xs.length) ∧ T (.dt (.bool (fitsW w r xs))) g
  | _ => False
theorem ok_fits {P : Program} {w : World} {K : PySem.W.Frag} {mg : Str → Option Value} {base : Heap} {k : Nat} (D : Dfn K mg "fits" s_fits ["way", "stand"]) (f_added : Ok P w K mg base k "added" ["one", "other"] (spZ (Z0 K) S_added)) (z_min : mg "min" = none) : Ok P w K mg base (k + 1) "fits" ["way", "stand"] (spZ (Z0 K) S_fits) := by
  refine D.ok c_fits (fun as g T U h => by unfold S_fits at h; split at h <;> first | rfl | cases h) (by decide) fun fa cdv A outer s' H E hr => ⟨_, _, (s_one (s_ret (e_and (e_cmp (c_eq hr.units) (e_ixX hr.units (e_v 0) e_int) (e_ixX hr.units (e_v 1) e_int)) (e_one (e_cmp c_ge (e_callB (k_minX hr.units) (a_cons (e_fn0U let_n f_added hr (a_cons (e_ixX hr.units (e_v 1) e_int) (a_cons (e_ixX hr.units (e_v 0) e_int) a_nil))) a_nil) z_min rfl) e_int))))), ?_⟩
  intro as g T U h
  unfold S_fits at h
  clear hr f_added
  split at h
  · obtain ⟨w, rfl, r, xs, rfl, hl, h⟩ := h
    walk_at "w"
    refine ifb_of (fun q => ?_) (fun q => ?_)
    · walk_at "w"
      refine ⟨xs, rfl, w.gs, rfl, hl.2.1, ?_⟩
      walk_at "w"
      refine ⟨by rw [addL_len (n := xs.length) rfl hl.2.2]; exact hl.1, fun m m1 m2 => ?_⟩
      walk_at "w"
      refine tb h ?_
      unfold fitsW
      rw [show decide (w.a = r) = true from q, Bool.true_and, Bool.eq_iff_iff, List.all_eq_true]
      simp only [decide_eq_true_eq]
      exact ⟨fun q => q m m1, fun q x hx => Int.le_trans q (m2 x hx)⟩
    · walk_at "w"
      refine tb h ?_
      unfold fitsW
      rw [show decide (w.a = r) = false from q, Bool.false_and]
  · cases h
abbrev s_can_do : Stmt := topS 29
theorem c_can_do : FnScope ["book", "stand", "k", "way"] ["book", "stand"] (defScope s_can_do) := ⟨rfl, rfl, rfl, by decide +kernel, rfl, by decide +kernel, by decide +kernel⟩
def S_can_do : Spec Unit := fun as g T U => match as with
  | [.dt b, .dt s] => ∃ B : Book, b = B.d ∧ B.ways.length ≤ 100000 ∧ ∃ (r : Int) (xs : List Int), s = standD r xs ∧ (0 < xs.length ∧ xs.length ≤ 1000) ∧ (∀ w ∈ B.ways, w.gs.length = xs.length) ∧ T (.nl ((canL B r xs).map PyData.int)) g
  | _ => False
theorem ok_can_do {P : Program} {w : World} {K : PySem.W.Frag} {mg : Str → Option Value} {base : Heap} {k : Nat} (D : Dfn K mg "can_do" s_can_do ["book", "stand"]) (f_fits : Ok P w K mg base k "fits" ["way", "stand"] (spZ (Z0 K) S_fits)) (z_enumerate : mg "enumerate" = none) : Ok P w K mg base (k + 1) "can_do" ["book", "stand"] (spZ (Z0 K) S_can_do) := by
  refine D.ok c_can_do (fun as g T U h => by unfold S_can_do at h; split at h <;> first | rfl | cases h) (by decide) fun fa cdv A outer s' H E hr => ⟨_, _, (s_one (s_ret (e_lc [("k", 2), ("way", 3)] c_can_do.nd (i_enum z_enumerate (a_cons (e_ixX hr.units (e_v 0) e_int) a_nil)) (fun _ _ _ _ _ => (g_tup (n := 2) (gs_cons (g_name 2 c_can_do.nd) (gs_cons (g_name 3 c_can_do.nd) gs_nil)))) (own_seq (owns_cons (own_name (by decide)) (owns_cons (own_name (by decide)) owns_nil))) (fun _ _ _ _ _ => (ts_one (t_val (e_fn0U let_n f_fits hr (a_cons (e_v 3) (a_cons (e_v 1) a_nil)))))) (fun _ _ _ _ _ => (e_v 2))))), ?_⟩
  intro as g T U h
  unfold S_can_do at h
  clear hr f_fits
  split at h
  · obtain ⟨B, rfl, hb, r, xs, rfl, hl, hw, h⟩ := h
    walk_at "w"
    rw [enumD_map]
    refine leK_of (by simp; omega) (lc_filL (fun p => fitsW p.2 r xs) (fun p => .int (p.1 : Nat)) rfl (fun p hp C1 C0 q1 q0 => ?_) ?_)
    · obtain ⟨i, w⟩ := p
      walk_at "w"
      refine ⟨w, rfl, r, xs, rfl, ⟨hl.1, hl.2, hw w (List.of_mem_zip hp).2⟩, ?_⟩
      walk_at "w"
      refine ifb_of (fun e => ?_) (fun e => ?_)
      · walk_at "w"
        exact q1 e
      · walk_at "w"
        exact q0 e
    · walk_at "w"
      unfold canL at h
      rw [List.map_map] at h
      exact h
  · cases h
abbrev s_behind : Stmt := topS 30
theorem c_behind : FnScope ["book", "stand", "k", "way"] ["book", "stand", "k"] (defScope s_behind) := ⟨rfl, rfl, rfl, by decide +kernel, rfl, by decide +kernel, by decide +kernel⟩
def S_behind (mg : Str → Option Value) : Spec Unit := fun as g T U => match as with
  | [.dt b, .dt s, .dt (.int k)] => ∃ B : Book, b = B.d ∧ ∃ (r : Int) (xs : List Int), s = standD r xs ∧ (0 < xs.length ∧ xs.length ≤ 1000) ∧ (∀ w ∈ B.ways, w.gs.length = xs.length) ∧
      ((inW B k = true ∧ fitsW (wAt B k) r xs = true) → T (.dt (standD (wAt B k).b (addL xs (wAt B k).gs))) g) ∧ (¬ (inW B k = true ∧ fitsW (wAt B k) r xs = true) → U (cv mg "NoWay") [] g)
  | _ => False
theorem ok_behind {P : Program} {w : World} {K : PySem.W.Frag} {mg : Str → Option Value} {base : Heap} {k : Nat} (D : Dfn K mg "behind" s_behind ["book", "stand", "k"]) (f_fits : Ok P w K mg base k "fits" ["way", "stand"] (spZ (Z0 K) S_fits)) (f_added : Ok P w K mg base k "added" ["one", "other"] (spZ (Z0 K) S_added)) (z_len : mg "len" = none) (x_NoWay : ExX K mg "NoWay") : Ok P w K mg base (k + 1) "behind" ["book", "stand", "k"] (spZ (Z0 K) (S_behind mg)) := by
  refine D.okX c_behind (fun as g T U h => by unfold S_behind at h; split at h <;> first | rfl | cases h) (by decide) fun fa cdv A outer s' H E U hr tk po => ⟨_, _, (s_cons (s_if (t_w (w_or (t_not (t_chain c_le c_lt e_int (e_v 2) (e_callB k_len (a_cons (e_ixX hr.units (e_v 0) e_int) a_nil) z_len rfl))) (w_or1 (t_not (t_val (e_fn0U let_n f_fits hr (a_cons (e_ixX hr.units (e_ixX hr.units (e_v 0) e_int) (e_v 2)) (a_cons (e_v 1) a_nil)))))))) (s_one (s_raise x_NoWay tk)) s_nil)
      (s_cons (s_set 3 c_behind.nd (e_ixX hr.units (e_ixX hr.units (e_v 0) e_int) (e_v 2)))
      (s_one (s_ret (e_tup (a_cons (e_ixX hr.units (e_v 3) e_int) (a_cons (e_fn0U let_n f_added hr (a_cons (e_ixX hr.units (e_v 1) e_int) (a_cons (e_ixX hr.units (e_v 3) e_int) a_nil))) a_nil))))))), ?_⟩
  intro as g T h
  unfold S_behind at h
  clear tk po
  clear hr f_fits f_added
  split at h
  · rename_i k
    obtain ⟨B, rfl, r, xs, rfl, hl, hw, h1, h0⟩ := h
    walk_at "w"
    have go : fitsW (wAt B k) r xs = true → inW B k = true → T (.dt (standD (wAt B k).b (addL xs (wAt B k).gs))) g := fun a b => h1 ⟨b, a⟩
    have no1 : inW B k = false → U (cv mg "NoWay") [] g := fun q => h0 fun c => by rw [q] at c; cases c.1
    have no2 : fitsW (wAt B k) r xs = false → U (cv mg "NoWay") [] g := fun q => h0 fun c => by rw [q] at c; cases c.2
    refine ifb_of (fun q1 => ?_) (fun q1 => ?_)
    · walk_at "w"
      rw [List.length_map]
      refine ifb_of (fun q2 => ?_) (fun q2 => ?_)
      · simp at q1 q2
        walk_at "w"
        exact no1 (by simp [inW]; omega)
      · simp at q1 q2
        have hk : inW B k = true := by simp [inW]; omega
        walk_at "w"
        refine opK_of (wAt_at hk) ?_
        walk_at "w"
        refine ⟨wAt B k, rfl, r, xs, rfl, ⟨hl.1, hl.2, hw _ (wAt_mem hk)⟩, ?_⟩
        walk_at "w"
        refine ifb_of (fun q3 => ?_) (fun q3 => ?_)
        · walk_at "w"
          exact no2 (by simpa using q3)
        · walk_at "w"
          refine opK_of (wAt_at hk) ?_
          walk_at "w"
          refine ⟨xs, rfl, _, rfl, hl.2, ?_⟩
          walk_at "w"
          exact go (by simpa using q3) hk
    · simp at q1
      walk_at "w"
      exact no1 (by simp [inW]; omega)
  · cases h
abbrev s__law_some_walk : Stmt := topS 40
theorem c__law_some_walk : FnScope ["_law_tape_here", "_law_book_here", "_law_stand_here", "_law_found", "_law_some"] ["_law_tape_here", "_law_book_here", "_law_stand_here"] (defScope s__law_some_walk) := ⟨rfl, rfl, rfl, by decide +kernel, rfl, by decide +kernel, by decide +kernel⟩
def endR (B : Book) (r : Int) (ks : List Int) : Int := ks.foldl (fun _ k => (wAt B k).b) r
def endX (B : Book) (xs : List Int) (ks : List Int) : List Int := ks.foldl (fun xs k => addL xs (wAt B k).gs) xs
theorem endX_len {B : Book} {n : Nat} (hw : ∀ w ∈ B.ways, w.gs.length = n) : ∀ {ks : List Int} {xs : List Int}, xs.length = n → (∀ k ∈ ks, inW B k = true) → (endX B xs ks).length = n
  | [], _, h, _ => h
  | k :: ks, xs, h, hk => endX_len hw (ks := ks) (addL_len h (hw _ (wAt_mem (hk k List.mem_cons_self)))) fun j hj => hk j (List.mem_cons_of_mem _ hj)
def S__law_some_walk : Spec TPg := fun as g T U => match as with
  | [.rs 0, .dt b, .dt s] => ∃ (B : Book) (r : Int) (xs : List Int), b = B.d ∧ s = standD r xs ∧ B.ways.length ≤ 1000 ∧ (0 < xs.length ∧ xs.length ≤ 1000) ∧ (∀ w ∈ B.ways, w.gs.length = xs.length) ∧ 60 ≤ g.left ∧
      ∀ (ks : List Int) (n : Nat), DoneW B r xs ks → ks.length ≤ 60 → (∀ k ∈ ks, inW B k = true) → g.left ≤ n + 60 → T (.nl (ks.map PyData.int)) (g.w n)
  | _ => False
theorem ok__law_some_walk {P : Program} {w : World} {K : PySem.W.Frag} {mg : Str → Option Value} {base : Heap} {k : Nat} (D : Dfn K mg "_law_some_walk" s__law_some_walk ["_law_tape_here", "_law_book_here", "_law_stand_here"]) (f_can_do : Ok P w K mg base k "can_do" ["book", "stand"] (spZ (Z0 K) S_can_do)) (f__law_draw : Ok P w K mg base k "_law_draw" ["_law_tape_here", "_law_many"] (spZ (ZT K) S__law_draw)) (f_behind : Ok P w K mg base k "behind" ["book", "stand", "k"] (spZ (Z0 K) (S_behind mg))) (z_len : mg "len" = none) : Ok P w K mg base (k + 1) "_law_some_walk" ["_law_tape_here", "_law_book_here", "_law_stand_here"] (spZ (ZT K) S__law_some_walk) := by
  refine D.ok c__law_some_walk (fun as g T U h => by unfold S__law_some_walk at h; split at h <;> first | rfl | cases h) (by decide) fun fa cdv A outer s' H E hr => ⟨_, _, (s_cons (s_set 3 c__law_some_walk.nd (e_lst a_nil))
      (s_cons (s_set 4 c__law_some_walk.nd (e_fn0U let_n f_can_do hr (a_cons (e_v 1) (a_cons (e_v 2) a_nil))))
      (s_cons (s_while (t_w (w_and (t_cmp (c_ne hr.units) (e_v 4) (e_lst a_nil)) (w_and1 (t_cmp c_lt (e_callB k_len (a_cons (e_v 3) a_nil) z_len rfl) e_int)))) (s_cons (s_expr (e_ml PySem.F.slot_list_append PySem.F.type_list_append mt_append m_app 3 (a_cons (e_ixX hr.units (e_v 4) (e_fnU let_n f__law_draw hr (a_cons (e_v 0) (a_cons (e_callB k_len (a_cons (e_v 4) a_nil) z_len rfl) a_nil)))) a_nil)))
      (s_cons (s_set 2 c__law_some_walk.nd (e_fn0U let_n f_behind hr (a_cons (e_v 1) (a_cons (e_v 2) (a_cons (e_ixX hr.units (e_v 3) (e_un u_neg e_int)) a_nil)))))
      (s_one (s_set 4 c__law_some_walk.nd (e_fn0U let_n f_can_do hr (a_cons (e_v 1) (a_cons (e_v 2) a_nil))))))))
      (s_one (s_ret (e_v 3)))))), ?_⟩
  intro as g T U h
  unfold S__law_some_walk at h
  clear hr f_can_do f__law_draw f_behind
  split at h
  · obtain ⟨B, r, xs, rfl, rfl, hl, hxl, hw, hg, h⟩ := h
    walk_at "w"
    refine ⟨B, rfl, by omega, r, xs, rfl, hxl, hw, ?_⟩
    walk_at "w"
    refine ⟨⟨fun m ρ' g' => Hold (∃ (ks : List Int) (q : Nat), m = 60 - ks.length ∧ ks.length ≤ 60 ∧ g' = g.w q ∧ g.left ≤ q + ks.length ∧ DoneW B r xs ks ∧ (∀ k ∈ ks, inW B k = true) ∧ ρ' = [.rs 0, .dt B.d, .dt (standD (endR B r ks) (endX B xs ks)), .ls (ks.map PyData.int), .ls ((canL B (endR B r ks) (endX B xs ks)).map PyData.int)]), ⟨_, hold ⟨[], g.left, rfl, by simp, rfl, by simp, trivial, by simp, rfl⟩⟩, fun m ρ' g' hI => ?_⟩⟩
    obtain ⟨ks, q, rfl, hk60, rfl, hq, hD, hkw, rfl⟩ := hI.h
    walk_at "w"
    rw [eqv_nil]
    have hXl := endX_len hw (ks := ks) (xs := xs) rfl hkw
    have hcm : ∀ k, k ∈ canL B (endR B r ks) (endX B xs ks) → inW B k = true ∧ fitsW (wAt B k) (endR B r ks) (endX B xs ks) = true := fun k => canL_mem.mp
    have hcl : (canL B (endR B r ks) (endX B xs ks)).length ≤ 1000 := by
      unfold canL
      rw [List.length_map]
      refine Nat.le_trans (List.length_filter_le _ _) ?_
      rw [List.length_zip]
      omega
    have hS : DoneW B r xs ks → ∀ k, inW B k = true → fitsW (wAt B k) (endR B r ks) (endX B xs ks) = true → DoneW B r xs (ks ++ [k]) := fun h k h1 h2 => h.snoc h1 h2
    generalize hC : canL B (endR B r ks) (endX B xs ks) = C at *
    cases C with
    | nil =>
      walk_at "w"
      exact h ks q hD hk60 hkw (by omega)
    | cons c C =>
      walk_at "w"
      rw [List.length_map]
      refine ifb_of (fun z => ?_) (fun z => ?_)
      · have z : (ks.length : Int) < 60 := of_decide_eq_true z
        generalize hCC : c :: C = CC at *
        have hCn : 0 < CC.length := by rw [← hCC]; simp
        walk_at "w"
        rw [List.length_map]
        refine ⟨by show 1 ≤ q; omega, ?_⟩
        walk_at "w"
        refine pk_of (by omega) (by omega) ?_
        walk_at "w"
        intro o o1 o2
        walk_at "w"
        obtain ⟨k, hk, ek⟩ := atI_int (zs := CC) o1 o2
        refine opK_of ek ?_
        walk_at "w"
        refine ltK_of (by rw [List.length_map]; omega) ?_
        walk_at "w"
        refine opK_of (atI_neg1 (n := ks.length) (x := PyData.int k) (by simp) (by rw [List.getElem?_append_right (by simp)]; simp)) ?_
        walk_at "w"
        obtain ⟨c1, c2⟩ := hcm k hk
        have eR : endR B r (ks ++ [k]) = (wAt B k).b := by unfold endR; rw [List.foldl_append]; rfl
        have eX : endX B xs (ks ++ [k]) = addL (endX B xs ks) (wAt B k).gs := by unfold endX; rw [List.foldl_append]; rfl
        have hX2 : (endX B xs (ks ++ [k])).length = xs.length := by rw [eX]; exact addL_len hXl (hw _ (wAt_mem c1))
        refine ⟨B, rfl, _, _, rfl, by omega, fun w hw2 => by rw [hXl]; exact hw w hw2, fun _ => ?_, fun z => (z ⟨c1, c2⟩).elim⟩
        rw [← eR, ← eX]
        walk_at "w"
        refine ⟨B, rfl, by omega, _, _, rfl, by omega, fun w hw2 => by rw [hX2]; exact hw w hw2, ?_⟩
        walk_at "w"
        refine ⟨60 - (ks ++ [k]).length, by rw [List.length_append]; simp; omega, hold ⟨ks ++ [k], q - 1, rfl, by rw [List.length_append]; simp; omega, rfl, by rw [List.length_append]; simp; omega, hS hD k c1 c2, fun j hj => ?_, by rw [List.map_append]; rfl⟩⟩
        rcases List.mem_append.mp hj with hj | hj
        · exact hkw j hj
        · rw [List.mem_singleton.mp hj]; exact c1
      · walk_at "w"
        exact h ks q hD hk60 hkw (by omega)
  · cases h
abbrev s_met_from : Stmt := topS 24
theorem c_met_from : FnScope ["book", "room", "known", "row", "here", "a", "b", "gains", "k", "way"] ["book", "room"] (defScope s_met_from) := ⟨rfl, rfl, rfl, by decide +kernel, rfl, by decide +kernel, by decide +kernel⟩
def S_met_from : Spec Unit := fun as g T U => match as with
  | [.dt b, .dt (.int room)] => ∃ B : Book, b = B.d ∧ (∀ k ∈ everyW B.ways.length, 0 ≤ (wAt B k).b ∧ (wAt B k).b < B.rooms) ∧ (0 ≤ room ∧ room < B.rooms) ∧ B.rooms ≤ 100000 ∧ B.ways.length ≤ 1000 ∧ T (.nl ((metW B room).map PyData.int)) g
  | _ => False
theorem ok_met_from {P : Program} {w : World} {K : PySem.W.Frag} {mg : Str → Option Value} {base : Heap} {k : Nat} (D : Dfn K mg "met_from" s_met_from ["book", "room"]) (z_enumerate : mg "enumerate" = none) : Ok P w K mg base (k + 1) "met_from" ["book", "room"] (spZ (Z0 K) S_met_from) := by
  refine D.ok c_met_from (fun as g T U h => by unfold S_met_from at h; split at h <;> first | rfl | cases h) (by decide) fun fa cdv A outer s' H E hr => ⟨_, _, (s_cons (s_set 2 c_met_from.nd (e_dict1 (e_v 1) e_bl))
      (s_cons (s_set 3 c_met_from.nd (e_lst (a_cons (e_v 1) a_nil)))
      (s_cons (s_while (t_cmp (c_ne hr.units) (e_v 3) (e_lst a_nil)) (s_cons (s_set 4 c_met_from.nd (e_ml0 PySem.F.slot_list_pop PySem.F.type_list_pop mt_pop m_pop 3))
      (s_one (s_for (i_seq (e_ixX hr.units (e_v 0) e_int)) (g_tup (n := 3) (gs_cons (g_name 5 c_met_from.nd) (gs_cons (g_name 6 c_met_from.nd) (gs_cons (g_name 7 c_met_from.nd) gs_nil)))) (s_one (s_if (t_w (w_and (t_cmp (c_eq hr.units) (e_v 5) (e_v 4)) (w_and1 (t_cmp (c_ninX hr.wide) (e_v 6) (e_v 2))))) (s_cons (s_dput hr.units 2 e_bl (e_v 6))
      (s_one (s_expr (e_ml PySem.F.slot_list_append PySem.F.type_list_append mt_append m_app 3 (a_cons (e_v 6) a_nil))))) s_nil))))))
      (s_one (s_ret (e_lc [("k", 8), ("way", 9)] c_met_from.nd (i_enum z_enumerate (a_cons (e_ixX hr.units (e_v 0) e_int) a_nil)) (fun _ _ _ _ _ => (g_tup (n := 2) (gs_cons (g_name 8 c_met_from.nd) (gs_cons (g_name 9 c_met_from.nd) gs_nil)))) (own_seq (owns_cons (own_name (by decide)) (owns_cons (own_name (by decide)) owns_nil))) (fun _ _ _ _ _ => (ts_one (t_cmp (c_inX hr.wide) (e_ixX hr.units (e_v 9) e_int) (e_v 2)))) (fun _ _ _ _ _ => (e_v 8)))))))), ?_⟩
  intro as g T U h
  unfold S_met_from at h
  clear hr
  split at h
  · rename_i room
    obtain ⟨B, rfl, hw, hr, hR, hwl, h⟩ := h
    walk_at "w"
    refine ⟨⟨fun m ρ' g' => Hold (g' = g ∧ ∃ (ms wl : List Int) (s4 s5 s6 s7 s8 s9 : Sl), ρ' = [.dt B.d, .dt (.int room), .dk (boolD ms), .ls (wl.map PyData.int), s4, s5, s6, s7, s8, s9] ∧ MetI B (everyW B.ways.length) room ms wl (fun _ _ => True) ∧ wl.length ≤ ms.length ∧ m = 2 * (B.rooms.toNat - ms.length) + wl.length),
      ⟨_, hold ⟨rfl, [room], [room], _, _, _, _, _, _, rfl, ⟨by simp, by simp, fun x hx => by rw [List.mem_singleton.mp hx]; exact .refl _, fun x hx hw => absurd hx hw, by simp, fun x hx => by rw [List.mem_singleton.mp hx]; exact hr⟩, Nat.le_refl _, rfl⟩⟩, fun m ρ' g' hI => ?_⟩⟩
    obtain ⟨rfl, ms, wl, s4, s5, s6, s7, s8, s9, rfl, hM, hwm, rfl⟩ := hI.h
    walk_at "w"
    refine ifb_of (fun q => ?_) (fun q => ?_)
    · replace q : (!PyData.eqv (.list (wl.map PyData.int)) (.list [])) = true := q
      rw [eqv_nil] at q
      have hne : wl ≠ [] := by simpa using q
      obtain ⟨l, here, rfl, e1, e2⟩ := pop_last hne
      have hMl := hM.len
      have hp := hM.pop
      walk_at "w"
      refine opK_of e1 ?_
      rw [e2]
      walk_at "w"
      refine ⟨⟨fun i ρ' g2 => Hold (g2 = g' ∧ ∃ (ms2 wl2 : List Int) (s5 s6 s7 s8 s9 : Sl), ρ' = [.dt B.d, .dt (.int room), .dk (boolD ms2), .ls (wl2.map PyData.int), .dt (.int here), s5, s6, s7, s8, s9] ∧
        MetI B (everyW B.ways.length) room ms2 wl2 (fun x j => x ≠ here ∨ j ∈ (everyW B.ways.length).take i) ∧ here ∈ ms2 ∧ wl2.length ≤ ms2.length ∧ 2 * (B.rooms.toNat - ms2.length) + wl2.length ≤ 2 * (B.rooms.toNat - ms.length) + l.length),
        hold ⟨rfl, ms, l, _, _, _, _, _, rfl, hp.weak (fun x hx k hk e c => .inl (by simpa using c)), hM.sub _ (by simp), by rw [List.length_append] at hwm; exact Nat.le_trans (Nat.le_succ _) hwm, Nat.le_refl _⟩, fun i d ρ' g2 hk hI => ?_, fun ρ' g2 hI => ?_⟩⟩
      · obtain ⟨rfl, ms2, wl2, s5, s6, s7, s8, s9, rfl, hM2, hh, hwm2, hme⟩ := hI.h
        rw [List.getElem?_map] at hk
        obtain ⟨v, hv, rfl⟩ := Option.map_eq_some_iff.mp hk
        have hil := (List.getElem?_eq_some_iff.mp hv).1
        have hx := every_get hil
        have hxm := List.mem_of_getElem? hx
        have hv2 : v = wAt B (i : Nat) := by
          have := wAt_nat (B := B) hil
          unfold wAt
          rw [Int.toNat_natCast, List.getD_eq_getElem?_getD, hv]; rfl
        obtain ⟨hw2, hw3⟩ := hw _ hxm
        have hl2 := hM2.len
        have et : (everyW B.ways.length).take (i + 1) = (everyW B.ways.length).take i ++ [(i : Int)] := by rw [List.take_add_one, hx]; rfl
        subst hv2
        generalize hxx : ((i : Nat) : Int) = x at *
        walk_at "w"
        refine ifb_of (fun q1 => ?_) (fun q1 => ?_)
        · simp at q1
          walk_at "w"
          rw [lookD_bool]
          by_cases hb : (wAt B x).b ∈ ms2
          · rw [if_pos hb]
            walk_at "w"
            refine hold ⟨rfl, ms2, wl2, _, _, _, _, _, rfl, hM2.weak (fun y hy k hk e c => ?_), hh, hwm2, hme⟩
            rw [et] at c
            rcases c with c | c
            · exact .inl (.inl c)
            · rcases List.mem_append.mp c with c | c
              · exact .inl (.inr c)
              · rw [List.mem_singleton.mp c]; exact .inr hb
          · rw [if_neg hb]
            walk_at "w"
            rw [putD_bool hb]
            refine ltK_of (by unfold boolD; rw [List.length_map]; omega) ⟨ndD_bool hM2.nd, ?_⟩
            walk_at "w"
            have hM3 := hM2.push (cl2 := fun y j => y ≠ here ∨ j ∈ (everyW B.ways.length).take (i + 1)) hxm (by rw [q1]; exact hh) hb ⟨hw2, hw3⟩ (fun y j c => by
              rw [et] at c
              rcases c with c | c
              · exact .inl (.inl c)
              · rcases List.mem_append.mp c with c | c
                · exact .inl (.inr c)
                · rw [List.mem_singleton.mp c]; exact .inr rfl)
            have hl3 := hM3.len
            rw [List.length_append] at hl3
            refine ltK_of (by rw [List.length_map]; omega) ?_
            walk_at "w"
            refine hold ⟨rfl, _, wl2 ++ [(wAt B x).b], _, _, _, _, _, by rw [List.map_append]; rfl, hM3, List.mem_append_left _ hh, by rw [List.length_append, List.length_append]; exact Nat.add_le_add_right hwm2 1, ?_⟩
            rw [List.length_append, List.length_append]
            show 2 * (_ - (ms2.length + 1)) + (wl2.length + 1) ≤ _
            replace hl3 : ms2.length + 1 ≤ B.rooms.toNat := hl3
            omega
        · simp at q1
          walk_at "w"
          refine hold ⟨rfl, ms2, wl2, _, _, _, _, _, rfl, hM2.weak (fun y hy k hk e c => ?_), hh, hwm2, hme⟩
          rw [et] at c
          rcases c with c | c
          · exact .inl (.inl c)
          · rcases List.mem_append.mp c with c | c
            · exact .inl (.inr c)
            · rw [List.mem_singleton.mp c] at e
              exact .inl (.inl (by rw [← e]; exact q1))
      · obtain ⟨rfl, ms2, wl2, s5, s6, s7, s8, s9, rfl, hM2, hh, hwm2, hme⟩ := hI.h
        rw [List.length_map, List.take_of_length_le (by rw [everyW_len]; exact Nat.le_refl _)] at hM2
        walk_at "w"
        refine ⟨_, ?_, hold ⟨rfl, ms2, wl2, _, _, _, _, _, _, rfl, hM2.weak (fun y hy k hk e c => .inl (.inr hk)), hwm2, rfl⟩⟩
        simp
        omega
    · replace q : (!PyData.eqv (.list (wl.map PyData.int)) (.list [])) = false := q
      rw [eqv_nil] at q
      have hne : wl = [] := by simpa using q
      subst hne
      have hfin := hM.fin
      walk_at "w"
      rw [enum_ways]
      refine leK_of (by rw [List.length_map, everyW_len]; omega) (lc_filL (fun k => rch B (everyW B.ways.length) room (wAt B k).a) PyData.int (by walk_at "lcw") (fun k hk C1 C0 q1 q0 => ?_) ?_)
      · walk_at "w"
        rw [lookD_bool]
        by_cases hm : (wAt B k).a ∈ ms
        · rw [if_pos hm]
          walk_at "w"
          exact q1 (rch_iff.mpr ((hfin _).mp hm))
        · rw [if_neg hm]
          walk_at "w"
          exact q0 (by
            cases e : rch B (everyW B.ways.length) room (wAt B k).a with
            | false => rfl
            | true => exact (hm ((hfin _).mpr (rch_iff.mp e))).elim)
      · walk_at "w"
        exact h
  · cases h
abbrev s_Table___init__ : Stmt := inClass (topS 12) 0
theorem c_Table___init__ : FnScope ["self", "rows", "sides", "goal", "row", "side", "number"] ["self", "rows", "sides", "goal"] (defScope s_Table___init__) := ⟨rfl, rfl, rfl, by decide +kernel, rfl, by decide +kernel, by decide +kernel⟩
def S_Table___init__ {G : Type} : Spec (G × OS) := fun as g T U => match as with
  | [.vv (.ref p), .dt r, .dt s, .dt gl] => ∃ P : Dt.Lp, r = .list ((List.range P.m).map fun i => .list ((List.range P.n).map fun k => .int (P.A i k))) ∧ s = .list ((List.range P.m).map fun i => .int (P.sd i)) ∧ gl = .list ((List.range P.n).map fun k => .int (P.gl k)) ∧ P.n ≤ 1000 ∧ P.m ≤ 1000 ∧
      OS.look g.2 p = some (.ins "Table" L_Table []) ∧ ∀ g', g'.1 = g.1 → TabA g'.2 p P P.B0 P.F0 → T (.dt .none) g'
  | _ => False
theorem ok_Table___init__ {P : Program} {w : World} {K : PySem.W.Frag} {mg : Str → Option Value} {base : Heap} {k : Nat} {tp : Addr} (D : DfnM K mg "Table" "__init__" "Table.__init__" s_Table___init__ ["self", "rows", "sides", "goal"]) (z_list : mg "list" = none) (z_range : mg "range" = none) (z_len : mg "len" = none) (z_zip : mg "zip" = none) (q_Table : ClsX K mg "Table") (q_Table_free : FldX K mg "Table" "free") (q_Table_bound : FldX K mg "Table" "bound") (q_Table_rows : FldX K mg "Table" "rows") (q_Table_divisor : FldX K mg "Table" "divisor") : OkM P w K mg base (k + 1) "Table" "__init__" ["self", "rows", "sides", "goal"] (spZ (ZS mg (ZTab tp qT (ZT K))) S_Table___init__) := by
  refine D.ok c_Table___init__ (fun as g T U h => by unfold S_Table___init__ at h; split at h <;> first | rfl | cases h) (by decide) fun fa cdv A outer s' H E hr => ⟨_, _, (s_cons (s_fldO "Table" L_Table 0 fa_Table_free q_Table q_Table_free (e_v 0) (e_adopt (e_lr1 z_list z_range (e_callB k_len (a_cons (e_v 3) a_nil) z_len rfl))))
      (s_cons (s_fldO "Table" L_Table 1 fa_Table_bound q_Table q_Table_bound (e_v 0) (e_adopt (e_lr2 z_list z_range (e_callB k_len (a_cons (e_v 3) a_nil) z_len rfl) (e_op b_add (e_callB k_len (a_cons (e_v 3) a_nil) z_len rfl) (e_callB k_len (a_cons (e_v 1) a_nil) z_len rfl)))))
      (s_cons (s_fldO "Table" L_Table 2 fa_Table_rows q_Table q_Table_rows (e_v 0) (e_lcO [("row", 4), ("side", 5)] c_Table___init__.nd (i_zip z_zip (a_cons (e_v 1) (a_cons (e_v 2) a_nil))) (fun _ _ _ _ _ => (g_tup (n := 2) (gs_cons (g_name 4 c_Table___init__.nd) (gs_cons (g_name 5 c_Table___init__.nd) gs_nil)))) (own_seq (owns_cons (own_name (by decide)) (owns_cons (own_name (by decide)) owns_nil))) (fun _ _ _ _ _ => ts_nil) (fun _ _ _ _ _ => (e_adopt (e_op b_add (e_callTy k_list (a_cons (e_v 4) a_nil) z_list rfl) (e_lst (a_cons (e_v 5) a_nil)))))))
      (s_cons (s_expr (e_appO (e_fldO "Table" L_Table 2 fa_Table_rows q_Table q_Table_rows (e_v 0)) (e_adopt (e_op b_add (e_lc [("number", 6)] c_Table___init__.nd (i_seq (e_v 3)) (fun _ _ _ _ _ => (g_name 6 c_Table___init__.nd)) (own_name (by decide)) (fun _ _ _ _ _ => ts_nil) (fun _ _ _ _ _ => (e_un u_neg (e_v 6)))) (e_lst (a_cons e_int a_nil))))))
      (s_one (s_fldO "Table" L_Table 3 fa_Table_divisor q_Table q_Table_divisor (e_v 0) e_int)))))), ?_⟩
  intro as g T U h
  unfold S_Table___init__ at h
  clear hr
  split at h
  · rename_i p r s gl
    obtain ⟨P, rfl, rfl, rfl, hn, hm, hl, h⟩ := h
    walk_at "w"
    rw [List.length_map, List.length_range]
    refine rgK_of (by omega) (by omega) ?_
    refine szK_of (by omega) ?_
    walk_at "w"
    intro pf hpf
    rw [P.F0c]
    walk_at "w"
    refine insK_of (OS.look_old hpf hl) ?_
    walk_at "w"
    refine putGen _ (OS.look_old hpf hl) fun g2 hg2 l2p k2 => ?_
    have npf : p ≠ pf := fun e => by rw [e, hpf] at hl; cases hl
    have l2f : OS.look g2.2 pf = some (.ls (natC P.F0)) := by rw [k2 pf npf]; exact OS.look_new
    clear k2
    walk_at "w"
    rw [List.length_map, List.length_range, List.length_map, List.length_range]
    refine rgK_of (by omega) (by omega) (rgK_of (by omega) (by omega) ?_)
    refine szK_of (by omega) ?_
    walk_at "w"
    intro pb hpb
    rw [P.B0c]
    walk_at "w"
    refine insK_of (OS.look_old hpb l2p) ?_
    walk_at "w"
    refine putGen _ (OS.look_old hpb l2p) fun g3 hg3 l3p k3 => ?_
    have npb : p ≠ pb := fun e => by rw [e, hpb] at l2p; cases l2p
    have nfb : pf ≠ pb := fun e => by rw [e, hpb] at l2f; cases l2f
    have l3f : OS.look g3.2 pf = some (.ls (natC P.F0)) := by rw [k3 pf npf]; exact OS.look_old hpb l2f
    have l3b : OS.look g3.2 pb = some (.ls (natC P.B0)) := by rw [k3 pb npb]; exact OS.look_new
    clear k3
    walk_at "w"
    have hg31 : g3.1 = g.1 := hg3.trans hg2
    clear hg2 hg3 hl hpf hpb l2p l2f
    refine leK_of (by rw [zipD_len, List.length_map, List.length_map, List.length_range]; omega) ⟨⟨fun k acc ρ' g' => Hold (ρ' = [.vv (.ref p), .dt (.list ((List.range P.m).map fun i => .list ((List.range P.n).map fun k => .int (P.A i k)))), .dt (.list ((List.range P.m).map fun i => .int (P.sd i))), .dt (.list ((List.range P.n).map fun k => .int (P.gl k))), .un, .un, .un] ∧ g'.1 = g.1 ∧
        ∃ as : List Addr, acc = as.map Cell.r ∧ as.length = k ∧ as.Nodup ∧ (∀ a ∈ as, a ≠ pf ∧ a ≠ pb) ∧ OS.look g'.2 p = some (.ins "Table" L_Table [.r pf, .r pb]) ∧ OS.look g'.2 pf = some (.ls (natC P.F0)) ∧ OS.look g'.2 pb = some (.ls (natC P.B0)) ∧ ∀ (i : Nat) (a : Addr), as[i]? = some a → OS.look g'.2 a = some (.ls (rowC P.n (P.tb P.B0 P.F0 i)))),
      hold ⟨rfl, hg31, [], rfl, rfl, List.nodup_nil, (fun a ha => by cases ha), l3p, l3f, l3b, fun i a h => by simp at h⟩, fun k d acc ρ' g' hk hI => ?_, fun acc ρ' g' hI => ?_⟩⟩
    · obtain ⟨rfl, hg', as, rfl, hal, hnd, hdf, q1, q2, q3, q4⟩ := hI.h
      have hkm : k < P.m := by
        have := (List.getElem?_eq_some_iff.mp hk).1
        rw [zipD_len, List.length_map, List.length_map, List.length_range, Nat.min_self] at this
        exact this
      rw [zipD_get (d := .list ((List.range P.n).map fun j => .int (P.A k j))) (e := .int (P.sd k)) (by rw [List.getElem?_map, List.getElem?_range hkm]; rfl) (by rw [List.getElem?_map, List.getElem?_range hkm]; rfl)] at hk
      cases hk
      walk_at "w"
      refine leK_of (by rw [List.length_map, List.length_range]; simp; omega) ?_
      walk_at "w"
      intro a ha
      rw [P.row0 hkm]
      walk_at "w"
      have hna : a ∉ as := fun hm => by
        obtain ⟨i, hi⟩ := List.getElem?_of_mem hm
        rw [q4 i a hi] at ha; cases ha
      refine hold ⟨rfl, hg', as ++ [a], by rw [List.map_append]; rfl, by rw [List.length_append, hal]; rfl, List.nodup_append.mpr ⟨hnd, by simp, fun x hx y hy e => hna (by rw [List.mem_singleton.mp hy] at e; rw [← e]; exact hx)⟩, (fun b hb => by
        rcases List.mem_append.mp hb with hb | hb
        · exact hdf b hb
        · rw [List.mem_singleton.mp hb]
          exact ⟨(fun e => by rw [e, q2] at ha; cases ha), (fun e => by rw [e, q3] at ha; cases ha)⟩), OS.look_old ha q1, OS.look_old ha q2, OS.look_old ha q3, fun i b hb => ?_⟩
      by_cases e : i < as.length
      · rw [List.getElem?_append_left e] at hb
        exact OS.look_old ha (q4 i b hb)
      · rw [List.getElem?_append_right (by omega)] at hb
        have : i = as.length := by
          have := (List.getElem?_eq_some_iff.mp hb).1
          simp at this
          omega
        subst this
        simp at hb
        subst hb
        rw [hal]
        exact OS.look_new
    · obtain ⟨rfl, hg', as, rfl, hal, hnd, hdf, q1, q2, q3, q4⟩ := hI.h
      rw [zipD_len, List.length_map, List.length_map, List.length_range, Nat.min_self] at hal
      refine ⟨⟨rfl, rfl, trivial⟩, fun pr hpr => ?_⟩
      walk_at "w"
      refine insK_of (OS.look_old hpr q1) ?_
      walk_at "w"
      refine putGen _ (OS.look_old hpr q1) fun g4 hg4 l4p k4 => ?_
      have npr : ∀ {b : Addr} {x : OO}, OS.look g'.2 b = some x → pr ≠ b := fun {b x} e z => by rw [z, e] at hpr; cases hpr
      have np : ∀ {b : Addr} {cs : List Cell}, OS.look g'.2 b = some (.ls cs) → p ≠ b := fun {b cs} e z => by rw [← z, q1] at e; cases e
      have npp : p ≠ pr := fun z => npr q1 z.symm
      have l4r : OS.look g4.2 pr = some (.ls (as.map Cell.r)) := by rw [k4 pr npp]; exact OS.look_new
      have l4f : OS.look g4.2 pf = some (.ls (natC P.F0)) := by rw [k4 pf (np q2)]; exact OS.look_old hpr q2
      have l4b : OS.look g4.2 pb = some (.ls (natC P.B0)) := by rw [k4 pb (np q3)]; exact OS.look_old hpr q3
      have l4w : ∀ (i : Nat) (a : Addr), as[i]? = some a → OS.look g4.2 a = some (.ls (rowC P.n (P.tb P.B0 P.F0 i))) := fun i a h => by rw [k4 a (np (q4 i a h))]; exact OS.look_old hpr (q4 i a h)
      have nfr := npr q2
      have nbr := npr q3
      have nwr : ∀ a ∈ as, pr ≠ a := fun a hm => by
        obtain ⟨i, hi⟩ := List.getElem?_of_mem hm
        exact npr (q4 i a hi)
      clear k4 q1 q2 q3 q4 hpr npr np
      walk_at "w"
      refine lsK_of l4r ?_
      walk_at "w"
      refine leK_of (by rw [List.length_map, List.length_range]; omega) (lc_mapL (fun k => .int (-P.gl k)) (by walk_at "lcw") (fun k hk C1 C0 q => ?_) ?_)
      · walk_at "w"
        exact q
      walk_at "w"
      refine leK_of (by rw [List.length_map, List.length_range]; simp; omega) ?_
      walk_at "w"
      intro az haz
      rw [P.rowG]
      walk_at "w"
      refine lsK_of (OS.look_old haz l4r) ?_
      refine ltK_of (by rw [List.length_map, hal]; omega) ?_
      walk_at "w"
      refine putGen _ (OS.look_old haz l4r) fun g5 hg5 l5r k5 => ?_
      have naz : ∀ {b : Addr} {x : OO}, OS.look g4.2 b = some x → az ≠ b := fun {b x} e z => by rw [z, e] at haz; cases haz
      have l5p : OS.look g5.2 p = some (.ins "Table" L_Table [.r pf, .r pb, .r pr]) := by rw [k5 p npp.symm]; exact OS.look_old haz l4p
      have l5f : OS.look g5.2 pf = some (.ls (natC P.F0)) := by rw [k5 pf nfr]; exact OS.look_old haz l4f
      have l5b : OS.look g5.2 pb = some (.ls (natC P.B0)) := by rw [k5 pb nbr]; exact OS.look_old haz l4b
      have l5w : ∀ (i : Nat) (a : Addr), as[i]? = some a → OS.look g5.2 a = some (.ls (rowC P.n (P.tb P.B0 P.F0 i))) := fun i a h => by rw [k5 a (nwr a (List.mem_of_getElem? h))]; exact OS.look_old haz (l4w i a h)
      have l5z : OS.look g5.2 az = some (.ls (rowC P.n (P.tb P.B0 P.F0 P.m))) := by rw [k5 az (naz l4r).symm]; exact OS.look_new
      have nz1 := naz l4f
      have nz2 := naz l4b
      have nz3 := naz l4r
      have nzw : ∀ a ∈ as, az ≠ a := fun a hm => by
        obtain ⟨i, hi⟩ := List.getElem?_of_mem hm
        exact naz (l4w i a hi)
      have nfw : ∀ a ∈ as, a ≠ pf ∧ a ≠ pb := fun a hm => by
        refine ⟨fun e => ?_, fun e => ?_⟩
        · exact (hdf a hm).1 e
        · exact (hdf a hm).2 e
      clear k5 haz naz
      walk_at "w"
      refine putGen _ l5p fun g6 hg6 l6p k6 => ?_
      have np : ∀ {b : Addr} {cs : List Cell}, OS.look g5.2 b = some (.ls cs) → p ≠ b := fun {b cs} e z => by rw [← z, l5p] at e; cases e
      have gA : ∀ i, i < P.m → ∃ a, as[i]? = some a ∧ (as ++ [az]).getD i 0 = a := fun i hi => by
        refine ⟨as[i], List.getElem?_eq_getElem (by omega), ?_⟩
        rw [List.getD_eq_getElem?_getD, List.getElem?_append_left (by omega), List.getElem?_eq_getElem (by omega)]; rfl
      have gZ : (as ++ [az]).getD P.m 0 = az := by
        rw [List.getD_eq_getElem?_getD, List.getElem?_append_right (by omega), hal]; simp
      refine h g6 (hg6.trans (hg5.trans (hg4.trans hg'))) ⟨pf, pb, pr, fun i => (as ++ [az]).getD i 0, ⟨by rw [P.D0]; exact l6p, by rw [k6 _ (np l5f)]; exact l5f, by rw [k6 _ (np l5b)]; exact l5b, ?_, fun i hi => ?_, nfb, nfr.symm, nbr.symm, fun i hi => ?_, fun i j hi hj e => ?_⟩⟩
      · rw [k6 _ (np l5r), l5r]
        congr 2
        unfold rngA
        apply List.ext_getElem?
        intro i
        rw [List.getElem?_map]
        by_cases e : i < P.m + 1
        · rw [List.getElem?_range e]
          by_cases e2 : i < P.m
          · obtain ⟨a, h1, h2⟩ := gA i e2
            rw [List.getElem?_append_left (by rw [List.length_map]; omega), List.getElem?_map, h1]
            show some (Cell.r a) = some (Cell.r ((as ++ [az]).getD i 0))
            rw [h2]
          · have : i = P.m := by omega
            subst this
            rw [List.getElem?_append_right (by rw [List.length_map]; omega), List.length_map, hal]
            show _ = some (Cell.r ((as ++ [az]).getD P.m 0))
            rw [gZ]
            simp
        · rw [List.getElem?_eq_none (by simp; omega), List.getElem?_eq_none (by simpa using e)]; rfl
      · show OS.look g6.2 ((as ++ [az]).getD i 0) = _
        by_cases e2 : i < P.m
        · obtain ⟨a, h1, h2⟩ := gA i e2
          rw [h2, k6 _ (np (l5w i a h1))]
          exact l5w i a h1
        · have : i = P.m := by omega
          subst this
          rw [gZ, k6 _ (np l5z)]
          exact l5z
      · show (as ++ [az]).getD i 0 ≠ pf ∧ (as ++ [az]).getD i 0 ≠ pb ∧ (as ++ [az]).getD i 0 ≠ pr
        by_cases e2 : i < P.m
        · obtain ⟨a, h1, h2⟩ := gA i e2
          have hm := List.mem_of_getElem? h1
          rw [h2]
          exact ⟨(hdf a hm).1, (hdf a hm).2, (nwr a hm).symm⟩
        · have : i = P.m := by omega
          subst this
          rw [gZ]
          exact ⟨nz1, nz2, nz3⟩
      · have e : (as ++ [az]).getD i 0 = (as ++ [az]).getD j 0 := e
        by_cases e2 : i < P.m
        · obtain ⟨a, h1, h2⟩ := gA i e2
          by_cases e3 : j < P.m
          · obtain ⟨b, h3, h4⟩ := gA j e3
            rw [h2, h4] at e
            subst e
            exact (List.getElem?_inj (by omega) hnd).mp (h1.trans h3.symm)
          · have : j = P.m := by omega
            subst this
            rw [h2, gZ] at e
            exact absurd e.symm (nzw a (List.mem_of_getElem? h1))
        · have : i = P.m := by omega
          subst this
          by_cases e3 : j < P.m
          · obtain ⟨b, h3, h4⟩ := gA j e3
            rw [h4, gZ] at e
            exact absurd e (nzw b (List.mem_of_getElem? h3))
          · omega
  · cases h
abbrev s_Table_entering : Stmt := inClass (topS 12) 1
theorem c_Table_entering : FnScope ["self", "some", "column"] ["self"] (defScope s_Table_entering) := ⟨rfl, rfl, rfl, by decide +kernel, rfl, by decide +kernel, by decide +kernel⟩
def S_Table_entering {G : Type} : Spec (G × OS) := fun as g T U => match as with
  | [.vv (.ref p)] => ∃ (P : Dt.Lp) (B F : List Nat), TabA g.2 p P B F ∧ P.Good B F ∧ P.n ≤ 1000 ∧ ((∀ k ∈ F, 0 ≤ P.T B P.m k) → T (.dt .none) g) ∧
      ∀ (c l : Nat), F[c]? = some l → P.T B P.m l < 0 → (∀ k ∈ F, P.T B P.m k < 0 → l ≤ k) → T (.dt (.int (c : Nat))) g
  | _ => False
theorem ok_Table_entering {P : Program} {w : World} {K : PySem.W.Frag} {mg : Str → Option Value} {base : Heap} {k : Nat} {tp : Addr} {cT : Addr} (D : DfnMC K mg "Table" "entering" "Table.entering" s_Table_entering ["self"] cT) (TB : LamX.TabB base mg cT tp) (z_range : mg "range" = none) (z_len : mg "len" = none) (z_min : mg "min" = none) (q_Table : ClsX K mg "Table") (q_Table_free : FldX K mg "Table" "free") (q_Table_rows : FldX K mg "Table" "rows") : OkM P w K mg base ((k + 2) + 1) "Table" "entering" ["self"] (spZ (ZS mg (ZTab tp qT (ZT K))) S_Table_entering) := by
  refine DfnMC.ok D c_Table_entering (fun as g T U h => by unfold S_Table_entering at h; split at h <;> first | rfl | cases h) (by decide) fun fa A outer s' H E hr => ⟨_, _, (s_cons (s_setLc 1 [("column", 2)] c_Table_entering.nd (i_rng1 z_range (a_cons (e_callB k_lenO (a_cons (e_fldO "Table" L_Table 0 fa_Table_free q_Table q_Table_free (e_v 0)) a_nil) z_len rfl) a_nil)) (fun _ _ _ _ _ => (g_name 2 c_Table_entering.nd)) (own_name (by decide)) (fun _ _ _ _ _ => (ts_one (t_cmp c_lt (e_ixO hr.units (e_ixO hr.units (e_fldO "Table" L_Table 2 fa_Table_rows q_Table q_Table_rows (e_v 0)) (e_un u_neg e_int)) (e_v 2)) e_int))) (fun _ _ _ _ _ => (e_v 2)))
      (s_one (s_ret (e_if (t_cmp (c_ne hr.units) (e_v 1) (e_lst a_nil)) (e_minkey (j := 0) TB rfl hr z_min (a_cons (e_v 1) a_nil) (fun _ _ _ _ _ hr => (e_ixO hr.units (e_fldO "Table" L_Table 0 fa_Table_free q_Table q_Table_free (e_v 1)) (e_v 0))) (sim_op sim_ixO (sim_fldO fa_Table_free q_Table q_Table_free sim_var) sim_var)) e_non)))), ?_⟩
  intro as g T U h
  unfold S_Table_entering at h
  clear hr
  split at h
  · rename_i p
    obtain ⟨P, B, F, ⟨pf, pb, pr, ra, hT⟩, hG, hn, h0, h1⟩ := h
    walk_at "w"
    refine insK_of hT.t ?_
    walk_at "w"
    refine lsK_of hT.f ?_
    walk_at "w"
    rw [natC_len, hG.f]
    refine rgK_of (by omega) (by omega) ?_
    rw [rngD_nat]
    walk_at "w"
    refine leK_of (by rw [List.length_map, List.length_range]; omega) (lc_filL (fun j : Nat => decide (P.tb B F P.m j < 0)) (fun j : Nat => .int ((j : Nat) : Int)) (by walk_at "lcw") (fun j hj C1 C0 q1 q0 => ?_) ?_)
    · have hj := List.mem_range.mp hj
      walk_at "w"
      refine insK_of hT.t ?_
      walk_at "w"
      refine lsK_of hT.r (opK_of (rng_last P.m ra) ?_)
      walk_at "w"
      refine lsK_of (hT.w P.m (Nat.le_refl _)) (opK_of (row_at _ (Nat.le_of_lt hj)) ?_)
      walk_at "w"
      refine ifb_of (fun q => ?_) (fun q => ?_)
      · walk_at "w"
        exact q1 q
      · walk_at "w"
        exact q0 q
    have hsh : ∀ L : List Nat, SeqAt.shaped (.list (L.map fun j : Nat => PyData.int ((j : Nat) : Int))) = true := fun L => (lay_listM (n := 0) fun x _ => lay_int 0 _).shaped (by decide)
    have hmem : ∀ j, j ∈ (List.range P.n).filter (fun j : Nat => decide (P.tb B F P.m j < 0)) ↔ j < P.n ∧ P.tb B F P.m j < 0 := fun j => by rw [List.mem_filter, List.mem_range]; simp
    generalize (List.range P.n).filter (fun j : Nat => decide (P.tb B F P.m j < 0)) = L at hmem ⊢
    walk_at "w"
    refine ⟨hsh L, rfl, ?_⟩
    walk_at "w"
    refine ifb_of (fun q => ?_) (fun q => ?_)
    · have hne : L ≠ [] := fun e => by subst e; cases q
      walk_at "w"
      have lab : ∀ j, j < P.n → ∃ l, F[j]? = some l := fun j hj => ⟨F[j]'(by rw [hG.f]; exact hj), by simp⟩
      refine ⟨⟨by rw [List.length_map]; exact List.length_pos_iff.mpr hne, fun z => ((F.getD z.toNat 0 : Nat) : Int), fun z hz => ?_, fun z hz hmin => ?_⟩⟩
      · obtain ⟨j, hj, rfl⟩ := List.mem_map.mp hz
        obtain ⟨j1, j2⟩ := (hmem j).mp hj
        obtain ⟨l, hl⟩ := lab j j1
        walk_at "w"
        refine insK_of hT.t ?_
        walk_at "w"
        refine lsK_of hT.f (opK_of (nat_at hl) ?_)
        walk_at "w"
        exact ⟨by simp [hl, cR], rfl⟩
      · obtain ⟨j, hj, rfl⟩ := List.mem_map.mp hz
        obtain ⟨j1, j2⟩ := (hmem j).mp hj
        obtain ⟨l, hl⟩ := lab j j1
        walk_at "w"
        refine h1 j l hl (by rw [← Dt.Lp.tb_at hl]; exact j2) fun k hk hneg => ?_
        obtain ⟨i, hi⟩ := List.getElem?_of_mem hk
        have hin : i < P.n := by rw [← hG.f]; exact (List.getElem?_eq_some_iff.mp hi).1
        have := hmin ((i : Nat) : Int) (List.mem_map.mpr ⟨i, (hmem i).mpr ⟨hin, by rw [Dt.Lp.tb_at hi]; exact hneg⟩, rfl⟩)
        simpa [hl, hi] using this
    · have he : L = [] := by
        cases L with
        | nil => rfl
        | cons x t => cases q
      subst he
      walk_at "w"
      refine h0 fun k hk => ?_
      obtain ⟨j, hj⟩ := List.getElem?_of_mem hk
      have hjn : j < P.n := by rw [← hG.f]; exact (List.getElem?_eq_some_iff.mp hj).1
      refine Classical.byContradiction fun hn => ?_
      have := (hmem j).mpr ⟨hjn, by rw [Dt.Lp.tb_at hj]; omega⟩
      cases this
  · cases h
abbrev s_Table_is_nearer : Stmt := inClass (topS 12) 3
theorem c_Table_is_nearer : FnScope ["self", "number", "best", "column", "one", "other"] ["self", "number", "best", "column"] (defScope s_Table_is_nearer) := ⟨rfl, rfl, rfl, by decide +kernel, rfl, by decide +kernel, by decide +kernel⟩
def nearer (P : Dt.Lp) (B F : List Nat) (l i b : Nat) : Bool := decide (P.T B i P.rhs * P.T B b l < P.T B b P.rhs * P.T B i l) || (decide (P.T B i P.rhs * P.T B b l = P.T B b P.rhs * P.T B i l) && decide (B.getD i 0 < B.getD b 0))
def S_Table_is_nearer {G : Type} : Spec (G × OS) := fun as g T U => match as with
  | [.vv (.ref p), .dt (.int i), .dt (.int b), .dt (.int c)] => ∃ (P : Dt.Lp) (B F : List Nat) (i' b' c' l : Nat), i = (i' : Nat) ∧ b = (b' : Nat) ∧ c = (c' : Nat) ∧ TabA g.2 p P B F ∧ P.Good B F ∧ Sml P ∧ i' < P.m ∧ b' < P.m ∧ F[c']? = some l ∧ T (.dt (.bool (nearer P B F l i' b'))) g
  | _ => False
theorem ok_Table_is_nearer {P : Program} {w : World} {K : PySem.W.Frag} {mg : Str → Option Value} {base : Heap} {k : Nat} {tp : Addr} (D : DfnM K mg "Table" "is_nearer" "Table.is_nearer" s_Table_is_nearer ["self", "number", "best", "column"]) (q_Table : ClsX K mg "Table") (q_Table_rows : FldX K mg "Table" "rows") (q_Table_bound : FldX K mg "Table" "bound") : OkM P w K mg base (k + 1) "Table" "is_nearer" ["self", "number", "best", "column"] (spZ (ZS mg (ZTab tp qT (ZT K))) S_Table_is_nearer) := by
  refine D.ok c_Table_is_nearer (fun as g T U h => by unfold S_Table_is_nearer at h; split at h <;> first | rfl | cases h) (by decide) fun fa cdv A outer s' H E hr => ⟨_, _, (s_cons (s_set 4 c_Table_is_nearer.nd (e_op b_mul (e_ixO hr.units (e_ixO hr.units (e_fldO "Table" L_Table 2 fa_Table_rows q_Table q_Table_rows (e_v 0)) (e_v 1)) (e_un u_neg e_int)) (e_ixO hr.units (e_ixO hr.units (e_fldO "Table" L_Table 2 fa_Table_rows q_Table q_Table_rows (e_v 0)) (e_v 2)) (e_v 3))))
      (s_cons (s_set 5 c_Table_is_nearer.nd (e_op b_mul (e_ixO hr.units (e_ixO hr.units (e_fldO "Table" L_Table 2 fa_Table_rows q_Table q_Table_rows (e_v 0)) (e_v 2)) (e_un u_neg e_int)) (e_ixO hr.units (e_ixO hr.units (e_fldO "Table" L_Table 2 fa_Table_rows q_Table q_Table_rows (e_v 0)) (e_v 1)) (e_v 3))))
      (s_one (s_ret (e_or (e_cmp c_lt (e_v 4) (e_v 5)) (e_one (e_and (e_cmp (c_eq hr.units) (e_v 4) (e_v 5)) (e_one (e_cmp c_lt (e_ixO hr.units (e_fldO "Table" L_Table 1 fa_Table_bound q_Table q_Table_bound (e_v 0)) (e_v 1)) (e_ixO hr.units (e_fldO "Table" L_Table 1 fa_Table_bound q_Table q_Table_bound (e_v 0)) (e_v 2))))))))))), ?_⟩
  intro as g T U h
  unfold S_Table_is_nearer at h
  clear hr
  split at h
  · rename_i p i b c
    obtain ⟨P, B, F, i, b, c, l, rfl, rfl, rfl, ⟨pf, pb, pr, ra, hT⟩, hG, hS, hi, hb, hc, h⟩ := h
    have hcn : c < P.n := by rw [← hG.f]; exact (List.getElem?_eq_some_iff.mp hc).1
    obtain ⟨bi, hbi⟩ : ∃ x, B[i]? = some x := ⟨B[i]'(by rw [hG.b]; exact hi), by simp⟩
    obtain ⟨bb, hbb⟩ : ∃ x, B[b]? = some x := ⟨B[b]'(by rw [hG.b]; exact hb), by simp⟩
    have r1 := hS.tb hG i P.n
    have r2 := hS.tb hG b c
    have r3 := hS.tb hG b P.n
    have r4 := hS.tb hG i c
    unfold nearer at h
    rw [← Dt.Lp.tb_rhs hG.f i, ← Dt.Lp.tb_rhs hG.f b, ← Dt.Lp.tb_at hc i, ← Dt.Lp.tb_at hc b, show B.getD i 0 = bi by simp [hbi], show B.getD b 0 = bb by simp [hbb]] at h
    walk_at "w"
    refine insK_of hT.t ?_
    walk_at "w"
    refine lsK_of hT.r (opK_of (rng_at ra (Nat.le_of_lt hi)) ?_)
    walk_at "w"
    refine lsK_of (hT.w i (Nat.le_of_lt hi)) (opK_of (row_last _ _) ?_)
    walk_at "w"
    refine insK_of hT.t ?_
    walk_at "w"
    refine lsK_of hT.r (opK_of (rng_at ra (Nat.le_of_lt hb)) ?_)
    walk_at "w"
    refine lsK_of (hT.w b (Nat.le_of_lt hb)) (opK_of (row_at _ (Nat.le_of_lt hcn)) ?_)
    walk_at "w"
    refine mlK_of (mul_1000 r1 r2) ?_
    walk_at "w"
    refine insK_of hT.t ?_
    walk_at "w"
    refine lsK_of hT.r (opK_of (rng_at ra (Nat.le_of_lt hb)) ?_)
    walk_at "w"
    refine lsK_of (hT.w b (Nat.le_of_lt hb)) (opK_of (row_last _ _) ?_)
    walk_at "w"
    refine insK_of hT.t ?_
    walk_at "w"
    refine lsK_of hT.r (opK_of (rng_at ra (Nat.le_of_lt hi)) ?_)
    walk_at "w"
    refine lsK_of (hT.w i (Nat.le_of_lt hi)) (opK_of (row_at _ (Nat.le_of_lt hcn)) ?_)
    walk_at "w"
    refine mlK_of (mul_1000 r3 r4) ?_
    walk_at "w"
    generalize P.tb B F i P.n * P.tb B F b c = x at h ⊢
    generalize P.tb B F b P.n * P.tb B F i c = y at h ⊢
    refine ifb_of (fun q => ?_) (fun q => ?_)
    · walk_at "w"
      have e : decide (x < y) = true := q
      rw [e] at h
      exact h
    · have e : decide (x < y) = false := q
      rw [e] at h
      walk_at "w"
      refine ifb_of (fun q2 => ?_) (fun q2 => ?_)
      · walk_at "w"
        refine insK_of hT.t ?_
        walk_at "w"
        refine lsK_of hT.b (opK_of (nat_at hbi) ?_)
        walk_at "w"
        refine insK_of hT.t ?_
        walk_at "w"
        refine lsK_of hT.b (opK_of (nat_at hbb) ?_)
        walk_at "w"
        have e2 : x = y := by simpa [PyData.eqv] using q2
        rw [Bool.false_or, show (decide (x = y) && decide (bi < bb)) = decide ((bi : Int) < (bb : Int)) from by rw [decide_eq_true e2]; simp] at h
        exact h
      · walk_at "w"
        have e2 : x ≠ y := by
          intro e
          rw [e] at q2
          simp [PyData.eqv] at q2
        rw [Bool.false_or, decide_eq_false e2, Bool.false_and] at h
        exact h
  · cases h
abbrev s_Table_leaving : Stmt := inClass (topS 12) 2
theorem c_Table_leaving : FnScope ["self", "column", "best", "number", "row"] ["self", "column"] (defScope s_Table_leaving) := ⟨rfl, rfl, rfl, by decide +kernel, rfl, by decide +kernel, by decide +kernel⟩
/-- the row found so far among the first k: none holds, or the least ratio, of two alike the least name -/
def LvI (P : Dt.Lp) (B : List Nat) (l k : Nat) : Option Nat → Prop
  | none => ∀ i, i < k → P.T B i l ≤ 0
  | some r => r < P.m ∧ 0 < P.T B r l ∧ ∀ i, i < k → 0 < P.T B i l → P.T B r P.rhs * P.T B i l ≤ P.T B i P.rhs * P.T B r l ∧ (P.T B r P.rhs * P.T B i l = P.T B i P.rhs * P.T B r l → B.getD r 0 ≤ B.getD i 0)
def optD : Option Nat → PyData
  | none => .none
  | some r => .int (r : Nat)
theorem lv_keep {P : Dt.Lp} {B : List Nat} {l k : Nat} {b : Option Nat} (h : LvI P B l k b) (h0 : P.T B k l ≤ 0) : LvI P B l (k + 1) b := by
  cases b with
  | none =>
    intro i hi
    by_cases e : i = k
    · rw [e]; exact h0
    · exact h i (by omega)
  | some r =>
    refine ⟨h.1, h.2.1, fun i hi hp => ?_⟩
    by_cases e : i = k
    · rw [e] at hp; omega
    · exact h.2.2 i (by omega) hp
theorem lv_first {P : Dt.Lp} {B : List Nat} {l k : Nat} (hk : k < P.m) (h : LvI P B l k none) (h0 : 0 < P.T B k l) : LvI P B l (k + 1) (some k) := by
  refine ⟨hk, h0, fun i hi hp => ?_⟩
  by_cases e : i = k
  · rw [e]
    exact ⟨Int.le_refl _, fun _ => Nat.le_refl _⟩
  · have := h i (by omega)
    omega
/-- ratios by products: a over b, all below positive -/
theorem ratio_trans {a b c d e f : Int} (hd : 0 < d) (hb : 0 < b) (hf : 0 < f) (h1 : a * d ≤ c * b) (h2 : c * f ≤ e * d) : a * f ≤ e * b ∧ (a * f = e * b → a * d = c * b ∧ c * f = e * d) := by
  have m1 := Int.mul_le_mul_of_nonneg_right h1 (Int.le_of_lt hf)
  have m2 := Int.mul_le_mul_of_nonneg_right h2 (Int.le_of_lt hb)
  have e1 : a * d * f = a * f * d := by grind
  have e2 : c * b * f = c * f * b := by grind
  have e3 : e * d * b = e * b * d := by grind
  rw [e1, e2] at m1
  rw [e3] at m2
  have h3 : a * f * d ≤ e * b * d := Int.le_trans m1 m2
  refine ⟨Int.le_of_mul_le_mul_right h3 hd, fun q => ?_⟩
  have q2 : a * f * d = e * b * d := by rw [q]
  constructor
  · have : a * d * f = c * b * f := by rw [e1, e2]; omega
    exact Int.eq_of_mul_eq_mul_right (by omega) this
  · have : c * f * b = e * d * b := by rw [e3]; omega
    exact Int.eq_of_mul_eq_mul_right (by omega) this
theorem lv_near {P : Dt.Lp} {B F : List Nat} {l k r : Nat} (hk : k < P.m) (h : LvI P B l k (some r)) (h0 : 0 < P.T B k l) : LvI P B l (k + 1) (some (if nearer P B F l k r = true then k else r)) := by
  obtain ⟨h1, h2, h3⟩ := h
  unfold nearer
  by_cases lt : P.T B k P.rhs * P.T B r l < P.T B r P.rhs * P.T B k l
  · rw [decide_eq_true lt, Bool.true_or, if_pos rfl]
    refine ⟨hk, h0, fun i hi hp => ?_⟩
    by_cases e : i = k
    · rw [e]; exact ⟨Int.le_refl _, fun _ => Nat.le_refl _⟩
    · obtain ⟨q1, q2⟩ := h3 i (by omega) hp
      obtain ⟨t1, t2⟩ := ratio_trans h2 h0 hp (Int.le_of_lt lt) q1
      exact ⟨t1, fun e => by have := (t2 e).1; omega⟩
  · rw [decide_eq_false lt, Bool.false_or]
    by_cases eq : P.T B k P.rhs * P.T B r l = P.T B r P.rhs * P.T B k l
    · rw [decide_eq_true eq, Bool.true_and]
      by_cases lb : B.getD k 0 < B.getD r 0
      · rw [decide_eq_true lb, if_pos rfl]
        refine ⟨hk, h0, fun i hi hp => ?_⟩
        by_cases e : i = k
        · rw [e]; exact ⟨Int.le_refl _, fun _ => Nat.le_refl _⟩
        · obtain ⟨q1, q2⟩ := h3 i (by omega) hp
          obtain ⟨t1, t2⟩ := ratio_trans h2 h0 hp (Int.le_of_eq eq) q1
          exact ⟨t1, fun e => Nat.le_trans (Nat.le_of_lt lb) (q2 (t2 e).2)⟩
      · rw [decide_eq_false lb, if_neg (by decide)]
        refine ⟨h1, h2, fun i hi hp => ?_⟩
        by_cases e : i = k
        · rw [e]; exact ⟨by omega, fun _ => by omega⟩
        · exact h3 i (by omega) hp
    · rw [decide_eq_false eq, Bool.false_and, if_neg (by decide)]
      refine ⟨h1, h2, fun i hi hp => ?_⟩
      by_cases e : i = k
      · rw [e]; exact ⟨by omega, fun e => absurd e.symm eq⟩
      · exact h3 i (by omega) hp
def S_Table_leaving {G : Type} : Spec (G × OS) := fun as g T U => match as with
  | [.vv (.ref p), .dt (.int c)] => ∃ (P : Dt.Lp) (B F : List Nat) (c' l : Nat), c = (c' : Nat) ∧ TabA g.2 p P B F ∧ P.Good B F ∧ Sml P ∧ P.m ≤ 1000 ∧ F[c']? = some l ∧ ∀ b, LvI P B l P.m b → T (.dt (optD b)) g
  | _ => False
theorem ok_Table_leaving {P : Program} {w : World} {K : PySem.W.Frag} {mg : Str → Option Value} {base : Heap} {k : Nat} {tp : Addr} (D : DfnM K mg "Table" "leaving" "Table.leaving" s_Table_leaving ["self", "column"]) (f_Table_is_nearer : OkM P w K mg base k "Table" "is_nearer" ["self", "number", "best", "column"] (spZ (ZS mg (ZTab tp qT (ZT K))) S_Table_is_nearer)) (z_range : mg "range" = none) (z_len : mg "len" = none) (q_Table : ClsX K mg "Table") (q_Table_bound : FldX K mg "Table" "bound") (q_Table_rows : FldX K mg "Table" "rows") : OkM P w K mg base (k + 1) "Table" "leaving" ["self", "column"] (spZ (ZS mg (ZTab tp qT (ZT K))) S_Table_leaving) := by
  refine D.ok c_Table_leaving (fun as g T U h => by unfold S_Table_leaving at h; split at h <;> first | rfl | cases h) (by decide) fun fa cdv A outer s' H E hr => ⟨_, _, (s_cons (s_set 2 c_Table_leaving.nd e_non)
      (s_cons (s_for (i_rng1 z_range (a_cons (e_callB k_lenO (a_cons (e_fldO "Table" L_Table 1 fa_Table_bound q_Table q_Table_bound (e_v 0)) a_nil) z_len rfl) a_nil)) (g_name 3 c_Table_leaving.nd) (s_cons (s_set 4 c_Table_leaving.nd (e_ixO hr.units (e_fldO "Table" L_Table 2 fa_Table_rows q_Table q_Table_rows (e_v 0)) (e_v 3)))
      (s_one (s_if (t_w (w_and (t_cmp c_gt (e_ixO hr.units (e_v 4) (e_v 1)) e_int) (w_and1 (t_w (w_or (t_cmp c_is (e_v 2) e_non) (w_or1 (t_val (e_methO let_n L_Table f_Table_is_nearer hr q_Table (by decide) (e_v 0) (a_cons (e_v 3) (a_cons (e_v 2) (a_cons (e_v 1) a_nil))))))))))) (s_one (s_set 2 c_Table_leaving.nd (e_v 3))) s_nil))))
      (s_one (s_ret (e_v 2))))), ?_⟩
  intro as g T U h
  unfold S_Table_leaving at h
  clear hr f_Table_is_nearer
  split at h
  · rename_i p c
    obtain ⟨P, B, F, c, l, rfl, hA, hG, hS, hm, hc, h⟩ := h
    obtain ⟨pf, pb, pr, ra, hT⟩ := id hA
    have hcn : c < P.n := by rw [← hG.f]; exact (List.getElem?_eq_some_iff.mp hc).1
    walk_at "w"
    refine insK_of hT.t ?_
    walk_at "w"
    refine lsK_of hT.b ?_
    walk_at "w"
    rw [natC_len, hG.b]
    refine rgK_of (by omega) (by omega) ?_
    rw [rngD_nat]
    walk_at "w"
    refine ⟨⟨fun k ρ' g' => Hold (g' = g ∧ ∃ (b : Option Nat) (s3 s4 : Sl), ρ' = [.vv (.ref p), .dt (.int (c : Nat)), .dt (optD b), s3, s4] ∧ LvI P B l k b), hold ⟨rfl, none, _, _, rfl, fun i hi => by omega⟩, fun k d ρ' g' hk hI => ?_, fun ρ' g' hI => ?_⟩⟩
    · obtain ⟨rfl, b, s3, s4, rfl, hL⟩ := hI.h
      rw [List.getElem?_map] at hk
      obtain ⟨i, hi, rfl⟩ := Option.map_eq_some_iff.mp hk
      obtain ⟨hkl, rfl⟩ : k < P.m ∧ i = k := by
        obtain ⟨h1, h2⟩ := List.getElem?_eq_some_iff.mp hi
        rw [List.length_range] at h1
        exact ⟨h1, by simpa using h2.symm⟩
      walk_at "w"
      refine insK_of hT.t ?_
      walk_at "w"
      refine lsK_of hT.r (opK_of (rng_at ra (Nat.le_of_lt hkl)) ?_)
      walk_at "w"
      refine lsK_of (hT.w i (Nat.le_of_lt hkl)) ?_
      refine opK_of (row_at _ (Nat.le_of_lt hcn)) ?_
      rw [Dt.Lp.tb_at hc]
      walk_at "w"
      refine ifb_of (fun q => ?_) (fun q => ?_)
      · have q : 0 < P.T B i l := of_decide_eq_true q
        cases b with
        | none =>
          walk_at "w"
          exact hold ⟨rfl, some i, _, _, rfl, lv_first hkl hL q⟩
        | some r =>
          have hn := lv_near (F := F) hkl hL q
          walk_at "w"
          refine insK_of hT.t ?_
          walk_at "w"
          refine ⟨P, B, F, i, r, c, l, rfl, rfl, rfl, hA, hG, hS, hkl, hL.1, hc, ?_⟩
          walk_at "w"
          refine ifb_of (fun q2 => ?_) (fun q2 => ?_)
          · rw [if_pos q2] at hn
            walk_at "w"
            exact hold ⟨rfl, some i, _, _, rfl, hn⟩
          · rw [if_neg (by rw [q2]; decide)] at hn
            walk_at "w"
            exact hold ⟨rfl, some r, _, _, rfl, hn⟩
      · have q : ¬ 0 < P.T B i l := of_decide_eq_false q
        walk_at "w"
        exact hold ⟨rfl, b, _, _, rfl, lv_keep hL (by omega)⟩
    · obtain ⟨rfl, b, s3, s4, rfl, hL⟩ := hI.h
      rw [List.length_map, List.length_range] at hL
      walk_at "w"
      exact h b hL
  · cases h
abbrev s_Table_exchange : Stmt := inClass (topS 12) 4
theorem c_Table_exchange : FnScope ["self", "number", "column", "here", "pivot", "at", "row", "factor", "place"] ["self", "number", "column"] (defScope s_Table_exchange) := ⟨rfl, rfl, rfl, by decide +kernel, rfl, by decide +kernel, by decide +kernel⟩
/-- the rows while they are exchanged: k of them done, of the next one j numbers -/
def exT (P : Dt.Lp) (B F : List Nat) (r c l q k j : Nat) : Nat → Nat → Int := fun i t =>
  if i = r then P.tb B F i t else if i < k ∨ i = k ∧ t < j ∧ t ≠ c then P.tb (B.set r l) (F.set c q) i t else P.tb B F i t
theorem tb_set {P : Dt.Lp} {F : List Nat} {c q t : Nat} (B' : List Nat) (h : t ≠ c) (i : Nat) : P.tb B' (F.set c q) i t = P.tb B' F i t := by
  unfold Dt.Lp.tb
  by_cases e : t < F.length
  · rw [List.getElem?_append_left (by rw [List.length_set]; exact e), List.getElem?_append_left e, List.getElem?_set_ne (by omega)]
  · rw [List.getElem?_append_right (by rw [List.length_set]; omega), List.getElem?_append_right (by omega), List.length_set]
theorem tb_new {P : Dt.Lp} {B F : List Nat} {r c q l : Nat} (G : P.Good B F) (hq : B[r]? = some q) (hl : F[c]? = some l) {i t : Nat} (hi : i ≤ P.m) (ne : i ≠ r) (h : t ≠ c) : (P.tb B F i t * P.T B r l - P.T B i l * P.tb B F r t) / P.D B = P.tb (B.set r l) (F.set c q) i t := by
  rw [tb_set _ h]
  unfold Dt.Lp.tb
  rw [← Dt.Lp.piv_i G hq hi ne, Int.mul_ediv_cancel_left _ (by have := G.d; omega)]
theorem tb_c {P : Dt.Lp} {F : List Nat} {c q l : Nat} (B' : List Nat) (hl : F[c]? = some l) (i : Nat) : P.tb B' (F.set c q) i c = P.T B' i q := Dt.Lp.tb_at (List.getElem?_set_self (List.getElem?_eq_some_iff.mp hl).1) i
theorem lt_1001 {a : Int} (h : a.natAbs ≤ 2 ^ 1000) : a < 2 ^ 1001 := Int.lt_of_le_of_lt (Int.le_trans Int.le_natAbs (Int.ofNat_le.mpr h)) (by decide)
theorem ex_0 {P : Dt.Lp} {B F : List Nat} {r c l q i t : Nat} : P.tb B F i t = exT P B F r c l q 0 0 i t := by
  unfold exT
  split
  · rfl
  · rw [if_neg (by omega)]
theorem ex_at {P : Dt.Lp} {B F : List Nat} {r c l q k j t : Nat} (h : j ≤ t ∨ t = c) : exT P B F r c l q k j k t = P.tb B F k t := by
  unfold exT
  split
  · rfl
  · rw [if_neg (by omega)]
theorem ex_r {P : Dt.Lp} {B F : List Nat} {r c l q k j t : Nat} : exT P B F r c l q k j r t = P.tb B F r t := by
  unfold exT
  rw [if_pos rfl]
theorem ex_skip {P : Dt.Lp} {B F : List Nat} {r c l q i t : Nat} : exT P B F r c l q r 0 i t = exT P B F r c l q (r + 1) 0 i t := by
  unfold exT
  split
  · rfl
  · by_cases h : i < r
    · rw [if_pos (.inl h), if_pos (.inl (by omega))]
    · rw [if_neg (by omega), if_neg (by omega)]
theorem ex_c {P : Dt.Lp} {B F : List Nat} {r c l q k i t : Nat} : exT P B F r c l q k c i t = exT P B F r c l q k (c + 1) i t := by
  unfold exT
  split
  · rfl
  · by_cases h : i < k ∨ i = k ∧ t < c ∧ t ≠ c
    · rw [if_pos h, if_pos (by omega)]
    · rw [if_neg h, if_neg (by omega)]
theorem ex_put {P : Dt.Lp} {B F : List Nat} {r c l q k j i t : Nat} (hk : k ≠ r) (hj : j ≠ c) : (if i = k then (fun x => if x = j then P.tb (B.set r l) (F.set c q) k j else exT P B F r c l q k j k x) else exT P B F r c l q k j i) t = exT P B F r c l q k (j + 1) i t := by
  by_cases e : i = k
  · subst e
    rw [if_pos rfl]
    show (if t = j then _ else _) = _
    by_cases e2 : t = j
    · subst e2
      rw [if_pos rfl]
      unfold exT
      rw [if_neg hk, if_pos (by omega)]
    · rw [if_neg e2]
      unfold exT
      rw [if_neg hk, if_neg hk]
      by_cases h : i < i ∨ i = i ∧ t < j ∧ t ≠ c
      · rw [if_pos h, if_pos (by omega)]
      · rw [if_neg h, if_neg (by omega)]
  · rw [if_neg e]
    unfold exT
    split
    · rfl
    · by_cases h : i < k
      · rw [if_pos (.inl h), if_pos (.inl h)]
      · rw [if_neg (by omega), if_neg (by omega)]
theorem ex_end {P : Dt.Lp} {B F : List Nat} {r c l q k i t : Nat} (G : P.Good B F) (hq : B[r]? = some q) (hl : F[c]? = some l) (hk : k ≠ r) (hkm : k ≤ P.m) (ht : t ≤ P.n) : (if i = k then (fun x => if x = c then - P.T B k l else exT P B F r c l q k (P.n + 1) k x) else exT P B F r c l q k (P.n + 1) i) t = exT P B F r c l q (k + 1) 0 i t := by
  by_cases e : i = k
  · subst e
    rw [if_pos rfl]
    show (if t = c then _ else _) = _
    by_cases e2 : t = c
    · subst e2
      rw [if_pos rfl]
      unfold exT
      rw [if_neg hk, if_pos (by omega), tb_c _ hl, Dt.Lp.piv_back G hq hkm hk]
    · rw [if_neg e2]
      unfold exT
      rw [if_neg hk, if_neg hk, if_pos (by omega), if_pos (by omega)]
  · rw [if_neg e]
    unfold exT
    split
    · rfl
    · by_cases h : i < k
      · rw [if_pos (.inl h), if_pos (.inl (by omega))]
      · rw [if_neg (by omega), if_neg (by omega)]
theorem ex_fin {P : Dt.Lp} {B F : List Nat} {r c l q i t : Nat} (G : P.Good B F) (hq : B[r]? = some q) (hl : F[c]? = some l) (hi : i ≤ P.m) : (if i = r then (fun x => if x = c then P.D B else exT P B F r c l q (P.m + 1) 0 r x) else exT P B F r c l q (P.m + 1) 0 i) t = P.tb (B.set r l) (F.set c q) i t := by
  by_cases e : i = r
  · subst e
    rw [if_pos rfl]
    show (if t = c then _ else _) = _
    by_cases e2 : t = c
    · subst e2
      rw [if_pos rfl, tb_c _ hl, Dt.Lp.piv_back_r G hq]
    · rw [if_neg e2, ex_r, tb_set _ e2]
      unfold Dt.Lp.tb
      rw [Dt.Lp.piv_r G hq]
  · rw [if_neg e]
    unfold exT
    rw [if_neg e, if_pos (.inl (by omega))]
def S_Table_exchange {G : Type} : Spec (G × OS) := fun as g T U => match as with
  | [.vv (.ref p), .dt (.int i), .dt (.int c)] => ∃ (P : Dt.Lp) (B F : List Nat) (r c' q l : Nat), i = (r : Nat) ∧ c = (c' : Nat) ∧ TabA g.2 p P B F ∧ P.Good B F ∧ Sml P ∧ P.n ≤ 1000 ∧ P.m ≤ 1000 ∧ B[r]? = some q ∧ F[c']? = some l ∧ P.Good (B.set r l) (F.set c' q) ∧ ∀ g', g'.1 = g.1 → TabA g'.2 p P (B.set r l) (F.set c' q) → T (.dt .none) g'
  | _ => False
theorem ok_Table_exchange {P : Program} {w : World} {K : PySem.W.Frag} {mg : Str → Option Value} {base : Heap} {k : Nat} {tp : Addr} (D : DfnM K mg "Table" "exchange" "Table.exchange" s_Table_exchange ["self", "number", "column"]) (z_enumerate : mg "enumerate" = none) (z_range : mg "range" = none) (z_len : mg "len" = none) (q_Table : ClsX K mg "Table") (q_Table_rows : FldX K mg "Table" "rows") (q_Table_divisor : FldX K mg "Table" "divisor") (q_Table_free : FldX K mg "Table" "free") (q_Table_bound : FldX K mg "Table" "bound") : OkM P w K mg base (k + 1) "Table" "exchange" ["self", "number", "column"] (spZ (ZS mg (ZTab tp qT (ZT K))) S_Table_exchange) := by
  refine D.ok c_Table_exchange (fun as g T U h => by unfold S_Table_exchange at h; split at h <;> first | rfl | cases h) (by decide) fun fa cdv A outer s' H E hr => ⟨_, _, (s_cons (s_set 3 c_Table_exchange.nd (e_ixO hr.units (e_fldO "Table" L_Table 2 fa_Table_rows q_Table q_Table_rows (e_v 0)) (e_v 1)))
      (s_cons (s_set 4 c_Table_exchange.nd (e_ixO hr.units (e_v 3) (e_v 2)))
      (s_cons (s_forE 5 6 c_Table_exchange.nd z_enumerate (e_fldO "Table" L_Table 2 fa_Table_rows q_Table q_Table_rows (e_v 0)) (s_one (s_if (t_cmp (c_ne hr.units) (e_v 5) (e_v 1)) (s_cons (s_set 7 c_Table_exchange.nd (e_ixO hr.units (e_v 6) (e_v 2)))
      (s_cons (s_for (i_rng1 z_range (a_cons (e_callB k_lenO (a_cons (e_v 6) a_nil) z_len rfl) a_nil)) (g_name 8 c_Table_exchange.nd) (s_one (s_if (t_cmp (c_ne hr.units) (e_v 8) (e_v 2)) (s_one (s_ixO (e_v 6) (e_v 8) (e_op b_div (e_op b_sub (e_op b_mul (e_ixO hr.units (e_v 6) (e_v 8)) (e_v 4)) (e_op b_mul (e_v 7) (e_ixO hr.units (e_v 3) (e_v 8)))) (e_fldO "Table" L_Table 3 fa_Table_divisor q_Table q_Table_divisor (e_v 0))))) s_nil)))
      (s_one (s_ixO (e_v 6) (e_v 2) (e_un u_neg (e_v 7)))))) s_nil)))
      (s_cons (s_ixO (e_v 3) (e_v 2) (e_fldO "Table" L_Table 3 fa_Table_divisor q_Table q_Table_divisor (e_v 0)))
      (s_cons (s_fldO "Table" L_Table 3 fa_Table_divisor q_Table q_Table_divisor (e_v 0) (e_v 4))
      (s_one (s_asg (e_tup (a_cons (e_ixO hr.units (e_fldO "Table" L_Table 1 fa_Table_bound q_Table q_Table_bound (e_v 0)) (e_v 1)) (a_cons (e_ixO hr.units (e_fldO "Table" L_Table 0 fa_Table_free q_Table q_Table_free (e_v 0)) (e_v 2)) a_nil))) (g_tup (n := 2) (gs_cons (g_subO (e_fldO "Table" L_Table 0 fa_Table_free q_Table q_Table_free (e_v 0)) (e_v 2)) (gs_cons (g_subO (e_fldO "Table" L_Table 1 fa_Table_bound q_Table q_Table_bound (e_v 0)) (e_v 1)) gs_nil)))))))))), ?_⟩
  intro as g T U h
  unfold S_Table_exchange at h
  clear hr
  split at h
  · rename_i p i c
    obtain ⟨P, B, F, r, c, q, l, rfl, rfl, hA, hG, hS, hn, hm, hq, hl, hG2, h⟩ := h
    obtain ⟨pf, pb, pr, ra, hT⟩ := id hA
    have hcn : c < P.n := by rw [← hG.f]; exact (List.getElem?_eq_some_iff.mp hl).1
    have hrm : r < P.m := by rw [← hG.b]; exact (List.getElem?_eq_some_iff.mp hq).1
    have hl1 : l ≤ P.rhs := by
      have := hG.lab.mp (.inl (List.mem_of_getElem? hl))
      unfold Dt.Lp.rhs
      omega
    have hD0 := hG.d
    have hDm := hS.D hG
    walk_at "w"
    refine insK_of hT.t ?_
    walk_at "w"
    refine lsK_of hT.r (opK_of (rng_at ra (Nat.le_of_lt hrm)) ?_)
    walk_at "w"
    refine lsK_of (hT.w r (Nat.le_of_lt hrm)) (opK_of (row_at _ (Nat.le_of_lt hcn)) ?_)
    rw [Dt.Lp.tb_at hl]
    walk_at "w"
    refine insK_of hT.t ?_
    walk_at "w"
    refine lsK_of hT.r ?_
    walk_at "w"
    refine ⟨⟨fun k ρ' g' => Hold (g'.1 = g.1 ∧ ∃ s5 s6 s7 s8 : Sl, ρ' = [.vv (.ref p), .dt (.int (r : Nat)), .dt (.int (c : Nat)), .vv (.ref (ra r)), .dt (.int (P.T B r l)), s5, s6, s7, s8] ∧ TabW g'.2 p pf pb pr ra P.n P.m (P.D B) F B (exT P B F r c l q k 0)),
      hold ⟨rfl, _, _, _, _, rfl, hT.congr fun i j hi hj => ex_0⟩, fun k ρ' g' hI => ?_, fun k cc ρ' g' hk hI => ?_, fun ρ' g' hI => ?_⟩⟩
    · obtain ⟨_, s5, s6, s7, s8, rfl, hW⟩ := hI.h
      exact hW.r
    · obtain ⟨hg, s5, s6, s7, s8, rfl, hW⟩ := hI.h
      have hkm : k ≤ P.m := by
        have := (List.getElem?_eq_some_iff.mp hk).1
        rw [rngA_len] at this
        omega
      rw [rngA_get ra hkm] at hk
      cases hk
      walk_at "w"
      by_cases e : k = r
      · subst e
        rw [decide_eq_true rfl]
        exact hold ⟨hg, _, _, _, _, rfl, hW.congr fun i t _ _ => ex_skip⟩
      · rw [decide_eq_false (by omega)]
        walk_at "w"
        refine lsK_of (hW.w k hkm) (opK_of (row_at _ (Nat.le_of_lt hcn)) ?_)
        rw [ex_at (.inr rfl), Dt.Lp.tb_at hl]
        walk_at "w"
        refine lsK_of (hW.w k hkm) ?_
        rw [rowC_len]
        walk_at "w"
        refine rgK_of (by omega) (by omega) ?_
        refine ⟨⟨fun j ρ' g' => Hold (g'.1 = g.1 ∧ ∃ s8 : Sl, ρ' = [.vv (.ref p), .dt (.int (r : Nat)), .dt (.int (c : Nat)), .vv (.ref (ra r)), .dt (.int (P.T B r l)), .dt (.int (k : Nat)), .vv (.ref (ra k)), .dt (.int (P.T B k l)), s8] ∧ TabW g'.2 p pf pb pr ra P.n P.m (P.D B) F B (exT P B F r c l q k j)), hold ⟨hg, _, rfl, hW⟩, fun j dj ρ' g' hj hI => ?_, fun ρ' g' hI => ?_⟩⟩
        · obtain ⟨hg, s8, rfl, hW⟩ := hI.h
          obtain ⟨rfl, hjn⟩ := rngD_inv hj
          rw [Int.zero_add]
          have hjn : j ≤ P.n := by omega
          walk_at "w"
          by_cases e2 : j = c
          · subst e2
            rw [decide_eq_true rfl]
            exact hold ⟨hg, _, rfl, hW.congr fun i t _ _ => ex_c⟩
          · rw [decide_eq_false (by omega)]
            walk_at "w"
            refine lsK_of (hW.w k hkm) (opK_of (row_at _ hjn) ?_)
            rw [ex_at (.inl (Nat.le_refl _))]
            walk_at "w"
            refine mlK_of (mul_1000 (hS.tb hG k j) (hS.T hG r hl1)) ?_
            walk_at "w"
            refine lsK_of (hW.w r (Nat.le_of_lt hrm)) (opK_of (row_at _ hjn) ?_)
            rw [ex_r]
            walk_at "w"
            refine mlK_of (mul_1000 (hS.T hG k hl1) (hS.tb hG r j)) ?_
            walk_at "w"
            refine insK_of hW.t ?_
            walk_at "w"
            refine dvK_of ⟨hD0, log_pow (a := 1001) hD0 (lt_1001 hDm) (by decide)⟩ ?_
            walk_at "w"
            refine lsK_of (hW.w k hkm) ?_
            refine opK_of (a := j) (by rw [rowC_len]; exact ixN_n (by omega)) ?_
            rw [rowC_set]
            have hW2 := hW.putRow hkm (fun x => if x = j then P.tb (B.set r l) (F.set c q) k j else exT P B F r c l q k j k x)
            rw [← tb_new hG hq hl hkm e e2] at hW2
            refine hold ⟨hg, _, rfl, hW2.congr fun i t _ ht => ?_⟩
            rw [tb_new hG hq hl hkm e e2]
            exact ex_put e e2
        · obtain ⟨hg, s8, rfl, hW⟩ := hI.h
          walk_at "w"
          rw [show (rngD 0 ((P.n + 1 : Nat) : Int).toNat).length = P.n + 1 by simp [rngD]] at hW
          refine lsK_of (hW.w k hkm) ?_
          refine opK_of (a := c) (by rw [rowC_len]; exact ixN_n (by omega)) ?_
          rw [rowC_set]
          walk_at "w"
          have hW2 := hW.putRow hkm (fun x => if x = c then - P.T B k l else exT P B F r c l q k (P.n + 1) k x)
          exact hold ⟨hg, _, _, _, _, rfl, hW2.congr fun i t _ ht => ex_end hG hq hl e hkm ht⟩
    · obtain ⟨hg, s5, s6, s7, s8, rfl, hW⟩ := hI.h
      rw [rngA_len] at hW
      walk_at "w"
      refine insK_of hW.t ?_
      walk_at "w"
      refine lsK_of (hW.w r (Nat.le_of_lt hrm)) ?_
      refine opK_of (a := c) (by rw [rowC_len]; exact ixN_n (by omega)) ?_
      rw [rowC_set]
      have hW2 := hW.putRow (Nat.le_of_lt hrm) (fun x => if x = c then P.D B else exT P B F r c l q (P.m + 1) 0 r x)
      have hW3 := (hW2.congr fun i t hi _ => ex_fin hG hq hl hi)
      have hfc := (List.getElem?_eq_some_iff.mp hl).1
      have hbr := (List.getElem?_eq_some_iff.mp hq).1
      refine insK_of hW3.t ?_
      have hW4 := hW3.putD (P.T B r l)
      rw [← Dt.Lp.piv_D hG hq] at hW4 ⊢
      walk_at "w"
      refine insK_of hW4.t ?_
      walk_at "w"
      refine lsK_of hW4.b (opK_of (nat_at hq) ?_)
      walk_at "w"
      refine insK_of hW4.t ?_
      walk_at "w"
      refine lsK_of hW4.f (opK_of (nat_at hl) ?_)
      walk_at "w"
      refine insK_of hW4.t ?_
      walk_at "w"
      refine lsK_of hW4.f ?_
      refine opK_of (a := c) (by rw [natC_len]; exact ixN_n hfc) ?_
      rw [natC_set]
      have hW5 := hW4.putF (F.set c q)
      walk_at "w"
      refine insK_of hW5.t ?_
      walk_at "w"
      refine lsK_of hW5.b ?_
      refine opK_of (a := r) (by rw [natC_len]; exact ixN_n hbr) ?_
      rw [natC_set]
      have hW6 := hW5.putB (B.set r l)
      exact h _ hg ⟨pf, pb, pr, ra, hW6⟩
  · cases h
abbrev s_Table_solve : Stmt := inClass (topS 12) 5
theorem c_Table_solve : FnScope ["self", "column", "number"] ["self"] (defScope s_Table_solve) := ⟨rfl, rfl, rfl, by decide +kernel, rfl, by decide +kernel, by decide +kernel⟩
/-- the column that would come in -/
def EntI (P : Dt.Lp) (B F : List Nat) (d : PyData) : Prop := (d = .none ∧ ∀ k ∈ F, 0 ≤ P.T B P.m k) ∨ ∃ c l : Nat, d = .int (c : Nat) ∧ F[c]? = some l ∧ P.T B P.m l < 0 ∧ ∀ k ∈ F, P.T B P.m k < 0 → l ≤ k
theorem ent_step {P : Dt.Lp} {B F : List Nat} {c l r : Nat} (G : P.Good B F) (hc : F[c]? = some l) (hn : P.T B P.m l < 0) (hf : ∀ k ∈ F, P.T B P.m k < 0 → l ≤ k) (h : LvI P B l P.m (some r)) : ∃ q, P.Stp B F r c q l := by
  obtain ⟨h1, h2, h3⟩ := h
  have hr : r < B.length := by rw [G.b]; exact h1
  refine ⟨B[r], List.getElem?_eq_getElem hr, hc, hn, hf, h2, fun i hi hp => (h3 i hi hp).1, fun i b hi hb hp he => ?_⟩
  have := (h3 i hi hp).2 he
  rw [List.getD_eq_getElem?_getD, List.getD_eq_getElem?_getD, List.getElem?_eq_getElem hr, hb] at this
  exact this
def S_Table_solve {G : Type} : Spec (G × OS) := fun as g T U => match as with
  | [.vv (.ref p)] => ∃ P : Dt.Lp, TabA g.2 p P P.B0 P.F0 ∧ (∀ i, i < P.m → 0 ≤ P.sd i) ∧ Sml P ∧ P.n ≤ 1000 ∧ P.m ≤ 1000 ∧ ∀ g' B F, g'.1 = g.1 → TabA g'.2 p P B F → P.Good B F →
      ((∀ k ∈ F, 0 ≤ P.T B P.m k) → T (.dt .none) g') ∧ ∀ c l : Nat, F[c]? = some l → P.T B P.m l < 0 → (∀ i, i < P.m → P.T B i l ≤ 0) → T (.dt (.int (c : Nat))) g'
  | _ => False
theorem ok_Table_solve {P : Program} {w : World} {K : PySem.W.Frag} {mg : Str → Option Value} {base : Heap} {k : Nat} {tp : Addr} (D : DfnM K mg "Table" "solve" "Table.solve" s_Table_solve ["self"]) (f_Table_entering : OkM P w K mg base k "Table" "entering" ["self"] (spZ (ZS mg (ZTab tp qT (ZT K))) S_Table_entering)) (f_Table_leaving : OkM P w K mg base k "Table" "leaving" ["self", "column"] (spZ (ZS mg (ZTab tp qT (ZT K))) S_Table_leaving)) (f_Table_exchange : OkM P w K mg base k "Table" "exchange" ["self", "number", "column"] (spZ (ZS mg (ZTab tp qT (ZT K))) S_Table_exchange)) (q_Table : ClsX K mg "Table") : OkM P w K mg base (k + 1) "Table" "solve" ["self"] (spZ (ZS mg (ZTab tp qT (ZT K))) S_Table_solve) := by
  refine D.ok c_Table_solve (fun as g T U h => by unfold S_Table_solve at h; split at h <;> first | rfl | cases h) (by decide) fun fa cdv A outer s' H E hr => ⟨_, _, (s_cons (s_set 1 c_Table_solve.nd (e_methO0 let_n L_Table f_Table_entering hr q_Table (by decide) (e_v 0)))
      (s_cons (s_while (t_cmp c_isN (e_v 1) e_non) (s_cons (s_set 2 c_Table_solve.nd (e_methO let_n L_Table f_Table_leaving hr q_Table (by decide) (e_v 0) (a_cons (e_v 1) a_nil)))
      (s_cons (s_if (t_cmp c_is (e_v 2) e_non) (s_one (s_ret (e_v 1))) s_nil)
      (s_cons (s_expr (e_methO let_n L_Table f_Table_exchange hr q_Table (by decide) (e_v 0) (a_cons (e_v 2) (a_cons (e_v 1) a_nil))))
      (s_one (s_set 1 c_Table_solve.nd (e_methO0 let_n L_Table f_Table_entering hr q_Table (by decide) (e_v 0))))))))
      (s_one (s_ret e_non)))), ?_⟩
  intro as g T U h
  unfold S_Table_solve at h
  clear hr f_Table_entering f_Table_leaving f_Table_exchange
  split at h
  · rename_i p
    obtain ⟨P, hA, hs, hS, hn, hm, h⟩ := h
    have g0 := Dt.Lp.good0 P hs
    obtain ⟨pf, pb, pr, ra, hT⟩ := id hA
    walk_at "w"
    refine insK_of hT.t ?_
    walk_at "w"
    suffices loop : ∀ d, EntI P P.B0 P.F0 d → WhileP _ _ _ [Sl.vv (.ref p), .dt d, .un] g by
      refine ⟨P, P.B0, P.F0, hA, g0, hn, fun h1 => ?_, fun c l h1 h2 h3 => ?_⟩
      · walk_at "w"
        exact loop _ (.inl ⟨rfl, h1⟩)
      · walk_at "w"
        exact loop _ (.inr ⟨_, _, rfl, h1, h2, h3⟩)
    intro d hd
    refine ⟨⟨fun m ρ' g' => Hold (∃ d s2 B F k, ρ' = [Sl.vv (.ref p), .dt d, s2] ∧ P.Chn k B F ∧ m = P.kk - k ∧ g'.1 = g.1 ∧ TabA g'.2 p P B F ∧ EntI P B F d), ⟨_, hold ⟨d, _, P.B0, P.F0, 0, rfl, Dt.Lp.chn0 P, rfl, rfl, hA, hd⟩⟩, fun m ρ' g' hI => ?_⟩⟩
    obtain ⟨d, s2, B, F, k, rfl, hC, rfl, hg, hA, hE⟩ := hI.h
    have hG := Dt.Lp.chn_good g0 hC
    have hlt := Dt.Lp.chn_lt g0 hC
    obtain ⟨ex1, ex2⟩ := h g' B F hg hA hG
    obtain ⟨pf, pb, pr, ra, hT⟩ := id hA
    rcases hE with ⟨rfl, hE⟩ | ⟨c, l, rfl, hc, hneg, hfst⟩
    · walk_at "w"
      exact ex1 hE
    · walk_at "w"
      refine insK_of hT.t ?_
      walk_at "w"
      refine ⟨P, B, F, c, l, rfl, hA, hG, hS, hm, hc, fun b hL => ?_⟩
      cases b with
      | none =>
        walk_at "w"
        exact ex2 c l hc hneg hL
      | some r =>
        obtain ⟨q, S⟩ := ent_step hG hc hneg hfst hL
        walk_at "w"
        refine insK_of hT.t ?_
        walk_at "w"
        refine ⟨P, B, F, r, c, q, l, rfl, rfl, hA, hG, hS, hn, hm, S.hq, S.hl, S.good hG, fun g2 hg2 hA2 => ?_⟩
        have hC2 := hC.step S
        have hlt2 := Dt.Lp.chn_lt g0 hC2
        walk_at "w"
        obtain ⟨pf2, pb2, pr2, ra2, hT2⟩ := id hA2
        refine insK_of hT2.t ?_
        walk_at "w"
        refine ⟨P, _, _, hA2, Dt.Lp.chn_good g0 hC2, hn, fun h1 => ?_, fun c2 l2 h1 h2 h3 => ?_⟩
        · walk_at "w"
          exact ⟨P.kk - (k + 1), by omega, hold ⟨_, _, _, _, k + 1, rfl, hC2, rfl, hg2.trans hg, hA2, .inl ⟨rfl, h1⟩⟩⟩
        · walk_at "w"
          exact ⟨P.kk - (k + 1), by omega, hold ⟨_, _, _, _, k + 1, rfl, hC2, rfl, hg2.trans hg, hA2, .inr ⟨_, _, rfl, h1, h2, h3⟩⟩⟩
  · cases h
abbrev s_Table_unknowns : Stmt := inClass (topS 12) 6
theorem c_Table_unknowns : FnScope ["self", "many", "found", "number", "unknown"] ["self", "many"] (defScope s_Table_unknowns) := ⟨rfl, rfl, rfl, by decide +kernel, rfl, by decide +kernel, by decide +kernel⟩
def S_Table_unknowns {G : Type} : Spec (G × OS) := fun as g T U => match as with
  | [.vv (.ref p), .dt (.int mn)] => ∃ (P : Dt.Lp) (B F : List Nat), mn = (P.n : Nat) ∧ TabA g.2 p P B F ∧ P.Good B F ∧ P.n ≤ 1000 ∧ P.m ≤ 1000 ∧ ∀ g' q, g'.1 = g.1 → OKp g.2 g'.2 → OS.look g.2 q = none → OS.look g'.2 q = some (.ls (zlC P.n (P.X B))) → T (.vv (.ref q)) g'
  | _ => False
theorem ok_Table_unknowns {P : Program} {w : World} {K : PySem.W.Frag} {mg : Str → Option Value} {base : Heap} {k : Nat} {tp : Addr} (D : DfnM K mg "Table" "unknowns" "Table.unknowns" s_Table_unknowns ["self", "many"]) (z_enumerate : mg "enumerate" = none) (q_Table : ClsX K mg "Table") (q_Table_bound : FldX K mg "Table" "bound") (q_Table_rows : FldX K mg "Table" "rows") : OkM P w K mg base (k + 1) "Table" "unknowns" ["self", "many"] (spZ (ZS mg (ZTab tp qT (ZT K))) S_Table_unknowns) := by
  refine D.ok c_Table_unknowns (fun as g T U h => by unfold S_Table_unknowns at h; split at h <;> first | rfl | cases h) (by decide) fun fa cdv A outer s' H E hr => ⟨_, _, (s_cons (s_set 2 c_Table_unknowns.nd (e_adopt (e_op b_mul (e_lst (a_cons e_int a_nil)) (e_v 1))))
      (s_cons (s_forE 3 4 c_Table_unknowns.nd z_enumerate (e_fldO "Table" L_Table 1 fa_Table_bound q_Table q_Table_bound (e_v 0)) (s_one (s_if (t_cmp c_lt (e_v 4) (e_v 1)) (s_one (s_ixO (e_v 2) (e_v 4) (e_ixO hr.units (e_ixO hr.units (e_fldO "Table" L_Table 2 fa_Table_rows q_Table q_Table_rows (e_v 0)) (e_v 3)) (e_un u_neg e_int)))) s_nil)))
      (s_one (s_ret (e_v 2))))), ?_⟩
  intro as g T U h
  unfold S_Table_unknowns at h
  clear hr
  split at h
  · rename_i p mn
    obtain ⟨P, B, F, rfl, hA, hG, hn, hm, h⟩ := h
    obtain ⟨pf, pb, pr, ra, hT⟩ := id hA
    walk_at "w"
    refine ⟨⟨by omega, by omega, by show 1 * ((P.n : Nat) : Int).toNat ≤ _; omega⟩, ?_⟩
    walk_at "w"
    intro q hq
    have hq : OS.look g.2 q = none := hq
    rw [show ((List.replicate ((P.n : Nat) : Int).toNat [PyData.int 0]).flatten).map Cell.d = zlC P.n (PSm B (fun i => P.T B i P.rhs) 0) by
      rw [show (List.replicate ((P.n : Nat) : Int).toNat [PyData.int 0]).flatten = List.replicate P.n (PyData.int 0) by simp]
      exact zero_cells P.n _ fun _ => rfl]
    have hO : OKp g.2 ((q, OO.ls (zlC P.n (PSm B (fun i => P.T B i P.rhs) 0))) :: g.2) := OKp.new hq
    walk_at "w"
    refine insK_of (tabW_ext hT hO).t ?_
    walk_at "w"
    refine lsK_of (tabW_ext hT hO).b ?_
    walk_at "w"
    refine ⟨⟨fun k ρ' g' => Hold (g'.1 = g.1 ∧ OKp g.2 g'.2 ∧ OS.look g'.2 q = some (.ls (zlC P.n (PSm B (fun i => P.T B i P.rhs) k))) ∧ ∃ s3 s4 : Sl, ρ' = [.vv (.ref p), .dt (.int (P.n : Nat)), .vv (.ref q), s3, s4]),
      hold ⟨rfl, hO, OS.look_new, _, _, rfl⟩, fun k ρ' g' hI => ?_, fun k cc ρ' g' hk hI => ?_, fun ρ' g' hI => ?_⟩⟩
    · obtain ⟨_, hO, _⟩ := hI.h
      exact (tabW_ext hT hO).b
    · obtain ⟨hg, hO, hL, s3, s4, rfl⟩ := hI.h
      have hkl : k < B.length := by
        have := (List.getElem?_eq_some_iff.mp hk).1
        rwa [natC_len] at this
      rw [natC_get (List.getElem?_eq_getElem hkl)] at hk
      cases hk
      have hT' := tabW_ext hT hO
      have stp := fun u => PSm_step (List.nodup_append.mp hG.nd).2.1 (w := fun i => P.T B i P.rhs) (List.getElem?_eq_getElem hkl) u
      walk_at "w"
      refine ifb_of (fun q2 => ?_) (fun q2 => ?_)
      · have q2 : ((B[k] : Nat) : Int) < (P.n : Nat) := of_decide_eq_true q2
        walk_at "w"
        refine insK_of hT'.t ?_
        walk_at "w"
        refine lsK_of hT'.r (opK_of (rng_at ra (by rw [hG.b] at hkl; omega)) ?_)
        walk_at "w"
        refine lsK_of (hT'.w k (by rw [hG.b] at hkl; omega)) (opK_of (row_last _ _) ?_)
        rw [Dt.Lp.tb_rhs hG.f]
        walk_at "w"
        refine lsK_of hL ?_
        refine opK_of (a := B[k]) (by rw [zlC_len]; exact ixN_n (by omega)) ?_
        rw [zlC_set]
        refine hold ⟨hg, hO.put hq hL, ?_, _, _, rfl⟩
        rw [OS.put_self hL]
        exact congrArg some (congrArg OO.ls (zlC_congr fun u _ => (stp u).symm))
      · have q2 : ¬ ((B[k] : Nat) : Int) < (P.n : Nat) := of_decide_eq_false q2
        walk_at "w"
        refine hold ⟨hg, hO, ?_, _, _, rfl⟩
        rw [hL]
        exact congrArg some (congrArg OO.ls (zlC_congr fun u hu => by rw [stp u, if_neg (by omega)]))
    · obtain ⟨hg, hO, hL, s3, s4, rfl⟩ := hI.h
      rw [natC_len, hG.b] at hL
      walk_at "w"
      exact h g' q hg hO hq hL
  · cases h
abbrev s_Table_side_prices : Stmt := inClass (topS 12) 7
theorem c_Table_side_prices : FnScope ["self", "many", "rows", "found", "column", "unknown"] ["self", "many", "rows"] (defScope s_Table_side_prices) := ⟨rfl, rfl, rfl, by decide +kernel, rfl, by decide +kernel, by decide +kernel⟩
def S_Table_side_prices {G : Type} : Spec (G × OS) := fun as g T U => match as with
  | [.vv (.ref p), .dt (.int mn), .dt (.int rn)] => ∃ (P : Dt.Lp) (B F : List Nat), mn = (P.n : Nat) ∧ rn = (P.m : Nat) ∧ TabA g.2 p P B F ∧ P.Good B F ∧ P.n ≤ 1000 ∧ P.m ≤ 1000 ∧ ∀ g' q, g'.1 = g.1 → OKp g.2 g'.2 → OS.look g.2 q = none → OS.look g'.2 q = some (.ls (zlC P.m (P.Y B))) → T (.vv (.ref q)) g'
  | _ => False
theorem sp_end {P : Dt.Lp} {B F : List Nat} (G : P.Good B F) {t : Nat} (ht : t < P.m) : PSm F (fun i => P.T B P.m (F[i]?.getD 0)) P.n (P.n + t) = P.Y B t := by
  have nd := (List.nodup_append.mp G.nd).1
  by_cases hm : P.n + t ∈ F
  · obtain ⟨i, hi, e⟩ := List.getElem_of_mem hm
    have hi2 : F[i]? = some (P.n + t) := by rw [List.getElem?_eq_getElem hi, e]
    rw [PSm_at nd hi2 P.n (by rw [← G.f]; exact hi) (by rw [G.f]; exact Nat.le_refl _), hi2]
    rfl
  · rw [PSm_zero (by rw [G.f]; exact Nat.le_refl _) (fun z => hm (List.mem_of_mem_take z))]
    have hB : P.n + t ∈ B := (G.lab.mpr (by omega)).resolve_left hm
    obtain ⟨i, hi, e⟩ := List.getElem_of_mem hB
    exact (G.rep (Nat.le_refl _) (by rw [List.getElem?_eq_getElem hi, e]) (by rw [G.b] at hi; omega)).symm
theorem ok_Table_side_prices {P : Program} {w : World} {K : PySem.W.Frag} {mg : Str → Option Value} {base : Heap} {k : Nat} {tp : Addr} (D : DfnM K mg "Table" "side_prices" "Table.side_prices" s_Table_side_prices ["self", "many", "rows"]) (z_enumerate : mg "enumerate" = none) (q_Table : ClsX K mg "Table") (q_Table_free : FldX K mg "Table" "free") (q_Table_rows : FldX K mg "Table" "rows") : OkM P w K mg base (k + 1) "Table" "side_prices" ["self", "many", "rows"] (spZ (ZS mg (ZTab tp qT (ZT K))) S_Table_side_prices) := by
  refine D.ok c_Table_side_prices (fun as g T U h => by unfold S_Table_side_prices at h; split at h <;> first | rfl | cases h) (by decide) fun fa cdv A outer s' H E hr => ⟨_, _, (s_cons (s_set 3 c_Table_side_prices.nd (e_adopt (e_op b_mul (e_lst (a_cons e_int a_nil)) (e_v 2))))
      (s_cons (s_forE 4 5 c_Table_side_prices.nd z_enumerate (e_fldO "Table" L_Table 0 fa_Table_free q_Table q_Table_free (e_v 0)) (s_one (s_if (t_cmp c_ge (e_v 5) (e_v 1)) (s_one (s_ixO (e_v 3) (e_op b_sub (e_v 5) (e_v 1)) (e_ixO hr.units (e_ixO hr.units (e_fldO "Table" L_Table 2 fa_Table_rows q_Table q_Table_rows (e_v 0)) (e_un u_neg e_int)) (e_v 4)))) s_nil)))
      (s_one (s_ret (e_v 3))))), ?_⟩
  intro as g T U h
  unfold S_Table_side_prices at h
  clear hr
  split at h
  · rename_i p mn rn
    obtain ⟨P, B, F, rfl, rfl, hA, hG, hn, hm, h⟩ := h
    obtain ⟨pf, pb, pr, ra, hT⟩ := id hA
    walk_at "w"
    refine ⟨⟨by omega, by omega, by show 1 * ((P.m : Nat) : Int).toNat ≤ _; omega⟩, ?_⟩
    walk_at "w"
    intro q hq
    have hq : OS.look g.2 q = none := hq
    have zc : ((List.replicate ((P.m : Nat) : Int).toNat [PyData.int 0]).flatten).map Cell.d = zlC P.m (fun t => PSm F (fun i => P.T B P.m (F[i]?.getD 0)) 0 (P.n + t)) := by
      rw [show (List.replicate ((P.m : Nat) : Int).toNat [PyData.int 0]).flatten = List.replicate P.m (PyData.int 0) by simp]
      exact zero_cells P.m _ fun _ => rfl
    rw [zc]
    have hO : OKp g.2 ((q, OO.ls (zlC P.m (fun t => PSm F (fun i => P.T B P.m (F[i]?.getD 0)) 0 (P.n + t)))) :: g.2) := OKp.new hq
    walk_at "w"
    refine insK_of (tabW_ext hT hO).t ?_
    walk_at "w"
    refine lsK_of (tabW_ext hT hO).f ?_
    walk_at "w"
    refine ⟨⟨fun k ρ' g' => Hold (g'.1 = g.1 ∧ OKp g.2 g'.2 ∧ OS.look g'.2 q = some (.ls (zlC P.m (fun t => PSm F (fun i => P.T B P.m (F[i]?.getD 0)) k (P.n + t)))) ∧ ∃ s3 s4 : Sl, ρ' = [.vv (.ref p), .dt (.int (P.n : Nat)), .dt (.int (P.m : Nat)), .vv (.ref q), s3, s4]),
      hold ⟨rfl, hO, OS.look_new, _, _, rfl⟩, fun k ρ' g' hI => ?_, fun k cc ρ' g' hk hI => ?_, fun ρ' g' hI => ?_⟩⟩
    · obtain ⟨_, hO, _⟩ := hI.h
      exact (tabW_ext hT hO).f
    · obtain ⟨hg, hO, hL, s3, s4, rfl⟩ := hI.h
      have hkl : k < F.length := by
        have := (List.getElem?_eq_some_iff.mp hk).1
        rwa [natC_len] at this
      have hkf : F[k]? = some F[k] := List.getElem?_eq_getElem hkl
      rw [natC_get hkf] at hk
      cases hk
      have hT' := tabW_ext hT hO
      have stp := fun u => PSm_step (List.nodup_append.mp hG.nd).1 (w := fun i => P.T B P.m (F[i]?.getD 0)) hkf u
      have hlab : F[k] < P.n + P.m := hG.lab.mp (.inl (List.mem_of_getElem? hkf))
      walk_at "w"
      refine ifb_of (fun q2 => ?_) (fun q2 => ?_)
      · have q2 : (P.n : Nat) ≤ ((F[k] : Nat) : Int) := of_decide_eq_true q2
        walk_at "w"
        refine insK_of hT'.t ?_
        walk_at "w"
        refine lsK_of hT'.r (opK_of (rng_last _ _) ?_)
        walk_at "w"
        refine lsK_of (hT'.w P.m (Nat.le_refl _)) (opK_of (row_at _ (by rw [hG.f] at hkl; omega)) ?_)
        rw [Dt.Lp.tb_at hkf]
        walk_at "w"
        refine lsK_of hL ?_
        refine opK_of (a := F[k] - P.n) (by rw [zlC_len, show ((F[k] : Nat) : Int) - (P.n : Nat) = ((F[k] - P.n : Nat) : Int) by omega]; exact ixN_n (by omega)) ?_
        rw [zlC_set]
        refine hold ⟨hg, hO.put hq hL, ?_, _, _, rfl⟩
        rw [OS.put_self hL]
        refine congrArg some (congrArg OO.ls (zlC_congr fun u _ => ?_))
        rw [stp (P.n + u), hkf]
        by_cases e : u = F[k] - P.n
        · rw [if_pos e, if_pos (by omega)]; rfl
        · rw [if_neg e, if_neg (by omega)]
      · have q2 : ¬ (P.n : Nat) ≤ ((F[k] : Nat) : Int) := of_decide_eq_false q2
        walk_at "w"
        refine hold ⟨hg, hO, ?_, _, _, rfl⟩
        rw [hL]
        exact congrArg some (congrArg OO.ls (zlC_congr fun u hu => by rw [stp (P.n + u), if_neg (by omega)]))
    · obtain ⟨hg, hO, hL, s3, s4, rfl⟩ := hI.h
      rw [natC_len, hG.f, zlC_congr fun u hu => sp_end hG hu] at hL
      walk_at "w"
      exact h g' q hg hO hq hL
  · cases h
abbrev s_Table_way_up : Stmt := inClass (topS 12) 8
theorem c_Table_way_up : FnScope ["self", "many", "column", "found", "number", "unknown"] ["self", "many", "column"] (defScope s_Table_way_up) := ⟨rfl, rfl, rfl, by decide +kernel, rfl, by decide +kernel, by decide +kernel⟩
def S_Table_way_up {G : Type} : Spec (G × OS) := fun as g T U => match as with
  | [.vv (.ref p), .dt (.int mn), .dt (.int c)] => ∃ (P : Dt.Lp) (B F : List Nat) (c' l : Nat), mn = (P.n : Nat) ∧ c = (c' : Nat) ∧ F[c']? = some l ∧ TabA g.2 p P B F ∧ P.Good B F ∧ P.n ≤ 1000 ∧ P.m ≤ 1000 ∧ ∀ g' q, g'.1 = g.1 → OKp g.2 g'.2 → OS.look g.2 q = none → OS.look g'.2 q = some (.ls (zlC P.n (P.U B l))) → T (.vv (.ref q)) g'
  | _ => False
theorem ok_Table_way_up {P : Program} {w : World} {K : PySem.W.Frag} {mg : Str → Option Value} {base : Heap} {k : Nat} {tp : Addr} (D : DfnM K mg "Table" "way_up" "Table.way_up" s_Table_way_up ["self", "many", "column"]) (z_enumerate : mg "enumerate" = none) (q_Table : ClsX K mg "Table") (q_Table_free : FldX K mg "Table" "free") (q_Table_divisor : FldX K mg "Table" "divisor") (q_Table_bound : FldX K mg "Table" "bound") (q_Table_rows : FldX K mg "Table" "rows") : OkM P w K mg base (k + 1) "Table" "way_up" ["self", "many", "column"] (spZ (ZS mg (ZTab tp qT (ZT K))) S_Table_way_up) := by
  refine D.ok c_Table_way_up (fun as g T U h => by unfold S_Table_way_up at h; split at h <;> first | rfl | cases h) (by decide) fun fa cdv A outer s' H E hr => ⟨_, _, (s_cons (s_set 3 c_Table_way_up.nd (e_adopt (e_op b_mul (e_lst (a_cons e_int a_nil)) (e_v 1))))
      (s_cons (s_if (t_cmp c_lt (e_ixO hr.units (e_fldO "Table" L_Table 0 fa_Table_free q_Table q_Table_free (e_v 0)) (e_v 2)) (e_v 1)) (s_one (s_ixO (e_v 3) (e_ixO hr.units (e_fldO "Table" L_Table 0 fa_Table_free q_Table q_Table_free (e_v 0)) (e_v 2)) (e_fldO "Table" L_Table 3 fa_Table_divisor q_Table q_Table_divisor (e_v 0)))) s_nil)
      (s_cons (s_forE 4 5 c_Table_way_up.nd z_enumerate (e_fldO "Table" L_Table 1 fa_Table_bound q_Table q_Table_bound (e_v 0)) (s_one (s_if (t_cmp c_lt (e_v 5) (e_v 1)) (s_one (s_ixO (e_v 3) (e_v 5) (e_un u_neg (e_ixO hr.units (e_ixO hr.units (e_fldO "Table" L_Table 2 fa_Table_rows q_Table q_Table_rows (e_v 0)) (e_v 4)) (e_v 2))))) s_nil)))
      (s_one (s_ret (e_v 3)))))), ?_⟩
  intro as g T U h
  unfold S_Table_way_up at h
  clear hr
  split at h
  · rename_i p mn c
    obtain ⟨P, B, F, c, l, rfl, rfl, hc, hA, hG, hn, hm, h⟩ := h
    obtain ⟨pf, pb, pr, ra, hT⟩ := id hA
    have hcn : c < P.n := by rw [← hG.f]; exact (List.getElem?_eq_some_iff.mp hc).1
    walk_at "w"
    refine ⟨⟨by omega, by omega, by show 1 * ((P.n : Nat) : Int).toNat ≤ _; omega⟩, ?_⟩
    walk_at "w"
    intro q hq
    have hq : OS.look g.2 q = none := hq
    rw [show ((List.replicate ((P.n : Nat) : Int).toNat [PyData.int 0]).flatten).map Cell.d = zlC P.n (fun _ => 0) by
      rw [show (List.replicate ((P.n : Nat) : Int).toNat [PyData.int 0]).flatten = List.replicate P.n (PyData.int 0) by simp]
      exact zero_cells P.n _ fun _ => rfl]
    have hO : OKp g.2 ((q, OO.ls (zlC P.n (fun _ => 0))) :: g.2) := OKp.new hq
    have hT' := tabW_ext hT hO
    have nd := List.nodup_append.mp hG.nd
    walk_at "w"
    refine insK_of hT'.t ?_
    walk_at "w"
    refine lsK_of hT'.f (opK_of (nat_at hc) ?_)
    walk_at "w"
    by_cases hln : l < P.n
    rw [show (fun (i j : Int) => decide (i < j)) ((l : Nat) : Int) ((P.n : Nat) : Int) = true from decide_eq_true (by omega)]
    walk_at "w"
    refine insK_of hT'.t ?_
    walk_at "w"
    refine insK_of hT'.t ?_
    walk_at "w"
    refine lsK_of hT'.f (opK_of (nat_at hc) ?_)
    walk_at "w"
    refine lsK_of (OS.look_new) ?_
    refine opK_of (a := l) (by rw [zlC_len]; exact ixN_n (by omega)) ?_
    rw [zlC_set]
    have hO2 := hO.put (y := .ls (zlC P.n (fun k => if k = l then P.D B else 0))) hq OS.look_new
    have hL2 := OS.put_self (y := .ls (zlC P.n (fun k => if k = l then P.D B else 0))) (OS.look_new (b := q) (x := OO.ls (zlC P.n (fun _ => 0))) (o := g.2))
    have ez : (zlC P.n fun k => if k = l then P.D B else 0) = zlC P.n (fun u => (if l = u then P.D B else 0) + PSm B (fun i => - P.T B i l) 0 u) := zlC_congr fun u _ => by
      show _ = (if l = u then P.D B else 0) + 0
      rw [Int.add_zero]
      by_cases e : u = l
      · rw [if_pos e, if_pos e.symm]
      · rw [if_neg e, if_neg (fun z => e z.symm)]
    rw [ez] at hO2 hL2 ⊢
    rotate_left 1
    rw [show (fun (i j : Int) => decide (i < j)) ((l : Nat) : Int) ((P.n : Nat) : Int) = false from decide_eq_false (by omega)]
    have hO2 := hO
    have hL2 := (OS.look_new (b := q) (x := OO.ls (zlC P.n (fun _ => 0))) (o := g.2))
    have ez : (zlC P.n fun _ => 0) = zlC P.n (fun u => (if l = u then P.D B else 0) + PSm B (fun i => - P.T B i l) 0 u) := zlC_congr fun u _ => by
      show _ = (if l = u then P.D B else 0) + 0
      rw [Int.add_zero, if_neg (by omega)]
    rw [ez] at hO2 hL2 ⊢
    all_goals
      walk_at "w"
      refine insK_of (tabW_ext hT hO2).t ?_
      walk_at "w"
      refine lsK_of (tabW_ext hT hO2).b ?_
      walk_at "w"
      refine ⟨⟨fun k ρ' g' => Hold (g'.1 = g.1 ∧ OKp g.2 g'.2 ∧ OS.look g'.2 q = some (.ls (zlC P.n (fun u => (if l = u then P.D B else 0) + PSm B (fun i => - P.T B i l) k u))) ∧ ∃ s3 s4 : Sl, ρ' = [.vv (.ref p), .dt (.int (P.n : Nat)), .dt (.int (c : Nat)), .vv (.ref q), s3, s4]),
        hold ⟨rfl, hO2, hL2, _, _, rfl⟩, fun k ρ' g' hI => ?_, fun k cc ρ' g' hk hI => ?_, fun ρ' g' hI => ?_⟩⟩
      · obtain ⟨_, hO, _⟩ := hI.h
        exact (tabW_ext hT hO).b
      · obtain ⟨hg, hO, hL, s3, s4, rfl⟩ := hI.h
        have hkl : k < B.length := by
          have := (List.getElem?_eq_some_iff.mp hk).1
          rwa [natC_len] at this
        have hkb : B[k]? = some B[k] := List.getElem?_eq_getElem hkl
        rw [natC_get hkb] at hk
        cases hk
        have hT' := tabW_ext hT hO
        have stp := fun u => PSm_step nd.2.1 (w := fun i => - P.T B i l) hkb u
        have ne : l ≠ B[k] := fun e => nd.2.2 l (List.mem_of_getElem? hc) B[k] (List.mem_of_getElem? hkb) e
        walk_at "w"
        refine ifb_of (fun q2 => ?_) (fun q2 => ?_)
        · have q2 : ((B[k] : Nat) : Int) < (P.n : Nat) := of_decide_eq_true q2
          walk_at "w"
          refine insK_of hT'.t ?_
          walk_at "w"
          refine lsK_of hT'.r (opK_of (rng_at ra (by rw [hG.b] at hkl; omega)) ?_)
          walk_at "w"
          refine lsK_of (hT'.w k (by rw [hG.b] at hkl; omega)) (opK_of (row_at _ (Nat.le_of_lt hcn)) ?_)
          rw [Dt.Lp.tb_at hc]
          walk_at "w"
          refine lsK_of hL ?_
          refine opK_of (a := B[k]) (by rw [zlC_len]; exact ixN_n (by omega)) ?_
          rw [zlC_set]
          refine hold ⟨hg, hO.put hq hL, ?_, _, _, rfl⟩
          rw [OS.put_self hL]
          refine congrArg some (congrArg OO.ls (zlC_congr fun u _ => ?_))
          rw [stp u]
          by_cases e : u = B[k]
          · rw [if_pos e, if_pos e, if_neg (by omega), Int.zero_add]
          · rw [if_neg e, if_neg e]
        · have q2 : ¬ ((B[k] : Nat) : Int) < (P.n : Nat) := of_decide_eq_false q2
          walk_at "w"
          refine hold ⟨hg, hO, ?_, _, _, rfl⟩
          rw [hL]
          exact congrArg some (congrArg OO.ls (zlC_congr fun u hu => by rw [stp u, if_neg (show ¬ u = B[k] by omega)]))
      · obtain ⟨hg, hO, hL, s3, s4, rfl⟩ := hI.h
        rw [natC_len, hG.b] at hL
        walk_at "w"
        exact h g' q hg hO hq hL
  · cases h
abbrev s_solved : Stmt := topS 13
theorem c_solved : FnScope ["rows", "sides", "goal", "table", "column", "told"] ["rows", "sides", "goal"] (defScope s_solved) := ⟨rfl, rfl, rfl, by decide +kernel, rfl, by decide +kernel, by decide +kernel⟩
def S_solved {G : Type} : Spec (G × OS) := fun as g T U => match as with
  | [.dt r, .dt s, .dt gl] => ∃ P : Dt.Lp, LpD P r s gl ∧ (∀ i, i < P.m → 0 ≤ P.sd i) ∧ Sml P ∧ P.n ≤ 1000 ∧ P.m ≤ 1000 ∧ ∀ B F, P.Good B F →
      ((∀ k ∈ F, 0 ≤ P.T B P.m k) → ∀ g' t q1 q2, g'.1 = g.1 → OS.look g'.2 t = some (.tp [.d (.str "most"), .d (.int (P.D B)), .r q1, .r q2, .d (.int (P.T B P.m P.rhs))]) → OS.look g'.2 q1 = some (.ls (zlC P.n (P.X B))) → OS.look g'.2 q2 = some (.ls (zlC P.m (P.Y B))) → q1 ≠ q2 → T (.vv (.ref t)) g') ∧
      (∀ c l : Nat, F[c]? = some l → P.T B P.m l < 0 → (∀ i, i < P.m → P.T B i l ≤ 0) → ∀ g' t q, g'.1 = g.1 → OS.look g'.2 t = some (.tp [.d (.str "up"), .r q]) → OS.look g'.2 q = some (.ls (zlC P.n (P.U B l))) → T (.vv (.ref t)) g')
  | _ => False
theorem ok_solved {P : Program} {w : World} {K : PySem.W.Frag} {mg : Str → Option Value} {base : Heap} {k : Nat} {tp : Addr} (D : Dfn K mg "solved" s_solved ["rows", "sides", "goal"]) (f_Table_solve : OkM P w K mg base (k + 1) "Table" "solve" ["self"] (spZ (ZS mg (ZTab tp qT (ZT K))) S_Table_solve)) (f_Table_way_up : OkM P w K mg base (k + 1) "Table" "way_up" ["self", "many", "column"] (spZ (ZS mg (ZTab tp qT (ZT K))) S_Table_way_up)) (f_Table_unknowns : OkM P w K mg base (k + 1) "Table" "unknowns" ["self", "many"] (spZ (ZS mg (ZTab tp qT (ZT K))) S_Table_unknowns)) (f_Table_side_prices : OkM P w K mg base (k + 1) "Table" "side_prices" ["self", "many", "rows"] (spZ (ZS mg (ZTab tp qT (ZT K))) S_Table_side_prices)) (f_Table___init__ : OkM P w K mg base k "Table" "__init__" ["self", "rows", "sides", "goal"] (spZ (ZS mg (ZTab tp qT (ZT K))) S_Table___init__)) (z_len : mg "len" = none) (q_Table : ClsX K mg "Table") (q_Table_rows : FldX K mg "Table" "rows") (q_Table_divisor : FldX K mg "Table" "divisor") (y_Table : MkX K mg "Table") : Ok P w K mg base ((k + 1) + 1) "solved" ["rows", "sides", "goal"] (spZ (ZS mg (ZTab tp qT (ZT K))) S_solved) := by
  refine D.ok c_solved (fun as g T U h => by unfold S_solved at h; split at h <;> first | rfl | cases h) (by decide) fun fa cdv A outer s' H E hr => ⟨_, _, (s_cons (s_set 3 c_solved.nd (e_makeO let_n L_Table f_Table___init__ hr y_Table (a_cons (e_v 0) (a_cons (e_v 1) (a_cons (e_v 2) a_nil)))))
      (s_cons (s_set 4 c_solved.nd (e_methO0 let_n L_Table f_Table_solve hr q_Table (by decide) (e_v 3)))
      (s_cons (s_if (t_cmp c_isN (e_v 4) e_non) (s_one (s_ret (e_tupO (a_cons e_str (a_cons (e_methO let_n L_Table f_Table_way_up hr q_Table (by decide) (e_v 3) (a_cons (e_callB k_len (a_cons (e_v 2) a_nil) z_len rfl) (a_cons (e_v 4) a_nil))) a_nil))))) s_nil)
      (s_cons (s_set 5 c_solved.nd (e_methO let_n L_Table f_Table_unknowns hr q_Table (by decide) (e_v 3) (a_cons (e_callB k_len (a_cons (e_v 2) a_nil) z_len rfl) a_nil)))
      (s_one (s_ret (e_tupO (a_cons e_str (a_cons (e_fldO "Table" L_Table 3 fa_Table_divisor q_Table q_Table_divisor (e_v 3)) (a_cons (e_v 5) (a_cons (e_methO let_n L_Table f_Table_side_prices hr q_Table (by decide) (e_v 3) (a_cons (e_callB k_len (a_cons (e_v 2) a_nil) z_len rfl) (a_cons (e_callB k_len (a_cons (e_v 0) a_nil) z_len rfl) a_nil))) (a_cons (e_ixO hr.units (e_ixO hr.units (e_fldO "Table" L_Table 2 fa_Table_rows q_Table q_Table_rows (e_v 3)) (e_un u_neg e_int)) (e_un u_neg e_int)) a_nil)))))))))))), ?_⟩
  intro as g T U h
  unfold S_solved at h
  clear hr f_Table_solve f_Table_way_up f_Table_unknowns f_Table_side_prices f_Table___init__
  split at h
  · rename_i r s gl
    obtain ⟨P, hd, hs, hS, hn, hm, h⟩ := h
    obtain ⟨rfl, rfl, rfl⟩ := id hd
    walk_at "w"
    intro p hp
    refine ⟨P, rfl, rfl, rfl, hn, hm, OS.look_new, fun g1 hg1 hA => ?_⟩
    refine ⟨rfl, ?_⟩
    walk_at "w"
    obtain ⟨pf, pb, pr, ra, hT⟩ := id hA
    refine insK_of hT.t ?_
    walk_at "w"
    refine ⟨P, hA, hs, hS, hn, hm, fun g2 B F hg2 hA2 hG2 => ⟨fun hc => ?_, fun c l hc hneg hle => ?_⟩⟩
    · obtain ⟨pf, pb, pr, ra, hT⟩ := id hA2
      walk_at "w"
      refine insK_of hT.t ?_
      walk_at "w"
      rw [List.length_map, List.length_range]
      refine ⟨P, B, F, rfl, hA2, hG2, hn, hm, fun g3 q1 hg3 ok3 hq1 hL1 => ?_⟩
      have hT3 := tabW_ext hT ok3
      have hA3 := tabA_ext hA2 ok3
      walk_at "w"
      refine insK_of hT3.t ?_
      walk_at "w"
      refine insK_of hT3.t ?_
      walk_at "w"
      rw [List.length_map, List.length_range, List.length_map, List.length_range]
      refine ⟨P, B, F, rfl, rfl, hA3, hG2, hn, hm, fun g4 q2 hg4 ok4 hq2 hL2 => ?_⟩
      have hT4 := tabW_ext hT3 ok4
      walk_at "w"
      refine insK_of hT4.t ?_
      walk_at "w"
      refine lsK_of hT4.r (opK_of (rng_last _ _) ?_)
      walk_at "w"
      refine lsK_of (hT4.w P.m (Nat.le_refl _)) (opK_of (row_last _ _) ?_)
      rw [Dt.Lp.tb_rhs hG2.f]
      walk_at "w"
      intro t ht
      have ht : OS.look g4.2 t = none := ht
      have ok5 := ok4.trans (OKp.new (x := OO.tp [Cell.d (.str "most"), .d (.int (P.D B)), .r q1, .r q2, .d (.int (P.T B P.m P.rhs))]) ht)
      exact (h B F hG2).1 hc _ t q1 q2 (hg4.trans (hg3.trans (hg2.trans hg1))) OS.look_new (ok5 _ _ hL1) (OS.look_old ht hL2) (fun e => by subst e; rw [hL1] at hq2; cases hq2)
    · obtain ⟨pf, pb, pr, ra, hT⟩ := id hA2
      walk_at "w"
      refine insK_of hT.t ?_
      walk_at "w"
      rw [List.length_map, List.length_range]
      refine ⟨P, B, F, c, l, rfl, rfl, hc, hA2, hG2, hn, hm, fun g3 q1 hg3 ok3 hq1 hL1 => ?_⟩
      walk_at "w"
      intro t ht
      have ht : OS.look g3.2 t = none := ht
      exact (h B F hG2).2 c l hc hneg hle _ t q1 (hg3.trans (hg2.trans hg1)) OS.look_new (OS.look_old ht hL1)
  · cases h
abbrev s_common : Stmt := topS 19
theorem c_common : FnScope ["numbers", "found", "number", "one"] ["numbers"] (defScope s_common) := ⟨rfl, rfl, rfl, by decide +kernel, rfl, by decide +kernel, by decide +kernel⟩
def S_common : Spec Unit := fun as g T U => match as with
  | [.dt (.list s)] => ∃ xs : List Int, s = xs.map PyData.int ∧ (∀ x ∈ xs, x.natAbs ≤ 2 ^ 1001) ∧ T (.dt (.int (gcdL xs : Nat))) g
  | _ => False
theorem ok_common {P : Program} {w : World} {K : PySem.W.Frag} {mg : Str → Option Value} {base : Heap} {k : Nat} (D : Dfn K mg "common" s_common ["numbers"]) (z_abs : mg "abs" = none) : Ok P w K mg base (k + 1) "common" ["numbers"] (spZ (Z0 K) S_common) := by
  refine D.ok c_common (fun as g T U h => by unfold S_common at h; split at h <;> first | rfl | cases h) (by decide) fun fa cdv A outer s' H E hr => ⟨_, _, (s_cons (s_set 1 c_common.nd e_int)
      (s_cons (s_for (i_seq (e_v 0)) (g_name 2 c_common.nd) (s_cons (s_set 3 c_common.nd (e_callB k_abs (a_cons (e_v 2) a_nil) z_abs rfl))
      (s_one (s_while (t_cmp c_gt (e_v 3) e_int) (s_one (s_par 1 3 c_common.nd (a_cons (e_v 3) (a_cons (e_op b_mod (e_v 1) (e_v 3)) a_nil))))))))
      (s_one (s_ret (e_v 1))))), ?_⟩
  intro as g T U h
  unfold S_common at h
  clear hr
  split at h
  · obtain ⟨xs, rfl, hb, h⟩ := h
    walk_at "w"
    refine ⟨fun k ρ' g' => Hold (g' = g ∧ ∃ s2 s3 : Sl, ρ' = [.dt (.list (xs.map PyData.int)), .dt (.int (gcdL (xs.take k) : Nat)), s2, s3]), hold ⟨rfl, _, _, rfl⟩, fun k d ρ' g' hk hI => ?_, fun ρ' g' hI => ?_⟩
    · obtain ⟨rfl, s2, s3, rfl⟩ := hI.h
      rw [List.getElem?_map] at hk
      obtain ⟨x, hx, rfl⟩ := Option.map_eq_some_iff.mp hk
      walk_at "w"
      refine ⟨⟨fun m ρ' g2 => Hold (g2 = g' ∧ ∃ a b : Nat, m = b ∧ Nat.gcd a b = gcdL (xs.take (k + 1)) ∧ ρ' = [.dt (.list (xs.map PyData.int)), .dt (.int (a : Nat)), .dt (.int x), .dt (.int (b : Nat))]), ⟨x.natAbs, hold ⟨rfl, gcdL (xs.take k), x.natAbs, rfl, ?_, ?_⟩⟩, fun m ρ' g2 hI => ?_⟩⟩
      · rw [List.take_add_one, hx, Option.toList_some, gcdL_snoc]
      · rw [show (if x < 0 then -x else x) = ((x.natAbs : Nat) : Int) by split <;> omega]; rfl
      · obtain ⟨rfl, a, b, e, hg, rfl⟩ := hI.h
        subst e
        walk_at "w"
        refine ifb_of (fun q => ?_) (fun q => ?_)
        · have q : (0 : Int) < (m : Nat) := of_decide_eq_true q
          walk_at "w"
          refine mdK_of (i := ((a : Nat) : Int)) q ?_
          walk_at "w"
          exact ⟨a % m, Nat.mod_lt _ (by omega), hold ⟨rfl, m, a % m, rfl, by rw [← hg, Nat.gcd_comm a m, Nat.gcd_rec m a, Nat.gcd_comm], rfl⟩⟩
        · have q : ¬ (0 : Int) < (m : Nat) := of_decide_eq_false q
          walk_at "w"
          obtain rfl : m = 0 := by omega
          rw [Nat.gcd_zero_right] at hg
          subst hg
          exact hold ⟨rfl, _, _, rfl⟩
    · obtain ⟨rfl, s2, s3, rfl⟩ := hI.h
      rw [List.length_map, List.take_length] at *
      walk_at "w"
      exact h
  · cases h
abbrev s_flow_rows : Stmt := topS 21
theorem c_flow_rows : FnScope ["book", "some", "rows", "p", "room", "k"] ["book", "some"] (defScope s_flow_rows) := ⟨rfl, rfl, rfl, by decide +kernel, rfl, by decide +kernel, by decide +kernel⟩
def S_flow_rows : Spec Unit := fun as g T U => match as with
  | [.dt b, .dt (.list s)] => ∃ (B : Book) (ns : List Int), b = B.d ∧ s = ns.map PyData.int ∧ FlOk B ns ∧ T (.nl (flowD B ns (B.purses.toNat + B.rooms.toNat))) g
  | _ => False
theorem ok_flow_rows {P : Program} {w : World} {K : PySem.W.Frag} {mg : Str → Option Value} {base : Heap} {k : Nat} (D : Dfn K mg "flow_rows" s_flow_rows ["book", "some"]) (z_range : mg "range" = none) (z_int : mg "int" = none) : Ok P w K mg base (k + 1) "flow_rows" ["book", "some"] (spZ (Z0 K) S_flow_rows) := by
  refine D.ok c_flow_rows (fun as g T U h => by unfold S_flow_rows at h; split at h <;> first | rfl | cases h) (by decide) fun fa cdv A outer s' H E hr => ⟨_, _, (s_cons (s_set 2 c_flow_rows.nd (e_lst a_nil))
      (s_cons (s_for (i_rng1 z_range (a_cons (e_ixX hr.units (e_v 0) e_int) a_nil)) (g_name 3 c_flow_rows.nd) (s_one (s_expr (e_ml PySem.F.slot_list_append PySem.F.type_list_append mt_append m_app 2 (a_cons (e_lc [("k", 5)] c_flow_rows.nd (i_seq (e_v 1)) (fun _ _ _ _ _ => (g_name 5 c_flow_rows.nd)) (own_name (by decide)) (fun _ _ _ _ _ => ts_nil) (fun _ _ _ _ _ => (e_un u_neg (e_ixX hr.units (e_ixX hr.units (e_ixX hr.units (e_ixX hr.units (e_v 0) e_int) (e_v 5)) e_int) (e_v 3))))) a_nil)))))
      (s_cons (s_for (i_rng1 z_range (a_cons (e_ixX hr.units (e_v 0) e_int) a_nil)) (g_name 4 c_flow_rows.nd) (s_one (s_expr (e_ml PySem.F.slot_list_append PySem.F.type_list_append mt_append m_app 2 (a_cons (e_lc [("k", 5)] c_flow_rows.nd (i_seq (e_v 1)) (fun _ _ _ _ _ => (g_name 5 c_flow_rows.nd)) (own_name (by decide)) (fun _ _ _ _ _ => ts_nil) (fun _ _ _ _ _ => (e_op b_sub (e_callTy k_int (a_cons (e_cmp (c_eq hr.units) (e_ixX hr.units (e_ixX hr.units (e_ixX hr.units (e_v 0) e_int) (e_v 5)) e_int) (e_v 4)) a_nil) z_int rfl) (e_callTy k_int (a_cons (e_cmp (c_eq hr.units) (e_ixX hr.units (e_ixX hr.units (e_ixX hr.units (e_v 0) e_int) (e_v 5)) e_int) (e_v 4)) a_nil) z_int rfl)))) a_nil)))))
      (s_one (s_ret (e_v 2)))))), ?_⟩
  intro as g T U h
  unfold S_flow_rows at h
  clear hr
  split at h
  · obtain ⟨B, ns, rfl, rfl, hF, h⟩ := h
    obtain ⟨mr, mw, hB, hmr⟩ := hF.ok
    have r0 := hB.r0
    have r1 := hB.r1
    have p0 := hB.p0
    have p1 := hB.p1
    walk_at "w"
    refine rgK_of (by omega) (by omega) ?_
    refine ⟨fun k ρ' g' => Hold (g' = g ∧ ∃ s3 s4 : Sl, ρ' = [.dt B.d, .dt (.list (ns.map PyData.int)), .ls (flowD B ns k), s3, s4, .un]), hold ⟨rfl, _, _, rfl⟩, fun k d ρ' g' hk hI => ?_, fun ρ' g' hI => ?_⟩
    · obtain ⟨rfl, s3, s4, rfl⟩ := hI.h
      obtain ⟨rfl, hkn⟩ := rngD_inv hk
      rw [Int.zero_add]
      walk_at "w"
      refine leK_of (by rw [List.length_map]; have := hF.n; omega) (lc_mapL (fun k' => .int (fwR B k k')) (by walk_at "lcw") (fun x hx C1 C0 q => ?_) ?_)
      · have hw := hF.w x hx
        have hl := (hB.w _ (wAt_mem hw)).len
        walk_at "w"
        refine opK_of (wAt_at hw) ?_
        walk_at "w"
        refine opK_of (atI_nat (v := PyData.int ((wAt B x).gs.getD k 0)) (by
          rw [List.getElem?_map, List.getElem?_eq_getElem (by omega), List.getD_eq_getElem?_getD, List.getElem?_eq_getElem (by omega)]; rfl)) ?_
        walk_at "w"
        have e : fwR B k x = -(wAt B x).gs.getD k 0 := by unfold fwR; rw [if_pos hkn]
        rw [e] at q
        exact q
      · walk_at "w"
        refine leK_of (by unfold flowD; rw [List.length_map, List.length_range]; omega) ?_
        walk_at "w"
        exact hold ⟨rfl, _, _, by rw [flowD_succ]; rfl⟩
    · obtain ⟨rfl, s3, s4, rfl⟩ := hI.h
      rw [rngD_len]
      walk_at "w"
      refine rgK_of (by omega) (by omega) ?_
      refine ⟨fun k ρ' g2 => Hold (g2 = g' ∧ ∃ s3 s4 : Sl, ρ' = [.dt B.d, .dt (.list (ns.map PyData.int)), .ls (flowD B ns (B.purses.toNat + k)), s3, s4, .un]), hold ⟨rfl, _, _, rfl⟩, fun k d ρ' g2 hk hI => ?_, fun ρ' g2 hI => ?_⟩
      · obtain ⟨rfl, s3, s4, rfl⟩ := hI.h
        obtain ⟨rfl, hkn⟩ := rngD_inv hk
        rw [Int.zero_add]
        walk_at "w"
        refine leK_of (by rw [List.length_map]; have := hF.n; omega) (lc_mapL (fun k' => .int (fwR B (B.purses.toNat + k) k')) (by walk_at "lcw") (fun x hx C1 C0 q => ?_) ?_)
        · have hw := hF.w x hx
          have e : fwR B (B.purses.toNat + k) x = (if (wAt B x).a = ((k : Nat) : Int) then 1 else 0) - (if (wAt B x).b = ((k : Nat) : Int) then 1 else 0) := by
            unfold fwR
            rw [if_neg (by omega), show B.purses.toNat + k - B.purses.toNat = k by omega]
          rw [e] at q
          walk_at "w"
          refine opK_of (wAt_at hw) ?_
          walk_at "w"
          refine opK_of (wAt_at hw) ?_
          walk_at "w"
          simp only [decide_eq_true_eq]
          exact q
        · walk_at "w"
          refine leK_of (by unfold flowD; rw [List.length_map, List.length_range]; omega) ?_
          walk_at "w"
          exact hold ⟨rfl, _, _, by rw [← Nat.add_assoc, flowD_succ]; rfl⟩
      · obtain ⟨rfl, s3, s4, rfl⟩ := hI.h
        rw [rngD_len]
        walk_at "w"
        exact h
  · cases h
abbrev s_lessened : Stmt := topS 20
theorem c_lessened : FnScope ["numbers", "divisor", "number"] ["numbers"] (defScope s_lessened) := ⟨rfl, rfl, rfl, by decide +kernel, rfl, by decide +kernel, by decide +kernel⟩
def S_lessened : Spec Unit := fun as g T U => match as with
  | [.dt (.list s)] => ∃ xs : List Int, s = xs.map PyData.int ∧ (∀ x ∈ xs, x.natAbs ≤ 2 ^ 1001) ∧ xs.length ≤ 100000 ∧ T (.nl ((lessL xs).map PyData.int)) g
  | _ => False
theorem ok_lessened {P : Program} {w : World} {K : PySem.W.Frag} {mg : Str → Option Value} {base : Heap} {k : Nat} (D : Dfn K mg "lessened" s_lessened ["numbers"]) (f_common : Ok P w K mg base k "common" ["numbers"] (spZ (Z0 K) S_common)) (z_max : mg "max" = none) : Ok P w K mg base (k + 1) "lessened" ["numbers"] (spZ (Z0 K) S_lessened) := by
  refine D.ok c_lessened (fun as g T U h => by unfold S_lessened at h; split at h <;> first | rfl | cases h) (by decide) fun fa cdv A outer s' H E hr => ⟨_, _, (s_cons (s_set 1 c_lessened.nd (e_callB k_max2 (a_cons e_int (a_cons (e_fn0U let_n f_common hr (a_cons (e_v 0) a_nil)) a_nil)) z_max rfl))
      (s_one (s_ret (e_lc [("number", 2)] c_lessened.nd (i_seq (e_v 0)) (fun _ _ _ _ _ => (g_name 2 c_lessened.nd)) (own_name (by decide)) (fun _ _ _ _ _ => ts_nil) (fun _ _ _ _ _ => (e_op b_div (e_v 2) (e_v 1))))))), ?_⟩
  intro as g T U h
  unfold S_lessened at h
  clear hr f_common
  split at h
  · obtain ⟨xs, rfl, hb, hl, h⟩ := h
    walk_at "w"
    refine ⟨xs, rfl, hb, ?_⟩
    have hM := gcdL_le hb
    have em : (if ((gcdL xs : Nat) : Int) > 1 then ((gcdL xs : Nat) : Int) else 1) = ((max 1 (gcdL xs) : Nat) : Int) := by split <;> omega
    have hk : ∀ (p : Prop) (x : Int), p → dvK x ((max 1 (gcdL xs) : Nat) : Int) p := fun p x hp => dvK_of ⟨by omega, by
      rw [Int.natAbs_natCast]
      have h1 : max 1 (gcdL xs) < 2 ^ 1002 := Nat.lt_of_le_of_lt (Nat.max_le.mpr ⟨Nat.one_le_two_pow, hM⟩) (Nat.pow_lt_pow_right (by decide) (by decide))
      exact Nat.lt_of_lt_of_le ((Nat.log2_lt (by omega)).mpr h1) (by decide)⟩ hp
    walk_at "w"
    rw [em]
    refine leK_of (by rw [List.length_map]; omega) (lc_mapL (fun x => .int (x / (max 1 (gcdL xs) : Nat))) (by walk_at "lcw") (fun x hx C1 C0 q => ?_) ?_)
    · walk_at "w"
      refine hk _ x ?_
      walk_at "w"
      exact q
    · walk_at "w"
      unfold lessL at h
      rw [List.map_map] at h
      exact h
  · cases h
abbrev s_as_round : Stmt := topS 22
theorem c_as_round : FnScope ["book", "some", "counts", "found", "k", "count"] ["book", "some", "counts"] (defScope s_as_round) := ⟨rfl, rfl, rfl, by decide +kernel, rfl, by decide +kernel, by decide +kernel⟩
def S_as_round : Spec Unit := fun as g T U => match as with
  | [.dt b, .dt (.list s), .dt (.list c)] => ∃ (B : Book) (ns xs : List Int), b = B.d ∧ s = ns.map PyData.int ∧ c = xs.map PyData.int ∧ FlOk B ns ∧ ns.Nodup ∧ xs.length = ns.length ∧ B.ways.length ≤ 1000 ∧ (∀ x ∈ xs, x.natAbs ≤ 2 ^ 1001) ∧ T (.dt (.tuple ((rndL B ns xs).map PyData.int))) g
  | _ => False
theorem ok_as_round {P : Program} {w : World} {K : PySem.W.Frag} {mg : Str → Option Value} {base : Heap} {k : Nat} (D : Dfn K mg "as_round" s_as_round ["book", "some", "counts"]) (f_lessened : Ok P w K mg base k "lessened" ["numbers"] (spZ (Z0 K) S_lessened)) (z_len : mg "len" = none) (z_zip : mg "zip" = none) (z_tuple : mg "tuple" = none) : Ok P w K mg base (k + 1) "as_round" ["book", "some", "counts"] (spZ (Z0 K) S_as_round) := by
  refine D.ok c_as_round (fun as g T U h => by unfold S_as_round at h; split at h <;> first | rfl | cases h) (by decide) fun fa cdv A outer s' H E hr => ⟨_, _, (s_cons (s_set 3 c_as_round.nd (e_op b_mul (e_lst (a_cons e_int a_nil)) (e_callB k_len (a_cons (e_ixX hr.units (e_v 0) e_int) a_nil) z_len rfl)))
      (s_cons (s_for (i_zip z_zip (a_cons (e_v 1) (a_cons (e_fn0U let_n f_lessened hr (a_cons (e_v 2) a_nil)) a_nil))) (g_tup (n := 2) (gs_cons (g_name 4 c_as_round.nd) (gs_cons (g_name 5 c_as_round.nd) gs_nil))) (s_one (s_setIx 3 (e_v 5) (e_v 4))))
      (s_one (s_ret (e_callTy k_tuple (a_cons (e_v 3) a_nil) z_tuple rfl))))), ?_⟩
  intro as g T U h
  unfold S_as_round at h
  clear hr f_lessened
  split at h
  · obtain ⟨B, ns, xs, rfl, rfl, rfl, hF, nd, hx, hw, hb, h⟩ := h
    have hn := hF.n
    walk_at "w"
    rw [List.length_map]
    refine ⟨⟨by omega, by omega, by show 1 * ((B.ways.length : Nat) : Int).toNat ≤ _; omega⟩, ?_⟩
    rw [show (List.replicate ((B.ways.length : Nat) : Int).toNat [PyData.int 0]).flatten = ((List.range B.ways.length).map fun k => PyData.int (PSm (ns.map Int.toNat) (fun j => (lessL xs).getD j 0) 0 k)) by
      rw [show (List.replicate ((B.ways.length : Nat) : Int).toNat [PyData.int 0]).flatten = List.replicate B.ways.length (PyData.int 0) by simp]
      apply List.ext_getElem?
      intro i
      rw [List.getElem?_replicate, List.getElem?_map]
      by_cases e : i < B.ways.length
      · rw [if_pos e, List.getElem?_range e]; rfl
      · rw [if_neg e, List.getElem?_eq_none (by simpa using e)]; rfl]
    walk_at "w"
    refine ⟨xs, rfl, hb, by omega, ?_⟩
    walk_at "w"
    rw [zipD_map]
    have zl : (ns.zip (lessL xs)).length = ns.length := by rw [List.length_zip, less_len]; omega
    refine ⟨fun j ρ' g' => Hold (g' = g ∧ ∃ s4 s5 : Sl, ρ' = [.dt B.d, .dt (.list (ns.map PyData.int)), .dt (.list (xs.map PyData.int)), .ls ((List.range B.ways.length).map fun k => PyData.int (PSm (ns.map Int.toNat) (fun j => (lessL xs).getD j 0) j k)), s4, s5]), hold ⟨rfl, _, _, rfl⟩, fun j d ρ' g' hj hI => ?_, fun ρ' g' hI => ?_⟩
    · obtain ⟨rfl, s4, s5, rfl⟩ := hI.h
      rw [List.getElem?_map] at hj
      obtain ⟨p, hp, rfl⟩ := Option.map_eq_some_iff.mp hj
      have hjn : j < ns.length := by
        have := (List.getElem?_eq_some_iff.mp hp).1
        omega
      have ep : p = (ns.getD j 0, (lessL xs).getD j 0) := by
        have h2 : j < (lessL xs).length := by rw [less_len]; omega
        rw [List.getElem?_eq_getElem (by omega), List.getElem_zip] at hp
        cases hp
        rw [List.getD_eq_getElem?_getD, List.getElem?_eq_getElem hjn, List.getD_eq_getElem?_getD, List.getElem?_eq_getElem h2]; rfl
      subst ep
      have hi := hF.w _ (getD_in hjn)
      have hi2 := hi
      simp only [inW, Bool.and_eq_true, decide_eq_true_eq] at hi
      walk_at "w"
      refine opK_of (a := (ns.getD j 0).toNat) (by rw [List.length_map, List.length_range]; exact ixN_at hi.1 hi.2) ?_
      rw [rng_set]
      have ej : (ns.map Int.toNat)[j]? = some (ns.getD j 0).toNat := by
        rw [List.getElem?_map, List.getD_eq_getElem?_getD, List.getElem?_eq_getElem hjn]; rfl
      have e2 : ((List.range B.ways.length).map fun k => if k = (ns.getD j 0).toNat then PyData.int ((lessL xs).getD j 0) else PyData.int (PSm (ns.map Int.toNat) (fun j => (lessL xs).getD j 0) j k)) = (List.range B.ways.length).map fun k => PyData.int (PSm (ns.map Int.toNat) (fun j => (lessL xs).getD j 0) (j + 1) k) := List.map_congr_left fun k _ => by
        rw [PSm_step (inW_nd hF nd) ej]
        split <;> rfl
      rw [e2]
      exact hold ⟨rfl, _, _, rfl⟩
    · obtain ⟨rfl, s4, s5, rfl⟩ := hI.h
      rw [List.length_map, zl]
      walk_at "w"
      unfold rndL at h
      rw [List.map_map] at h
      exact h
  · cases h
abbrev s_how_often : Stmt := topS 25
theorem c_how_often : FnScope ["book", "stand", "k", "some", "sides", "one", "told", "word", "divisor", "counts", "prices", "most", "flow", "count", "lowest", "total", "room"] ["book", "stand", "k"] (defScope s_how_often) := ⟨rfl, rfl, rfl, by decide +kernel, rfl, by decide +kernel, by decide +kernel⟩
def S_how_often (mg : Str → Option Value) {G : Type} : Spec G := fun as g T U => match as with
  | [.dt b, .dt s, .dt (.int k)] => ∃ (B : Book) (r : Int) (xs : List Int) (mr mw : Int), b = B.d ∧ s = standD r xs ∧ B.Ok mr mw ∧ mr ≤ 16 ∧ mw ≤ 1000 ∧ NumOk B r xs ∧
      (inW B k = false → U (cv mg "NoWay") [] g) ∧
      (inW B k = true → k ∉ metW B r → T (.dt (how0 B)) g) ∧
      (k ∈ metW B r → (∀ cs, RndOk B (metW B r) cs → 0 < cs.getD k.toNat 0 → T (.dt (.tuple [.str "none", .tuple (cs.map PyData.int)])) g) ∧
        ∀ ws hs fl u M, HowA B (metW B r) r xs k ws hs fl u M → T (.dt (howD ws hs fl u M)) g)
  | _ => False
theorem ok_how_often {P : Program} {w : World} {K : PySem.W.Frag} {mg : Str → Option Value} {base : Heap} {k : Nat} {tp : Addr} (D : Dfn K mg "how_often" s_how_often ["book", "stand", "k"]) (f_met_from : Ok P w K mg base k "met_from" ["book", "room"] (spZ (Z0 K) S_met_from)) (f_solved : Ok P w K mg base k "solved" ["rows", "sides", "goal"] (spZ (ZS mg (ZTab tp qT (ZT K))) S_solved)) (f_flow_rows : Ok P w K mg base k "flow_rows" ["book", "some"] (spZ (Z0 K) S_flow_rows)) (f_as_round : Ok P w K mg base k "as_round" ["book", "some", "counts"] (spZ (Z0 K) S_as_round)) (f_common : Ok P w K mg base k "common" ["numbers"] (spZ (Z0 K) S_common)) (z_len : mg "len" = none) (z_list : mg "list" = none) (z_range : mg "range" = none) (z_int : mg "int" = none) (z_zip : mg "zip" = none) (z_tuple : mg "tuple" = none) (x_NoWay : ExX K mg "NoWay") : Ok P w K mg base (k + 1) "how_often" ["book", "stand", "k"] (spZ (ZTab tp qT (ZT K)) (S_how_often mg)) := by
  refine D.okX c_how_often (fun as g T U h => by unfold S_how_often at h; split at h <;> first | rfl | cases h) (by decide) fun fa cdv A outer s' H E U hr tk po => ⟨_, _, (s_cons (s_if (t_not (t_chain c_le c_lt e_int (e_v 2) (e_callB k_len (a_cons (e_ixX hr.units (e_v 0) e_int) a_nil) z_len rfl))) (s_one (s_raise x_NoWay tk)) s_nil)
      (s_cons (s_set 3 c_how_often.nd (e_fn0U let_n f_met_from hr (a_cons (e_v 0) (a_cons (e_ixX hr.units (e_v 1) e_int) a_nil))))
      (s_cons (s_if (t_cmp (c_ninX hr.wide) (e_v 2) (e_v 3)) (s_one (s_ret (e_tup (a_cons e_str (a_cons e_int (a_cons e_int (a_cons (e_tup (a_cons (e_op b_mul (e_tup (a_cons e_int a_nil)) (e_ixX hr.units (e_v 0) e_int)) (a_cons (e_op b_mul (e_tup (a_cons e_int a_nil)) (e_ixX hr.units (e_v 0) e_int)) a_nil))) (a_cons e_int (a_cons (e_op b_mul (e_tup (a_cons e_int a_nil)) (e_callB k_len (a_cons (e_ixX hr.units (e_v 0) e_int) a_nil) z_len rfl)) (a_cons e_int a_nil)))))))))) s_nil)
      (s_cons (s_set 4 c_how_often.nd (e_op b_add (e_callTy k_list (a_cons (e_ixX hr.units (e_v 1) e_int) a_nil) z_list rfl) (e_lc [("room", 16)] c_how_often.nd (i_rng1 z_range (a_cons (e_ixX hr.units (e_v 0) e_int) a_nil)) (fun _ _ _ _ _ => (g_name 16 c_how_often.nd)) (own_name (by decide)) (fun _ _ _ _ _ => ts_nil) (fun _ _ _ _ _ => (e_callTy k_int (a_cons (e_cmp (c_eq hr.units) (e_v 16) (e_ixX hr.units (e_v 1) e_int)) a_nil) z_int rfl)))))
      (s_cons (s_set 6 c_how_often.nd (e_fnU let_n (Ok.frz f_solved) hr (a_cons (e_fn0U let_n f_flow_rows hr (a_cons (e_v 0) (a_cons (e_v 3) a_nil))) (a_cons (e_v 4) (a_cons (e_lc [("one", 5)] c_how_often.nd (i_seq (e_v 3)) (fun _ _ _ _ _ => (g_name 5 c_how_often.nd)) (own_name (by decide)) (fun _ _ _ _ _ => ts_nil) (fun _ _ _ _ _ => (e_callTy k_int (a_cons (e_cmp (c_eq hr.units) (e_v 5) (e_v 2)) a_nil) z_int rfl))) a_nil))) (hz := spZ_wish)))
      (s_cons (s_if (t_cmp (c_eq hr.units) (e_ixX hr.units (e_v 6) e_int) e_str) (s_one (s_ret (e_tup (a_cons e_str (a_cons (e_fn0U let_n f_as_round hr (a_cons (e_v 0) (a_cons (e_v 3) (a_cons (e_ixX hr.units (e_v 6) e_int) a_nil)))) a_nil))))) s_nil)
      (s_cons (s_asg (e_v 6) (g_tup (n := 5) (gs_cons (g_name 7 c_how_often.nd) (gs_cons (g_name 8 c_how_often.nd) (gs_cons (g_name 9 c_how_often.nd) (gs_cons (g_name 10 c_how_often.nd) (gs_cons (g_name 11 c_how_often.nd) gs_nil)))))))
      (s_cons (s_set 12 c_how_often.nd (e_op b_mul (e_lst (a_cons e_int a_nil)) (e_callB k_len (a_cons (e_ixX hr.units (e_v 0) e_int) a_nil) z_len rfl)))
      (s_cons (s_for (i_zip z_zip (a_cons (e_v 3) (a_cons (e_v 9) a_nil))) (g_tup (n := 2) (gs_cons (g_name 5 c_how_often.nd) (gs_cons (g_name 13 c_how_often.nd) gs_nil))) (s_one (s_setIx 12 (e_v 13) (e_v 5))) (hp := po))
      (s_cons (s_set 14 c_how_often.nd (e_fn0U let_n f_common hr (a_cons (e_lst (a_cons (e_v 11) (a_cons (e_v 8) a_nil))) a_nil)))
      (s_cons (s_set 15 c_how_often.nd (e_tup (a_cons (e_callTy k_tuple (a_cons (e_sl (e_v 10) o_none (o_some (e_ixX hr.units (e_v 0) e_int))) a_nil) z_tuple rfl) (a_cons (e_callTy k_tuple (a_cons (e_sl (e_v 10) (o_some (e_ixX hr.units (e_v 0) e_int)) o_none) a_nil) z_tuple rfl) a_nil))))
      (s_one (s_ret (e_tup (a_cons e_str (a_cons (e_op b_div (e_v 11) (e_v 14)) (a_cons (e_op b_div (e_v 8) (e_v 14)) (a_cons (e_v 15) (a_cons (e_v 8) (a_cons (e_callTy k_tuple (a_cons (e_v 12) a_nil) z_tuple rfl) (a_cons (e_v 8) a_nil))))))))))))))))))))), ?_⟩
  intro as g T h
  unfold S_how_often at h
  clear tk po
  clear hr f_met_from f_solved f_flow_rows f_as_round f_common
  split at h
  · rename_i k
    obtain ⟨B, r, xs, mr, mw, rfl, rfl, hB, hmr, hmw, hx, hU, h0, h1⟩ := h
    have hwl := hB.n
    have hn2 : B.ways.length ≤ 1000 := by omega
    have hsub : (metW B r).Sublist (everyW B.ways.length) := List.filter_sublist
    obtain ⟨hF, nd, hS⟩ := set_ok hB hmr hmw hsub
    have hd := hF.dim
    have hn := hF.n
    walk_at "w"
    have iw : inW B k = (decide (0 ≤ k) && decide (k < B.ways.length)) := rfl
    by_cases hk1 : 0 ≤ k
    rotate_left
    · rw [show (fun (i j : Int) => decide (i ≤ j)) 0 k = false from decide_eq_false hk1]
      walk_at "w"
      exact hU (by rw [iw, decide_eq_false hk1]; rfl)
    rw [show (fun (i j : Int) => decide (i ≤ j)) 0 k = true from decide_eq_true hk1]
    walk_at "w"
    rw [List.length_map]
    refine ifb_of (fun q => ?_) (fun q => ?_)
    · have q : (!decide (k < B.ways.length)) = true := q
      walk_at "w"
      exact hU (by rw [iw]; simp at q ⊢; omega)
    have hk : inW B k = true := by
      have q : (!decide (k < B.ways.length)) = false := by simpa using q
      rw [iw, decide_eq_true hk1]
      simpa using q
    walk_at "w"
    refine ⟨B, rfl, fun j hj => (wsIn_ok hB j (everyW_mem hj)).2, hx.r, by omega, hn2, ?_⟩
    walk_at "w"
    refine ⟨rfl, flat_ints _, ?_⟩
    rw [inD_ints]
    by_cases hm : k ∈ metW B r
    rotate_left
    · rw [decide_eq_false hm]
      have rp : ∀ n : Nat, (List.replicate n [PyData.int 0]).flatten = List.replicate n (PyData.int 0) := fun n => by simp
      walk_at "w"
      refine ⟨⟨by omega, by omega, by show 1 * B.purses.toNat ≤ _; omega⟩, ?_⟩
      rw [rp]
      walk_at "w"
      refine ⟨⟨by omega, by omega, by show 1 * B.rooms.toNat ≤ _; omega⟩, ?_⟩
      rw [rp]
      walk_at "w"
      rw [List.length_map]
      refine ⟨⟨by omega, by omega, by show 1 * ((B.ways.length : Nat) : Int).toNat ≤ _; omega⟩, ?_⟩
      rw [rp]
      walk_at "w"
      exact h0 hk hm
    rw [decide_eq_true hm]
    obtain ⟨hr, hs⟩ := h1 hm
    generalize hns : metW B r = ns at *
    walk_at "w"
    refine rgK_of (by omega) (by omega) ?_
    rw [everyW_rng]
    refine leK_of (by rw [List.length_map, everyW_len]; omega) (lc_mapL (fun q => .int (if q = r then 1 else 0)) (by walk_at "lcw") (fun q hq C1 C0 c => ?_) ?_)
    · walk_at "w"
      simp only [decide_eq_true_eq]
      exact c
    walk_at "w"
    have hxl := hx.l
    refine leK_of (by rw [List.length_map, List.length_map, everyW_len]; omega) ?_
    walk_at "w"
    refine ⟨B, ns, rfl, rfl, hF, ?_⟩
    walk_at "w"
    refine leK_of (by rw [List.length_map]; omega) (lc_mapL (fun x => .int (hitK k x)) (by walk_at "lcw") (fun x hx C1 C0 q => ?_) ?_)
    · unfold hitK at q
      walk_at "w"
      simp only [decide_eq_true_eq]
      exact q
    walk_at "w"
    have hl0 := lpF_d B ns r hxl k
    have zx : ∀ (n : Nat) (f : Nat → Int), zlC n f = ((((List.range n).map f).map PyData.int).map Cell.d) := fun n f => by unfold zlC; rw [List.map_map, List.map_map]; rfl
    have od : ∀ (o : OS) (ds : List PyData), ODats o (ds.map Cell.d) ds := fun o ds => by
      induction ds with
      | nil => exact .nil
      | cons d ds ih => exact .cons (.d d) ih
    refine ⟨lpF B ns r xs k, hl0, lpF_s hx, lpF_sml hF hx, hn, by show flT B ≤ 1000; omega, fun b f G => ⟨fun hc g' t q1 q2 hg' ht e1 e2 hne => ?_, fun c l hc hneg hle g' t q hg' ht e1 => ?_⟩⟩
    · rw [zx] at e1 e2
      have ok := how_ok hF nd hx hm G hc rfl rfl
      have hXl : ((List.range (lpF B ns r xs k).n).map ((lpF B ns r xs k).X b)).length = ns.length := by rw [List.length_map, List.length_range]; rfl
      have hYl : ((List.range (lpF B ns r xs k).m).map ((lpF B ns r xs k).Y b)).length = flT B := by rw [List.length_map, List.length_range]; rfl
      replace e1 : OS.look g'.2 q1 = some (.ls ((((List.range (lpF B ns r xs k).n).map ((lpF B ns r xs k).X b)).map PyData.int).map Cell.d)) := e1
      replace e2 : OS.look g'.2 q2 = some (.ls ((((List.range (lpF B ns r xs k).m).map ((lpF B ns r xs k).Y b)).map PyData.int).map Cell.d)) := e2
      replace ok : HowA B ns r xs k (((List.range (lpF B ns r xs k).m).map ((lpF B ns r xs k).Y b)).take B.purses.toNat) (((List.range (lpF B ns r xs k).m).map ((lpF B ns r xs k).Y b)).drop B.purses.toNat) (flwL B ns ((List.range (lpF B ns r xs k).n).map ((lpF B ns r xs k).X b))) ((lpF B ns r xs k).D b) ((lpF B ns r xs k).T b (lpF B ns r xs k).m (lpF B ns r xs k).rhs) := ok
      generalize eX : (List.range (lpF B ns r xs k).n).map ((lpF B ns r xs k).X b) = Xs at *
      generalize eY : (List.range (lpF B ns r xs k).m).map ((lpF B ns r xs k).Y b) = Ys at *
      generalize eu : (lpF B ns r xs k).D b = u at *
      generalize eM : (lpF B ns r xs k).T b (lpF B ns r xs k).m (lpF B ns r xs k).rhs = M at *
      refine ⟨hg', _, .t ht (.cons (.d _) (.cons (.d _) (.cons (.r e1 (od _ _)) (.cons (.r e2 (od _ _)) (.cons (.d _) .nil))))), ?_⟩
      walk_at "w"
      rw [List.length_map]
      refine ⟨⟨by omega, by omega, by show 1 * ((B.ways.length : Nat) : Int).toNat ≤ _; omega⟩, ?_⟩
      rw [show (List.replicate ((B.ways.length : Nat) : Int).toNat [PyData.int 0]).flatten = ((List.range B.ways.length).map fun k => PyData.int (PSm (ns.map Int.toNat) (fun j => Xs.getD j 0) 0 k)) by
        rw [show (List.replicate ((B.ways.length : Nat) : Int).toNat [PyData.int 0]).flatten = List.replicate B.ways.length (PyData.int 0) by simp]
        apply List.ext_getElem?
        intro i
        rw [List.getElem?_replicate, List.getElem?_map]
        by_cases e : i < B.ways.length
        · rw [if_pos e, List.getElem?_range e]; rfl
        · rw [if_neg e, List.getElem?_eq_none (by simpa using e)]; rfl]
      walk_at "w"
      rw [zipD_map]
      have zl : (ns.zip Xs).length = ns.length := by rw [List.length_zip, hXl]; omega
      refine ⟨fun j ρ' g3 => Hold (g3 = g ∧ ∃ s4 s5 s6 s7 s13 s14 s15 s16 : Sl, ρ' = [.dt B.d, .dt (standD r xs), .dt (.int k), .dt (.list (ns.map PyData.int)), s4, s5, s6, s7, .dt (.int u), .dt (.list (Xs.map PyData.int)), .dt (.list (Ys.map PyData.int)), .dt (.int M), .ls ((List.range B.ways.length).map fun k => PyData.int (PSm (ns.map Int.toNat) (fun j => Xs.getD j 0) j k)), s13, s14, s15, s16]), hold ⟨rfl, _, _, _, _, _, _, _, _, rfl⟩, fun j d ρ' g3 hj hI => ?_, fun ρ' g3 hI => ?_⟩
      · obtain ⟨rfl, s4, s5, s6, s7, s13, s14, s15, s16, rfl⟩ := hI.h
        rw [List.getElem?_map] at hj
        obtain ⟨p, hp, rfl⟩ := Option.map_eq_some_iff.mp hj
        have hjn : j < ns.length := by
          have := (List.getElem?_eq_some_iff.mp hp).1
          omega
        have ep : p = (ns.getD j 0, Xs.getD j 0) := by
          have h2 : j < Xs.length := by omega
          rw [List.getElem?_eq_getElem (by omega), List.getElem_zip] at hp
          cases hp
          rw [List.getD_eq_getElem?_getD, List.getElem?_eq_getElem hjn, List.getD_eq_getElem?_getD, List.getElem?_eq_getElem h2]; rfl
        subst ep
        have hi := hF.w _ (getD_in hjn)
        simp only [inW, Bool.and_eq_true, decide_eq_true_eq] at hi
        walk_at "w"
        refine opK_of (a := (ns.getD j 0).toNat) (by rw [List.length_map, List.length_range]; exact ixN_at hi.1 hi.2) ?_
        rw [rng_set]
        have ej : (ns.map Int.toNat)[j]? = some (ns.getD j 0).toNat := by
          rw [List.getElem?_map, List.getD_eq_getElem?_getD, List.getElem?_eq_getElem hjn]; rfl
        have e2 : ((List.range B.ways.length).map fun k => if k = (ns.getD j 0).toNat then PyData.int (Xs.getD j 0) else PyData.int (PSm (ns.map Int.toNat) (fun j => Xs.getD j 0) j k)) = (List.range B.ways.length).map fun k => PyData.int (PSm (ns.map Int.toNat) (fun j => Xs.getD j 0) (j + 1) k) := List.map_congr_left fun k _ => by
          rw [PSm_step (inW_nd hF nd) ej]
          split <;> rfl
        rw [e2]
        exact hold ⟨rfl, _, _, _, _, _, _, _, _, rfl⟩
      · obtain ⟨rfl, s4, s5, s6, s7, s13, s14, s15, s16, rfl⟩ := hI.h
        rw [List.length_map, zl]
        have ub := ok.ub
        have mb := ok.mb
        have u0 := ok.u0
        have g1 : (0 : Int) < (gcdL [M, u] : Nat) := by
          have hd := gcdL_dvd (xs := [M, u]) (x := u) (by simp)
          by_cases e : gcdL [M, u] = 0
          · rw [e] at hd
            have := Int.zero_dvd.mp hd
            omega
          · omega
        have g2 : gcdL [M, u] ≤ 2 ^ 620 := gcdL_le fun x hx => by
          have e : x = M ∨ x = u := by simpa using hx
          rcases e with rfl | rfl
          · exact mb.2
          · exact Nat.le_trans ub (Nat.pow_le_pow_right (by decide) (by decide))
        walk_at "w"
        refine ⟨[M, u], rfl, fun x hx => ?_, ?_⟩
        · have e : x = M ∨ x = u := by simpa using hx
          rcases e with rfl | rfl
          · exact Nat.le_trans mb.2 (Nat.pow_le_pow_right (by decide) (by decide))
          · exact Nat.le_trans ub (Nat.pow_le_pow_right (by decide) (by decide))
        have g3 : ((gcdL [M, u] : Nat) : Int).natAbs.log2 < 9000 := by
          rw [Int.natAbs_natCast]
          have hne : gcdL [M, u] ≠ 0 := by omega
          exact Nat.lt_trans ((Nat.log2_lt hne).mpr (Nat.lt_of_le_of_lt g2 (Nat.pow_lt_pow_right (by decide) (show 620 < 621 by decide)))) (by decide)
        have hs := hs _ _ _ _ _ ok
        unfold howD at hs
        generalize ((gcdL [M, u] : Nat) : Int) = gg at *
        walk_at "w"
        rw [cutD_map, cutD_map, cutL_take (by omega), cutL_drop (by omega)]
        refine dvK_of ⟨g1, g3⟩ ?_
        walk_at "w"
        refine dvK_of ⟨g1, g3⟩ ?_
        walk_at "w"
        unfold flwL totD at hs
        rw [List.map_map] at hs
        exact hs
    · rw [zx] at e1
      obtain ⟨u1, u2, u3, u4⟩ := how_up hF nd hx hm G (List.mem_of_getElem? hc) hneg hle rfl
      refine ⟨hg', _, .t ht (.cons (.d _) (.cons (.r e1 (od _ _)) .nil)), ?_⟩
      walk_at "w"
      refine ⟨B, ns, _, rfl, rfl, rfl, hF, nd, u1, hn2, fun x hx => Nat.le_trans (u2 x hx).2 (Nat.pow_le_pow_right (by decide) (by decide)), ?_⟩
      walk_at "w"
      exact hr _ u3 u4
  · cases h
abbrev s_weighed : Stmt := topS 15
theorem c_weighed : FnScope ["weights", "numbers", "found", "weight", "number"] ["weights", "numbers"] (defScope s_weighed) := ⟨rfl, rfl, rfl, by decide +kernel, rfl, by decide +kernel, by decide +kernel⟩
def S_weighed : Spec Unit := fun as g T U => match as with
  | [.dt a, .dt b] => ∃ xs ys : List Int, a = .tuple (xs.map PyData.int) ∧ b = .tuple (ys.map PyData.int) ∧ xs.length ≤ 1000 ∧ (∀ x ∈ xs, Big x) ∧ (∀ x ∈ ys, Big x) ∧ T (.dt (.int (dotL xs ys))) g
  | _ => False
theorem ok_weighed {P : Program} {w : World} {K : PySem.W.Frag} {mg : Str → Option Value} {base : Heap} {k : Nat} (D : Dfn K mg "weighed" s_weighed ["weights", "numbers"]) (z_zip : mg "zip" = none) : Ok P w K mg base (k + 1) "weighed" ["weights", "numbers"] (spZ (Z0 K) S_weighed) := by
  refine D.ok c_weighed (fun as g T U h => by unfold S_weighed at h; split at h <;> first | rfl | cases h) (by decide) fun fa cdv A outer s' H E hr => ⟨_, _, (s_cons (s_set 2 c_weighed.nd e_int)
      (s_cons (s_for (i_zip z_zip (a_cons (e_v 0) (a_cons (e_v 1) a_nil))) (g_tup (n := 2) (gs_cons (g_name 3 c_weighed.nd) (gs_cons (g_name 4 c_weighed.nd) gs_nil))) (s_one (s_set 2 c_weighed.nd (e_op b_add (e_v 2) (e_op b_mul (e_v 3) (e_v 4))))))
      (s_one (s_ret (e_v 2))))), ?_⟩
  intro as g T U h
  unfold S_weighed at h
  clear hr
  split at h
  · obtain ⟨xs, ys, rfl, rfl, hl, h1, h2, h⟩ := h
    walk_at "w"
    rw [zipD_map]
    refine ⟨⟨fun i ρ' g' => Hold (g' = g ∧ ∃ s3 s4 : Sl, ρ' = [.dt (.tuple (xs.map PyData.int)), .dt (.tuple (ys.map PyData.int)), .dt (.int (((xs.zip ys).take i).map fun p => p.1 * p.2).sum), s3, s4]), hold ⟨rfl, _, _, rfl⟩, fun i d ρ' g' hk hI => ?_, fun ρ' g' hI => ?_⟩⟩
    · obtain ⟨rfl, s3, s4, rfl⟩ := hI.h
      rw [List.getElem?_map] at hk
      obtain ⟨p, hp, rfl⟩ := Option.map_eq_some_iff.mp hk
      have hm := List.of_mem_zip (List.mem_of_getElem? hp)
      have e := take_sum (fun p : Int × Int => p.1 * p.2) hp
      walk_at "w"
      refine mlK_of (mul_big2 (h1 _ hm.1) (h2 _ hm.2)) ?_
      walk_at "w"
      rw [← e]
      exact hold ⟨rfl, _, _, rfl⟩
    · obtain ⟨rfl, s3, s4, rfl⟩ := hI.h
      rw [List.length_map, List.take_length]
      walk_at "w"
      exact h
  · cases h
abbrev s_worth : Stmt := topS 16
theorem c_worth : FnScope ["total", "stand"] ["total", "stand"] (defScope s_worth) := ⟨rfl, rfl, rfl, by decide +kernel, rfl, by decide +kernel, by decide +kernel⟩
def S_worth : Spec Unit := fun as g T U => match as with
  | [.dt t, .dt s] => ∃ (ws hs : List Int) (r : Int) (xs : List Int), t = totD ws hs ∧ s = standD r xs ∧ (0 ≤ r ∧ r < hs.length) ∧ ws.length ≤ 1000 ∧ (∀ x ∈ ws, Big x) ∧ (∀ x ∈ xs, Big x) ∧ T (.dt (.int (worthL ws hs r xs))) g
  | _ => False
theorem ok_worth {P : Program} {w : World} {K : PySem.W.Frag} {mg : Str → Option Value} {base : Heap} {k : Nat} (D : Dfn K mg "worth" s_worth ["total", "stand"]) (f_weighed : Ok P w K mg base k "weighed" ["weights", "numbers"] (spZ (Z0 K) S_weighed)) : Ok P w K mg base (k + 1) "worth" ["total", "stand"] (spZ (Z0 K) S_worth) := by
  refine D.ok c_worth (fun as g T U h => by unfold S_worth at h; split at h <;> first | rfl | cases h) (by decide) fun fa cdv A outer s' H E hr => ⟨_, _, (s_one (s_ret (e_op b_add (e_ixX hr.units (e_ixX hr.units (e_v 0) e_int) (e_ixX hr.units (e_v 1) e_int)) (e_fn0U let_n f_weighed hr (a_cons (e_ixX hr.units (e_v 0) e_int) (a_cons (e_ixX hr.units (e_v 1) e_int) a_nil)))))), ?_⟩
  intro as g T U h
  unfold S_worth at h
  clear hr f_weighed
  split at h
  · obtain ⟨ws, hs, r, xs, rfl, rfl, hr, hl, h1, h2, h⟩ := h
    walk_at "w"
    refine opK_of (a := .int (hs.getD r.toNat 0)) (by
      obtain ⟨n, rfl⟩ := Int.eq_ofNat_of_zero_le hr.1
      exact atI_getD (by omega)) ?_
    walk_at "w"
    refine ⟨ws, xs, rfl, rfl, hl, h1, h2, ?_⟩
    walk_at "w"
    exact h
  · cases h
abbrev s_fall : Stmt := topS 17
theorem c_fall : FnScope ["book", "total", "k", "a", "b", "gains"] ["book", "total", "k"] (defScope s_fall) := ⟨rfl, rfl, rfl, by decide +kernel, rfl, by decide +kernel, by decide +kernel⟩
def S_fall : Spec Unit := fun as g T U => match as with
  | [.dt b, .dt t, .dt (.int k)] => ∃ (B : Book) (ws hs : List Int), b = B.d ∧ t = totD ws hs ∧ SumOk B ws hs ∧ WsIn B ∧ (0 ≤ B.purses ∧ B.purses ≤ 6) ∧ (∀ w ∈ B.ways, ∀ x ∈ w.gs, -99 ≤ x ∧ x ≤ 99) ∧ inW B k = true ∧ T (.dt (.int (fallL B ws hs k))) g
  | _ => False
theorem ok_fall {P : Program} {w : World} {K : PySem.W.Frag} {mg : Str → Option Value} {base : Heap} {k : Nat} (D : Dfn K mg "fall" s_fall ["book", "total", "k"]) (f_weighed : Ok P w K mg base k "weighed" ["weights", "numbers"] (spZ (Z0 K) S_weighed)) : Ok P w K mg base (k + 1) "fall" ["book", "total", "k"] (spZ (Z0 K) S_fall) := by
  refine D.ok c_fall (fun as g T U h => by unfold S_fall at h; split at h <;> first | rfl | cases h) (by decide) fun fa cdv A outer s' H E hr => ⟨_, _, (s_cons (s_asg (e_ixX hr.units (e_ixX hr.units (e_v 0) e_int) (e_v 2)) (g_tup (n := 3) (gs_cons (g_name 3 c_fall.nd) (gs_cons (g_name 4 c_fall.nd) (gs_cons (g_name 5 c_fall.nd) gs_nil)))))
      (s_one (s_ret (e_op b_sub (e_op b_sub (e_ixX hr.units (e_ixX hr.units (e_v 1) e_int) (e_v 3)) (e_ixX hr.units (e_ixX hr.units (e_v 1) e_int) (e_v 4))) (e_fn0U let_n f_weighed hr (a_cons (e_ixX hr.units (e_v 1) e_int) (a_cons (e_v 5) a_nil))))))), ?_⟩
  intro as g T U h
  unfold S_fall at h
  clear hr f_weighed
  split at h
  · rename_i k
    obtain ⟨B, ws, hs, rfl, rfl, ok, hw, hP, hB, hk, h⟩ := h
    have ha := (hw k hk).1
    have hb := (hw k hk).2
    have h1 := ok.w
    have h2 := ok.h
    have geta : ∀ a : Int, 0 ≤ a → a < B.rooms → atI (hs.map PyData.int) a = some (.int (hs.getD a.toNat 0)) := fun a a1 a2 => by
      obtain ⟨n, rfl⟩ := Int.eq_ofNat_of_zero_le a1
      exact atI_getD (by omega)
    walk_at "w"
    refine opK_of (wAt_at hk) ?_
    walk_at "w"
    refine opK_of (geta _ ha.1 ha.2) ?_
    walk_at "w"
    refine opK_of (geta _ hb.1 hb.2) ?_
    walk_at "w"
    refine ⟨ws, (wAt B k).gs, rfl, rfl, by omega, ok.bw, fun x hx => by have := hB _ (wAt_mem hk) x hx; exact big_small (by omega) (by omega), ?_⟩
    walk_at "w"
    exact h
  · cases h
abbrev s__law_meet : Stmt := topS 41
theorem c__law_meet : FnScope ["_law_book_here", "_law_stand_here", "_law_answer", "_law_word", "_law_n", "_law_d", "_law_total", "_law_u", "_law_flow", "_law_e", "_law_lost", "_law_k", "_law_count"] ["_law_book_here", "_law_stand_here", "_law_answer"] (defScope s__law_meet) := ⟨rfl, rfl, rfl, by decide +kernel, rfl, by decide +kernel, by decide +kernel⟩
theorem rng_sum : ∀ (n : Nat) (f : Nat → Int), ((List.range n).map f).sum = Dt.sm n f
  | 0, _ => rfl
  | n + 1, f => by
    rw [List.range_succ, List.map_append, List.sum_append, rng_sum n f]
    show _ + (f n + 0) = _
    rw [Int.add_zero]; rfl
def S__law_meet : Spec Unit := fun as g T U => match as with
  | [.dt b, .dt s, .dt a] => ∃ (B : Book) (mr mw r : Int) (xs : List Int) (k : Int) (ws hs fl : List Int) (u M : Int), b = B.d ∧ s = standD r xs ∧ a = howD ws hs fl u M ∧ HowC B mr mw r xs k ws hs fl u M ∧ T (.dt (.bool true)) g
  | _ => False
theorem ok__law_meet {P : Program} {w : World} {K : PySem.W.Frag} {mg : Str → Option Value} {base : Heap} {k : Nat} (D : Dfn K mg "_law_meet" s__law_meet ["_law_book_here", "_law_stand_here", "_law_answer"]) (f_fall : Ok P w K mg base k "fall" ["book", "total", "k"] (spZ (Z0 K) S_fall)) (f_worth : Ok P w K mg base k "worth" ["total", "stand"] (spZ (Z0 K) S_worth)) (z_enumerate : mg "enumerate" = none) (z_sum : mg "sum" = none) : Ok P w K mg base (k + 1) "_law_meet" ["_law_book_here", "_law_stand_here", "_law_answer"] (spZ (Z0 K) S__law_meet) := by
  refine D.ok c__law_meet (fun as g T U h => by unfold S__law_meet at h; split at h <;> first | rfl | cases h) (by decide) fun fa cdv A outer s' H E hr => ⟨_, _, (s_cons (s_asg (e_v 2) (g_tup (n := 7) (gs_cons (g_name 3 c__law_meet.nd) (gs_cons (g_name 4 c__law_meet.nd) (gs_cons (g_name 5 c__law_meet.nd) (gs_cons (g_name 6 c__law_meet.nd) (gs_cons (g_name 7 c__law_meet.nd) (gs_cons (g_name 8 c__law_meet.nd) (gs_cons (g_name 9 c__law_meet.nd) gs_nil)))))))))
      (s_cons (s_set 10 c__law_meet.nd (e_callB k_sum (a_cons (e_lc [("_law_k", 11), ("_law_count", 12)] c__law_meet.nd (i_enum z_enumerate (a_cons (e_v 8) a_nil)) (fun _ _ _ _ _ => (g_tup (n := 2) (gs_cons (g_name 11 c__law_meet.nd) (gs_cons (g_name 12 c__law_meet.nd) gs_nil)))) (own_seq (owns_cons (own_name (by decide)) (owns_cons (own_name (by decide)) owns_nil))) (fun _ _ _ _ _ => ts_nil) (fun _ _ _ _ _ => (e_op b_mul (e_v 12) (e_fn0U let_n f_fall hr (a_cons (e_v 0) (a_cons (e_v 6) (a_cons (e_v 11) a_nil))))))) a_nil) z_sum rfl))
      (s_one (s_ret (e_cmp c_le (e_v 10) (e_op b_mul (e_v 9) (e_fn0U let_n f_worth hr (a_cons (e_v 6) (a_cons (e_v 1) a_nil))))))))), ?_⟩
  intro as g T U h
  unfold S__law_meet at h
  clear hr f_fall f_worth
  split at h
  · obtain ⟨B, mr, mw, r, xs, k, ws, hs, fl, u, M, rfl, rfl, rfl, hC, h⟩ := h
    have hB := hC.ok
    have hl := hB.n
    have hmr := hC.mr
    have hmw := hC.mw
    have hA := hC.a
    have hx := hC.x
    have hfn := hA.n
    have hSm := hA.sum
    have hE := List.Sublist.refl (everyW B.ways.length)
    obtain ⟨hF, nd, hS⟩ := set_ok hB hmr hmw hE
    have hd := hF.dim
    have hwl := hA.wl
    have p6 := hd.2.2.2.1
    have hhl := hA.hl
    have hr := hx.r
    have fla : ∀ j : Nat, j < B.ways.length → (fallL B ws hs (j : Nat)).natAbs ≤ 2 ^ 320 := fun j hj => dot_abs2 hB p6 hwl hA.w0 hA.h0 (wAt_nat hj)
    have key := flow_le hB hwl hhl (fun w hw => (hA.w0 w hw).1) (fun w hw => (hA.h0 w hw).1) hx.l hr hA.rooms hA.purse
    rw [← hA.worth] at key
    unfold howD
    walk_at "w"
    rw [enumD_map, zip_rng, List.map_map]
    refine leK_of (by rw [List.length_map, List.length_range]; omega) (lc_mapL (fun i : Nat => .int (fl.getD i 0 * fallL B ws hs (i : Nat))) (by walk_at "lcw") (fun i hi C1 C0 q => ?_) ?_)
    · have hi := List.mem_range.mp hi
      walk_at "w"
      refine ⟨B, ws, hs, rfl, rfl, hSm, wsIn_ok hB, ⟨by omega, by omega⟩, fun w hw => (hB.w w hw).g, wAt_nat (show i < B.ways.length by omega), ?_⟩
      walk_at "w"
      have f1 := (hA.f0 _ (getD_in (ns := fl) (j := i) hi)).2
      refine mlK_of (mul_1000 (Nat.le_trans f1 (Nat.pow_le_pow_right (by decide) (by decide))) (Nat.le_trans (fla i (by omega)) (Nat.pow_le_pow_right (by decide) (by decide)))) ?_
      walk_at "w"
      exact q
    · walk_at "w"
      refine ⟨ws, hs, r, xs, rfl, rfl, ⟨hr.1, by omega⟩, by omega, fun x hx2 => Nat.lt_of_le_of_lt (hA.w0 x hx2).2 (Nat.pow_lt_pow_right (by decide) (by decide)), fun x hx2 => Nat.lt_of_le_of_lt (show x.natAbs ≤ 10 ^ 100 by have := hx.z x hx2; omega) (by decide +kernel), ?_⟩
      rw [← hA.worth, rng_sum, hfn]
      walk_at "w"
      have ub := hA.ub
      have mb := hA.mb.2
      refine mlK_of (mul_1000 (Nat.le_trans ub (Nat.pow_le_pow_right (by decide) (by decide))) (Nat.le_trans mb (Nat.pow_le_pow_right (by decide) (by decide)))) ?_
      walk_at "w"
      show T (.dt (.bool (decide (_ ≤ _)))) g
      rw [decide_eq_true key]
      exact h
  · cases h
abbrev s__law_asked : Stmt := topS 39
theorem c__law_asked : FnScope ["_law_word", "_law_call"] ["_law_word", "_law_call"] (defScope s__law_asked) := ⟨rfl, rfl, rfl, by decide +kernel, rfl, by decide +kernel, by decide +kernel⟩
def S__law_asked (mg : Str → Option Value) {G : Type} : Spec G := fun as g T U => match as with
  | [.dt (.str x), .dt (.tuple [b, s, .int k])] => ∃ (B : Book) (r : Int) (xs : List Int) (mr mw : Int), b = B.d ∧ s = standD r xs ∧ B.Ok mr mw ∧ mr ≤ 16 ∧ mw ≤ 1000 ∧ NumOk B r xs ∧ inW B k = false ∧ U (cv mg "NoWay") [] g
  | _ => False
theorem ok__law_asked {P : Program} {w : World} {K : PySem.W.Frag} {mg : Str → Option Value} {base : Heap} {k : Nat} {tp : Addr} (D : Dfn K mg "_law_asked" s__law_asked ["_law_word", "_law_call"]) (f_how_often : Ok P w K mg base k "how_often" ["book", "stand", "k"] (spZ (ZTab tp qT (ZT K)) (S_how_often mg))) : Ok P w K mg base (k + 1) "_law_asked" ["_law_word", "_law_call"] (spZ (ZTab tp qT (ZT K)) (S__law_asked mg)) := by
  refine D.okX c__law_asked (fun as g T U h => by unfold S__law_asked at h; split at h <;> first | rfl | cases h) (by decide) fun fa cdv A outer s' H E U hr tk po => ⟨_, _, (s_one (s_ret (e_fnU (let_w tk) f_how_often hr (a_cons (e_ixX hr.units (e_v 1) e_int) (a_cons (e_ixX hr.units (e_v 1) e_int) (a_cons (e_ixX hr.units (e_v 1) e_int) a_nil))) (hz := spZ_wish)))), ?_⟩
  intro as g T h
  unfold S__law_asked at h
  clear tk po
  clear hr f_how_often
  split at h
  · rename_i x b s k
    obtain ⟨B, r, xs, mr, mw, rfl, rfl, hB, hmr, hmw, hx, hk, h⟩ := h
    have hnm : k ∉ metW B r := fun hm => by
      have := (metW_iff.mp hm).1
      rw [everyW_mem this] at hk
      cases hk
    walk_at "w"
    refine ⟨B, r, xs, mr, mw, rfl, rfl, hB, hmr, hmw, hx, fun _ => ?_, (fun z => by rw [hk] at z; cases z), fun z => (hnm z).elim⟩
    walk_at "w"
    exact h
  · cases h
abbrev s__law_did : Stmt := topS 38
theorem c__law_did : FnScope ["_law_word", "_law_call", "_law_answer", "_law_kinds", "e", "_law_words"] ["_law_word", "_law_call"] (defScope s__law_did) := ⟨rfl, rfl, rfl, by decide +kernel, rfl, by decide +kernel, by decide +kernel⟩
def S__law_did {G : Type} : Spec G := fun as g T U => match as with
  | [.dt (.str x), .dt (.tuple [b, s, .int k])] => ∃ (B : Book) (r : Int) (xs : List Int) (mr mw : Int), b = B.d ∧ s = standD r xs ∧ B.Ok mr mw ∧ mr ≤ 16 ∧ mw ≤ 1000 ∧ NumOk B r xs ∧ inW B k = false ∧ T (.dt (.str "noway")) g
  | _ => False
theorem ok__law_did {P : Program} {w : World} {K : PySem.W.Frag} {mg : Str → Option Value} {base : Heap} {k : Nat} {tp : Addr} (D : Dfn K mg "_law_did" s__law_did ["_law_word", "_law_call"]) (f__law_asked : Ok P w K mg base k "_law_asked" ["_law_word", "_law_call"] (spZ (ZTab tp qT (ZT K)) (S__law_asked mg))) (z_isinstance : mg "isinstance" = none) (z_ValueError : mg "ValueError" = none) (x_FallError : ExX K mg "FallError") (u_NoWay_FallError : SubX K mg "NoWay" "FallError" true) (kx_NoWay : KX K mg "NoWay") (kn : ∀ x ∈ kindNs, ∃ C, mg x = some (.ref C)) : Ok P w K mg base (k + 1) "_law_did" ["_law_word", "_law_call"] (spZ (ZTab tp qT (ZT K)) S__law_did) := by
  refine D.ok c__law_did (fun as g T U h => by unfold S__law_did at h; split at h <;> first | rfl | cases h) (by decide) fun fa cdv A outer s' H E hr => ⟨_, _, (s_cons (s_set 2 c__law_did.nd e_non)
      (s_cons (s_set 3 c__law_did.nd (e_lst a_nil))
      (s_cons (s_tryK2 4 3 x_FallError takes0 z_isinstance z_ValueError kn (fun W' U' pn xe tk po => ⟨_, (s_one (s_set 2 c__law_did.nd (e_fnU (let_w tk) f__law_asked hr (a_cons (e_v 0) (a_cons (e_v 1) a_nil)) (hz := spZ_wish))))⟩) c__law_did.nd)
      (s_cons (s_if (t_cmp (c_eq hr.units) (e_v 3) (e_lst a_nil)) (s_one (s_ret (e_v 2))) s_nil)
      (s_cons (s_set 5 c__law_did.nd (e_lst (a_cons e_str (a_cons e_str (a_cons e_str (a_cons e_str (a_cons e_str (a_cons e_str (a_cons e_str (a_cons e_str (a_cons e_str (a_cons e_str a_nil))))))))))))
      (s_one (s_ret (e_if (t_cmp (c_ne hr.units) (e_cntB hr.units (e_v 3) e_bl) e_int) e_str (e_ixX hr.units (e_v 5) (e_idxB hr.units (e_v 3) e_bl)))))))))), ?_⟩
  intro as g T U h
  unfold S__law_did at h
  clear hr f__law_asked
  split at h
  · obtain ⟨B, r, xs, mr, mw, rfl, rfl, hB, hmr, hmw, hx, hk, h⟩ := h
    walk_at "w"
    refine ⟨B, r, xs, mr, mw, rfl, rfl, hB, hmr, hmw, hx, hk, .inl ⟨rfl, takes1_of x_FallError u_NoWay_FallError, kx_NoWay.ok2 ?_⟩⟩
    walk_at "w"
    refine ⟨by decide, by show 10 ≤ sizeLine; decide, ?_⟩
    walk_at "w"
    exact h
  · cases h
abbrev s_law : Stmt := topS 42
theorem c_law : FnScope ["_law_script", "_law_tape_here", "_law_book_here", "_law_numbers", "_law_stand_here", "_law_walk", "_law_k", "_law_answer", "_law_other", "_law_less", "_law_p"] ["_law_script"] (defScope s_law) := ⟨rfl, rfl, rfl, by decide +kernel, rfl, by decide +kernel, by decide +kernel⟩
/-- what is told of a way: a sum and a flow, or a round -/
def Told51 (B : Book) (r : Int) (xs : List Int) (k : Int) (a : PyData) : Prop :=
  (∃ cs, RndOk B (metW B r) cs ∧ 0 < cs.getD k.toNat 0 ∧ a = .tuple [.str "none", .tuple (cs.map PyData.int)]) ∨ ∃ ws hs fl u M, HowA B (metW B r) r xs k ws hs fl u M ∧ a = howD ws hs fl u M
theorem ok_law {P : Program} {w : World} {K : PySem.W.Frag} {mg : Str → Option Value} {base : Heap} {k : Nat} {tp : Addr} (D : Dfn K mg "law" s_law ["_law_script"]) (f__law_tape : Ok P w K mg base k "_law_tape" ["_law_script"] (spTape K)) (f__law_book : Ok P w K mg base k "_law_book" ["_law_tape_here", "_law_most"] (spZ (ZT K) S__law_book)) (f__law_draw : Ok P w K mg base k "_law_draw" ["_law_tape_here", "_law_many"] (spZ (ZT K) S__law_draw)) (f__law_some_walk : Ok P w K mg base k "_law_some_walk" ["_law_tape_here", "_law_book_here", "_law_stand_here"] (spZ (ZT K) S__law_some_walk)) (f_how_often : Ok P w K mg base k "how_often" ["book", "stand", "k"] (spZ (ZTab tp qT (ZT K)) (S_how_often mg))) (f__law_meet : Ok P w K mg base k "_law_meet" ["_law_book_here", "_law_stand_here", "_law_answer"] (spZ (Z0 K) S__law_meet)) (f_behind : Ok P w K mg base k "behind" ["book", "stand", "k"] (spZ (Z0 K) (S_behind mg))) (f__law_did : Ok P w K mg base k "_law_did" ["_law_word", "_law_call"] (spZ (ZTab tp qT (ZT K)) S__law_did)) (z_range : mg "range" = none) (z_tuple : mg "tuple" = none) (z_len : mg "len" = none) (z_int : mg "int" = none) (z_repr : mg "repr" = none) : Ok P w K mg base (k + 1) "law" ["_law_script"] (spLawT K tp) := by
  refine D.raw c_law (fun vs H Q E h => by obtain ⟨a, ns, rfl, _⟩ := h; rfl) fun fa cdv A outer s' H vs Q E hr h => ?_
  obtain ⟨a, ns, rfl, hT, hS, hq⟩ := h
  have hd : ∃ ts t, DSs (cxOf (L2.CX P w) P w K mg base ["_law_script", "_law_tape_here", "_law_book_here", "_law_numbers", "_law_stand_here", "_law_walk", "_law_k", "_law_answer", "_law_other", "_law_less", "_law_p"] "law" (defScope s_law) fa cdv A outer s' H E).nox ((ZTab tp qT (ZT K)).wish (fun _ _ _ _ => False) Un) (defBody s_law).tail ts t ∧ ∀ g, g.left = 1000000000000000 → t (lawD TPg) (lawE ["_law_script", "_law_tape_here", "_law_book_here", "_law_numbers", "_law_stand_here", "_law_walk", "_law_k", "_law_answer", "_law_other", "_law_less", "_law_p"] 1) g := by
    refine ⟨_, _, (s_cons (s_set 2 c_law.nd (e_fnU let_n (Ok.tab f__law_book) hr (a_cons (e_v 1) (a_cons (e_tup (a_cons e_int (a_cons e_int (a_cons e_int a_nil)))) a_nil))))
      (s_cons (s_set 3 c_law.nd (e_callTy k_tuple (a_cons (e_lc [("_law_p", 10)] c_law.nd (i_rng1 z_range (a_cons (e_ixX hr.units (e_v 2) e_int) a_nil)) (fun _ _ _ _ _ => (g_name 10 c_law.nd)) (own_name (by decide)) (fun _ _ _ _ _ => ts_nil) (fun _ _ _ _ _ => (e_fnU let_n (Ok.tab f__law_draw) hr (a_cons (e_v 1) (a_cons e_int a_nil))))) a_nil) z_tuple rfl))
      (s_cons (s_set 4 c_law.nd (e_tup (a_cons (e_fnU let_n (Ok.tab f__law_draw) hr (a_cons (e_v 1) (a_cons (e_ixX hr.units (e_v 2) e_int) a_nil))) (a_cons (e_v 3) a_nil))))
      (s_cons (s_set 5 c_law.nd (e_fnU let_n (Ok.tab f__law_some_walk) hr (a_cons (e_v 1) (a_cons (e_v 2) (a_cons (e_v 4) a_nil)))))
      (s_cons (s_for (i_rng1 z_range (a_cons (e_callB k_len (a_cons (e_ixX hr.units (e_v 2) e_int) a_nil) z_len rfl) a_nil)) (g_name 6 c_law.nd) (s_cut (s_set 7 c_law.nd (e_fnU let_n f_how_often hr (a_cons (e_v 2) (a_cons (e_v 4) (a_cons (e_v 6) a_nil)))))
      (s_one (s_if (t_cmp (c_eq hr.units) (e_ixX hr.units (e_v 7) e_int) e_str) (s_cons (s_if (t_cmp c_gt (e_op b_mul (e_cnt hr.units (e_v 5) (e_v 6)) (e_ixX hr.units (e_v 7) e_int)) (e_ixX hr.units (e_v 7) e_int)) (s_one (s_ret e_bl)) s_nil)
      (s_cons (s_if (t_not (t_val (e_fn0U let_n f__law_meet hr (a_cons (e_v 2) (a_cons (e_v 4) (a_cons (e_v 7) a_nil)))))) (s_one (s_ret e_bl)) s_nil)
      (s_one (s_if (t_cmp (c_ne hr.units) (e_v 5) (e_lst a_nil)) (s_cut (s_set 8 c_law.nd (e_fnU let_n f_how_often hr (a_cons (e_v 2) (a_cons (e_fn0U let_n f_behind hr (a_cons (e_v 2) (a_cons (e_v 4) (a_cons (e_ixX hr.units (e_v 5) e_int) a_nil)))) (a_cons (e_v 6) a_nil)))))
      (s_cons (s_if (t_cmp (c_ne hr.units) (e_ixX hr.units (e_v 8) e_int) e_str) (s_one (s_ret e_bl)) s_nil)
      (s_cons (s_set 9 c_law.nd (e_callTy k_int (a_cons (e_cmp (c_eq hr.units) (e_ixX hr.units (e_v 5) e_int) (e_v 6)) a_nil) z_int rfl))
      (s_one (s_if (t_cmp c_gt (e_op b_mul (e_op b_add (e_ixX hr.units (e_v 8) e_int) (e_op b_mul (e_v 9) (e_ixX hr.units (e_v 8) e_int))) (e_ixX hr.units (e_v 7) e_int)) (e_op b_mul (e_ixX hr.units (e_v 7) e_int) (e_ixX hr.units (e_v 8) e_int))) (s_one (s_ret e_bl)) s_nil))))) s_nil)))) s_nil))))
      (s_cons (s_for (i_seq (e_lst (a_cons (e_un u_neg e_int) (a_cons (e_callB k_len (a_cons (e_ixX hr.units (e_v 2) e_int) a_nil) z_len rfl) (a_cons (e_op b_pow e_int e_int) a_nil))))) (g_name 6 c_law.nd) (s_one (s_if (t_cmp (c_ne hr.units) (e_callB (k_reprX hr) (a_cons (e_fnU let_n f__law_did hr (a_cons e_str (a_cons (e_tup (a_cons (e_v 2) (a_cons (e_v 4) (a_cons (e_v 6) a_nil)))) a_nil))) a_nil) z_repr rfl) (e_callB (k_reprX hr) (a_cons e_str a_nil) z_repr rfl)) (s_one (s_ret e_bl)) s_nil)))
      (s_one (s_ret e_bl)))))))), ?_⟩
    intro g hg
    clear hr f__law_tape f__law_book f__law_draw f__law_some_walk f_how_often f__law_meet f_behind f__law_did
    walk_at "w"
    refine ⟨4, 3, 9, rfl, by decide, by decide, by decide, by show 5000 ≤ g.left; omega, fun B n hB hp hn => ?_⟩
    have hwl := hB.n
    have r0 := hB.r0
    have r1 := hB.r1
    have p0 := hB.p0
    have p1 := hB.p1
    walk_at "w"
    refine rgK_of (by omega) (by omega) ?_
    refine leK_of (by rw [rngD_len]; omega) (lc_allG (fun _ d => ∃ z, d = .int z ∧ 0 ≤ z ∧ z ≤ 6) (fun k g' => ∃ m, g' = g.w m ∧ n ≤ m + k) ⟨n, rfl, by omega⟩ (by walk_at "lcw") (fun k d g' hk hJ C1 C0 q => ?_) (fun acc g' hl2 hp2 hJ => ?_))
    · obtain ⟨rfl, hk⟩ := rngD_inv hk
      obtain ⟨m, rfl, hm⟩ := hJ
      walk_at "w"
      refine ⟨by show 1 ≤ m; omega, ?_⟩
      walk_at "w"
      intro z z1 z2
      exact q _ _ ⟨z, rfl, z1, by omega⟩ ⟨m - 1, rfl, by omega⟩
    obtain ⟨m, rfl, hm⟩ := hJ
    rw [rngD_len] at hl2 hm
    obtain ⟨xs, rfl, hxs⟩ := ints_of_get hp2
    rw [List.length_map] at hl2
    walk_at "w"
    refine ⟨by show 1 ≤ m; omega, ?_⟩
    walk_at "w"
    refine pk_of (by omega) (by omega) ?_
    walk_at "w"
    intro r hr1 hr2
    walk_at "w"
    have wgl : ∀ w ∈ B.ways, w.gs.length = B.purses.toNat := fun w hw => by have := (hB.w w hw).len; omega
    refine ⟨B, r, xs, rfl, rfl, by omega, ⟨by omega, by omega⟩, fun w hw => by rw [hl2]; exact wgl w hw, by show 60 ≤ m - 1; omega, fun ks m2 hD hkl hkw hm2 => ?_⟩
    replace hm2 : m - 1 ≤ m2 + 60 := hm2
    have hX : NumOk B r xs := ⟨hl2, fun x hx => by
      have := hxs x hx
      have e : (6 : Int) ≤ 10 ^ 100 := by decide +kernel
      omega, hr1, hr2⟩
    have told : ∀ (r : Int) (xs : List Int) (k : Int), NumOk B r xs → inW B k = true → k ∉ metW B r → Told51 B r xs k (how0 B) := fun r xs k hX hk hn => .inr ⟨_, _, _, _, _, HowA.zero hn ⟨by omega, by omega⟩ hX wgl (fun j hj => everyW_mem (metW_iff.mp hj).1), how0_eq B⟩
    walk_at "w"
    rw [List.length_map]
    refine rgK_of (by omega) (by omega) ?_
    refine ⟨⟨fun k ρ' g' => Hold (∃ s6 s7 s8 s9 : Sl, g' = g.w m2 ∧ ρ' = [.un, .rs 0, .dt B.d, .dt (.tuple (xs.map PyData.int)), .dt (standD r xs), .ls (ks.map PyData.int), s6, s7, s8, s9, .un]), hold ⟨_, _, _, _, rfl, rfl⟩, fun k d ρ' g' hk hI => ?_, fun ρ' g' hI => ?_⟩⟩
    · obtain ⟨s6, s7, s8, s9, rfl, rfl⟩ := hI.h
      obtain ⟨rfl, hk2⟩ := rngD_inv hk
      rw [Int.zero_add]
      have hkw2 : inW B ((k : Nat) : Int) = true := wAt_nat (by omega)
      generalize hkk : ((k : Nat) : Int) = kk at *
      walk_at "w"
      refine dCut_of (fun ρ' g' => ∃ a, Told51 B r xs kk a ∧ g' = g.w m2 ∧ ρ' = [.un, .rs 0, .dt B.d, .dt (.tuple (xs.map PyData.int)), .dt (standD r xs), .ls (ks.map PyData.int), .dt (.int kk), .dt a, s8, s9, .un]) (fun N hN => ?_) (fun ρ1 g1 hI => ?_)
      · walk_at "w"
        refine ⟨B, r, xs, _, _, rfl, rfl, hB, by omega, by omega, hX, (fun z => by rw [hkw2] at z; cases z), fun _ hn => ?_, fun hm => ⟨fun cs hcs hck => ?_, fun ws hs fl u M hA => ?_⟩⟩
        · walk_at "w"
          exact hN _ _ ⟨_, told r xs kk hX hkw2 hn, rfl, rfl⟩
        · walk_at "w"
          exact hN _ _ ⟨_, .inl ⟨cs, hcs, hck, rfl⟩, rfl, rfl⟩
        · walk_at "w"
          exact hN _ _ ⟨_, .inr ⟨ws, hs, fl, u, M, hA, rfl⟩, rfl, rfl⟩
      obtain ⟨a, ha, rfl, rfl⟩ := hI
      rcases ha with ⟨cs, hcs, hck, rfl⟩ | ⟨ws, hs, fl, u, M, hA, rfl⟩
      · walk_at "w"
        exact hold ⟨_, _, _, _, rfl, rfl⟩
      obtain ⟨nn, dd, en, ed, n0, d0, hg, nM, du, hcr⟩ := low_ok hA.mb.1 hA.u0
      have hC : HowC B _ _ r xs kk ws hs fl u M := ⟨hB, by omega, by omega, hX, hA⟩
      have hHow : howD ws hs fl u M = .tuple [.str "most", .int nn, .int dd, totD ws hs, .int u, .tuple (fl.map PyData.int), .int u] := by
        unfold howD
        rw [en, ed]
      rw [hHow]
      walk_at "w"
      have u0 := hA.u0
      have cnt : (ks.count kk : Int) * dd ≤ nn := by
        have c1 := count_le hB hA.wl (fun w hw => (hA.w0 w hw).1) (fun w hw => (hA.h0 w hw).1) u0 hA.keep hA.fk hD (.refl _) hl2 (fun x hx => (hX.z x hx).1)
        rw [← hA.worth] at c1
        have c2 := Int.mul_le_mul_of_nonneg_right c1 (Int.le_of_lt d0)
        rw [hcr, Int.mul_assoc, Int.mul_comm u dd, ← Int.mul_assoc] at c2
        exact Int.le_of_mul_le_mul_right c2 u0
      have ccl : ks.count kk ≤ 60 := Nat.le_trans List.count_le_length hkl
      refine mlK_of (mull ⟨by omega, by omega⟩) ?_
      walk_at "w"
      refine ifb_of (fun q => ?_) (fun q => ?_)
      · have q : nn < (ks.count kk : Int) * dd := of_decide_eq_true q
        omega
      walk_at "w"
      refine ⟨B, _, _, r, xs, kk, ws, hs, fl, u, M, rfl, rfl, hHow.symm, hC, ?_⟩
      walk_at "w"
      rw [eqv_nil]
      cases ks with
      | nil =>
        walk_at "w"
        exact hold ⟨_, _, _, _, rfl, rfl⟩
      | cons j ks' =>
        obtain ⟨hj, hfit, hD2⟩ := hD
        walk_at "w"
        have gl := wgl _ (wAt_mem hj)
        have wj := hB.w _ (wAt_mem hj)
        obtain ⟨hja, hjp⟩ := fits_iff.mp hfit
        have hxl2 : (addL xs (wAt B j).gs).length = B.purses.toNat := addL_len hl2 gl
        have hX2 : NumOk B (wAt B j).b (addL xs (wAt B j).gs) := ⟨hxl2, fun x hx => ⟨hjp x hx, by
          obtain ⟨i, hi, rfl⟩ := List.getElem_of_mem hx
          have e := addL_getD (xs := xs) (ys := (wAt B j).gs) (p := i) (by omega) (by omega)
          rw [List.getD_eq_getElem?_getD, List.getElem?_eq_getElem hi] at e
          have e2 : (addL xs (wAt B j).gs)[i] = xs.getD i 0 + (wAt B j).gs.getD i 0 := e
          have h1 := hxs _ (getD_in (ns := xs) (j := i) (by omega))
          have h2 := wj.g _ (getD_in (ns := (wAt B j).gs) (j := i) (by omega))
          have h3 : (200 : Int) ≤ 10 ^ 100 := by decide +kernel
          omega⟩, wj.b0, wj.b1⟩
        have hjm : j ∈ metW B r := DoneW.mem (ks := [j]) (xs := xs) ⟨hj, hfit, trivial⟩ (.refl r) j (by simp)
        have hrr : Rch B (everyW B.ways.length) r (wAt B j).b := by
          have := metW_iff.mp hjm
          exact .step this.2 this.1
        refine dCut_of (fun ρ' g' => ∃ a, Told51 B (wAt B j).b (addL xs (wAt B j).gs) kk a ∧ g' = g.w m2 ∧ ρ' = [.un, .rs 0, .dt B.d, .dt (.tuple (xs.map PyData.int)), .dt (standD r xs), .ls ((j :: ks').map PyData.int), .dt (.int kk), .dt (.tuple [.str "most", .int nn, .int dd, totD ws hs, .int u, .tuple (fl.map PyData.int), .int u]), .dt a, s9, .un]) (fun N hN => ?_) (fun ρ1 g1 hI => ?_)
        · walk_at "w"
          refine opK_of (a := PyData.int j) (atI_nat (j := 0) rfl) ?_
          walk_at "w"
          refine ⟨B, rfl, r, xs, rfl, ⟨by omega, by omega⟩, fun w hw => by rw [hl2]; exact wgl w hw, fun _ => ?_, fun z => (z ⟨hj, hfit⟩).elim⟩
          walk_at "w"
          refine ⟨B, _, _, _, _, rfl, rfl, hB, by omega, by omega, hX2, (fun z => by rw [hkw2] at z; cases z), fun _ hn => ?_, fun hm => ⟨fun cs hcs hck => ?_, fun ws hs fl u M hA => ?_⟩⟩
          · walk_at "w"
            exact hN _ _ ⟨_, told _ _ kk hX2 hkw2 hn, rfl, rfl⟩
          · walk_at "w"
            exact hN _ _ ⟨_, .inl ⟨cs, hcs, hck, rfl⟩, rfl, rfl⟩
          · walk_at "w"
            exact hN _ _ ⟨_, .inr ⟨ws, hs, fl, u, M, hA, rfl⟩, rfl, rfl⟩
        obtain ⟨a2, ha2, rfl, rfl⟩ := hI
        rcases ha2 with ⟨cs, hcs, hck, rfl⟩ | ⟨ws2, hs2, fl2, u2, M2, hA2, rfl⟩
        · exact (how_no_up hB hA ⟨wj.b0, wj.b1⟩ hrr hcs hkw2 hck).elim
        have hmono := how_mono hB hX hA hj hfit hA2 hkw2
        obtain ⟨nn2, dd2, en2, ed2, n02, d02, hg2, nM2, du2, hcr2⟩ := low_ok hA2.mb.1 hA2.u0
        have hHow2 : howD ws2 hs2 fl2 u2 M2 = .tuple [.str "most", .int nn2, .int dd2, totD ws2 hs2, .int u2, .tuple (fl2.map PyData.int), .int u2] := by
          unfold howD
          rw [en2, ed2]
        rw [hHow2]
        have u02 := hA2.u0
        have b1 := hA.ub
        have b2 := hA.mb.2
        have b3 := hA2.ub
        have b4 := hA2.mb.2
        have pw : (2 : Nat) ^ 288 ≤ 2 ^ 620 := Nat.pow_le_pow_right (by decide) (by decide)
        have pw2 : (2 : Nat) ^ 620 + 2 ^ 620 = 2 ^ 621 := by rw [Nat.pow_succ 2 620]; omega
        have q1 : nn.natAbs ≤ 2 ^ 620 := by omega
        have q2 : dd.natAbs ≤ 2 ^ 288 := by omega
        have q3 : nn2.natAbs ≤ 2 ^ 620 := by omega
        have q4 : dd2.natAbs ≤ 2 ^ 288 := by omega
        have le1000 : ∀ {x : Int} {a : Nat}, x.natAbs ≤ 2 ^ a → a ≤ 1000 → x.natAbs ≤ 2 ^ 1000 := fun h h2 => Nat.le_trans h (Nat.pow_le_pow_right (by decide) h2)
        have fin : ∀ less : Int, less = (if j = kk then 1 else 0) → (nn2 + less * dd2) * dd ≤ nn * dd2 ∧ (nn2 + less * dd2).natAbs ≤ 2 ^ 621 := fun less hl => by
          rw [← hl] at hmono
          constructor
          · have e1 : (nn2 + less * dd2) * dd * (u * u2) = dd2 * dd * ((M2 + less * u2) * u) := by
              have : nn2 * u2 = M2 * dd2 := hcr2.symm
              have e : (nn2 + less * dd2) * dd * (u * u2) = (nn2 * u2 + less * dd2 * u2) * dd * u := by
                simp only [Int.add_mul]
                ac_rfl
              rw [e, this]
              simp only [Int.add_mul, Int.mul_add]
              ac_rfl
            have e2 : nn * dd2 * (u * u2) = dd2 * dd * (M * u2) := by
              have : nn * u = M * dd := hcr.symm
              have e : nn * dd2 * (u * u2) = (nn * u) * dd2 * u2 := by ac_rfl
              rw [e, this]
              ac_rfl
            have hpos : 0 < u * u2 := Int.mul_pos u0 u02
            refine Int.le_of_mul_le_mul_right ?_ hpos
            rw [e1, e2]
            exact Int.mul_le_mul_of_nonneg_left hmono (Int.mul_nonneg (Int.le_of_lt d02) (Int.le_of_lt d0))
          · have : (less * dd2).natAbs ≤ 2 ^ 288 := by
              rw [hl]
              split
              · rw [Int.one_mul]; exact q4
              · rw [Int.zero_mul]; exact Nat.zero_le _
            refine Nat.le_trans (Int.natAbs_add_le _ _) ?_
            omega
        clear hmono
        walk_at "w"
        refine opK_of (a := PyData.int j) (atI_nat (j := 0) rfl) ?_
        walk_at "w"
        have hless := fin (if decide (j = kk) = true then 1 else 0) (by simp only [decide_eq_true_eq])
        have l01 : -(2 ^ 64) < (if decide (j = kk) = true then (1 : Int) else 0) ∧ (if decide (j = kk) = true then (1 : Int) else 0) < 2 ^ 64 := by split <;> decide
        generalize (if decide (j = kk) = true then (1 : Int) else 0) = less at hless l01 ⊢
        walk_at "w"
        refine mlK_of (mull l01) ?_
        walk_at "w"
        refine mlK_of (mul_1000 (le1000 hless.2 (by decide)) (le1000 q2 (by decide))) ?_
        walk_at "w"
        refine mlK_of (mul_1000 (le1000 q1 (by decide)) (le1000 q4 (by decide))) ?_
        walk_at "w"
        refine ifb_of (fun q => ?_) (fun q => ?_)
        · have q : nn * dd2 < (nn2 + less * dd2) * dd := of_decide_eq_true q
          have := hless.1
          omega
        walk_at "w"
        exact hold ⟨_, _, _, _, rfl, rfl⟩
    · obtain ⟨s6, s7, s8, s9, rfl, rfl⟩ := hI.h
      walk_at "w"
      have hz : ∀ (i : Nat) (d : PyData), [PyData.int (-1), PyData.int ((B.ways.map Way.d).length : Nat), (fun (i j : Int) => PyData.int (i ^ j.toNat)) 10 40][i]? = some d → ∃ z : Int, d = .int z ∧ inW B z = false := fun i d hi => by
        have hm := List.mem_of_getElem? hi
        have hb : (1000 : Int) ≤ 10 ^ 40 := by decide +kernel
        have hb2 : ¬ (10 : Int) ^ Int.toNat 40 < (B.ways.length : Int) := by
          show ¬ (10 : Int) ^ 40 < _
          omega
        simp only [List.mem_cons, List.not_mem_nil, or_false] at hm
        rcases hm with rfl | rfl | rfl
        · exact ⟨_, rfl, rfl⟩
        · exact ⟨_, rfl, by unfold inW; rw [List.length_map, decide_eq_false (show ¬ ((B.ways.length : Nat) : Int) < B.ways.length by omega), Bool.and_false]⟩
        · exact ⟨_, rfl, by unfold inW; rw [decide_eq_false hb2, Bool.and_false]⟩
      generalize [PyData.int (-1), PyData.int ((B.ways.map Way.d).length : Nat), (fun (i j : Int) => PyData.int (i ^ j.toNat)) 10 40] = items at hz ⊢
      refine ⟨fun i ρ' g' => Hold (∃ s6 : Sl, g' = g.w m2 ∧ ρ' = [.un, .rs 0, .dt B.d, .dt (.tuple (xs.map PyData.int)), .dt (standD r xs), .ls (ks.map PyData.int), s6, s7, s8, s9, .un]), hold ⟨_, rfl, rfl⟩, fun i d ρ' g' hi hI => ?_, fun ρ' g' hI => ?_⟩
      · obtain ⟨s6, rfl, rfl⟩ := hI.h
        obtain ⟨z, rfl, hzw⟩ := hz i d hi
        walk_at "w"
        refine ⟨B, r, xs, _, _, rfl, rfl, hB, by omega, by omega, hX, hzw, ?_⟩
        walk_at "w"
        refine shK_of (shOk_of (by decide) (by decide) (by decide) (by decide) (by decide)) ?_
        walk_at "w"
        refine shK_of (shOk_of (by decide) (by decide) (by decide) (by decide) (by decide)) ?_
        walk_at "w"
        rw [decide_eq_true rfl]
        walk_at "w"
        exact hold ⟨_, rfl, rfl⟩
      · obtain ⟨s6, rfl, rfl⟩ := hI.h
        walk_at "w"
  obtain ⟨ts, t, hd, hb⟩ := hd
  exact ⟨_, pss_cons (ps_set (i := 1) c_law.nd rfl (by first | exact .inl rfl | exact .inr rfl) (pe_fn f__law_tape hr (pa_cons (pv 0) pa_nil))) hd.ps, law_simTT hd.sim hT hS hq (by decide) (by decide) hb⟩
theorem all_mk {l : PySem.W.OpenLaw} {w : World} {K : PySem.W.Frag} {h : Heap} {mg : Str → Option Value} {fa : Addr} (X : K.In h) (G : h.Ns mainGlobals mg) (hfa : mg "law" = some (.ref fa))
    {C_Table : Addr} (xa_Table : PySem.W.nsIn K mainGlobals "Table" = some (some (.ref C_Table))) (pg_Table : PySem.W.plainGet K C_Table Str.empty = true) (hd_Table : PySem.W.hasDictIn K C_Table = true) (po_Table : PySem.W.plainOver K C_Table = true) (sa_Table : PySem.W.findIn K (.ref C_Table) "__setattr__" = some (some (.builtin "object.__setattr__"))) (mk_Table : PySem.W.makesIn K C_Table = true) (kc_Table : PySem.W.keepIn K (.ref C_Table) = true)
    (na_Table_free : PySem.W.findIn K (.ref C_Table) "free" = some none)
    (na_Table_bound : PySem.W.findIn K (.ref C_Table) "bound" = some none)
    (na_Table_rows : PySem.W.findIn K (.ref C_Table) "rows" = some none)
    (na_Table_divisor : PySem.W.findIn K (.ref C_Table) "divisor" = some none)
    {f1 : Addr} {od1 an1 : Option Addr} {sl1 : Array (Option Value)} {oc1 kV1 dc1 pm1 cd1 ct1 : Value}
    (a1 : PySem.W.nsIn K mainGlobals "_law_tape" = some (some (.ref f1))) (l1 : K.lookup f1 = some ⟨oc1, od1, .func (PySem.W.fnOf "_law_tape" "_law_tape" (defArgs s__law_tape) (defBody s__law_tape) (defScope s__law_tape) .none kV1 dc1 pm1 an1 cd1 ct1), sl1⟩) (c1 : PySem.W.codeIn K cd1 "_law_tape" = true) (k1 : PySem.W.keepIn K (.ref f1) = true)
    {f2 : Addr} {od2 an2 : Option Addr} {sl2 : Array (Option Value)} {oc2 kV2 dc2 pm2 cd2 ct2 : Value}
    (a2 : PySem.W.nsIn K mainGlobals "_law_draw" = some (some (.ref f2))) (l2 : K.lookup f2 = some ⟨oc2, od2, .func (PySem.W.fnOf "_law_draw" "_law_draw" (defArgs s__law_draw) (defBody s__law_draw) (defScope s__law_draw) .none kV2 dc2 pm2 an2 cd2 ct2), sl2⟩) (c2 : PySem.W.codeIn K cd2 "_law_draw" = true) (k2 : PySem.W.keepIn K (.ref f2) = true)
    {f3 : Addr} {od3 an3 : Option Addr} {sl3 : Array (Option Value)} {oc3 kV3 dc3 pm3 cd3 ct3 : Value}
    (a3 : PySem.W.nsIn K mainGlobals "_law_gain" = some (some (.ref f3))) (l3 : K.lookup f3 = some ⟨oc3, od3, .func (PySem.W.fnOf "_law_gain" "_law_gain" (defArgs s__law_gain) (defBody s__law_gain) (defScope s__law_gain) .none kV3 dc3 pm3 an3 cd3 ct3), sl3⟩) (c3 : PySem.W.codeIn K cd3 "_law_gain" = true) (k3 : PySem.W.keepIn K (.ref f3) = true)
    {f4 : Addr} {od4 an4 : Option Addr} {sl4 : Array (Option Value)} {oc4 kV4 dc4 pm4 cd4 ct4 : Value}
    (a4 : PySem.W.nsIn K mainGlobals "_law_gains" = some (some (.ref f4))) (l4 : K.lookup f4 = some ⟨oc4, od4, .func (PySem.W.fnOf "_law_gains" "_law_gains" (defArgs s__law_gains) (defBody s__law_gains) (defScope s__law_gains) .none kV4 dc4 pm4 an4 cd4 ct4), sl4⟩) (c4 : PySem.W.codeIn K cd4 "_law_gains" = true) (k4 : PySem.W.keepIn K (.ref f4) = true)
    {f5 : Addr} {od5 an5 : Option Addr} {sl5 : Array (Option Value)} {oc5 kV5 dc5 pm5 cd5 ct5 : Value}
    (a5 : PySem.W.nsIn K mainGlobals "_law_nested" = some (some (.ref f5))) (l5 : K.lookup f5 = some ⟨oc5, od5, .func (PySem.W.fnOf "_law_nested" "_law_nested" (defArgs s__law_nested) (defBody s__law_nested) (defScope s__law_nested) .none kV5 dc5 pm5 an5 cd5 ct5), sl5⟩) (c5 : PySem.W.codeIn K cd5 "_law_nested" = true) (k5 : PySem.W.keepIn K (.ref f5) = true)
    {f6 : Addr} {od6 an6 : Option Addr} {sl6 : Array (Option Value)} {oc6 kV6 dc6 pm6 cd6 ct6 : Value}
    (a6 : PySem.W.nsIn K mainGlobals "_law_book" = some (some (.ref f6))) (l6 : K.lookup f6 = some ⟨oc6, od6, .func (PySem.W.fnOf "_law_book" "_law_book" (defArgs s__law_book) (defBody s__law_book) (defScope s__law_book) .none kV6 dc6 pm6 an6 cd6 ct6), sl6⟩) (c6 : PySem.W.codeIn K cd6 "_law_book" = true) (k6 : PySem.W.keepIn K (.ref f6) = true)
    {f7 : Addr} {od7 an7 : Option Addr} {sl7 : Array (Option Value)} {oc7 kV7 dc7 pm7 cd7 ct7 : Value}
    (a7 : PySem.W.nsIn K mainGlobals "added" = some (some (.ref f7))) (l7 : K.lookup f7 = some ⟨oc7, od7, .func (PySem.W.fnOf "added" "added" (defArgs s_added) (defBody s_added) (defScope s_added) .none kV7 dc7 pm7 an7 cd7 ct7), sl7⟩) (c7 : PySem.W.codeIn K cd7 "added" = true) (k7 : PySem.W.keepIn K (.ref f7) = true)
    {f8 : Addr} {od8 an8 : Option Addr} {sl8 : Array (Option Value)} {oc8 kV8 dc8 pm8 cd8 ct8 : Value}
    (a8 : PySem.W.nsIn K mainGlobals "fits" = some (some (.ref f8))) (l8 : K.lookup f8 = some ⟨oc8, od8, .func (PySem.W.fnOf "fits" "fits" (defArgs s_fits) (defBody s_fits) (defScope s_fits) .none kV8 dc8 pm8 an8 cd8 ct8), sl8⟩) (c8 : PySem.W.codeIn K cd8 "fits" = true) (k8 : PySem.W.keepIn K (.ref f8) = true)
    {f9 : Addr} {od9 an9 : Option Addr} {sl9 : Array (Option Value)} {oc9 kV9 dc9 pm9 cd9 ct9 : Value}
    (a9 : PySem.W.nsIn K mainGlobals "can_do" = some (some (.ref f9))) (l9 : K.lookup f9 = some ⟨oc9, od9, .func (PySem.W.fnOf "can_do" "can_do" (defArgs s_can_do) (defBody s_can_do) (defScope s_can_do) .none kV9 dc9 pm9 an9 cd9 ct9), sl9⟩) (c9 : PySem.W.codeIn K cd9 "can_do" = true) (k9 : PySem.W.keepIn K (.ref f9) = true)
    {f10 : Addr} {od10 an10 : Option Addr} {sl10 : Array (Option Value)} {oc10 kV10 dc10 pm10 cd10 ct10 : Value}
    (a10 : PySem.W.nsIn K mainGlobals "behind" = some (some (.ref f10))) (l10 : K.lookup f10 = some ⟨oc10, od10, .func (PySem.W.fnOf "behind" "behind" (defArgs s_behind) (defBody s_behind) (defScope s_behind) .none kV10 dc10 pm10 an10 cd10 ct10), sl10⟩) (c10 : PySem.W.codeIn K cd10 "behind" = true) (k10 : PySem.W.keepIn K (.ref f10) = true)
    {f11 : Addr} {od11 an11 : Option Addr} {sl11 : Array (Option Value)} {oc11 kV11 dc11 pm11 cd11 ct11 : Value}
    (a11 : PySem.W.nsIn K mainGlobals "_law_some_walk" = some (some (.ref f11))) (l11 : K.lookup f11 = some ⟨oc11, od11, .func (PySem.W.fnOf "_law_some_walk" "_law_some_walk" (defArgs s__law_some_walk) (defBody s__law_some_walk) (defScope s__law_some_walk) .none kV11 dc11 pm11 an11 cd11 ct11), sl11⟩) (c11 : PySem.W.codeIn K cd11 "_law_some_walk" = true) (k11 : PySem.W.keepIn K (.ref f11) = true)
    {f12 : Addr} {od12 an12 : Option Addr} {sl12 : Array (Option Value)} {oc12 kV12 dc12 pm12 cd12 ct12 : Value}
    (a12 : PySem.W.nsIn K mainGlobals "met_from" = some (some (.ref f12))) (l12 : K.lookup f12 = some ⟨oc12, od12, .func (PySem.W.fnOf "met_from" "met_from" (defArgs s_met_from) (defBody s_met_from) (defScope s_met_from) .none kV12 dc12 pm12 an12 cd12 ct12), sl12⟩) (c12 : PySem.W.codeIn K cd12 "met_from" = true) (k12 : PySem.W.keepIn K (.ref f12) = true)
    {f13 : Addr} {od13 an13 : Option Addr} {sl13 : Array (Option Value)} {oc13 kV13 dc13 pm13 cd13 ct13 : Value}
    (m13 : PySem.W.findIn K (.ref C_Table) "__init__" = some (some (.ref f13))) (i13 : PySem.W.isFn K (.ref f13) = true) (l13 : K.lookup f13 = some ⟨oc13, od13, .func (PySem.W.fnOf "__init__" "Table.__init__" (defArgs s_Table___init__) (defBody s_Table___init__) (defScope s_Table___init__) .none kV13 dc13 pm13 an13 cd13 ct13), sl13⟩) (c13 : PySem.W.codeIn K cd13 "Table.__init__" = true) (k13 : PySem.W.keepIn K (.ref f13) = true)
    {cT : Addr} {f14 : Addr} {od14 an14 : Option Addr} {sl14 : Array (Option Value)} {oc14 kV14 dc14 pm14 ct14 : Value}
    (m14 : PySem.W.findIn K (.ref C_Table) "entering" = some (some (.ref f14))) (i14 : PySem.W.isFn K (.ref f14) = true) (l14 : K.lookup f14 = some ⟨oc14, od14, .func (PySem.W.fnOf "entering" "Table.entering" (defArgs s_Table_entering) (defBody s_Table_entering) (defScope s_Table_entering) .none kV14 dc14 pm14 an14 (.ref cT) ct14), sl14⟩) (c14 : PySem.W.codeIn K (.ref cT) "Table.entering" = true) (k14 : PySem.W.keepIn K (.ref f14) = true)
    {tp : Addr} {oC : Value} {odC : Option Addr} {vsC : Array Value} {slC : Array (Option Value)} (tq : K.lookup cT = some ⟨oC, odC, .fields vsC, slC⟩) (tv : vsC[11]? = some (.ref tp)) (th : PySem.W.codeHdIn K cT tp = true) (tn : K.lookup tp = none) (tt : h.get? tp = some { cls := .none, data := .fields #[] })
    {f15 : Addr} {od15 an15 : Option Addr} {sl15 : Array (Option Value)} {oc15 kV15 dc15 pm15 cd15 ct15 : Value}
    (m15 : PySem.W.findIn K (.ref C_Table) "is_nearer" = some (some (.ref f15))) (i15 : PySem.W.isFn K (.ref f15) = true) (l15 : K.lookup f15 = some ⟨oc15, od15, .func (PySem.W.fnOf "is_nearer" "Table.is_nearer" (defArgs s_Table_is_nearer) (defBody s_Table_is_nearer) (defScope s_Table_is_nearer) .none kV15 dc15 pm15 an15 cd15 ct15), sl15⟩) (c15 : PySem.W.codeIn K cd15 "Table.is_nearer" = true) (k15 : PySem.W.keepIn K (.ref f15) = true)
    {f16 : Addr} {od16 an16 : Option Addr} {sl16 : Array (Option Value)} {oc16 kV16 dc16 pm16 cd16 ct16 : Value}
    (m16 : PySem.W.findIn K (.ref C_Table) "leaving" = some (some (.ref f16))) (i16 : PySem.W.isFn K (.ref f16) = true) (l16 : K.lookup f16 = some ⟨oc16, od16, .func (PySem.W.fnOf "leaving" "Table.leaving" (defArgs s_Table_leaving) (defBody s_Table_leaving) (defScope s_Table_leaving) .none kV16 dc16 pm16 an16 cd16 ct16), sl16⟩) (c16 : PySem.W.codeIn K cd16 "Table.leaving" = true) (k16 : PySem.W.keepIn K (.ref f16) = true)
    {f17 : Addr} {od17 an17 : Option Addr} {sl17 : Array (Option Value)} {oc17 kV17 dc17 pm17 cd17 ct17 : Value}
    (m17 : PySem.W.findIn K (.ref C_Table) "exchange" = some (some (.ref f17))) (i17 : PySem.W.isFn K (.ref f17) = true) (l17 : K.lookup f17 = some ⟨oc17, od17, .func (PySem.W.fnOf "exchange" "Table.exchange" (defArgs s_Table_exchange) (defBody s_Table_exchange) (defScope s_Table_exchange) .none kV17 dc17 pm17 an17 cd17 ct17), sl17⟩) (c17 : PySem.W.codeIn K cd17 "Table.exchange" = true) (k17 : PySem.W.keepIn K (.ref f17) = true)
    {f18 : Addr} {od18 an18 : Option Addr} {sl18 : Array (Option Value)} {oc18 kV18 dc18 pm18 cd18 ct18 : Value}
    (m18 : PySem.W.findIn K (.ref C_Table) "solve" = some (some (.ref f18))) (i18 : PySem.W.isFn K (.ref f18) = true) (l18 : K.lookup f18 = some ⟨oc18, od18, .func (PySem.W.fnOf "solve" "Table.solve" (defArgs s_Table_solve) (defBody s_Table_solve) (defScope s_Table_solve) .none kV18 dc18 pm18 an18 cd18 ct18), sl18⟩) (c18 : PySem.W.codeIn K cd18 "Table.solve" = true) (k18 : PySem.W.keepIn K (.ref f18) = true)
    {f19 : Addr} {od19 an19 : Option Addr} {sl19 : Array (Option Value)} {oc19 kV19 dc19 pm19 cd19 ct19 : Value}
    (m19 : PySem.W.findIn K (.ref C_Table) "unknowns" = some (some (.ref f19))) (i19 : PySem.W.isFn K (.ref f19) = true) (l19 : K.lookup f19 = some ⟨oc19, od19, .func (PySem.W.fnOf "unknowns" "Table.unknowns" (defArgs s_Table_unknowns) (defBody s_Table_unknowns) (defScope s_Table_unknowns) .none kV19 dc19 pm19 an19 cd19 ct19), sl19⟩) (c19 : PySem.W.codeIn K cd19 "Table.unknowns" = true) (k19 : PySem.W.keepIn K (.ref f19) = true)
    {f20 : Addr} {od20 an20 : Option Addr} {sl20 : Array (Option Value)} {oc20 kV20 dc20 pm20 cd20 ct20 : Value}
    (m20 : PySem.W.findIn K (.ref C_Table) "side_prices" = some (some (.ref f20))) (i20 : PySem.W.isFn K (.ref f20) = true) (l20 : K.lookup f20 = some ⟨oc20, od20, .func (PySem.W.fnOf "side_prices" "Table.side_prices" (defArgs s_Table_side_prices) (defBody s_Table_side_prices) (defScope s_Table_side_prices) .none kV20 dc20 pm20 an20 cd20 ct20), sl20⟩) (c20 : PySem.W.codeIn K cd20 "Table.side_prices" = true) (k20 : PySem.W.keepIn K (.ref f20) = true)
    {f21 : Addr} {od21 an21 : Option Addr} {sl21 : Array (Option Value)} {oc21 kV21 dc21 pm21 cd21 ct21 : Value}
    (m21 : PySem.W.findIn K (.ref C_Table) "way_up" = some (some (.ref f21))) (i21 : PySem.W.isFn K (.ref f21) = true) (l21 : K.lookup f21 = some ⟨oc21, od21, .func (PySem.W.fnOf "way_up" "Table.way_up" (defArgs s_Table_way_up) (defBody s_Table_way_up) (defScope s_Table_way_up) .none kV21 dc21 pm21 an21 cd21 ct21), sl21⟩) (c21 : PySem.W.codeIn K cd21 "Table.way_up" = true) (k21 : PySem.W.keepIn K (.ref f21) = true)
    {f22 : Addr} {od22 an22 : Option Addr} {sl22 : Array (Option Value)} {oc22 kV22 dc22 pm22 cd22 ct22 : Value}
    (a22 : PySem.W.nsIn K mainGlobals "solved" = some (some (.ref f22))) (l22 : K.lookup f22 = some ⟨oc22, od22, .func (PySem.W.fnOf "solved" "solved" (defArgs s_solved) (defBody s_solved) (defScope s_solved) .none kV22 dc22 pm22 an22 cd22 ct22), sl22⟩) (c22 : PySem.W.codeIn K cd22 "solved" = true) (k22 : PySem.W.keepIn K (.ref f22) = true)
    {f23 : Addr} {od23 an23 : Option Addr} {sl23 : Array (Option Value)} {oc23 kV23 dc23 pm23 cd23 ct23 : Value}
    (a23 : PySem.W.nsIn K mainGlobals "common" = some (some (.ref f23))) (l23 : K.lookup f23 = some ⟨oc23, od23, .func (PySem.W.fnOf "common" "common" (defArgs s_common) (defBody s_common) (defScope s_common) .none kV23 dc23 pm23 an23 cd23 ct23), sl23⟩) (c23 : PySem.W.codeIn K cd23 "common" = true) (k23 : PySem.W.keepIn K (.ref f23) = true)
    {f24 : Addr} {od24 an24 : Option Addr} {sl24 : Array (Option Value)} {oc24 kV24 dc24 pm24 cd24 ct24 : Value}
    (a24 : PySem.W.nsIn K mainGlobals "flow_rows" = some (some (.ref f24))) (l24 : K.lookup f24 = some ⟨oc24, od24, .func (PySem.W.fnOf "flow_rows" "flow_rows" (defArgs s_flow_rows) (defBody s_flow_rows) (defScope s_flow_rows) .none kV24 dc24 pm24 an24 cd24 ct24), sl24⟩) (c24 : PySem.W.codeIn K cd24 "flow_rows" = true) (k24 : PySem.W.keepIn K (.ref f24) = true)
    {f25 : Addr} {od25 an25 : Option Addr} {sl25 : Array (Option Value)} {oc25 kV25 dc25 pm25 cd25 ct25 : Value}
    (a25 : PySem.W.nsIn K mainGlobals "lessened" = some (some (.ref f25))) (l25 : K.lookup f25 = some ⟨oc25, od25, .func (PySem.W.fnOf "lessened" "lessened" (defArgs s_lessened) (defBody s_lessened) (defScope s_lessened) .none kV25 dc25 pm25 an25 cd25 ct25), sl25⟩) (c25 : PySem.W.codeIn K cd25 "lessened" = true) (k25 : PySem.W.keepIn K (.ref f25) = true)
    {f26 : Addr} {od26 an26 : Option Addr} {sl26 : Array (Option Value)} {oc26 kV26 dc26 pm26 cd26 ct26 : Value}
    (a26 : PySem.W.nsIn K mainGlobals "as_round" = some (some (.ref f26))) (l26 : K.lookup f26 = some ⟨oc26, od26, .func (PySem.W.fnOf "as_round" "as_round" (defArgs s_as_round) (defBody s_as_round) (defScope s_as_round) .none kV26 dc26 pm26 an26 cd26 ct26), sl26⟩) (c26 : PySem.W.codeIn K cd26 "as_round" = true) (k26 : PySem.W.keepIn K (.ref f26) = true)
    {f27 : Addr} {od27 an27 : Option Addr} {sl27 : Array (Option Value)} {oc27 kV27 dc27 pm27 cd27 ct27 : Value}
    (a27 : PySem.W.nsIn K mainGlobals "how_often" = some (some (.ref f27))) (l27 : K.lookup f27 = some ⟨oc27, od27, .func (PySem.W.fnOf "how_often" "how_often" (defArgs s_how_often) (defBody s_how_often) (defScope s_how_often) .none kV27 dc27 pm27 an27 cd27 ct27), sl27⟩) (c27 : PySem.W.codeIn K cd27 "how_often" = true) (k27 : PySem.W.keepIn K (.ref f27) = true)
    {f28 : Addr} {od28 an28 : Option Addr} {sl28 : Array (Option Value)} {oc28 kV28 dc28 pm28 cd28 ct28 : Value}
    (a28 : PySem.W.nsIn K mainGlobals "weighed" = some (some (.ref f28))) (l28 : K.lookup f28 = some ⟨oc28, od28, .func (PySem.W.fnOf "weighed" "weighed" (defArgs s_weighed) (defBody s_weighed) (defScope s_weighed) .none kV28 dc28 pm28 an28 cd28 ct28), sl28⟩) (c28 : PySem.W.codeIn K cd28 "weighed" = true) (k28 : PySem.W.keepIn K (.ref f28) = true)
    {f29 : Addr} {od29 an29 : Option Addr} {sl29 : Array (Option Value)} {oc29 kV29 dc29 pm29 cd29 ct29 : Value}
    (a29 : PySem.W.nsIn K mainGlobals "worth" = some (some (.ref f29))) (l29 : K.lookup f29 = some ⟨oc29, od29, .func (PySem.W.fnOf "worth" "worth" (defArgs s_worth) (defBody s_worth) (defScope s_worth) .none kV29 dc29 pm29 an29 cd29 ct29), sl29⟩) (c29 : PySem.W.codeIn K cd29 "worth" = true) (k29 : PySem.W.keepIn K (.ref f29) = true)
    {f30 : Addr} {od30 an30 : Option Addr} {sl30 : Array (Option Value)} {oc30 kV30 dc30 pm30 cd30 ct30 : Value}
    (a30 : PySem.W.nsIn K mainGlobals "fall" = some (some (.ref f30))) (l30 : K.lookup f30 = some ⟨oc30, od30, .func (PySem.W.fnOf "fall" "fall" (defArgs s_fall) (defBody s_fall) (defScope s_fall) .none kV30 dc30 pm30 an30 cd30 ct30), sl30⟩) (c30 : PySem.W.codeIn K cd30 "fall" = true) (k30 : PySem.W.keepIn K (.ref f30) = true)
    {f31 : Addr} {od31 an31 : Option Addr} {sl31 : Array (Option Value)} {oc31 kV31 dc31 pm31 cd31 ct31 : Value}
    (a31 : PySem.W.nsIn K mainGlobals "_law_meet" = some (some (.ref f31))) (l31 : K.lookup f31 = some ⟨oc31, od31, .func (PySem.W.fnOf "_law_meet" "_law_meet" (defArgs s__law_meet) (defBody s__law_meet) (defScope s__law_meet) .none kV31 dc31 pm31 an31 cd31 ct31), sl31⟩) (c31 : PySem.W.codeIn K cd31 "_law_meet" = true) (k31 : PySem.W.keepIn K (.ref f31) = true)
    {f32 : Addr} {od32 an32 : Option Addr} {sl32 : Array (Option Value)} {oc32 kV32 dc32 pm32 cd32 ct32 : Value}
    (a32 : PySem.W.nsIn K mainGlobals "_law_asked" = some (some (.ref f32))) (l32 : K.lookup f32 = some ⟨oc32, od32, .func (PySem.W.fnOf "_law_asked" "_law_asked" (defArgs s__law_asked) (defBody s__law_asked) (defScope s__law_asked) .none kV32 dc32 pm32 an32 cd32 ct32), sl32⟩) (c32 : PySem.W.codeIn K cd32 "_law_asked" = true) (k32 : PySem.W.keepIn K (.ref f32) = true)
    {f33 : Addr} {od33 an33 : Option Addr} {sl33 : Array (Option Value)} {oc33 kV33 dc33 pm33 cd33 ct33 : Value}
    (a33 : PySem.W.nsIn K mainGlobals "_law_did" = some (some (.ref f33))) (l33 : K.lookup f33 = some ⟨oc33, od33, .func (PySem.W.fnOf "_law_did" "_law_did" (defArgs s__law_did) (defBody s__law_did) (defScope s__law_did) .none kV33 dc33 pm33 an33 cd33 ct33), sl33⟩) (c33 : PySem.W.codeIn K cd33 "_law_did" = true) (k33 : PySem.W.keepIn K (.ref f33) = true)
    {f34 : Addr} {od34 an34 : Option Addr} {sl34 : Array (Option Value)} {oc34 kV34 dc34 pm34 cd34 ct34 : Value}
    (a34 : PySem.W.nsIn K mainGlobals "law" = some (some (.ref f34))) (l34 : K.lookup f34 = some ⟨oc34, od34, .func (PySem.W.fnOf "law" "law" (defArgs s_law) (defBody s_law) (defScope s_law) .none kV34 dc34 pm34 an34 cd34 ct34), sl34⟩) (c34 : PySem.W.codeIn K cd34 "law" = true) (k34 : PySem.W.keepIn K (.ref f34) = true)
    (z1 : PySem.W.nsIn K mainGlobals "list" = some none)
    (z2 : PySem.W.nsIn K mainGlobals "len" = some none)
    (z3 : PySem.W.nsIn K mainGlobals "range" = some none)
    (z4 : PySem.W.nsIn K mainGlobals "tuple" = some none)
    (z5 : PySem.W.nsIn K mainGlobals "max" = some none)
    (z6 : PySem.W.nsIn K mainGlobals "min" = some none)
    (z7 : PySem.W.nsIn K mainGlobals "zip" = some none)
    (z8 : PySem.W.nsIn K mainGlobals "enumerate" = some none)
    (z9 : PySem.W.nsIn K mainGlobals "abs" = some none)
    (z10 : PySem.W.nsIn K mainGlobals "int" = some none)
    (z11 : PySem.W.nsIn K mainGlobals "sum" = some none)
    (z12 : PySem.W.nsIn K mainGlobals "isinstance" = some none)
    (z13 : PySem.W.nsIn K mainGlobals "ValueError" = some none)
    (z14 : PySem.W.nsIn K mainGlobals "repr" = some none)
    {C_NoRound : Addr} (xa_NoRound : PySem.W.nsIn K mainGlobals "NoRound" = some (some (.ref C_NoRound)))
    {C_NoRing : Addr} (xa_NoRing : PySem.W.nsIn K mainGlobals "NoRing" = some (some (.ref C_NoRing)))
    {C_NoPurse : Addr} (xa_NoPurse : PySem.W.nsIn K mainGlobals "NoPurse" = some (some (.ref C_NoPurse)))
    {C_NoEnd : Addr} (xa_NoEnd : PySem.W.nsIn K mainGlobals "NoEnd" = some (some (.ref C_NoEnd)))
    {C_NoStand : Addr} (xa_NoStand : PySem.W.nsIn K mainGlobals "NoStand" = some (some (.ref C_NoStand)))
    {C_TooMany : Addr} (xa_TooMany : PySem.W.nsIn K mainGlobals "TooMany" = some (some (.ref C_TooMany)))
    {C_NoLine : Addr} (xa_NoLine : PySem.W.nsIn K mainGlobals "NoLine" = some (some (.ref C_NoLine)))
    {C_NoRow : Addr} (xa_NoRow : PySem.W.nsIn K mainGlobals "NoRow" = some (some (.ref C_NoRow)))
    {C_NoWay : Addr} (xa_NoWay : PySem.W.nsIn K mainGlobals "NoWay" = some (some (.ref C_NoWay))) (xb_NoWay : PySem.W.excIn K C_NoWay [.type "ValueError", .type "Exception", .type "BaseException", .type "object"] "ValueError.__new__" = true) (xc_NoWay : PySem.W.keepIn K (.ref C_NoWay) = true)
    (xd_NoWay : PySem.W.subIn K (.ref C_NoWay) (.type "BaseException") = some true) (xe_NoWay : PySem.W.typeIn K (.ref C_NoWay) = some (.type "type")) (xf_NoWay : PySem.W.hasDictIn K C_NoWay = true)
    {C_FallError : Addr} (xa_FallError : PySem.W.nsIn K mainGlobals "FallError" = some (some (.ref C_FallError))) (xb_FallError : PySem.W.excIn K C_FallError [.type "ValueError", .type "Exception", .type "BaseException", .type "object"] "ValueError.__new__" = true) (xc_FallError : PySem.W.keepIn K (.ref C_FallError) = true)
    (xd_FallError : PySem.W.subIn K (.ref C_FallError) (.type "BaseException") = some true) (xe_FallError : PySem.W.typeIn K (.ref C_FallError) = some (.type "type")) (xf_FallError : PySem.W.hasDictIn K C_FallError = true)
    (us_NoWay_FallError : PySem.W.subIn K (.ref C_NoWay) (.ref C_FallError) = some true)
    (kb : PySem.W.specialIn K (.builtin "object.__class__") "__get__" = some (some (.builtin "getset_descriptor.__get__"))) (kc : PySem.W.takesIn K (.builtin "object.__class__") = some true)
    (ka_NoWay : PySem.W.findIn K (.ref C_NoWay) "__getattribute__" = some (some (.builtin "BaseException.__getattribute__"))) (kd_NoWay : PySem.W.findIn K (.ref C_NoWay) "__getattr__" = some none) (ke_NoWay : PySem.W.findIn K (.ref C_NoWay) "__class__" = some (some (.builtin "object.__class__"))) (kf_NoWay : PySem.W.mroIn K C_NoWay (.type "object") = some true) (kg_NoWay : PySem.W.kitOne K (.ref C_NoWay) (.type "ValueError") = some true)
    (kh_NoWay_NoWay : PySem.W.kitOne K (.ref C_NoWay) (.ref C_NoWay) = some true)
    (kh_NoWay_NoRound : PySem.W.kitOne K (.ref C_NoWay) (.ref C_NoRound) = some false)
    (kh_NoWay_NoRing : PySem.W.kitOne K (.ref C_NoWay) (.ref C_NoRing) = some false)
    (kh_NoWay_NoPurse : PySem.W.kitOne K (.ref C_NoWay) (.ref C_NoPurse) = some false)
    (kh_NoWay_NoEnd : PySem.W.kitOne K (.ref C_NoWay) (.ref C_NoEnd) = some false)
    (kh_NoWay_NoStand : PySem.W.kitOne K (.ref C_NoWay) (.ref C_NoStand) = some false)
    (kh_NoWay_TooMany : PySem.W.kitOne K (.ref C_NoWay) (.ref C_TooMany) = some false)
    (kh_NoWay_NoLine : PySem.W.kitOne K (.ref C_NoWay) (.ref C_NoLine) = some false)
    (kh_NoWay_NoRow : PySem.W.kitOne K (.ref C_NoWay) (.ref C_NoRow) = some false)
    : ∃ (fd : FuncData) (cd tp : Addr), (∀ (s : Shared) (v : Value), BindsTo s fd ⟨[v], []⟩ [("_law_script", v)]) ∧ h.get? tp = some { cls := .none, data := .fields #[] } ∧ K.lookup tp = none ∧ PySem.W.CodeHd h cd tp ∧ ∀ base : Heap, K.In base → base.Ns mainGlobals mg → LamX.TabB base mg cd tp → FnG l.prog w K mg base (L2.CX l.prog w) 9 fa fd ["_law_script"] (spLawT K tp) := by
  have D1 : Dfn K mg "_law_tape" s__law_tape ["_law_script"] := ⟨f1, _, fun_mk (st := s__law_tape) l1 c1 k1, PySem.W.mg_of X G a1, (fun_mk (st := s__law_tape) l1 c1 k1).binds fun _ _ _ _ _ _ us hl => match us, hl with | [_], _ => rfl⟩
  have D2 : Dfn K mg "_law_draw" s__law_draw ["_law_tape_here", "_law_many"] := ⟨f2, _, fun_mk (st := s__law_draw) l2 c2 k2, PySem.W.mg_of X G a2, (fun_mk (st := s__law_draw) l2 c2 k2).binds fun _ _ _ _ _ _ us hl => match us, hl with | [_, _], _ => rfl⟩
  have D3 : Dfn K mg "_law_gain" s__law_gain ["_law_tape_here"] := ⟨f3, _, fun_mk (st := s__law_gain) l3 c3 k3, PySem.W.mg_of X G a3, (fun_mk (st := s__law_gain) l3 c3 k3).binds fun _ _ _ _ _ _ us hl => match us, hl with | [_], _ => rfl⟩
  have D4 : Dfn K mg "_law_gains" s__law_gains ["_law_tape_here", "_law_purses"] := ⟨f4, _, fun_mk (st := s__law_gains) l4 c4 k4, PySem.W.mg_of X G a4, (fun_mk (st := s__law_gains) l4 c4 k4).binds fun _ _ _ _ _ _ us hl => match us, hl with | [_, _], _ => rfl⟩
  have D5 : Dfn K mg "_law_nested" s__law_nested ["_law_tape_here", "_law_rooms", "_law_purses"] := ⟨f5, _, fun_mk (st := s__law_nested) l5 c5 k5, PySem.W.mg_of X G a5, (fun_mk (st := s__law_nested) l5 c5 k5).binds fun _ _ _ _ _ _ us hl => match us, hl with | [_, _, _], _ => rfl⟩
  have D6 : Dfn K mg "_law_book" s__law_book ["_law_tape_here", "_law_most"] := ⟨f6, _, fun_mk (st := s__law_book) l6 c6 k6, PySem.W.mg_of X G a6, (fun_mk (st := s__law_book) l6 c6 k6).binds fun _ _ _ _ _ _ us hl => match us, hl with | [_, _], _ => rfl⟩
  have D7 : Dfn K mg "added" s_added ["one", "other"] := ⟨f7, _, fun_mk (st := s_added) l7 c7 k7, PySem.W.mg_of X G a7, (fun_mk (st := s_added) l7 c7 k7).binds fun _ _ _ _ _ _ us hl => match us, hl with | [_, _], _ => rfl⟩
  have D8 : Dfn K mg "fits" s_fits ["way", "stand"] := ⟨f8, _, fun_mk (st := s_fits) l8 c8 k8, PySem.W.mg_of X G a8, (fun_mk (st := s_fits) l8 c8 k8).binds fun _ _ _ _ _ _ us hl => match us, hl with | [_, _], _ => rfl⟩
  have D9 : Dfn K mg "can_do" s_can_do ["book", "stand"] := ⟨f9, _, fun_mk (st := s_can_do) l9 c9 k9, PySem.W.mg_of X G a9, (fun_mk (st := s_can_do) l9 c9 k9).binds fun _ _ _ _ _ _ us hl => match us, hl with | [_, _], _ => rfl⟩
  have D10 : Dfn K mg "behind" s_behind ["book", "stand", "k"] := ⟨f10, _, fun_mk (st := s_behind) l10 c10 k10, PySem.W.mg_of X G a10, (fun_mk (st := s_behind) l10 c10 k10).binds fun _ _ _ _ _ _ us hl => match us, hl with | [_, _, _], _ => rfl⟩
  have D11 : Dfn K mg "_law_some_walk" s__law_some_walk ["_law_tape_here", "_law_book_here", "_law_stand_here"] := ⟨f11, _, fun_mk (st := s__law_some_walk) l11 c11 k11, PySem.W.mg_of X G a11, (fun_mk (st := s__law_some_walk) l11 c11 k11).binds fun _ _ _ _ _ _ us hl => match us, hl with | [_, _, _], _ => rfl⟩
  have D12 : Dfn K mg "met_from" s_met_from ["book", "room"] := ⟨f12, _, fun_mk (st := s_met_from) l12 c12 k12, PySem.W.mg_of X G a12, (fun_mk (st := s_met_from) l12 c12 k12).binds fun _ _ _ _ _ _ us hl => match us, hl with | [_, _], _ => rfl⟩
  have D13 : DfnM K mg "Table" "__init__" "Table.__init__" s_Table___init__ ["self", "rows", "sides", "goal"] := ⟨C_Table, f13, _, PySem.W.mg_of X G xa_Table, fun_mk (st := s_Table___init__) l13 c13 k13, ⟨m13, i13, k13⟩, (fun_mk (st := s_Table___init__) l13 c13 k13).binds fun _ _ _ _ _ _ us hl => match us, hl with | [_, _, _, _], _ => rfl⟩
  have D14 : DfnMC K mg "Table" "entering" "Table.entering" s_Table_entering ["self"] cT := ⟨C_Table, f14, _, PySem.W.mg_of X G xa_Table, fun_mk (st := s_Table_entering) l14 c14 k14, rfl, ⟨m14, i14, k14⟩, (fun_mk (st := s_Table_entering) l14 c14 k14).binds fun _ _ _ _ _ _ us hl => match us, hl with | [_], _ => rfl⟩
  have D15 : DfnM K mg "Table" "is_nearer" "Table.is_nearer" s_Table_is_nearer ["self", "number", "best", "column"] := ⟨C_Table, f15, _, PySem.W.mg_of X G xa_Table, fun_mk (st := s_Table_is_nearer) l15 c15 k15, ⟨m15, i15, k15⟩, (fun_mk (st := s_Table_is_nearer) l15 c15 k15).binds fun _ _ _ _ _ _ us hl => match us, hl with | [_, _, _, _], _ => rfl⟩
  have D16 : DfnM K mg "Table" "leaving" "Table.leaving" s_Table_leaving ["self", "column"] := ⟨C_Table, f16, _, PySem.W.mg_of X G xa_Table, fun_mk (st := s_Table_leaving) l16 c16 k16, ⟨m16, i16, k16⟩, (fun_mk (st := s_Table_leaving) l16 c16 k16).binds fun _ _ _ _ _ _ us hl => match us, hl with | [_, _], _ => rfl⟩
  have D17 : DfnM K mg "Table" "exchange" "Table.exchange" s_Table_exchange ["self", "number", "column"] := ⟨C_Table, f17, _, PySem.W.mg_of X G xa_Table, fun_mk (st := s_Table_exchange) l17 c17 k17, ⟨m17, i17, k17⟩, (fun_mk (st := s_Table_exchange) l17 c17 k17).binds fun _ _ _ _ _ _ us hl => match us, hl with | [_, _, _], _ => rfl⟩
  have D18 : DfnM K mg "Table" "solve" "Table.solve" s_Table_solve ["self"] := ⟨C_Table, f18, _, PySem.W.mg_of X G xa_Table, fun_mk (st := s_Table_solve) l18 c18 k18, ⟨m18, i18, k18⟩, (fun_mk (st := s_Table_solve) l18 c18 k18).binds fun _ _ _ _ _ _ us hl => match us, hl with | [_], _ => rfl⟩
  have D19 : DfnM K mg "Table" "unknowns" "Table.unknowns" s_Table_unknowns ["self", "many"] := ⟨C_Table, f19, _, PySem.W.mg_of X G xa_Table, fun_mk (st := s_Table_unknowns) l19 c19 k19, ⟨m19, i19, k19⟩, (fun_mk (st := s_Table_unknowns) l19 c19 k19).binds fun _ _ _ _ _ _ us hl => match us, hl with | [_, _], _ => rfl⟩
  have D20 : DfnM K mg "Table" "side_prices" "Table.side_prices" s_Table_side_prices ["self", "many", "rows"] := ⟨C_Table, f20, _, PySem.W.mg_of X G xa_Table, fun_mk (st := s_Table_side_prices) l20 c20 k20, ⟨m20, i20, k20⟩, (fun_mk (st := s_Table_side_prices) l20 c20 k20).binds fun _ _ _ _ _ _ us hl => match us, hl with | [_, _, _], _ => rfl⟩
  have D21 : DfnM K mg "Table" "way_up" "Table.way_up" s_Table_way_up ["self", "many", "column"] := ⟨C_Table, f21, _, PySem.W.mg_of X G xa_Table, fun_mk (st := s_Table_way_up) l21 c21 k21, ⟨m21, i21, k21⟩, (fun_mk (st := s_Table_way_up) l21 c21 k21).binds fun _ _ _ _ _ _ us hl => match us, hl with | [_, _, _], _ => rfl⟩
  have D22 : Dfn K mg "solved" s_solved ["rows", "sides", "goal"] := ⟨f22, _, fun_mk (st := s_solved) l22 c22 k22, PySem.W.mg_of X G a22, (fun_mk (st := s_solved) l22 c22 k22).binds fun _ _ _ _ _ _ us hl => match us, hl with | [_, _, _], _ => rfl⟩
  have D23 : Dfn K mg "common" s_common ["numbers"] := ⟨f23, _, fun_mk (st := s_common) l23 c23 k23, PySem.W.mg_of X G a23, (fun_mk (st := s_common) l23 c23 k23).binds fun _ _ _ _ _ _ us hl => match us, hl with | [_], _ => rfl⟩
  have D24 : Dfn K mg "flow_rows" s_flow_rows ["book", "some"] := ⟨f24, _, fun_mk (st := s_flow_rows) l24 c24 k24, PySem.W.mg_of X G a24, (fun_mk (st := s_flow_rows) l24 c24 k24).binds fun _ _ _ _ _ _ us hl => match us, hl with | [_, _], _ => rfl⟩
  have D25 : Dfn K mg "lessened" s_lessened ["numbers"] := ⟨f25, _, fun_mk (st := s_lessened) l25 c25 k25, PySem.W.mg_of X G a25, (fun_mk (st := s_lessened) l25 c25 k25).binds fun _ _ _ _ _ _ us hl => match us, hl with | [_], _ => rfl⟩
  have D26 : Dfn K mg "as_round" s_as_round ["book", "some", "counts"] := ⟨f26, _, fun_mk (st := s_as_round) l26 c26 k26, PySem.W.mg_of X G a26, (fun_mk (st := s_as_round) l26 c26 k26).binds fun _ _ _ _ _ _ us hl => match us, hl with | [_, _, _], _ => rfl⟩
  have D27 : Dfn K mg "how_often" s_how_often ["book", "stand", "k"] := ⟨f27, _, fun_mk (st := s_how_often) l27 c27 k27, PySem.W.mg_of X G a27, (fun_mk (st := s_how_often) l27 c27 k27).binds fun _ _ _ _ _ _ us hl => match us, hl with | [_, _, _], _ => rfl⟩
  have D28 : Dfn K mg "weighed" s_weighed ["weights", "numbers"] := ⟨f28, _, fun_mk (st := s_weighed) l28 c28 k28, PySem.W.mg_of X G a28, (fun_mk (st := s_weighed) l28 c28 k28).binds fun _ _ _ _ _ _ us hl => match us, hl with | [_, _], _ => rfl⟩
  have D29 : Dfn K mg "worth" s_worth ["total", "stand"] := ⟨f29, _, fun_mk (st := s_worth) l29 c29 k29, PySem.W.mg_of X G a29, (fun_mk (st := s_worth) l29 c29 k29).binds fun _ _ _ _ _ _ us hl => match us, hl with | [_, _], _ => rfl⟩
  have D30 : Dfn K mg "fall" s_fall ["book", "total", "k"] := ⟨f30, _, fun_mk (st := s_fall) l30 c30 k30, PySem.W.mg_of X G a30, (fun_mk (st := s_fall) l30 c30 k30).binds fun _ _ _ _ _ _ us hl => match us, hl with | [_, _, _], _ => rfl⟩
  have D31 : Dfn K mg "_law_meet" s__law_meet ["_law_book_here", "_law_stand_here", "_law_answer"] := ⟨f31, _, fun_mk (st := s__law_meet) l31 c31 k31, PySem.W.mg_of X G a31, (fun_mk (st := s__law_meet) l31 c31 k31).binds fun _ _ _ _ _ _ us hl => match us, hl with | [_, _, _], _ => rfl⟩
  have D32 : Dfn K mg "_law_asked" s__law_asked ["_law_word", "_law_call"] := ⟨f32, _, fun_mk (st := s__law_asked) l32 c32 k32, PySem.W.mg_of X G a32, (fun_mk (st := s__law_asked) l32 c32 k32).binds fun _ _ _ _ _ _ us hl => match us, hl with | [_, _], _ => rfl⟩
  have D33 : Dfn K mg "_law_did" s__law_did ["_law_word", "_law_call"] := ⟨f33, _, fun_mk (st := s__law_did) l33 c33 k33, PySem.W.mg_of X G a33, (fun_mk (st := s__law_did) l33 c33 k33).binds fun _ _ _ _ _ _ us hl => match us, hl with | [_, _], _ => rfl⟩
  have D34 : Dfn K mg "law" s_law ["_law_script"] := ⟨f34, _, fun_mk (st := s_law) l34 c34 k34, PySem.W.mg_of X G a34, (fun_mk (st := s_law) l34 c34 k34).binds fun _ _ _ _ _ _ us hl => match us, hl with | [_], _ => rfl⟩
  have C1_Table : ClsX K mg "Table" := ⟨C_Table, PySem.W.mg_of X G xa_Table, ⟨pg_Table, hd_Table, po_Table, sa_Table⟩⟩
  have C2_Table : MkX K mg "Table" := ⟨C_Table, f13, PySem.W.mg_of X G xa_Table, ⟨mk_Table, m13, i13, kc_Table⟩⟩
  have C3_Table_free : FldX K mg "Table" "free" := ⟨C_Table, PySem.W.mg_of X G xa_Table, na_Table_free⟩
  have C3_Table_bound : FldX K mg "Table" "bound" := ⟨C_Table, PySem.W.mg_of X G xa_Table, na_Table_bound⟩
  have C3_Table_rows : FldX K mg "Table" "rows" := ⟨C_Table, PySem.W.mg_of X G xa_Table, na_Table_rows⟩
  have C3_Table_divisor : FldX K mg "Table" "divisor" := ⟨C_Table, PySem.W.mg_of X G xa_Table, na_Table_divisor⟩
  have y_list := PySem.W.mg_none_of X G z1
  have y_len := PySem.W.mg_none_of X G z2
  have y_range := PySem.W.mg_none_of X G z3
  have y_tuple := PySem.W.mg_none_of X G z4
  have y_max := PySem.W.mg_none_of X G z5
  have y_min := PySem.W.mg_none_of X G z6
  have y_zip := PySem.W.mg_none_of X G z7
  have y_enumerate := PySem.W.mg_none_of X G z8
  have y_abs := PySem.W.mg_none_of X G z9
  have y_int := PySem.W.mg_none_of X G z10
  have y_sum := PySem.W.mg_none_of X G z11
  have y_isinstance := PySem.W.mg_none_of X G z12
  have y_ValueError := PySem.W.mg_none_of X G z13
  have y_repr := PySem.W.mg_none_of X G z14
  have m_NoRound := PySem.W.mg_of X G xa_NoRound
  have m_NoRing := PySem.W.mg_of X G xa_NoRing
  have m_NoPurse := PySem.W.mg_of X G xa_NoPurse
  have m_NoEnd := PySem.W.mg_of X G xa_NoEnd
  have m_NoStand := PySem.W.mg_of X G xa_NoStand
  have m_TooMany := PySem.W.mg_of X G xa_TooMany
  have m_NoLine := PySem.W.mg_of X G xa_NoLine
  have m_NoRow := PySem.W.mg_of X G xa_NoRow
  have m_NoWay := PySem.W.mg_of X G xa_NoWay
  have q_NoWay : ExX K mg "NoWay" := ⟨⟨C_NoWay, m_NoWay, xb_NoWay, xc_NoWay, xd_NoWay, xe_NoWay, xf_NoWay⟩⟩
  have m_FallError := PySem.W.mg_of X G xa_FallError
  have q_FallError : ExX K mg "FallError" := ⟨⟨C_FallError, m_FallError, xb_FallError, xc_FallError, xd_FallError, xe_FallError, xf_FallError⟩⟩
  have r_NoWay_FallError : SubX K mg "NoWay" "FallError" true := by unfold SubX; rw [cv_of m_NoWay, cv_of m_FallError]; exact us_NoWay_FallError
  have kn : ∀ x ∈ kindNs, ∃ C, mg x = some (.ref C) := fun x hx => by
    simp only [kindNs, List.mem_cons, List.not_mem_nil, or_false] at hx
    rcases hx with rfl | rfl | rfl | rfl | rfl | rfl | rfl | rfl | rfl
    · exact ⟨_, m_NoWay⟩
    · exact ⟨_, m_NoRound⟩
    · exact ⟨_, m_NoRing⟩
    · exact ⟨_, m_NoPurse⟩
    · exact ⟨_, m_NoEnd⟩
    · exact ⟨_, m_NoStand⟩
    · exact ⟨_, m_TooMany⟩
    · exact ⟨_, m_NoLine⟩
    · exact ⟨_, m_NoRow⟩
  have w_NoWay : KX K mg "NoWay" := ⟨C_NoWay, cv_of m_NoWay, ⟨ka_NoWay, kd_NoWay, xd_NoWay, xf_NoWay, ke_NoWay, kb, kc, kf_NoWay⟩, ⟨fun y hy => by
    simp only [kindNs, List.mem_cons, List.not_mem_nil, or_false] at hy
    rcases hy with rfl | rfl | rfl | rfl | rfl | rfl | rfl | rfl | rfl
    · rw [cv_of m_NoWay]; exact kh_NoWay_NoWay
    · rw [cv_of m_NoRound]; exact kh_NoWay_NoRound
    · rw [cv_of m_NoRing]; exact kh_NoWay_NoRing
    · rw [cv_of m_NoPurse]; exact kh_NoWay_NoPurse
    · rw [cv_of m_NoEnd]; exact kh_NoWay_NoEnd
    · rw [cv_of m_NoStand]; exact kh_NoWay_NoStand
    · rw [cv_of m_TooMany]; exact kh_NoWay_TooMany
    · rw [cv_of m_NoLine]; exact kh_NoWay_NoLine
    · rw [cv_of m_NoRow]; exact kh_NoWay_NoRow, kg_NoWay⟩⟩
  refine ⟨PySem.W.fnOf "law" "law" (defArgs s_law) (defBody s_law) (defScope s_law) .none kV34 dc34 pm34 an34 cd34 ct34, cT, tp, fun s v => .of_eq rfl, tt, tn, PySem.W.codeHd_of_K X th, fun base _ _ TB => ?_⟩
  have o1 : Ok l.prog w K mg base 1 "_law_tape" ["_law_script"] (spTape K) := ok__law_tape D1 y_list
  have o2 : Ok l.prog w K mg base 1 "_law_draw" ["_law_tape_here", "_law_many"] (spZ (ZT K) S__law_draw) := ok__law_draw D2 y_len
  have o3 : Ok l.prog w K mg base 2 "_law_gain" ["_law_tape_here"] (spZ (ZT K) S__law_gain) := ok__law_gain (D := D3) (f__law_draw := o2.up (by decide))
  have o4 : Ok l.prog w K mg base 3 "_law_gains" ["_law_tape_here", "_law_purses"] (spZ (ZT K) S__law_gains) := ok__law_gains (D := D4) (f__law_gain := o3.up (by decide)) (z_range := y_range) (z_tuple := y_tuple)
  have o5 : Ok l.prog w K mg base 4 "_law_nested" ["_law_tape_here", "_law_rooms", "_law_purses"] (spZ (ZT K) S__law_nested) := ok__law_nested (D := D5) (f__law_gains := o4.up (by decide)) (f__law_draw := o2.up (by decide)) (z_tuple := y_tuple) (z_range := y_range) (z_list := y_list)
  have o6 : Ok l.prog w K mg base 5 "_law_book" ["_law_tape_here", "_law_most"] (spZ (ZT K) S__law_book) := ok__law_book (D := D6) (f__law_draw := o2.up (by decide)) (f__law_nested := o5.up (by decide)) (f__law_gains := o4.up (by decide)) (z_range := y_range) (z_len := y_len) (z_max := y_max) (z_list := y_list) (z_min := y_min) (z_tuple := y_tuple)
  have o7 : Ok l.prog w K mg base 1 "added" ["one", "other"] (spZ (Z0 K) S_added) := ok_added (D := D7) (z_zip := y_zip) (z_tuple := y_tuple)
  have o8 : Ok l.prog w K mg base 2 "fits" ["way", "stand"] (spZ (Z0 K) S_fits) := ok_fits (D := D8) (f_added := o7.up (by decide)) (z_min := y_min)
  have o9 : Ok l.prog w K mg base 3 "can_do" ["book", "stand"] (spZ (Z0 K) S_can_do) := ok_can_do (D := D9) (f_fits := o8.up (by decide)) (z_enumerate := y_enumerate)
  have o10 : Ok l.prog w K mg base 3 "behind" ["book", "stand", "k"] (spZ (Z0 K) (S_behind mg)) := ok_behind (D := D10) (f_fits := o8.up (by decide)) (f_added := o7.up (by decide)) (z_len := y_len) (x_NoWay := q_NoWay)
  have o11 : Ok l.prog w K mg base 4 "_law_some_walk" ["_law_tape_here", "_law_book_here", "_law_stand_here"] (spZ (ZT K) S__law_some_walk) := ok__law_some_walk (D := D11) (f_can_do := o9.up (by decide)) (f__law_draw := o2.up (by decide)) (f_behind := o10.up (by decide)) (z_len := y_len)
  have o12 : Ok l.prog w K mg base 1 "met_from" ["book", "room"] (spZ (Z0 K) S_met_from) := ok_met_from (D := D12) (z_enumerate := y_enumerate)
  have o13 : OkM l.prog w K mg base 1 "Table" "__init__" ["self", "rows", "sides", "goal"] (spZ (ZS mg (ZTab tp qT (ZT K))) S_Table___init__) := ok_Table___init__ (D := D13) (z_list := y_list) (z_range := y_range) (z_len := y_len) (z_zip := y_zip) (q_Table := C1_Table) (q_Table_free := C3_Table_free) (q_Table_bound := C3_Table_bound) (q_Table_rows := C3_Table_rows) (q_Table_divisor := C3_Table_divisor)
  have o14 : OkM l.prog w K mg base 3 "Table" "entering" ["self"] (spZ (ZS mg (ZTab tp qT (ZT K))) S_Table_entering) := ok_Table_entering (D := D14) (z_range := y_range) (z_len := y_len) (z_min := y_min) (q_Table := C1_Table) (q_Table_free := C3_Table_free) (q_Table_rows := C3_Table_rows) (TB := TB)
  have o15 : OkM l.prog w K mg base 1 "Table" "is_nearer" ["self", "number", "best", "column"] (spZ (ZS mg (ZTab tp qT (ZT K))) S_Table_is_nearer) := ok_Table_is_nearer (D := D15) (q_Table := C1_Table) (q_Table_rows := C3_Table_rows) (q_Table_bound := C3_Table_bound)
  have o16 : OkM l.prog w K mg base 2 "Table" "leaving" ["self", "column"] (spZ (ZS mg (ZTab tp qT (ZT K))) S_Table_leaving) := ok_Table_leaving (D := D16) (f_Table_is_nearer := o15.up (by decide)) (z_range := y_range) (z_len := y_len) (q_Table := C1_Table) (q_Table_bound := C3_Table_bound) (q_Table_rows := C3_Table_rows)
  have o17 : OkM l.prog w K mg base 1 "Table" "exchange" ["self", "number", "column"] (spZ (ZS mg (ZTab tp qT (ZT K))) S_Table_exchange) := ok_Table_exchange (D := D17) (z_enumerate := y_enumerate) (z_range := y_range) (z_len := y_len) (q_Table := C1_Table) (q_Table_rows := C3_Table_rows) (q_Table_divisor := C3_Table_divisor) (q_Table_free := C3_Table_free) (q_Table_bound := C3_Table_bound)
  have o18 : OkM l.prog w K mg base 4 "Table" "solve" ["self"] (spZ (ZS mg (ZTab tp qT (ZT K))) S_Table_solve) := ok_Table_solve (D := D18) (f_Table_entering := o14.up (by decide)) (f_Table_leaving := o16.up (by decide)) (f_Table_exchange := o17.up (by decide)) (q_Table := C1_Table)
  have o19 : OkM l.prog w K mg base 1 "Table" "unknowns" ["self", "many"] (spZ (ZS mg (ZTab tp qT (ZT K))) S_Table_unknowns) := ok_Table_unknowns (D := D19) (z_enumerate := y_enumerate) (q_Table := C1_Table) (q_Table_bound := C3_Table_bound) (q_Table_rows := C3_Table_rows)
  have o20 : OkM l.prog w K mg base 1 "Table" "side_prices" ["self", "many", "rows"] (spZ (ZS mg (ZTab tp qT (ZT K))) S_Table_side_prices) := ok_Table_side_prices (D := D20) (z_enumerate := y_enumerate) (q_Table := C1_Table) (q_Table_free := C3_Table_free) (q_Table_rows := C3_Table_rows)
  have o21 : OkM l.prog w K mg base 1 "Table" "way_up" ["self", "many", "column"] (spZ (ZS mg (ZTab tp qT (ZT K))) S_Table_way_up) := ok_Table_way_up (D := D21) (z_enumerate := y_enumerate) (q_Table := C1_Table) (q_Table_free := C3_Table_free) (q_Table_divisor := C3_Table_divisor) (q_Table_bound := C3_Table_bound) (q_Table_rows := C3_Table_rows)
  have o22 : Ok l.prog w K mg base 5 "solved" ["rows", "sides", "goal"] (spZ (ZS mg (ZTab tp qT (ZT K))) S_solved) := ok_solved (D := D22) (f_Table_solve := o18.up (by decide)) (f_Table_way_up := o21.up (by decide)) (f_Table_unknowns := o19.up (by decide)) (f_Table_side_prices := o20.up (by decide)) (f_Table___init__ := o13.up (by decide)) (z_len := y_len) (q_Table := C1_Table) (q_Table_rows := C3_Table_rows) (q_Table_divisor := C3_Table_divisor) (y_Table := C2_Table)
  have o23 : Ok l.prog w K mg base 1 "common" ["numbers"] (spZ (Z0 K) S_common) := ok_common (D := D23) (z_abs := y_abs)
  have o24 : Ok l.prog w K mg base 1 "flow_rows" ["book", "some"] (spZ (Z0 K) S_flow_rows) := ok_flow_rows (D := D24) (z_range := y_range) (z_int := y_int)
  have o25 : Ok l.prog w K mg base 2 "lessened" ["numbers"] (spZ (Z0 K) S_lessened) := ok_lessened (D := D25) (f_common := o23.up (by decide)) (z_max := y_max)
  have o26 : Ok l.prog w K mg base 3 "as_round" ["book", "some", "counts"] (spZ (Z0 K) S_as_round) := ok_as_round (D := D26) (f_lessened := o25.up (by decide)) (z_len := y_len) (z_zip := y_zip) (z_tuple := y_tuple)
  have o27 : Ok l.prog w K mg base 6 "how_often" ["book", "stand", "k"] (spZ (ZTab tp qT (ZT K)) (S_how_often mg)) := ok_how_often (D := D27) (f_met_from := o12.up (by decide)) (f_solved := o22.up (by decide)) (f_flow_rows := o24.up (by decide)) (f_as_round := o26.up (by decide)) (f_common := o23.up (by decide)) (z_len := y_len) (z_list := y_list) (z_range := y_range) (z_int := y_int) (z_zip := y_zip) (z_tuple := y_tuple) (x_NoWay := q_NoWay)
  have o28 : Ok l.prog w K mg base 1 "weighed" ["weights", "numbers"] (spZ (Z0 K) S_weighed) := ok_weighed (D := D28) (z_zip := y_zip)
  have o29 : Ok l.prog w K mg base 2 "worth" ["total", "stand"] (spZ (Z0 K) S_worth) := ok_worth (D := D29) (f_weighed := o28.up (by decide))
  have o30 : Ok l.prog w K mg base 2 "fall" ["book", "total", "k"] (spZ (Z0 K) S_fall) := ok_fall (D := D30) (f_weighed := o28.up (by decide))
  have o31 : Ok l.prog w K mg base 3 "_law_meet" ["_law_book_here", "_law_stand_here", "_law_answer"] (spZ (Z0 K) S__law_meet) := ok__law_meet (D := D31) (f_fall := o30.up (by decide)) (f_worth := o29.up (by decide)) (z_enumerate := y_enumerate) (z_sum := y_sum)
  have o32 : Ok l.prog w K mg base 7 "_law_asked" ["_law_word", "_law_call"] (spZ (ZTab tp qT (ZT K)) (S__law_asked mg)) := ok__law_asked (D := D32) (f_how_often := o27.up (by decide))
  have o33 : Ok l.prog w K mg base 8 "_law_did" ["_law_word", "_law_call"] (spZ (ZTab tp qT (ZT K)) S__law_did) := ok__law_did (D := D33) (f__law_asked := o32.up (by decide)) (z_isinstance := y_isinstance) (z_ValueError := y_ValueError) (x_FallError := q_FallError) (u_NoWay_FallError := r_NoWay_FallError) (kx_NoWay := w_NoWay) (kn := kn)
  have o34 : Ok l.prog w K mg base 9 "law" ["_law_script"] (spLawT K tp) := ok_law (D := D34) (f__law_tape := o1.up (by decide)) (f__law_book := o6.up (by decide)) (f__law_draw := o2.up (by decide)) (f__law_some_walk := o11.up (by decide)) (f_how_often := o27.up (by decide)) (f__law_meet := o31.up (by decide)) (f_behind := o10.up (by decide)) (f__law_did := o33.up (by decide)) (z_range := y_range) (z_tuple := y_tuple) (z_len := y_len) (z_int := y_int) (z_repr := y_repr)
  exact o34.fn hfa (by have e := hfa.symm.trans (PySem.W.mg_of X G a34); cases e; exact l34)
end Lw
open PySem PySem.W PyProof.Rows
set_option maxHeartbeats 0 in
theorem PySem.Challenge.cw_fallsum_k51_whole_often_and_walks_holds : PySem.Challenge.rw_fallsum_k51_whole_often_and_walks.Holds := by
  w_on; o_law; k_head; (case hw => w_witness2)
  k_fill
  refine L3.walk_ofGT (l := PySem.Challenge.rw_fallsum_k51_whole_often_and_walks) (m := 63) (n := 9) (x := "_law_script") (CC := fun w => L2.CX PySem.Challenge.rw_fallsum_k51_whole_often_and_walks.prog w) (sp := fun w tp => L3.spLawT _ tp) rfl (by decide) rfl ⟨⟨rfl, by decide, by decide⟩, rfl⟩ (fun w h Y => PySem.W.km_in_of Y) ?F (fun _ _ a tp ns hl hT hS => ⟨a, ns, rfl, hT, hS, fun _ => rfl⟩) (fun w H s e t h => L3.leave0 _ w H s e t h)
  case F =>
    intro w mg fa h Y KX G hmg
    refine' Lw.all_mk KX G hmg ?xa_Table ?pg_Table ?hd_Table ?po_Table ?sa_Table ?mk_Table ?kc_Table ?na_Table_free ?na_Table_bound ?na_Table_rows ?na_Table_divisor ?a1 ?l1 ?c1 ?k1 ?a2 ?l2 ?c2 ?k2 ?a3 ?l3 ?c3 ?k3 ?a4 ?l4 ?c4 ?k4 ?a5 ?l5 ?c5 ?k5 ?a6 ?l6 ?c6 ?k6 ?a7 ?l7 ?c7 ?k7 ?a8 ?l8 ?c8 ?k8 ?a9 ?l9 ?c9 ?k9 ?a10 ?l10 ?c10 ?k10 ?a11 ?l11 ?c11 ?k11 ?a12 ?l12 ?c12 ?k12 ?m13 ?i13 ?l13 ?c13 ?k13 ?m14 ?i14 ?l14 ?c14 ?k14 ?tq ?tv ?th ?tn ?tt ?m15 ?i15 ?l15 ?c15 ?k15 ?m16 ?i16 ?l16 ?c16 ?k16 ?m17 ?i17 ?l17 ?c17 ?k17 ?m18 ?i18 ?l18 ?c18 ?k18 ?m19 ?i19 ?l19 ?c19 ?k19 ?m20 ?i20 ?l20 ?c20 ?k20 ?m21 ?i21 ?l21 ?c21 ?k21 ?a22 ?l22 ?c22 ?k22 ?a23 ?l23 ?c23 ?k23 ?a24 ?l24 ?c24 ?k24 ?a25 ?l25 ?c25 ?k25 ?a26 ?l26 ?c26 ?k26 ?a27 ?l27 ?c27 ?k27 ?a28 ?l28 ?c28 ?k28 ?a29 ?l29 ?c29 ?k29 ?a30 ?l30 ?c30 ?k30 ?a31 ?l31 ?c31 ?k31 ?a32 ?l32 ?c32 ?k32 ?a33 ?l33 ?c33 ?k33 ?a34 ?l34 ?c34 ?k34 ?z1 ?z2 ?z3 ?z4 ?z5 ?z6 ?z7 ?z8 ?z9 ?z10 ?z11 ?z12 ?z13 ?z14 ?xa_NoRound ?xa_NoRing ?xa_NoPurse ?xa_NoEnd ?xa_NoStand ?xa_TooMany ?xa_NoLine ?xa_NoRow ?xa_NoWay ?xb_NoWay ?xc_NoWay ?xd_NoWay ?xe_NoWay ?xf_NoWay ?xa_FallError ?xb_FallError ?xc_FallError ?xd_FallError ?xe_FallError ?xf_FallError ?us_NoWay_FallError ?kb ?kc ?ka_NoWay ?kd_NoWay ?ke_NoWay ?kf_NoWay ?kg_NoWay ?kh_NoWay_NoWay ?kh_NoWay_NoRound ?kh_NoWay_NoRing ?kh_NoWay_NoPurse ?kh_NoWay_NoEnd ?kh_NoWay_NoStand ?kh_NoWay_TooMany ?kh_NoWay_NoLine ?kh_NoWay_NoRow
    (case xa_Table => k_is); (case pg_Table => k_is); (case hd_Table => k_is); (case po_Table => k_is); (case sa_Table => k_is); (case mk_Table => k_is); (case kc_Table => k_is); (case na_Table_free => k_is); (case na_Table_bound => k_is); (case na_Table_rows => k_is); (case na_Table_divisor => k_is); (case a1 => k_is); (case l1 => k_is); (case c1 => k_is); (case k1 => k_is); (case a2 => k_is); (case l2 => k_is); (case c2 => k_is); (case k2 => k_is); (case a3 => k_is); (case l3 => k_is); (case c3 => k_is); (case k3 => k_is); (case a4 => k_is); (case l4 => k_is); (case c4 => k_is); (case k4 => k_is); (case a5 => k_is); (case l5 => k_is); (case c5 => k_is); (case k5 => k_is); (case a6 => k_is); (case l6 => k_is); (case c6 => k_is); (case k6 => k_is); (case a7 => k_is); (case l7 => k_is); (case c7 => k_is); (case k7 => k_is); (case a8 => k_is); (case l8 => k_is); (case c8 => k_is); (case k8 => k_is); (case a9 => k_is); (case l9 => k_is); (case c9 => k_is); (case k9 => k_is); (case a10 => k_is); (case l10 => k_is); (case c10 => k_is); (case k10 => k_is); (case a11 => k_is); (case l11 => k_is); (case c11 => k_is); (case k11 => k_is); (case a12 => k_is); (case l12 => k_is); (case c12 => k_is); (case k12 => k_is); (case m13 => k_is); (case i13 => k_is); (case l13 => k_is); (case c13 => k_is); (case k13 => k_is); (case m14 => k_is); (case i14 => k_is); (case l14 => k_is); (case c14 => k_is); (case k14 => k_is); (case tq => k_is); (case tv => rfl); (case th => kernel_rfl); (case tn => kernel_rfl); (case tt => exact PySem.W.km_tabs_of Y _ (by k_mem)); (case m15 => k_is); (case i15 => k_is); (case l15 => k_is); (case c15 => k_is); (case k15 => k_is); (case m16 => k_is); (case i16 => k_is); (case l16 => k_is); (case c16 => k_is); (case k16 => k_is); (case m17 => k_is); (case i17 => k_is); (case l17 => k_is); (case c17 => k_is); (case k17 => k_is); (case m18 => k_is); (case i18 => k_is); (case l18 => k_is); (case c18 => k_is); (case k18 => k_is); (case m19 => k_is); (case i19 => k_is); (case l19 => k_is); (case c19 => k_is); (case k19 => k_is); (case m20 => k_is); (case i20 => k_is); (case l20 => k_is); (case c20 => k_is); (case k20 => k_is); (case m21 => k_is); (case i21 => k_is); (case l21 => k_is); (case c21 => k_is); (case k21 => k_is); (case a22 => k_is); (case l22 => k_is); (case c22 => k_is); (case k22 => k_is); (case a23 => k_is); (case l23 => k_is); (case c23 => k_is); (case k23 => k_is); (case a24 => k_is); (case l24 => k_is); (case c24 => k_is); (case k24 => k_is); (case a25 => k_is); (case l25 => k_is); (case c25 => k_is); (case k25 => k_is); (case a26 => k_is); (case l26 => k_is); (case c26 => k_is); (case k26 => k_is); (case a27 => k_is); (case l27 => k_is); (case c27 => k_is); (case k27 => k_is); (case a28 => k_is); (case l28 => k_is); (case c28 => k_is); (case k28 => k_is); (case a29 => k_is); (case l29 => k_is); (case c29 => k_is); (case k29 => k_is); (case a30 => k_is); (case l30 => k_is); (case c30 => k_is); (case k30 => k_is); (case a31 => k_is); (case l31 => k_is); (case c31 => k_is); (case k31 => k_is); (case a32 => k_is); (case l32 => k_is); (case c32 => k_is); (case k32 => k_is); (case a33 => k_is); (case l33 => k_is); (case c33 => k_is); (case k33 => k_is); (case a34 => k_is); (case l34 => k_is); (case c34 => k_is); (case k34 => k_is); (case z1 => k_is); (case z2 => k_is); (case z3 => k_is); (case z4 => k_is); (case z5 => k_is); (case z6 => k_is); (case z7 => k_is); (case z8 => k_is); (case z9 => k_is); (case z10 => k_is); (case z11 => k_is); (case z12 => k_is); (case z13 => k_is); (case z14 => k_is); (case xa_NoRound => k_is); (case xa_NoRing => k_is); (case xa_NoPurse => k_is); (case xa_NoEnd => k_is); (case xa_NoStand => k_is); (case xa_TooMany => k_is); (case xa_NoLine => k_is); (case xa_NoRow => k_is); (case xa_NoWay => k_is); (case xb_NoWay => k_exc); (case xc_NoWay => k_is); (case xd_NoWay => k_is); (case xe_NoWay => k_is); (case xf_NoWay => k_is); (case xa_FallError => k_is); (case xb_FallError => k_exc); (case xc_FallError => k_is); (case xd_FallError => k_is); (case xe_FallError => k_is); (case xf_FallError => k_is); (case us_NoWay_FallError => k_is); (case kb => k_is); (case kc => k_is); (case ka_NoWay => k_is); (case kd_NoWay => k_is); (case ke_NoWay => k_is); (case kf_NoWay => k_is); (case kg_NoWay => kit_is); (case kh_NoWay_NoWay => kit_is); (case kh_NoWay_NoRound => kit_is); (case kh_NoWay_NoRing => kit_is); (case kh_NoWay_NoPurse => kit_is); (case kh_NoWay_NoEnd => kit_is); (case kh_NoWay_NoStand => kit_is); (case kh_NoWay_TooMany => kit_is); (case kh_NoWay_NoLine => kit_is); (case kh_NoWay_NoRow => kit_is)
