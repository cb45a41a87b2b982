import PyProof.Rows.All
import Wide.All
import OpenK.AllK
import Wide.FinOn
import HandS.ForMost
import HandS.TupMul
import HandS.Walk
import HandS.Evl
import HandS.Wide
import HandS.WideBits
import HandS.TupAny
import HandS.Style
import HandS.IsInst
import KE.GoesEnum
import HandS.ForExc
import HandS.Text
import HandS.Dict
import HandS.WordsDict
import HandS.Deep
import HandS.RaiseMore
import HandS.ExcIs
import HandS.Conv
import KE.DatumOrd
import HandS.Defaults
import HandS.HotCalls
import KE.DatumIndex
import HandS.RevRange
import KE.DatumMoreOrd
import KE.KRevSl
import KE.SortData
import KE.OsSort
import KE.KTupSum
import KE.DataEq
import PySem.Challenge.RW_fallsum_k47_steps_by_a_line
set_option Elab.async false
set_option linter.all false
set_option maxRecDepth 100000
set_option maxHeartbeats 20000000
section
/-! L2x: operations that the hand layer has not, or has for fewer cases. -/
namespace L2
open PySem PySem.Spec PyProof.Rows
theorem tuple_mulW1 (l : Addr) (items : Array Value) (n : Nat) (dd : Option Addr) (sl : Array (Option Value)) (x : Int) (u : Tok) (c0 : (decide (x < -(2 ^ 63)) || decide (x ≥ 2 ^ 63)) = false) (c1 : (items.isEmpty || x == 1) = true) :
    Meets (Builtin.«tuple.__mul__» ⟨[.ref l, .int x u], []⟩) (fun _ R s => s.heap.get? l = some { cls := .type "tuple", dict := dd, data := .seq items n, slots := sl } ∧ R (.ok (.ret (Value.ref l))) s) :=
  .of_wp fun prog w A R s h => by
    obtain ⟨hp, g, d, tk, os⟩ := s
    obtain ⟨hl, h⟩ := h
    have f1 := AutoSeq1.idx_int
    wp_walk using wpAny_loadPart' hl
    repeat (first
      | (refine wpAny_ite_false (decide_eq_false (by rw [c0]; exact Bool.false_ne_true)) ?_; wp_walk using wpAny_loadPart' hl)
      | (refine wpAny_ite_true (decide_eq_true c1) ?_; wp_walk using wpAny_loadPart' hl))
    exact ⟨_, rfl, h⟩
theorem tuple_mulW2 (l : Addr) (items : Array Value) (n : Nat) (dd : Option Addr) (sl : Array (Option Value)) (x : Int) (u : Tok) (c0 : (decide (x < -(2 ^ 63)) || decide (x ≥ 2 ^ 63)) = false) (c1 : (items.isEmpty || x == 1) = false) (c2 : (decide (x ≤ 0) || items.isEmpty) = true) :
    Meets (Builtin.«tuple.__mul__» ⟨[.ref l, .int x u], []⟩) (fun _ R s => s.heap.get? l = some { cls := .type "tuple", dict := dd, data := .seq items n, slots := sl } ∧
      R (.ok (.ret (Value.ref s.heap.objs.size))) { s with heap := s.heap.push { cls := Value.type "tuple", data := Data.seq #[] }, toks := s.toks }) :=
  .of_wp fun prog w A R s h => by
    obtain ⟨hp, g, d, tk, os⟩ := s
    obtain ⟨hl, h⟩ := h
    have f1 := AutoSeq1.idx_int
    have hs0 : (#[] : Array Value).size ≤ sizeLine := Nat.zero_le _
    wp_walk using wpAny_loadPart' hl
    repeat (first
      | (refine wpAny_ite_false (decide_eq_false (by rw [c0]; exact Bool.false_ne_true)) ?_; wp_walk using wpAny_loadPart' hl)
      | (refine wpAny_ite_false (decide_eq_false (by rw [c1]; exact Bool.false_ne_true)) ?_; wp_walk using wpAny_loadPart' hl)
      | (refine wpAny_ite_true (decide_eq_true c2) ?_; wp_walk using wpAny_loadPart' hl)
      | (refine wpAny_ite_false (decide_eq_false (Nat.not_lt.mpr hs0)) ?_; wp_walk using wpAny_loadPart' hl))
    exact ⟨_, rfl, h⟩
/-- t * k, any k -/
def rRepA (K : PySem.W.Frag) : R2 := fun x y H Q => ∃ l k xs, x = .ref l ∧ y = .int k ∧ SqT K H l xs ∧ -(2 ^ 63) ≤ k ∧ k < 2 ^ 63 ∧ xs.length * k.toNat ≤ sizeLine ∧ (xs = [] ∨ k = 1 → Q (.ref l) H) ∧
  (¬ (xs = [] ∨ k = 1) → ∀ p, H p = none → Q (.ref p) (upd H p (.tup (List.replicate k.toNat xs).flatten)))
section
variable {X : Cx}
theorem op_repA : OpR X (binaryOp .Mult) (rRepA X.K) := by
  intro pins s σ H x y v u Q I rx ry h
  obtain ⟨l, k, xs, rfl, rfl, hT, h1, h2, hz, q0, q⟩ := h
  cases rx
  obtain ⟨t, rfl⟩ := ry
  obtain ⟨its, r, ⟨⟨cls, dd, data, sl⟩, ho, hc, n, hd⟩, hs⟩ := I.tuple hT
  simp only at hc hd
  subst hc hd
  have hle : its.length = xs.length := r.length.symm
  have c0 : (decide (k < -(2 ^ 63)) || decide (k ≥ 2 ^ 63)) = false := by
    rw [decide_eq_false (by omega), decide_eq_false (by omega)] <;> rfl
  have hsz0 : its.toArray.size = xs.length := by rw [List.size_toArray, hle]
  have he : its.toArray.isEmpty = true ↔ xs = [] := by
    cases its with
    | nil => cases r; simp
    | cons a b => cases r; simp
  by_cases c : xs = [] ∨ k = 1
  · have c1 : (its.toArray.isEmpty || k == 1) = true := by
      rcases c with c | c
      · rw [he.mpr c]; rfl
      · rw [c]; simp
    refine wpAny_binaryOp_repeat_ref (T := "tuple") (U := "int") (by decide) ⟨_, ho, rfl⟩ (fun s' => typeIs_int s' k t) noFill_tuple_mul F.fills_int_mul F.slot_int_rmul repeat_tuple F.slot_int_index.lookup
      (call_meets F.slot_int_rmul (typeIs_int s k t) F.entry_int_rmul (F.args_int_rmul_2 _ _) (int_rmul_tuple k t l its.toArray n dd sl)
        ⟨ho, rfl, ⟨_, ho, rfl⟩, call_meets F.slot_tuple_mul ⟨_, ho, rfl⟩ F.entry_tuple_mul (F.args_tuple_mul_2 _ _) (tuple_mulW1 l its.toArray n dd sl k t c0 c1) ⟨ho, ?_⟩⟩)
    exact ⟨.ref l, H, I, rfl, q0 c⟩
  · have hne : xs ≠ [] := fun e => c (.inl e)
    have hi : its.toArray.isEmpty = false := by
      cases e : its.toArray.isEmpty with
      | false => rfl
      | true => exact absurd (he.mp e) hne
    have c1 : (its.toArray.isEmpty || k == 1) = false := by
      rw [hi, Bool.false_or]
      exact beq_eq_false_iff_ne.mpr fun e => c (.inr e)
    have flen : (List.replicate k.toNat its).flatten.length ≤ sizeLine := by
      rw [PyProof.Rows.lm_len_rep_flat, hle, Nat.mul_comm]; exact hz
    by_cases k0 : k ≤ 0
    · have c2 : (decide (k ≤ 0) || its.toArray.isEmpty) = true := by rw [decide_eq_true k0]; rfl
      refine wpAny_binaryOp_repeat_ref (T := "tuple") (U := "int") (by decide) ⟨_, ho, rfl⟩ (fun s' => typeIs_int s' k t) noFill_tuple_mul F.fills_int_mul F.slot_int_rmul repeat_tuple F.slot_int_index.lookup
        (call_meets F.slot_int_rmul (typeIs_int s k t) F.entry_int_rmul (F.args_int_rmul_2 _ _) (int_rmul_tuple k t l its.toArray n dd sl)
          ⟨ho, rfl, ⟨_, ho, rfl⟩, call_meets F.slot_tuple_mul ⟨_, ho, rfl⟩ F.entry_tuple_mul (F.args_tuple_mul_2 _ _) (tuple_mulW2 l its.toArray n dd sl k t c0 c1 c2) ⟨ho, ?_⟩⟩)
      have e0 : k.toNat = 0 := by omega
      refine ⟨.ref s.heap.objs.size, _, I.laid (t' := s.toks) (o := .tup (List.replicate k.toNat xs).flatten) (fun b ob q => Heap.get?_push_of_some _ q) (Nat.le_refl _) ?_, rfl, q c _ (I.hok.fresh (Nat.le_refl _))⟩
      rw [e0]
      exact ⟨Nat.zero_le _, [], .nil, IsTup.new _ _⟩
    · have hm : ((its.toArray.size : Nat) : Int) * k ≤ sizeLine := by
        rw [hsz0]
        have e : (k.toNat : Int) = k := Int.toNat_of_nonneg (by omega)
        rw [← e]
        exact_mod_cast hz
      have c2 : (decide (k ≤ 0) || its.toArray.isEmpty) = false := by
        rw [hi, Bool.or_false]
        exact decide_eq_false k0
      have c4 : Builtin.Tuple.tupleTooMany (((its.toArray.size : Nat) : Int) * k) = false := by
        unfold Builtin.Tuple.tupleTooMany
        exact decide_eq_false (by omega)
      have hl2 : (sizeLine : Int) ≤ (2 ^ 63 - 1) / 8 := by rw [sizeLine_eq]; decide
      refine wpAny_binaryOp_repeat_ref (T := "tuple") (U := "int") (by decide) ⟨_, ho, rfl⟩ (fun s' => typeIs_int s' k t) noFill_tuple_mul F.fills_int_mul F.slot_int_rmul repeat_tuple F.slot_int_index.lookup
        (call_meets F.slot_int_rmul (typeIs_int s k t) F.entry_int_rmul (F.args_int_rmul_2 _ _) (int_rmul_tuple k t l its.toArray n dd sl)
          ⟨ho, rfl, ⟨_, ho, rfl⟩, call_meets F.slot_tuple_mul ⟨_, ho, rfl⟩ F.entry_tuple_mul (F.args_tuple_mul_2 _ _) (tuple_mulW l its.toArray n dd sl k t c0 c1 c2 (by omega) c4 (by rw [size_rep, List.size_toArray]; exact flen)) ⟨ho, ?_⟩⟩)
      rw [size_rep]
      refine ⟨.ref s.heap.objs.size, _, I.laid (t' := s.toks) (o := .tup (List.replicate k.toNat xs).flatten) (fun b ob q => Heap.get?_push_of_some _ q) (Nat.le_refl _) ?_, rfl, q c _ (I.hok.fresh (Nat.le_refl _))⟩
      exact ⟨by rw [PyProof.Rows.lm_len_rep_flat, Nat.mul_comm]; exact hz, _, r.rep k.toNat, IsTup.new _ _⟩
end
end L2
end
section
/-! L3: readings over plain data: a def's slots hold data (frozen), own lists and dicts, or a resource; the heap is not seen. -/
namespace L3
open PySem L2
abbrev Ex := Evl.Ex
/-- what is seen to hold by computing is not asked -/
def gd (b : Bool) (c p : Prop) : Prop := match b with
  | true => p
  | false => c ∧ p
theorem gd_e {b : Bool} {c p : Prop} (hb : b = true → c) (h : gd b c p) : c ∧ p := match b, hb, h with
  | true, hb, h => ⟨hb rfl, h⟩
  | false, _, h => h
theorem gd_of {b : Bool} {c p : Prop} (hc : c) (hp : p) : gd b c p := match b with
  | true => hp
  | false => ⟨hc, hp⟩
def tt (b : Bool) (p : Prop) : Prop := match b with
  | true => p
  | false => False
theorem tt_e {b : Bool} {p : Prop} (h : tt b p) : b = true ∧ p := match b, h with
  | true, h => ⟨rfl, h⟩
theorem tt_of {b : Bool} {p : Prop} (hb : b = true) (h : p) : tt b p := by subst hb; exact h
def opK {α : Type} (o : Option α) (k : α → Prop) : Prop := match o with
  | some a => k a
  | none => False
theorem opK_e {α : Type} {o : Option α} {k : α → Prop} (h : opK o k) : ∃ a, o = some a ∧ k a := match o, h with
  | some a, h => ⟨a, rfl, h⟩
theorem opK_of {α : Type} {o : Option α} {k : α → Prop} {a : α} (e : o = some a) (h : k a) : opK o k := by subst e; exact h
def leK (n m : Nat) (p : Prop) : Prop := gd (Nat.ble n m) (n ≤ m) p
theorem leK_e {n m : Nat} {p : Prop} (h : leK n m p) : n ≤ m ∧ p := gd_e Nat.le_of_ble_eq_true h
theorem leK_of {n m : Nat} {p : Prop} (hc : n ≤ m) (hp : p) : leK n m p := gd_of hc hp
def ltK (n m : Nat) (p : Prop) : Prop := gd (Nat.ble (n + 1) m) (n < m) p
theorem ltK_e {n m : Nat} {p : Prop} (h : ltK n m p) : n < m ∧ p := gd_e Nat.le_of_ble_eq_true h
theorem ltK_of {n m : Nat} {p : Prop} (hc : n < m) (hp : p) : ltK n m p := gd_of hc hp
/-- a choice by a truth -/
def ifb (b : Bool) (p q : Prop) : Prop := match b with
  | true => p
  | false => q
theorem ifb_t {p q : Prop} (h : ifb true p q) : p := h
theorem ifb_f {p q : Prop} (h : ifb false p q) : q := h
theorem ifb_of {b : Bool} {p q : Prop} (h : b = true → p) (k : b = false → q) : ifb b p q := match b, h, k with
  | true, h, _ => h rfl
  | false, _, k => k rfl

inductive Sl where
  | un | dt (d : PyData) | ls (ds : List PyData) | dk (kvs : List (PyData × PyData)) | rs (n : Nat) | vv (v : V)
inductive Rs where
  | dt (d : PyData) | nl (ds : List PyData) | nd (kvs : List (PyData × PyData)) | br (i : Nat) | rs (n : Nat) | vv (v : V)
abbrev En := List Sl
def Sl.own : Sl → Bool
  | .ls _ => true
  | .dk _ => true
  | _ => false
def kD : Key → PyData
  | .inl i => .int i
  | .inr x => .str x
mutual
/-- what a value is, as data: lists tracked, tuples readable -/
inductive Da (K : PySem.W.Frag) (H : Hp) : V → PyData → Prop
  | non : Da K H .non .none
  | bl (b : Bool) : Da K H (.bl b) (.bool b)
  | int (i : Int) : Da K H (.int i) (.int i)
  | str (x : Str) : Da K H (.str x) (.str x)
  | lst {a : Addr} {xs : List V} {ds : List PyData} : H a = some (.lst xs) → DaAll K H xs ds → Da K H (.ref a) (.list ds)
  | tup {a : Addr} {xs : List V} {ds : List PyData} : SqT K H a xs → DaAll K H xs ds → Da K H (.ref a) (.tuple ds)
  | dct {a : Addr} {xs : List (Key × V)} {ds : List (PyData × PyData)} : H a = some (.dK xs) → DaKv K H xs ds → Da K H (.ref a) (.dict ds)
inductive DaAll (K : PySem.W.Frag) (H : Hp) : List V → List PyData → Prop
  | nil : DaAll K H [] []
  | cons {v : V} {vs : List V} {d : PyData} {ds : List PyData} : Da K H v d → DaAll K H vs ds → DaAll K H (v :: vs) (d :: ds)
inductive DaKv (K : PySem.W.Frag) (H : Hp) : List (Key × V) → List (PyData × PyData) → Prop
  | nil : DaKv K H [] []
  | cons {k : Key} {v : V} {vs : List (Key × V)} {d : PyData} {ds : List (PyData × PyData)} : Da K H v d → DaKv K H vs ds → DaKv K H ((k, v) :: vs) ((kD k, d) :: ds)
end
mutual
theorem da_mono {K : PySem.W.Frag} {F H : Hp} (e : Ex F H) : ∀ {v : V} {d : PyData}, Da K F v d → Da K H v d
  | _, _, .non => .non
  | _, _, .bl b => .bl b
  | _, _, .int i => .int i
  | _, _, .str x => .str x
  | _, _, .lst h r => .lst (e _ _ h) (daAll_mono e r)
  | _, _, .tup h r => .tup (Evl.ex_t e h) (daAll_mono e r)
  | _, _, .dct h r => .dct (e _ _ h) (daKv_mono e r)
theorem daAll_mono {K : PySem.W.Frag} {F H : Hp} (e : Ex F H) : ∀ {vs : List V} {ds : List PyData}, DaAll K F vs ds → DaAll K H vs ds
  | _, _, .nil => .nil
  | _, _, .cons h r => .cons (da_mono e h) (daAll_mono e r)
theorem daKv_mono {K : PySem.W.Frag} {F H : Hp} (e : Ex F H) : ∀ {vs : List (Key × V)} {ds : List (PyData × PyData)}, DaKv K F vs ds → DaKv K H vs ds
  | _, _, .nil => .nil
  | _, _, .cons h r => .cons (da_mono e h) (daKv_mono e r)
end
mutual
theorem Da.dp {K : PySem.W.Frag} {H : Hp} : ∀ {v : V} {d : PyData}, d.canLay0 = true → Da K H v d → Dp K H v d
  | _, _, _, .non => .non
  | _, _, _, .bl b => .bl b
  | _, _, _, .int i => .int i
  | _, _, _, .str x => .str x
  | _, _, c, .lst h r => .lst (.inl (.inl h)) (r.dp (by rwa [PyData.canLay0] at c))
  | _, _, c, .tup h r => .tup h (r.dp (by rwa [PyData.canLay0] at c))
  | _, _, c, .dct h r => by rw [PyData.canLay0] at c; cases c
theorem DaAll.dp {K : PySem.W.Frag} {H : Hp} : ∀ {vs : List V} {ds : List PyData}, PyData.canLayAll0 ds = true → DaAll K H vs ds → DpAll K H vs ds
  | _, _, _, .nil => .nil
  | _, _, c, .cons h r => by
    rw [PyData.canLayAll0, Bool.and_eq_true] at c
    exact .cons (h.dp c.1) (r.dp c.2)
end
theorem DaAll.length {K : PySem.W.Frag} {H : Hp} : ∀ {vs : List V} {ds : List PyData}, DaAll K H vs ds → vs.length = ds.length
  | _, _, .nil => rfl
  | _, _, .cons _ r => by rw [List.length_cons, List.length_cons, r.length]
theorem DaAll.append {K : PySem.W.Frag} {H : Hp} : ∀ {vs ws : List V} {ds es : List PyData}, DaAll K H vs ds → DaAll K H ws es → DaAll K H (vs ++ ws) (ds ++ es)
  | _, _, _, _, .nil, s => s
  | _, _, _, _, .cons h r, s => .cons h (r.append s)
theorem DaAll.get {K : PySem.W.Frag} {H : Hp} : ∀ {vs : List V} {ds : List PyData} {i : Nat} {d : PyData}, DaAll K H vs ds → ds[i]? = some d → ∃ v, vs[i]? = some v ∧ Da K H v d
  | _, _, _, _, .nil, e => by simp at e
  | _, _, 0, _, .cons h _, e => by simp at e; subst e; exact ⟨_, rfl, h⟩
  | _, _, i + 1, _, .cons _ r, e => by
    obtain ⟨v, h1, h2⟩ := r.get (i := i) (by simpa using e)
    exact ⟨v, by simpa using h1, h2⟩
theorem DaAll.getV {K : PySem.W.Frag} {H : Hp} : ∀ {vs : List V} {ds : List PyData} {i : Nat} {v : V}, DaAll K H vs ds → vs[i]? = some v → ∃ d, ds[i]? = some d ∧ Da K H v d
  | _, _, _, _, .nil, e => by simp at e
  | _, _, 0, _, .cons h _, e => by simp at e; subst e; exact ⟨_, rfl, h⟩
  | _, _, i + 1, _, .cons _ r, e => by
    obtain ⟨v, h1, h2⟩ := r.getV (i := i) (by simpa using e)
    exact ⟨v, by simpa using h1, h2⟩
theorem DaAll.take {K : PySem.W.Frag} {H : Hp} : ∀ {vs : List V} {ds : List PyData} (n : Nat), DaAll K H vs ds → DaAll K H (vs.take n) (ds.take n)
  | _, _, 0, _ => .nil
  | _, _, _ + 1, .nil => .nil
  | _, _, n + 1, .cons h r => .cons h (r.take n)
theorem DaAll.drop {K : PySem.W.Frag} {H : Hp} : ∀ {vs : List V} {ds : List PyData} (n : Nat), DaAll K H vs ds → DaAll K H (vs.drop n) (ds.drop n)
  | _, _, 0, r => r
  | _, _, _ + 1, .nil => .nil
  | _, _, n + 1, .cons _ r => r.drop n
theorem DaAll.set {K : PySem.W.Frag} {H : Hp} {v : V} {d : PyData} (h : Da K H v d) : ∀ {vs : List V} {ds : List PyData} (n : Nat), DaAll K H vs ds → DaAll K H (vs.set n v) (ds.set n d)
  | _, _, _, .nil => .nil
  | _, _, 0, .cons _ r => .cons h r
  | _, _, n + 1, .cons q r => .cons q (r.set h n)
theorem DaAll.erase {K : PySem.W.Frag} {H : Hp} : ∀ {vs : List V} {ds : List PyData} (n : Nat), DaAll K H vs ds → DaAll K H (vs.eraseIdx n) (ds.eraseIdx n)
  | _, _, _, .nil => .nil
  | _, _, 0, .cons _ r => r
  | _, _, n + 1, .cons q r => .cons q (r.erase n)
theorem DaAll.dropLast {K : PySem.W.Frag} {H : Hp} {vs : List V} {ds : List PyData} (h : DaAll K H vs ds) : DaAll K H vs.dropLast ds.dropLast := by
  rw [List.dropLast_eq_take, List.dropLast_eq_take, h.length]
  exact h.take _
theorem DaAll.reverse {K : PySem.W.Frag} {H : Hp} : ∀ {vs : List V} {ds : List PyData}, DaAll K H vs ds → DaAll K H vs.reverse ds.reverse
  | _, _, .nil => .nil
  | _, _, .cons h r => by
    rw [List.reverse_cons, List.reverse_cons]
    exact r.reverse.append (.cons h .nil)
theorem DaAll.rep {K : PySem.W.Frag} {H : Hp} {vs : List V} {ds : List PyData} (h : DaAll K H vs ds) : ∀ k : Nat, DaAll K H (List.replicate k vs).flatten (List.replicate k ds).flatten
  | 0 => .nil
  | k + 1 => by
    rw [List.replicate_succ, List.replicate_succ, List.flatten_cons, List.flatten_cons]
    exact h.append (h.rep k)
theorem daAll_ints {K : PySem.W.Frag} {H : Hp} : ∀ {ns : List Int} {vs : List V}, DaAll K H vs (ns.map PyData.int) → vs = ns.map V.int
  | [], _, .nil => rfl
  | n :: ns, _, .cons h r => by
    cases h
    rw [daAll_ints r]; rfl
theorem daAll_of_ints {K : PySem.W.Frag} {H : Hp} : ∀ (ns : List Int), DaAll K H (ns.map V.int) (ns.map PyData.int)
  | [] => .nil
  | n :: ns => .cons (.int n) (daAll_of_ints ns)
abbrev KvAll (K : PySem.W.Frag) (F : Hp) : List (Key × V) → List (PyData × PyData) → Prop := DaKv K F
theorem kv_mono {K : PySem.W.Frag} {F H : Hp} (e : Ex F H) {ks : List (Key × V)} {ds : List (PyData × PyData)} (h : KvAll K F ks ds) : KvAll K H ks ds := daKv_mono e h
/-- an error's fields -/
def XR (K : PySem.W.Frag) (F H : Hp) (dx : Option Addr) (fs : List (Str × PyData)) : Prop :=
  (fs = [] ∧ dx = none) ∨ ∃ d vs, fs ≠ [] ∧ dx = some d ∧ H d = some (.xd vs) ∧ Paired (fun (p : Str × V) (q : Str × PyData) => p.1 = q.1 ∧ Da K F p.2 q.2) vs fs
/-- what is wanted of an error: at the slots and the heap; by data -/
abbrev WXH := Value → Option Addr → St → Hp → Prop
abbrev UX (G : Type) := Value → List (Str × PyData) → En → G → Prop

/-- what a resource is: its ghost state's cells, its names' addresses, what holds of it -/
structure Zx (K : PySem.W.Frag) (G : Type) where
  fp : G → List Addr
  ra : G → Nat → Addr
  R : G → Hp → Hp → Prop
  loc : ∀ {g F F' H H'}, R g F H → Ex F F' → (∀ a ∈ fp g, H' a = H a) → R g F' H'
  there : ∀ {g F H}, R g F H → ∀ a ∈ fp g, H a ≠ none
  W : WXH := fun _ _ _ _ => False
  U : UX G := fun _ _ _ _ => False
/-- no resource -/
def Z0 (K : PySem.W.Frag) : Zx K Unit where
  fp := fun _ => []
  ra := fun _ _ => 0
  R := fun _ _ _ => True
  loc := fun _ _ _ => trivial
  there := fun _ _ h => nomatch h
/-- with other wishes of errors -/
def Zx.wish {K : PySem.W.Frag} {G : Type} (Z : Zx K G) (W : WXH) (U : UX G) : Zx K G := { Z with W := W, U := U }
structure Fx where
  B : Hp
  F0 : Hp
  fp0 : List Addr
variable {G : Type} {K : PySem.W.Frag}
/-- the heap's side of a state -/
structure Fin (Z : Zx K G) (f : Fx) (F : Hp) (g : G) (H : Hp) : Prop where
  base : Ex f.F0 F
  sub : Ex F H
  keep : ∀ b o, f.B b = some o → b ∉ f.fp0 → H b = some o
  keepN : ∀ b, f.B b ≠ none → H b ≠ none
  new : ∀ b o, F b = some o → f.F0 b = some o ∨ f.B b = none
  res : Z.R g F H
  fpF : ∀ a ∈ Z.fp g, F a = none
  fpB : ∀ a ∈ Z.fp g, a ∈ f.fp0 ∨ f.B a = none
  fpo : ∀ a ∈ f.fp0, f.B a ≠ none
def OwnA (Z : Zx K G) (f : Fx) (F : Hp) (g : G) (a : Addr) : Prop := F a = none ∧ f.B a = none ∧ a ∉ Z.fp g
def Slo (Z : Zx K G) (f : Fx) (F : Hp) (ad : Nat → Addr) (g : G) (σ : St) (H : Hp) (i : Nat) : Sl → Prop
  | .un => True
  | .dt d => ∃ v, σ[i]? = some (some v) ∧ Da K F v d
  | .ls ds => σ[i]? = some (some (.ref (ad i))) ∧ OwnA Z f F g (ad i) ∧ ∃ vs, H (ad i) = some (.lst vs) ∧ DaAll K F vs ds
  | .dk kvs => σ[i]? = some (some (.ref (ad i))) ∧ OwnA Z f F g (ad i) ∧ ∃ vs, H (ad i) = some (.dK vs) ∧ KvAll K F vs kvs
  | .rs n => σ[i]? = some (some (.ref (Z.ra g n)))
  | .vv v => σ[i]? = some (some v)
structure Rel0 (Z : Zx K G) (f : Fx) (F : Hp) (ad : Nat → Addr) (ρ : En) (g : G) (σ : St) (H : Hp) : Prop where
  fin : Fin Z f F g H
  len : ρ.length = σ.length
  slot : ∀ i s, ρ[i]? = some s → Slo Z f F ad g σ H i s
  inj : ∀ i j s t, ρ[i]? = some s → ρ[j]? = some t → s.own = true → t.own = true → ad i = ad j → i = j
/-- an error that data wants is wanted -/
def LeX (Z : Zx K G) (f : Fx) (ra0 : Nat → Addr) : Prop := ∀ F ad ρ g σ H c dx fs, Z.ra g = ra0 → Rel0 Z f F ad ρ g σ H → XR K F H dx fs → Z.U c fs ρ g → Z.W c dx σ H
structure Rel (Z : Zx K G) (f : Fx) (F : Hp) (ad : Nat → Addr) (ρ : En) (g : G) (σ : St) (H : Hp) : Prop extends Rel0 Z f F ad ρ g σ H where
  lx : LeX Z f (Z.ra g)
/-- a new object of an expression's -/
def NewA (Z : Zx K G) (f : Fx) (F : Hp) (ad : Nat → Addr) (ρ : En) (g : G) (a : Addr) : Prop :=
  OwnA Z f F g a ∧ ∀ i s, ρ[i]? = some s → s.own = true → ad i ≠ a
def VR (Z : Zx K G) (f : Fx) (F : Hp) (ad : Nat → Addr) (ρ : En) (g : G) (σ : St) (H : Hp) (v : V) : Rs → Prop
  | .dt d => Da K F v d
  | .nl ds => ∃ a vs, v = .ref a ∧ NewA Z f F ad ρ g a ∧ H a = some (.lst vs) ∧ DaAll K F vs ds
  | .nd kvs => ∃ a vs, v = .ref a ∧ NewA Z f F ad ρ g a ∧ H a = some (.dK vs) ∧ KvAll K F vs kvs
  | .br i => σ[i]? = some (some v)
  | .rs n => v = .ref (Z.ra g n)
  | .vv u => v = u
def rdS : Option Sl → Option PyData
  | some (.dt d) => some d
  | some (.ls ds) => some (.list ds)
  | some (.dk ds) => some (.dict ds)
  | _ => none
def rd : Rs → En → Option PyData
  | .dt d, _ => some d
  | .nl ds, _ => some (.list ds)
  | .br i, ρ => rdS ρ[i]?
  | .nd ds, _ => some (.dict ds)
  | .rs _, _ => none
  | .vv _, _ => none
abbrev DT (G : Type) := En → G → (Rs → En → G → Prop) → Prop
def Post (Z : Zx K G) (f : Fx) (F : Hp) (g : G) (σ : St) (Q : Rs → En → G → Prop) (v : V) (H' : Hp) : Prop :=
  ∃ F' ad' ρ' g' r, Ex F F' ∧ Z.ra g' = Z.ra g ∧ Rel Z f F' ad' ρ' g' σ H' ∧ VR Z f F' ad' ρ' g' σ H' v r ∧ Q r ρ' g'
def Sim (Z : Zx K G) (te : TE) (t : DT G) : Prop := ∀ f F ad ρ g σ H Q, Rel Z f F ad ρ g σ H → t ρ g Q → ∀ P : VK, (∀ v H', Post Z f F g σ Q v H' → P v H') → te σ H P
structure DE (X : Cx) (Z : Zx K G) (e : Expr) (te : TE) (t : DT G) : Prop where
  pe : PE X e te
  sim : Sim Z te t

section
variable {Z : Zx K G} {f : Fx} {F F' : Hp} {ad : Nat → Addr} {ρ : En} {g : G} {σ : St} {H H' : Hp}
theorem Rel.get (R : Rel Z f F ad ρ g σ H) {i : Nat} {s : Sl} (h : ρ[i]? = some s) : Slo Z f F ad g σ H i s := R.slot i s h
theorem Fin.free (R : Fin Z f F g H) {p : Addr} (h : H p = none) : F p = none ∧ f.B p = none ∧ p ∉ Z.fp g :=
  ⟨Evl.fresh_back R.sub h, by
    cases e : f.B p with
    | none => rfl
    | some o => exact absurd h (R.keepN p (by rw [e]; intro z; cases z)), fun hm => Z.there R.res p hm h⟩
theorem Fin.own (R : Fin Z f F g H) {p : Addr} (h : H p = none) : OwnA Z f F g p := R.free h
/-- the heap changes at a cell that is neither frozen, nor of the caller's, nor of the resource -/
theorem Fin.upd (R : Fin Z f F g H) {p : Addr} {o : HO} (h : OwnA Z f F g p) : Fin Z f F g (L2.upd H p o) where
  base := R.base
  sub := Evl.Ex.mut R.sub h.1
  keep := fun b u e hb => by
    rw [upd_ne (ne_of_none e h.2.1)]
    exact R.keep b u e hb
  keepN := fun b hb => by
    by_cases e : b = p
    · subst e; rw [upd_same]; intro z; cases z
    · rw [upd_ne e]; exact R.keepN b hb
  new := R.new
  res := Z.loc R.res (fun _ _ h => h) fun a ha => upd_ne fun e => h.2.2 (by rw [← e]; exact ha)
  fpF := R.fpF
  fpB := R.fpB
  fpo := R.fpo
/-- more is frozen -/
theorem Fin.more (R : Fin Z f F g H) (e : Ex F F') (s : Ex F' H) (n : ∀ b o, F' b = some o → F b = some o ∨ OwnA Z f F g b) : Fin Z f F' g H where
  base := R.base.trans e
  sub := s
  keep := R.keep
  keepN := R.keepN
  new := fun b o h => by
    rcases n b o h with h | h
    · exact R.new b o h
    · exact .inr h.2.1
  res := Z.loc R.res e fun _ _ => rfl
  fpF := fun a ha => by
    cases q : F' a with
    | none => rfl
    | some o =>
      rcases n a o q with h | h
      · rw [R.fpF a ha] at h; cases h
      · exact absurd ha h.2.2
  fpB := R.fpB
  fpo := R.fpo
theorem Rel.laid (R : Rel Z f F ad ρ g σ H) {p : Addr} {o : HO} (h : H p = none) : Rel Z f F ad ρ g σ (L2.upd H p o) ∧ NewA Z f F ad ρ g p := by
  have hw := R.fin.own h
  have ne : ∀ i s, ρ[i]? = some s → s.own = true → ad i ≠ p := fun i s hi ho e => by
    have q := R.slot i s hi
    cases s with
    | ls ds => obtain ⟨_, _, vs, q, _⟩ := q; rw [e, h] at q; cases q
    | dk ds => obtain ⟨_, _, vs, q, _⟩ := q; rw [e, h] at q; cases q
    | _ => cases ho
  refine ⟨⟨⟨R.fin.upd hw, R.len, fun i s hi => ?_, R.inj⟩, R.lx⟩, hw, ne⟩
  have q := R.slot i s hi
  cases s with
  | ls ds => obtain ⟨q1, q2, vs, q3, q4⟩ := q; exact ⟨q1, q2, vs, by rw [upd_ne (ne i _ hi rfl)]; exact q3, q4⟩
  | dk ds => obtain ⟨q1, q2, vs, q3, q4⟩ := q; exact ⟨q1, q2, vs, by rw [upd_ne (ne i _ hi rfl)]; exact q3, q4⟩
  | _ => exact q
theorem ownA_more {a b : Addr} {o : HO} (h : OwnA Z f F g a) (ne : a ≠ b) : OwnA Z f (L2.upd F b o) g a := ⟨by rw [upd_ne ne]; exact h.1, h.2.1, h.2.2⟩
theorem Rel.froze (R : Rel Z f F ad ρ g σ H) {p : Addr} {o : HO} (h : NewA Z f F ad ρ g p) (ho : H p = some o) : Rel Z f (L2.upd F p o) ad ρ g σ H ∧ Ex F (L2.upd F p o) := by
  have e : Ex F (L2.upd F p o) := Evl.Ex.new h.1.1
  refine ⟨⟨⟨R.fin.more e (fun b u hb => ?_) (fun b u hb => ?_), R.len, fun i s hi => ?_, R.inj⟩, R.lx⟩, e⟩
  · by_cases q : b = p
    · subst q; rw [upd_same] at hb; cases hb; exact ho
    · rw [upd_ne q] at hb; exact R.fin.sub b u hb
  · by_cases q : b = p
    · subst q; exact .inr h.1
    · rw [upd_ne q] at hb; exact .inl hb
  · have q := R.slot i s hi
    cases s with
    | dt d => obtain ⟨v, q1, q2⟩ := q; exact ⟨v, q1, da_mono e q2⟩
    | ls ds => obtain ⟨q1, q2, vs, q3, q4⟩ := q; exact ⟨q1, ownA_more q2 (h.2 i _ hi rfl), vs, q3, daAll_mono e q4⟩
    | dk ds => obtain ⟨q1, q2, vs, q3, q4⟩ := q; exact ⟨q1, ownA_more q2 (h.2 i _ hi rfl), vs, q3, kv_mono e q4⟩
    | _ => exact q
def adS (ad : Nat → Addr) (i : Nat) (a : Addr) : Nat → Addr := fun j => if j = i then a else ad j
theorem adS_same {ad : Nat → Addr} {i : Nat} {a : Addr} : adS ad i a i = a := if_pos rfl
theorem adS_ne {ad : Nat → Addr} {i j : Nat} {a : Addr} (h : j ≠ i) : adS ad i a j = ad j := if_neg h
/-- a slot is set -/
theorem Rel.setSl (R : Rel Z f F ad ρ g σ H) {i : Nat} {v : V} {s : Sl} {a : Addr} (hs : Slo Z f F (adS ad i a) g (σ.set i (some v)) H i s)
    (hn : s.own = true → ∀ j t, ρ[j]? = some t → t.own = true → j ≠ i → ad j ≠ a) : Rel Z f F (adS ad i a) (ρ.set i s) g (σ.set i (some v)) H where
  lx := R.lx
  fin := R.fin
  len := by rw [List.length_set, List.length_set]; exact R.len
  slot := fun j t hj => by
    by_cases e : i = j
    · subst e
      have hi : i < ρ.length := by
        have := (List.getElem?_eq_some_iff.mp hj).1
        rwa [List.length_set] at this
      rw [List.getElem?_set_self hi] at hj
      cases hj
      exact hs
    · rw [List.getElem?_set_ne e] at hj
      have q := R.slot j t hj
      have e2 : adS ad i a j = ad j := adS_ne fun z => e z.symm
      cases t with
      | un => trivial
      | dt d => obtain ⟨w, q1, q2⟩ := q; exact ⟨w, by rw [List.getElem?_set_ne e]; exact q1, q2⟩
      | ls ds =>
        obtain ⟨q1, q2, vs, q3, q4⟩ := q
        exact ⟨by rw [e2, List.getElem?_set_ne e]; exact q1, by rw [e2]; exact q2, vs, by rw [e2]; exact q3, q4⟩
      | dk ds =>
        obtain ⟨q1, q2, vs, q3, q4⟩ := q
        exact ⟨by rw [e2, List.getElem?_set_ne e]; exact q1, by rw [e2]; exact q2, vs, by rw [e2]; exact q3, q4⟩
      | rs n => unfold Slo at q ⊢; rw [List.getElem?_set_ne e]; exact q
      | vv u => unfold Slo at q ⊢; rw [List.getElem?_set_ne e]; exact q
  inj := fun j k t u hj hk ht hu he => by
    by_cases e : i = j
    · by_cases e2 : i = k
      · rw [← e, ← e2]
      · subst e
        have hi : i < ρ.length := by
          have := (List.getElem?_eq_some_iff.mp hj).1
          rwa [List.length_set] at this
        rw [List.getElem?_set_self hi] at hj; cases hj
        rw [List.getElem?_set_ne e2] at hk
        have e3 : ¬ k = i := fun z => e2 z.symm
        rw [adS_same, adS_ne e3] at he
        exact absurd he.symm (hn ht k u hk hu e3)
    · by_cases e2 : i = k
      · subst e2
        have hi : i < ρ.length := by
          have := (List.getElem?_eq_some_iff.mp hk).1
          rwa [List.length_set] at this
        rw [List.getElem?_set_self hi] at hk; cases hk
        rw [List.getElem?_set_ne e] at hj
        have e3 : ¬ j = i := fun z => e z.symm
        rw [adS_same, adS_ne e3] at he
        exact absurd he (hn hu j t hj ht e3)
      · rw [List.getElem?_set_ne e] at hj
        rw [List.getElem?_set_ne e2] at hk
        have e3 : ¬ j = i := fun z => e z.symm
        have e4 : ¬ k = i := fun z => e2 z.symm
        rw [adS_ne e3, adS_ne e4] at he
        exact R.inj j k t u hj hk ht hu he
/-- the own list or dict in slot i is written -/
theorem Rel.wrote (R : Rel Z f F ad ρ g σ H) {i : Nat} {s s' : Sl} {o : HO} (hi : ρ[i]? = some s) (ho : s.own = true) (hs : Slo Z f F ad g σ (L2.upd H (ad i) o) i s') : Rel Z f F ad (ρ.set i s') g σ (L2.upd H (ad i) o) := by
  have hw : OwnA Z f F g (ad i) := by
    have q := R.slot i s hi
    cases s with
    | ls ds => exact q.2.1
    | dk ds => exact q.2.1
    | _ => cases ho
  have hl : i < ρ.length := (List.getElem?_eq_some_iff.mp hi).1
  refine ⟨⟨R.fin.upd hw, by rw [List.length_set]; exact R.len, fun j t hj => ?_, fun j k t u hj hk ht hu he => ?_⟩, R.lx⟩
  · by_cases e : i = j
    · subst e
      rw [List.getElem?_set_self hl] at hj; cases hj
      exact hs
    · rw [List.getElem?_set_ne e] at hj
      have q := R.slot j t hj
      cases t with
      | ls ds =>
        obtain ⟨q1, q2, vs, q3, q4⟩ := q
        exact ⟨q1, q2, vs, by rw [upd_ne fun z => e (R.inj i j s _ hi hj ho rfl z.symm)]; exact q3, q4⟩
      | dk ds =>
        obtain ⟨q1, q2, vs, q3, q4⟩ := q
        exact ⟨q1, q2, vs, by rw [upd_ne fun z => e (R.inj i j s _ hi hj ho rfl z.symm)]; exact q3, q4⟩
      | _ => exact q
  · have own : ∀ {m : Nat} {x : Sl}, (ρ.set i s')[m]? = some x → x.own = true → ∃ y, ρ[m]? = some y ∧ y.own = true := fun {m x} hm hx => by
      by_cases e : i = m
      · subst e; exact ⟨s, hi, ho⟩
      · rw [List.getElem?_set_ne e] at hm; exact ⟨x, hm, hx⟩
    obtain ⟨y, y1, y2⟩ := own hj ht
    obtain ⟨z, z1, z2⟩ := own hk hu
    exact R.inj j k y z y1 z1 y2 z2 he
/-- a borrowed or held value as data, now -/
theorem Rel.hrd (R : Rel Z f F ad ρ g σ H) {v : V} {r : Rs} {d : PyData} (h : VR Z f F ad ρ g σ H v r) (e : rd r ρ = some d) : Da K H v d := by
  cases r with
  | dt d' => cases e; exact da_mono R.fin.sub h
  | nl ds => obtain ⟨a, vs, rfl, _, h1, h2⟩ := h; cases e; exact .lst h1 (daAll_mono R.fin.sub h2)
  | br i =>
    have e1 : rdS ρ[i]? = some d := e
    cases hi : ρ[i]? with
    | none => rw [hi] at e1; cases e1
    | some s =>
      rw [hi] at e1
      have q := R.slot i _ hi
      cases s with
      | dt d' =>
        cases e1
        obtain ⟨w, q1, q2⟩ := q
        have z : some (some w) = some (some v) := q1.symm.trans h
        cases z
        exact da_mono R.fin.sub q2
      | ls ds =>
        cases e1
        obtain ⟨q1, _, vs, q3, q4⟩ := q
        have z : some (some (V.ref (ad i))) = some (some v) := q1.symm.trans h
        cases z
        exact .lst q3 (daAll_mono R.fin.sub q4)
      | dk ds =>
        cases e1
        obtain ⟨q1, _, vs, q3, q4⟩ := q
        have z : some (some (V.ref (ad i))) = some (some v) := q1.symm.trans h
        cases z
        exact .dct q3 (daKv_mono R.fin.sub q4)
      | _ => cases e1
  | nd kvs => obtain ⟨a, vs, rfl, _, h1, h2⟩ := h; cases e; exact .dct h1 (daKv_mono R.fin.sub h2)
  | rs n => cases e
  | vv u => cases e

def st : Rs → Rs
  | .nl ds => .dt (.list ds)
  | .dt d => .dt d
  | .nd ds => .dt (.dict ds)
  | .br i => .br i
  | .rs n => .rs n
  | .vv v => .vv v
def fzS (ρ : En) (i : Nat) : Option Sl → Option (PyData × En)
  | some (.dt d) => some (d, ρ)
  | some (.ls ds) => some (.list ds, ρ.set i (.dt (.list ds)))
  | some (.dk ds) => some (.dict ds, ρ.set i (.dt (.dict ds)))
  | _ => none
def fz : Rs → En → Option (PyData × En)
  | .dt d, ρ => some (d, ρ)
  | .nl ds, ρ => some (.list ds, ρ)
  | .br i, ρ => fzS ρ i ρ[i]?
  | .nd ds, ρ => some (.dict ds, ρ)
  | .rs _, _ => none
  | .vv _, _ => none
theorem newA_list {v : V} {ds : List PyData} (R : Rel Z f F ad ρ g σ H) (h : VR Z f F ad ρ g σ H v (.nl ds)) : ∃ F', Ex F F' ∧ Rel Z f F' ad ρ g σ H ∧ Da K F' v (.list ds) := by
  obtain ⟨a, vs, rfl, n, h1, h2⟩ := h
  obtain ⟨R', e⟩ := R.froze n h1
  exact ⟨_, e, R', .lst upd_same (daAll_mono e h2)⟩
theorem newA_dict {v : V} {ds : List (PyData × PyData)} (R : Rel Z f F ad ρ g σ H) (h : VR Z f F ad ρ g σ H v (.nd ds)) : ∃ F', Ex F F' ∧ Rel Z f F' ad ρ g σ H ∧ Da K F' v (.dict ds) := by
  obtain ⟨a, vs, rfl, n, h1, h2⟩ := h
  obtain ⟨R', e⟩ := R.froze n h1
  exact ⟨_, e, R', .dct upd_same (daKv_mono e h2)⟩
theorem Rel.hst {v : V} {r : Rs} (R : Rel Z f F ad ρ g σ H) (h : VR Z f F ad ρ g σ H v r) : ∃ F', Ex F F' ∧ Rel Z f F' ad ρ g σ H ∧ VR Z f F' ad ρ g σ H v (st r) := by
  cases r with
  | nl ds => exact newA_list R h
  | dt d => exact ⟨F, Evl.Ex.refl F, R, h⟩
  | nd d => exact newA_dict R h
  | br d => exact ⟨F, Evl.Ex.refl F, R, h⟩
  | rs d => exact ⟨F, Evl.Ex.refl F, R, h⟩
  | vv d => exact ⟨F, Evl.Ex.refl F, R, h⟩
/-- an own object in a slot is frozen there -/
theorem Rel.fzOwnG (R : Rel Z f F ad ρ g σ H) {i : Nat} {s : Sl} {o : HO} {d : PyData} (hi : ρ[i]? = some s) (hs : s.own = true) (q1 : σ[i]? = some (some (.ref (ad i)))) (q2 : OwnA Z f F g (ad i)) (q3 : H (ad i) = some o)
    (dl : ∀ F', F' = L2.upd F (ad i) o → Ex F F' → Da K F' (.ref (ad i)) d) : ∃ F', Ex F F' ∧ Rel Z f F' ad (ρ.set i (.dt d)) g σ H ∧ Da K F' (.ref (ad i)) d := by
  have e : Ex F (L2.upd F (ad i) o) := Evl.Ex.new q2.1
  have hl : i < ρ.length := (List.getElem?_eq_some_iff.mp hi).1
  replace dl := dl _ rfl e
  refine ⟨_, e, ⟨⟨R.fin.more e (fun b u hb => ?_) (fun b u hb => ?_), by rw [List.length_set]; exact R.len, fun j t hj => ?_, fun j k t u hj hk ht hu he => ?_⟩, R.lx⟩, dl⟩
  · by_cases q : b = ad i
    · subst q; rw [upd_same] at hb; cases hb; exact q3
    · rw [upd_ne q] at hb; exact R.fin.sub b u hb
  · by_cases q : b = ad i
    · subst q; exact .inr q2
    · rw [upd_ne q] at hb; exact .inl hb
  · by_cases z : i = j
    · subst z
      rw [List.getElem?_set_self hl] at hj; cases hj
      exact ⟨_, q1, dl⟩
    · rw [List.getElem?_set_ne z] at hj
      have q := R.slot j t hj
      cases t with
      | dt d => obtain ⟨v, q1, q2⟩ := q; exact ⟨v, q1, da_mono e q2⟩
      | ls ds => obtain ⟨q1, q2, vs, q3, q4⟩ := q; exact ⟨q1, ownA_more q2 (fun y => z (R.inj i j _ _ hi hj hs rfl y.symm)), vs, q3, daAll_mono e q4⟩
      | dk ds => obtain ⟨q1, q2, vs, q3, q4⟩ := q; exact ⟨q1, ownA_more q2 (fun y => z (R.inj i j _ _ hi hj hs rfl y.symm)), vs, q3, kv_mono e q4⟩
      | _ => exact q
  · have own : ∀ {m : Nat} {x : Sl}, (ρ.set i (.dt d))[m]? = some x → x.own = true → ρ[m]? = some x := fun {m x} hm hx => by
      by_cases z : i = m
      · subst z; rw [List.getElem?_set_self hl] at hm; cases hm; cases hx
      · rw [List.getElem?_set_ne z] at hm; exact hm
    exact R.inj j k t u (own hj ht) (own hk hu) ht hu he
theorem Rel.fzOwn (R : Rel Z f F ad ρ g σ H) {i : Nat} {ds : List PyData} (hi : ρ[i]? = some (.ls ds)) : ∃ F', Ex F F' ∧ Rel Z f F' ad (ρ.set i (.dt (.list ds))) g σ H ∧ Da K F' (.ref (ad i)) (.list ds) := by
  obtain ⟨q1, q2, vs, q3, q4⟩ := R.slot i _ hi
  exact R.fzOwnG hi rfl q1 q2 q3 fun F' eF e => .lst (by rw [eF]; exact upd_same) (daAll_mono e q4)
theorem Rel.fzOwnD (R : Rel Z f F ad ρ g σ H) {i : Nat} {ds : List (PyData × PyData)} (hi : ρ[i]? = some (.dk ds)) : ∃ F', Ex F F' ∧ Rel Z f F' ad (ρ.set i (.dt (.dict ds))) g σ H ∧ Da K F' (.ref (ad i)) (.dict ds) := by
  obtain ⟨q1, q2, vs, q3, q4⟩ := R.slot i _ hi
  exact R.fzOwnG hi rfl q1 q2 q3 fun F' eF e => .dct (by rw [eF]; exact upd_same) (daKv_mono e q4)
theorem Rel.hfz {v : V} {r : Rs} {d : PyData} {ρ' : En} (R : Rel Z f F ad ρ g σ H) (h : VR Z f F ad ρ g σ H v r) (e : fz r ρ = some (d, ρ')) : ∃ F', Ex F F' ∧ Rel Z f F' ad ρ' g σ H ∧ Da K F' v d := by
  cases r with
  | dt d' => cases e; exact ⟨F, Evl.Ex.refl F, R, h⟩
  | nl ds => cases e; exact newA_list R h
  | br i =>
    have e1 : fzS ρ i ρ[i]? = some (d, ρ') := e
    cases hi : ρ[i]? with
    | none => rw [hi] at e1; cases e1
    | some s =>
      rw [hi] at e1
      have q := R.slot i _ hi
      cases s with
      | dt d' =>
        cases e1
        obtain ⟨w, q1, q2⟩ := q
        have z : some (some w) = some (some v) := q1.symm.trans h
        cases z
        exact ⟨F, Evl.Ex.refl F, R, q2⟩
      | ls ds =>
        cases e1
        obtain ⟨F', e, R', dl⟩ := R.fzOwn hi
        have z : some (some (V.ref (ad i))) = some (some v) := q.1.symm.trans h
        cases z
        exact ⟨F', e, R', dl⟩
      | dk ds =>
        cases e1
        obtain ⟨F', e, R', dl⟩ := R.fzOwnD hi
        have z : some (some (V.ref (ad i))) = some (some v) := q.1.symm.trans h
        cases z
        exact ⟨F', e, R', dl⟩
      | _ => cases e1
  | nd ds => cases e; exact newA_dict R h
  | _ => cases e
theorem Post.mono {F1 : Hp} {g1 : G} {Q : Rs → En → G → Prop} {v : V} {H' : Hp} (e : Ex F F1) (eg : Z.ra g1 = Z.ra g) (h : Post Z f F1 g1 σ Q v H') : Post Z f F g σ Q v H' := by
  obtain ⟨F', ad', ρ', g', r, h1, h2, h3⟩ := h
  exact ⟨F', ad', ρ', g', r, e.trans h1, h2.trans eg, h3⟩
/-- a settled value is held through what comes -/
theorem VR.held {F1 : Hp} {ad1 : Nat → Addr} {ρ1 : En} {g1 : G} {H1 : Hp} {v : V} {r : Rs} (h : VR Z f F ad ρ g σ H v (st r)) (e : Ex F F1) (eg : Z.ra g1 = Z.ra g) : VR Z f F1 ad1 ρ1 g1 σ H1 v (st r) := by
  cases r with
  | nl ds => exact da_mono e h
  | dt d => exact da_mono e h
  | nd d => exact da_mono e h
  | br i => exact h
  | rs n => exact h.trans (by rw [eg])
  | vv u => exact h
end
end L3
end
section
/-! L3b: expressions over plain data. -/
namespace L3
open PySem L2
variable {G : Type} {K : PySem.W.Frag} {X : Cx} {Z : Zx K G}
/-! ### constants, names -/
def dC (d : PyData) : DT G := fun ρ g Q => Q (.dt d) ρ g
def dVarS (i : Nat) (ρ : En) (g : G) (Q : Rs → En → G → Prop) : Option Sl → Prop
  | some (.dt d) => Q (.dt d) ρ g
  | some (.ls _) => Q (.br i) ρ g
  | some (.dk _) => Q (.br i) ρ g
  | some (.rs n) => Q (.rs n) ρ g
  | some (.vv v) => Q (.vv v) ρ g
  | _ => False
def dVar (i : Nat) : DT G := fun ρ g Q => dVarS i ρ g Q ρ[i]?
section
variable {f : Fx} {F F' : Hp} {ad : Nat → Addr} {ρ : En} {g : G} {σ : St} {H H' : Hp}
theorem Rel.post {v : V} {r : Rs} {Q : Rs → En → G → Prop} (R : Rel Z f F ad ρ g σ H) (h : VR Z f F ad ρ g σ H v r) (q : Q r ρ g) : Post Z f F g σ Q v H :=
  ⟨F, ad, ρ, g, r, Evl.Ex.refl F, rfl, R, h, q⟩
end
theorem sim_c {v : V} {d : PyData} (h : ∀ F, Da K F v d) : Sim Z (tC v) (dC d) := fun f F ad ρ g σ H Q R q P hP => hP v H (R.post (r := .dt d) (h F) q)
theorem sim_var {i : Nat} : Sim Z (tVar i) (dVar i) := fun f F ad ρ g σ H Q R q P hP => by
  have q' : dVarS i ρ g Q ρ[i]? := q
  cases hi : ρ[i]? with
  | none => rw [hi] at q'; cases q'
  | some s =>
    rw [hi] at q'
    have z := R.slot i _ hi
    cases s with
    | un => cases q'
    | dt d => obtain ⟨v, z1, z2⟩ := z; exact ⟨v, z1, hP v H (R.post (r := .dt d) z2 q')⟩
    | ls d => obtain ⟨z1, z2⟩ := z; exact ⟨_, z1, hP _ H (R.post (r := .br i) z1 q')⟩
    | dk d => obtain ⟨z1, z2⟩ := z; exact ⟨_, z1, hP _ H (R.post (r := .br i) z1 q')⟩
    | rs n => exact ⟨_, z, hP _ H (R.post (r := .rs n) rfl q')⟩
    | vv v => exact ⟨_, z, hP _ H (R.post (r := .vv v) rfl q')⟩
theorem e_int {i : Int} {j pos} : DE X Z (.Constant (.int i) j pos) (tC (.int i)) (dC (.int i)) := ⟨pe_int, sim_c fun _ => .int i⟩
theorem e_bl {b : Bool} {j pos} : DE X Z (.Constant (.bool b) j pos) (tC (.bl b)) (dC (.bool b)) := ⟨pe_bl, sim_c fun _ => .bl b⟩
theorem e_non {j pos} : DE X Z (.Constant .none j pos) (tC .non) (dC .none) := ⟨pe_non, sim_c fun _ => .non⟩
theorem e_str {x : Str} {j pos} : DE X Z (.Constant (.str x) j pos) (tC (.str x)) (dC (.str x)) := ⟨pe_str, sim_c fun _ => .str x⟩
theorem e_v (i : Nat) {x : Str} {pos : Pos} (hN : X.N[i]? = some x := by rfl) (hv : Vis X.env.scope x := by first | exact Or.inl rfl | exact Or.inr (Or.inl rfl) | exact Or.inr (Or.inr rfl)) (hd : (x == ("__debug__" : Str)) = false := by decide)
    (hcd : (x == ("__classdict__" : Str)) = false := by decide) : DE X Z (.Name x pos) (tVar i) (dVar i) := ⟨pe_var hN hv hd hcd, sim_var⟩
/-! ### operations by values -/
abbrev RO (G : Type) := Rs → Rs → En → G → (Rs → En → G → Prop) → Prop
abbrev RU (G : Type) := Rs → En → G → (Rs → En → G → Prop) → Prop
def SimO (Z : Zx K G) (r : R2) (o : RO G) : Prop := ∀ f F ad ρ g σ H x y r1 r2 Q, Rel Z f F ad ρ g σ H → VR Z f F ad ρ g σ H x r1 → VR Z f F ad ρ g σ H y r2 → o r1 r2 ρ g Q →
  ∀ P : VK, (∀ v H', Post Z f F g σ Q v H' → P v H') → r x y H P
def SimU (Z : Zx K G) (r : V → Hp → VK → Prop) (o : RU G) : Prop := ∀ f F ad ρ g σ H x r1 Q, Rel Z f F ad ρ g σ H → VR Z f F ad ρ g σ H x r1 → o r1 ρ g Q →
  ∀ P : VK, (∀ v H', Post Z f F g σ Q v H' → P v H') → r x H P
/-- not a dict that is being made -/
def ifh (_ : Rs) (p : Prop) : Prop := p
theorem ifh_of {r : Rs} {p : Prop} (h : ifh r p) : p := h
def dOp (o : RO G) (a b : DT G) : DT G := fun ρ g Q => a ρ g fun r1 ρ1 g1 => ifh r1 (b ρ1 g1 fun r2 ρ2 g2 => o (st r1) r2 ρ2 g2 Q)
def dUn (o : RU G) (a : DT G) : DT G := fun ρ g Q => a ρ g fun r1 ρ1 g1 => o r1 ρ1 g1 Q
theorem sim_op {r : R2} {o : RO G} {ta tb : TE} {a b : DT G} (ho : SimO Z r o) (ha : Sim Z ta a) (hb : Sim Z tb b) : Sim Z (tOp r ta tb) (dOp o a b) := fun f F ad ρ g σ H Q R h P hP => by
  refine ha f F ad ρ g σ H _ R h _ fun x H1 q => ?_
  obtain ⟨F1, ad1, ρ1, g1, r1, e1, eg1, R1, v1, q⟩ := q
  replace q := ifh_of q
  obtain ⟨F1', e1', R1', v1'⟩ := R1.hst v1
  refine hb f F1' ad1 ρ1 g1 σ H1 _ R1' q _ fun y H2 q2 => ?_
  obtain ⟨F2, ad2, ρ2, g2, r2, e2, eg2, R2, v2, q⟩ := q2
  exact ho f F2 ad2 ρ2 g2 σ H2 x y (st r1) r2 Q R2 (v1'.held e2 eg2) v2 q P fun v H' hp => hP v H' (hp.mono ((e1.trans e1').trans e2) (eg2.trans eg1))
theorem sim_un {r : V → Hp → VK → Prop} {o : RU G} {ta : TE} {a : DT G} (ho : SimU Z r o) (ha : Sim Z ta a) : Sim Z (tUn r ta) (dUn o a) := fun f F ad ρ g σ H Q R h P hP => by
  refine ha f F ad ρ g σ H _ R h _ fun x H1 q => ?_
  obtain ⟨F1, ad1, ρ1, g1, r1, e1, eg1, R1, v1, q⟩ := q
  exact ho f F1 ad1 ρ1 g1 σ H1 x r1 Q R1 v1 q P fun v H' hp => hP v H' (hp.mono e1 eg1)
theorem e_op {op : Operator} {r : R2} {o : RO G} {ea eb : Expr} {ta tb : TE} {a b : DT G} {pos : Pos} (ho : OpR X (binaryOp op) r ∧ SimO Z r o) (ha : DE X Z ea ta a) (hb : DE X Z eb tb b) : DE X Z (.BinOp ea op eb pos) (tOp r ta tb) (dOp o a b) :=
  ⟨pe_op ho.1 ha.pe hb.pe, sim_op ho.2 ha.sim hb.sim⟩
theorem e_un {op : UnaryOp} {r : V → Hp → VK → Prop} {o : RU G} {ea : Expr} {ta : TE} {a : DT G} {pos : Pos} (ho : UnR X (unaryOp op) r ∧ SimU Z r o) (ha : DE X Z ea ta a) : DE X Z (.UnaryOp op ea pos) (tUn r ta) (dUn o a) :=
  ⟨pe_un ho.1 ha.pe, sim_un ho.2 ha.sim⟩
section
variable {f : Fx} {F F' : Hp} {ad : Nat → Addr} {ρ : En} {g : G} {σ : St} {H H' : Hp} {Q : Rs → En → G → Prop}
theorem Rel.dat (R : Rel Z f F ad ρ g σ H) {v : V} {d : PyData} (h : Da K F v d) (q : Q (.dt d) ρ g) : Post Z f F g σ Q v H := R.post (r := .dt d) h q
theorem Rel.newL (R : Rel Z f F ad ρ g σ H) {p : Addr} {vs : List V} {ds : List PyData} (hp : H p = none) (h : DaAll K F vs ds) (q : Q (.nl ds) ρ g) : Post Z f F g σ Q (.ref p) (upd H p (.lst vs)) := by
  obtain ⟨R', n⟩ := R.laid (o := .lst vs) hp
  exact ⟨F, ad, ρ, g, .nl ds, Evl.Ex.refl F, rfl, R', ⟨p, vs, rfl, n, upd_same, h⟩, q⟩
theorem Rel.newT (R : Rel Z f F ad ρ g σ H) {p : Addr} {vs : List V} {ds : List PyData} (hp : H p = none) (h : DaAll K F vs ds) (q : Q (.dt (.tuple ds)) ρ g) : Post Z f F g σ Q (.ref p) (upd H p (.tup vs)) := by
  obtain ⟨R', n⟩ := R.laid (o := .tup vs) hp
  obtain ⟨R2, e⟩ := R'.froze n upd_same
  exact ⟨_, ad, ρ, g, .dt (.tuple ds), e, rfl, R2, .tup (.inl (.inl upd_same)) (daAll_mono e h), q⟩
/-- the items of a list or tuple that is held, as frozen -/
theorem Rel.items (R : Rel Z f F ad ρ g σ H) {v : V} {r : Rs} {ds : List PyData} (h : VR Z f F ad ρ g σ H v r) (e : rd r ρ = some (.list ds)) : ∃ a vs, v = .ref a ∧ H a = some (.lst vs) ∧ DaAll K F vs ds := by
  cases r with
  | dt d => cases e; cases h; rename_i a vs h1 h2; exact ⟨a, vs, rfl, R.fin.sub _ _ h1, h2⟩
  | nl ds => obtain ⟨a, vs, rfl, _, h1, h2⟩ := h; cases e; exact ⟨a, vs, rfl, h1, h2⟩
  | br i =>
    have e1 : rdS ρ[i]? = some (.list ds) := e
    cases hi : ρ[i]? with
    | none => rw [hi] at e1; cases e1
    | some s =>
      rw [hi] at e1
      have q := R.slot i _ hi
      cases s with
      | dt d' =>
        cases e1
        obtain ⟨w, q1, q2⟩ := q
        have z : some (some w) = some (some v) := q1.symm.trans h
        cases z
        cases q2
        rename_i a vs h1 h2
        exact ⟨a, vs, rfl, R.fin.sub _ _ h1, h2⟩
      | ls ds =>
        cases e1
        obtain ⟨q1, _, vs, q3, q4⟩ := q
        have z : some (some (V.ref (ad i))) = some (some v) := q1.symm.trans h
        cases z
        exact ⟨_, vs, rfl, q3, q4⟩
      | _ => cases e1
  | _ => cases e
theorem Rel.titems (R : Rel Z f F ad ρ g σ H) {v : V} {r : Rs} {ds : List PyData} (h : VR Z f F ad ρ g σ H v r) (e : rd r ρ = some (.tuple ds)) : ∃ a vs, v = .ref a ∧ SqT K F a vs ∧ DaAll K F vs ds := by
  cases r with
  | dt d => cases e; cases h; rename_i a vs h1 h2; exact ⟨a, vs, rfl, h1, h2⟩
  | br i =>
    have e1 : rdS ρ[i]? = some (.tuple ds) := e
    cases hi : ρ[i]? with
    | none => rw [hi] at e1; cases e1
    | some s =>
      rw [hi] at e1
      have q := R.slot i _ hi
      cases s with
      | dt d' =>
        cases e1
        obtain ⟨w, q1, q2⟩ := q
        have z : some (some w) = some (some v) := q1.symm.trans h
        cases z
        cases q2
        rename_i a vs h1 h2
        exact ⟨a, vs, rfl, h1, h2⟩
      | _ => cases e1
  | _ => cases e
theorem Rel.rInt (R : Rel Z f F ad ρ g σ H) {v : V} {r : Rs} {i : Int} (h : VR Z f F ad ρ g σ H v r) (e : rd r ρ = some (.int i)) : v = .int i := by
  have := R.hrd h e
  cases this; rfl
theorem Rel.rStr (R : Rel Z f F ad ρ g σ H) {v : V} {r : Rs} {i : Str} (h : VR Z f F ad ρ g σ H v r) (e : rd r ρ = some (.str i)) : v = .str i := by
  have := R.hrd h e
  cases this; rfl
theorem Rel.rBool (R : Rel Z f F ad ρ g σ H) {v : V} {r : Rs} {i : Bool} (h : VR Z f F ad ρ g σ H v r) (e : rd r ρ = some (.bool i)) : v = .bl i := by
  have := R.hrd h e
  cases this; rfl
theorem Rel.rNone (R : Rel Z f F ad ρ g σ H) {v : V} {r : Rs} (h : VR Z f F ad ρ g σ H v r) (e : rd r ρ = some .none) : v = .non := by
  have := R.hrd h e
  cases this; rfl
end
/-- a list made of two -/
def lim : Nat := 16777216
theorem lim_eq : lim = sizeLine := sizeLine_eq.symm
def addD (ρ : En) (g : G) (Q : Rs → En → G → Prop) : Option PyData → Option PyData → Prop
  | some (.int i), some (.int j) => Q (.dt (.int (i + j))) ρ g
  | some (.str x), some (.str y) => leK (x.length + y.length) 16777216 (Q (.dt (.str (x ++ y))) ρ g)
  | some (.list xs), some (.list ys) => leK (xs.length + ys.length) 16777216 (Q (.nl (xs ++ ys)) ρ g)
  | some (.tuple xs), some (.tuple ys) => leK (xs.length + ys.length) 16777216 (Q (.dt (.tuple (xs ++ ys))) ρ g)
  | _, _ => False
def oAdd : RO G := fun r1 r2 ρ g Q => addD ρ g Q (rd r1 ρ) (rd r2 ρ)
def rAddX (K : PySem.W.Frag) : R2 := fun x y H Q => rI0 (fun i j => .int (i + j)) x y H Q ∨ ((∃ i j, x = .str i ∧ y = .str j ∧ i.length + j.length ≤ sizeLine ∧ Q (.str (i ++ j)) H) ∨ (rCat x y H Q ∨ rCatA K x y H Q))
theorem tup_nil_r {K : PySem.W.Frag} {F : Hp} {xs : List V} {ds : List PyData} (h : DaAll K F xs ds) : xs = [] ↔ ds = [] := by
  cases h <;> simp
theorem sim_add : SimO Z (rAddX K) (oAdd (G := G)) := fun f F ad ρ g σ H x y r1 r2 Q R h1 h2 q P hP => by
  have q' : addD ρ g Q (rd r1 ρ) (rd r2 ρ) := q
  unfold addD at q'
  split at q'
  · rename_i i j e1 e2
    exact .inl ⟨i, j, R.rInt h1 e1, R.rInt h2 e2, hP _ _ (R.dat (.int _) q')⟩
  · rename_i i j e1 e2
    replace q' := leK_e q'
    exact .inr (.inl ⟨i, j, R.rStr h1 e1, R.rStr h2 e2, by rw [sizeLine_eq]; exact q'.1, hP _ _ (R.dat (.str _) q'.2)⟩)
  · rename_i xs ys e1 e2
    replace q' := leK_e q'
    obtain ⟨a, vs, rfl, ha, da⟩ := R.items h1 e1
    obtain ⟨b, ws, rfl, hb, db⟩ := R.items h2 e2
    exact .inr (.inr (.inl ⟨a, b, vs, ws, rfl, rfl, ha, hb, by rw [sizeLine_eq, da.length, db.length]; exact q'.1, fun p hp => hP _ _ (R.newL hp (da.append db) q'.2)⟩))
  · rename_i xs ys e1 e2
    replace q' := leK_e q'
    obtain ⟨a, vs, rfl, ha, da⟩ := R.titems h1 e1
    obtain ⟨b, ws, rfl, hb, db⟩ := R.titems h2 e2
    refine .inr (.inr (.inr ⟨a, b, vs, ws, rfl, rfl, Evl.ex_t R.fin.sub ha, Evl.ex_t R.fin.sub hb, by rw [sizeLine_eq, da.length, db.length]; exact q'.1, fun e => ?_, fun _ e => ?_, fun _ _ p hp => hP _ _ (R.newT hp (da.append db) q'.2)⟩))
    · refine hP _ _ (R.dat ?_ q'.2)
      rw [(tup_nil_r da).mp e]
      exact .tup hb db
    · refine hP _ _ (R.dat ?_ q'.2)
      rw [(tup_nil_r db).mp e, List.append_nil]
      exact .tup ha da
  · cases q'
theorem op_addX {K : PySem.W.Frag} (hK : K = X.K := by rfl) : OpR X (binaryOp .Add) (rAddX K) := by
  subst hK
  exact op_add.or (op_add_str.or (op_cat.or op_catA))
end L3
end
section
/-! L3c: more operations, tests, argument lists, displays. -/
namespace L3
open PySem L2
variable {G : Type} {K : PySem.W.Frag} {X : Cx} {Z : Zx K G}
/-! ### whole numbers -/
def ii (k : Int → Int → Prop) : Option PyData → Option PyData → Prop
  | some (.int i), some (.int j) => k i j
  | _, _ => False
theorem ii_of {k : Int → Int → Prop} {a b : Option PyData} (h : ii k a b) : ∃ i j, a = some (.int i) ∧ b = some (.int j) ∧ k i j := by
  unfold ii at h
  split at h
  · exact ⟨_, _, rfl, rfl, h⟩
  · cases h
def oI (C : Int → Int → Prop) (g' : Int → Int → PyData) : RO G := fun r1 r2 ρ g Q => ii (fun i j => C i j ∧ Q (.dt (g' i j)) ρ g) (rd r1 ρ) (rd r2 ρ)
def oI0 (g' : Int → Int → PyData) : RO G := fun r1 r2 ρ g Q => ii (fun i j => Q (.dt (g' i j)) ρ g) (rd r1 ρ) (rd r2 ρ)
theorem sim_I {C : Int → Int → Prop} {gv : Int → Int → V} {gd : Int → Int → PyData} (h : ∀ F i j, Da K F (gv i j) (gd i j)) : SimO Z (rI C gv) (oI (G := G) C gd) := fun f F ad ρ g σ H x y r1 r2 Q R h1 h2 q P hP => by
  obtain ⟨i, j, e1, e2, c, q⟩ := ii_of q
  exact ⟨i, j, R.rInt h1 e1, R.rInt h2 e2, c, hP _ _ (R.dat (h F i j) q)⟩
theorem sim_I0 {gv : Int → Int → V} {gd : Int → Int → PyData} (h : ∀ F i j, Da K F (gv i j) (gd i j)) : SimO Z (rI0 gv) (oI0 (G := G) gd) := fun f F ad ρ g σ H x y r1 r2 Q R h1 h2 q P hP => by
  obtain ⟨i, j, e1, e2, q⟩ := ii_of q
  exact ⟨i, j, R.rInt h1 e1, R.rInt h2 e2, hP _ _ (R.dat (h F i j) q)⟩
def oSub : RO G := oI0 fun i j => .int (i - j)
/-- whole numbers that are plainly in bounds -/
def smallA (j : Int) : Bool := match j with
  | .ofNat n => Nat.ble (n + 1) 18446744073709551616
  | .negSucc n => Nat.ble (n + 2) 18446744073709551616
def smallPos (j : Int) : Bool := match j with
  | .ofNat n => match Nat.ble 1 n with
    | true => Nat.ble (n + 1) 1267650600228229401496703205376
    | false => false
  | .negSucc _ => false
def smallPw (i j : Int) : Bool := match j with
  | .ofNat b => match Nat.ble b 1000000 with
    | true => smallA i
    | false => false
  | .negSucc _ => false
theorem smallA_of {j : Int} (h : smallA j = true) : -(2 ^ 64) < j ∧ j < 2 ^ 64 := by
  cases j with
  | ofNat n => have := Nat.le_of_ble_eq_true h; constructor <;> (simp only [Int.ofNat_eq_natCast]; omega)
  | negSucc n => have := Nat.le_of_ble_eq_true h; constructor <;> omega
theorem smallPos_of {j : Int} (h : smallPos j = true) : 0 < j ∧ j < 2 ^ 100 := by
  cases j with
  | ofNat n =>
    unfold smallPos at h
    simp only at h
    cases e : Nat.ble 1 n with
    | false => rw [e] at h; cases h
    | true =>
      rw [e] at h
      have h1 := Nat.le_of_ble_eq_true e
      have h2 := Nat.le_of_ble_eq_true h
      constructor <;> (simp only [Int.ofNat_eq_natCast]; omega)
  | negSucc n => cases h
def MulOk (i j : Int) : Prop := CMul i j ∨ CMulX i j
def DivOk (i j : Int) : Prop := 0 < j ∧ j.natAbs.log2 < 9000
def bigA (j : Int) : Bool := match j with
  | .ofNat n => Nat.ble (n + 1) 1809251394333065553493296640760748560207343510400633813116524750123642650624
  | .negSucc n => Nat.ble (n + 2) 1809251394333065553493296640760748560207343510400633813116524750123642650624
theorem bigA_of {j : Int} (h : bigA j = true) : j.natAbs < 2 ^ 250 := by
  cases j with
  | ofNat n => have := Nat.le_of_ble_eq_true h; simp only [Int.ofNat_eq_natCast]; omega
  | negSucc n => have := Nat.le_of_ble_eq_true h; omega
def mulG (i j : Int) : Bool := match smallA j with
  | true => true
  | false => match bigA j with
    | true => bigA i
    | false => false
theorem mulG_of {i j : Int} (h : mulG i j = true) : MulOk i j := by
  unfold mulG at h
  cases e : smallA j with
  | true => exact .inl (.inr (smallA_of e))
  | false =>
    rw [e] at h
    cases e2 : bigA j with
    | false => rw [e2] at h; cases h
    | true =>
      rw [e2] at h
      exact .inr (mulx_ok (bigA_of h) (bigA_of e2) (by decide))
def mlK (i j : Int) (p : Prop) : Prop := gd (mulG i j) (MulOk i j) p
theorem mlK_e {i j : Int} {p : Prop} (h : mlK i j p) : MulOk i j ∧ p := gd_e mulG_of h
theorem mlK_of {i j : Int} {p : Prop} (hc : MulOk i j) (hp : p) : mlK i j p := gd_of hc hp
def dvK (i j : Int) (p : Prop) : Prop := gd (smallPos j) (DivOk i j) p
theorem log_small {m : Int} (h0 : 0 < m) (h1 : m < 2 ^ 64) : m.natAbs.log2 < 9000 := by
  have h2 : m.natAbs < 2 ^ 64 := by omega
  have h3 : m.natAbs.log2 < 64 := by
    rw [Nat.log2_lt (by omega)]
    exact h2
  omega
theorem log_100 {m : Int} (h0 : 0 < m) (h1 : m < 2 ^ 100) : m.natAbs.log2 < 9000 := by
  have h2 : m.natAbs < 2 ^ 100 := by omega
  have h3 : m.natAbs.log2 < 100 := by
    rw [Nat.log2_lt (by omega)]
    exact h2
  omega
theorem dvK_e {i j : Int} {p : Prop} (h : dvK i j p) : DivOk i j ∧ p := gd_e (fun e => ⟨(smallPos_of e).1, log_100 (smallPos_of e).1 (smallPos_of e).2⟩) h
theorem dvK_of {i j : Int} {p : Prop} (hc : DivOk i j) (hp : p) : dvK i j p := gd_of hc hp
def mdK (_ j : Int) (p : Prop) : Prop := gd (smallPos j) (0 < j) p
theorem mdK_e {i j : Int} {p : Prop} (h : mdK i j p) : 0 < j ∧ p := gd_e (fun e => (smallPos_of e).1) h
theorem mdK_of {i j : Int} {p : Prop} (hc : 0 < j) (hp : p) : mdK i j p := gd_of hc hp
def pwK (i j : Int) (p : Prop) : Prop := gd (smallPw i j) (CPow i j) p
theorem pwK_e {i j : Int} {p : Prop} (h : pwK i j p) : CPow i j ∧ p := gd_e (fun e => by
  cases j with
  | ofNat b =>
    unfold smallPw at e
    simp only at e
    cases q : Nat.ble b 1000000 with
    | false => rw [q] at e; cases e
    | true =>
      rw [q] at e
      have h1 := Nat.le_of_ble_eq_true q
      have h2 := smallA_of e
      refine ⟨by simp only [Int.ofNat_eq_natCast]; omega, by simp only [Int.ofNat_eq_natCast]; omega, by omega⟩
  | negSucc b => cases e) h
theorem pwK_of {i j : Int} {p : Prop} (hc : CPow i j) (hp : p) : pwK i j p := gd_of hc hp
structure RepOk (n : Nat) (k : Int) : Prop where
  lo : -(2 ^ 63) ≤ k
  hi : k < 2 ^ 63
  len : n * k.toNat ≤ 16777216
theorem op_mulA : OpR X (binaryOp .Mult) (rI MulOk fun i j => .int (i * j)) := by
  intro pins s σ H x y v u Q I rx ry h
  obtain ⟨i, j, rfl, rfl, c, q⟩ := h
  rcases c with c | c
  · exact op_mul pins s σ H _ _ v u Q I rx ry ⟨i, j, rfl, rfl, c, q⟩
  · exact op_mulX pins s σ H _ _ v u Q I rx ry ⟨i, j, rfl, rfl, c, q⟩
def mulD (ρ : En) (g : G) (Q : Rs → En → G → Prop) : Option PyData → Option PyData → Prop
  | some (.int i), some (.int j) => mlK i j (Q (.dt (.int (i * j))) ρ g)
  | some (.list xs), some (.int k) => RepOk xs.length k ∧ Q (.nl (List.replicate k.toNat xs).flatten) ρ g
  | some (.tuple xs), some (.int k) => RepOk xs.length k ∧ Q (.dt (.tuple (List.replicate k.toNat xs).flatten)) ρ g
  | _, _ => False
def oMul : RO G := fun r1 r2 ρ g Q => mulD ρ g Q (rd r1 ρ) (rd r2 ρ)
def rMulX (K : PySem.W.Frag) : R2 := fun x y H Q => rI MulOk (fun i j => .int (i * j)) x y H Q ∨ (rRep x y H Q ∨ rRepA K x y H Q)
theorem rep_one {α : Type} (xs : List α) : (List.replicate (1 : Int).toNat xs).flatten = xs := by
  show (List.replicate 1 xs).flatten = xs
  simp
theorem rep_nil {α : Type} (k : Nat) : (List.replicate k ([] : List α)).flatten = [] := by
  induction k with
  | zero => rfl
  | succ k ih => rw [List.replicate_succ, List.flatten_cons, ih]; rfl
theorem sim_mul : SimO Z (rMulX K) (oMul (G := G)) := fun f F ad ρ g σ H x y r1 r2 Q R h1 h2 q P hP => by
  have q' : mulD ρ g Q (rd r1 ρ) (rd r2 ρ) := q
  unfold mulD at q'
  split at q'
  · rename_i i j e1 e2
    replace q' := mlK_e q'
    exact .inl ⟨i, j, R.rInt h1 e1, R.rInt h2 e2, q'.1, hP _ _ (R.dat (.int _) q'.2)⟩
  · rename_i xs k e1 e2
    obtain ⟨a, vs, rfl, ha, da⟩ := R.items h1 e1
    obtain ⟨⟨b1, b2, b3⟩, q'⟩ := q'
    exact .inr (.inl ⟨a, k, vs, rfl, R.rInt h2 e2, ha, b1, b2, by rw [sizeLine_eq, da.length]; exact b3, fun p hp => hP _ _ (R.newL hp (da.rep _) q')⟩)
  · rename_i xs k e1 e2
    obtain ⟨a, vs, rfl, ha, da⟩ := R.titems h1 e1
    obtain ⟨⟨b1, b2, b3⟩, q'⟩ := q'
    refine .inr (.inr ⟨a, k, vs, rfl, R.rInt h2 e2, Evl.ex_t R.fin.sub ha, b1, b2, by rw [sizeLine_eq, da.length]; exact b3, fun e => ?_, fun _ p hp => hP _ _ (R.newT hp (da.rep _) q')⟩)
    refine hP _ _ (R.dat ?_ q')
    rcases e with e | e
    · subst e
      have e2 := (tup_nil_r da).mp rfl
      subst e2
      rw [rep_nil]
      exact .tup ha .nil
    · subst e
      rw [rep_one]
      exact .tup ha da
  · cases q'
theorem op_mulX3 {K : PySem.W.Frag} (hK : K = X.K := by rfl) : OpR X (binaryOp .Mult) (rMulX K) := by
  subst hK
  exact op_mulA.or (op_rep.or op_repA)
/-- the operators, each with its reading -/
theorem b_add (hK : K = X.K := by rfl) : OpR X (binaryOp .Add) (rAddX K) ∧ SimO Z (rAddX K) (oAdd (G := G)) := ⟨op_addX hK, sim_add⟩
theorem b_sub : OpR X (binaryOp .Sub) (rI0 fun i j => .int (i - j)) ∧ SimO Z (rI0 fun i j => .int (i - j)) (oSub (G := G)) := ⟨op_sub, sim_I0 fun _ _ _ => .int _⟩
theorem b_mul (hK : K = X.K := by rfl) : OpR X (binaryOp .Mult) (rMulX K) ∧ SimO Z (rMulX K) (oMul (G := G)) := ⟨op_mulX3 hK, sim_mul⟩
def oG (k : Int → Int → Prop → Prop) (g' : Int → Int → PyData) : RO G := fun r1 r2 ρ g Q => ii (fun i j => k i j (Q (.dt (g' i j)) ρ g)) (rd r1 ρ) (rd r2 ρ)
theorem sim_G {C : Int → Int → Prop} {k : Int → Int → Prop → Prop} {gv : Int → Int → V} {gd : Int → Int → PyData} (hk : ∀ i j p, k i j p → C i j ∧ p) (h : ∀ F i j, Da K F (gv i j) (gd i j)) : SimO Z (rI C gv) (oG (G := G) k gd) := fun f F ad ρ g σ H x y r1 r2 Q R h1 h2 q P hP => by
  obtain ⟨i, j, e1, e2, q⟩ := ii_of q
  obtain ⟨c, q⟩ := hk _ _ _ q
  exact ⟨i, j, R.rInt h1 e1, R.rInt h2 e2, c, hP _ _ (R.dat (h F i j) q)⟩
def oDiv : RO G := oG dvK fun i j => .int (i / j)
def oMod : RO G := oG mdK fun i j => .int (i % j)
def oPow : RO G := oG pwK fun i j => .int (i ^ j.toNat)
def oXor : RO G := oI0 fun i j => .int (Builtin.bitXor i j)
theorem b_div : OpR X (binaryOp .FloorDiv) (rI CDivW fun i j => .int (i / j)) ∧ SimO Z (rI CDivW fun i j => .int (i / j)) (oDiv (G := G)) := ⟨op_fdivW, sim_G (fun _ _ _ h => dvK_e h) fun _ _ _ => .int _⟩
theorem b_mod : OpR X (binaryOp .Mod) (rI (fun _ j => 0 < j) fun i j => .int (i % j)) ∧ SimO Z (rI (fun _ j => 0 < j) fun i j => .int (i % j)) (oMod (G := G)) := ⟨op_mod, sim_G (fun _ _ _ h => mdK_e h) fun _ _ _ => .int _⟩
theorem b_pow : OpR X (binaryOp .Pow) (rI CPow fun i j => .int (i ^ j.toNat)) ∧ SimO Z (rI CPow fun i j => .int (i ^ j.toNat)) (oPow (G := G)) := ⟨op_pow, sim_G (fun _ _ _ h => pwK_e h) fun _ _ _ => .int _⟩
theorem b_xor : OpR X (binaryOp .BitXor) (rI0 fun i j => .int (Builtin.bitXor i j)) ∧ SimO Z (rI0 fun i j => .int (Builtin.bitXor i j)) (oXor (G := G)) := ⟨op_xor, sim_I0 fun _ _ _ => .int _⟩
def iiU (k : Int → Prop) : Option PyData → Prop
  | some (.int i) => k i
  | _ => False
theorem iiU_of {k : Int → Prop} {a : Option PyData} (h : iiU k a) : ∃ i, a = some (.int i) ∧ k i := by
  unfold iiU at h
  split at h
  · exact ⟨_, rfl, h⟩
  · cases h
def oNeg : RU G := fun r ρ g Q => iiU (fun i => Q (.dt (.int (-i))) ρ g) (rd r ρ)
theorem u_neg : UnR X (unaryOp .USub) (rU fun i => .int (-i)) ∧ SimU Z (rU fun i => .int (-i)) (oNeg (G := G)) := ⟨un_neg, fun f F ad ρ g σ H x r1 Q R h1 q P hP => by
  obtain ⟨i, e1, q⟩ := iiU_of q
  exact ⟨i, R.rInt h1 e1, hP _ _ (R.dat (.int _) q)⟩⟩
/-! ### comparisons -/
def cI (p : Int → Int → Bool) : RO G := oI0 fun i j => .bool (p i j)
theorem c_I {op : CmpOp} {p : Int → Int → Bool} (h : OpR X (compareOp op) (rI0 fun i j => .bl (p i j))) : OpR X (compareOp op) (rI0 fun i j => .bl (p i j)) ∧ SimO Z (rI0 fun i j => .bl (p i j)) (cI (G := G) p) := ⟨h, sim_I0 fun _ _ _ => .bl _⟩
theorem c_lt : OpR X (compareOp .Lt) (rI0 fun i j => .bl (decide (i < j))) ∧ SimO Z (rI0 fun i j => .bl (decide (i < j))) (cI (G := G) fun i j => decide (i < j)) := c_I op_lt
theorem c_le : OpR X (compareOp .LtE) (rI0 fun i j => .bl (decide (i ≤ j))) ∧ SimO Z (rI0 fun i j => .bl (decide (i ≤ j))) (cI (G := G) fun i j => decide (i ≤ j)) := c_I op_le
theorem c_gt : OpR X (compareOp .Gt) (rI0 fun i j => .bl (decide (j < i))) ∧ SimO Z (rI0 fun i j => .bl (decide (j < i))) (cI (G := G) fun i j => decide (j < i)) := c_I op_gt
theorem c_ge : OpR X (compareOp .GtE) (rI0 fun i j => .bl (decide (j ≤ i))) ∧ SimO Z (rI0 fun i j => .bl (decide (j ≤ i))) (cI (G := G) fun i j => decide (j ≤ i)) := c_I op_ge
def eqD (ρ : En) (g : G) (Q : Rs → En → G → Prop) : Option PyData → Option PyData → Prop
  | some (.int i), some (.int j) => Q (.dt (.bool (decide (i = j)))) ρ g
  | some (.str x), some (.str y) => Q (.dt (.bool (decide (x = y)))) ρ g
  | some d, some e => SeqAt.shaped d = true ∧ SeqAt.shaped e = true ∧ Q (.dt (.bool (PyData.eqv d e))) ρ g
  | _, _ => False
def neD (ρ : En) (g : G) (Q : Rs → En → G → Prop) : Option PyData → Option PyData → Prop
  | some (.int i), some (.int j) => Q (.dt (.bool (!decide (i = j)))) ρ g
  | some (.str x), some (.str y) => Q (.dt (.bool (!decide (x = y)))) ρ g
  | some d, some e => SeqAt.shaped d = true ∧ SeqAt.shaped e = true ∧ Q (.dt (.bool (!PyData.eqv d e))) ρ g
  | _, _ => False
def oEq : RO G := fun r1 r2 ρ g Q => eqD ρ g Q (rd r1 ρ) (rd r2 ρ)
def oNe : RO G := fun r1 r2 ρ g Q => neD ρ g Q (rd r1 ρ) (rd r2 ρ)
def rEqX (K : PySem.W.Frag) : R2 := fun x y H Q => rEq x y H Q ∨ rEqD K x y H Q
def rNeX (K : PySem.W.Frag) : R2 := fun x y H Q => rNe x y H Q ∨ rNeD K x y H Q
theorem vint_inj {i j : Int} : decide (V.int i = V.int j) = decide (i = j) := by
  by_cases h : i = j
  · subst h; simp
  · rw [decide_eq_false h, decide_eq_false fun e => h (V.int.inj e)]
theorem vstr_inj {i j : Str} : decide (V.str i = V.str j) = decide (i = j) := by
  by_cases h : i = j
  · subst h; simp
  · rw [decide_eq_false h, decide_eq_false fun e => h (V.str.inj e)]
theorem sim_eq : SimO Z (rEqX K) (oEq (G := G)) := fun f F ad ρ g σ H x y r1 r2 Q R h1 h2 q P hP => by
  have q' : eqD ρ g Q (rd r1 ρ) (rd r2 ρ) := q
  unfold eqD at q'
  split at q'
  · rename_i i j e1 e2
    rw [R.rInt h1 e1, R.rInt h2 e2]
    exact .inl ⟨rfl, hP _ _ (R.dat (.bl _) (by rw [vint_inj]; exact q'))⟩
  · rename_i i j e1 e2
    rw [R.rStr h1 e1, R.rStr h2 e2]
    exact .inl ⟨rfl, hP _ _ (R.dat (.bl _) (by rw [vstr_inj]; exact q'))⟩
  · rename_i d e _ _ e1 e2
    exact .inr ⟨d, e, (R.hrd h1 e1).dp (SeqAt.canLay_of_shaped q'.1), (R.hrd h2 e2).dp (SeqAt.canLay_of_shaped q'.2.1), q'.1, q'.2.1, hP _ _ (R.dat (.bl _) q'.2.2)⟩
  · cases q'
theorem sim_ne : SimO Z (rNeX K) (oNe (G := G)) := fun f F ad ρ g σ H x y r1 r2 Q R h1 h2 q P hP => by
  have q' : neD ρ g Q (rd r1 ρ) (rd r2 ρ) := q
  unfold neD at q'
  split at q'
  · rename_i i j e1 e2
    rw [R.rInt h1 e1, R.rInt h2 e2]
    exact .inl ⟨rfl, hP _ _ (R.dat (.bl _) (by rw [vint_inj]; exact q'))⟩
  · rename_i i j e1 e2
    rw [R.rStr h1 e1, R.rStr h2 e2]
    exact .inl ⟨rfl, hP _ _ (R.dat (.bl _) (by rw [vstr_inj]; exact q'))⟩
  · rename_i d e _ _ e1 e2
    exact .inr ⟨d, e, (R.hrd h1 e1).dp (SeqAt.canLay_of_shaped q'.1), (R.hrd h2 e2).dp (SeqAt.canLay_of_shaped q'.2.1), q'.1, q'.2.1, hP _ _ (R.dat (.bl _) q'.2.2)⟩
  · cases q'
theorem c_eq (hu : X.A.units + 64 < cLine) (hK : K = X.K := by rfl) : OpR X (compareOp .Eq) (rEqX K) ∧ SimO Z (rEqX K) (oEq (G := G)) := ⟨by rw [hK]; exact op_eq.or (op_eqD hu), sim_eq⟩
theorem c_ne (hu : X.A.units + 64 < cLine) (hK : K = X.K := by rfl) : OpR X (compareOp .NotEq) (rNeX K) ∧ SimO Z (rNeX K) (oNe (G := G)) := ⟨by rw [hK]; exact op_ne.or (op_neD hu), sim_ne⟩
/-- is None, is not None; is True .. -/
def isN : Rs → En → Option Bool
  | .dt .none, _ => some true
  | .dt _, _ => some false
  | .nl _, _ => some false
  | .br i, ρ => match ρ[i]? with
    | some (.ls _) => some false
    | some (.dk _) => some false
    | _ => none
  | _, _ => none
theorem Rel.isN {f : Fx} {F : Hp} {ad : Nat → Addr} {ρ : En} {g : G} {σ : St} {H : Hp} (R : Rel Z f F ad ρ g σ H) {v : V} {r : Rs} {b : Bool} (h : VR Z f F ad ρ g σ H v r) (e : isN r ρ = some b) : decide (v = .non) = b := by
  cases r with
  | dt d =>
    cases h with
    | non => cases e; rfl
    | _ => cases e; rfl
  | nl ds => obtain ⟨a, vs, rfl, _⟩ := h; cases e; rfl
  | br i =>
    unfold L3.isN at e
    cases hi : ρ[i]? with
    | none => simp only [hi] at e; cases e
    | some s =>
      simp only [hi] at e
      have q := R.slot i _ hi
      cases s with
      | ls ds => obtain ⟨q1, _⟩ := q; have z : some (some (V.ref (ad i))) = some (some v) := q1.symm.trans h; cases z; cases e; rfl
      | dk ds => obtain ⟨q1, _⟩ := q; have z : some (some (V.ref (ad i))) = some (some v) := q1.symm.trans h; cases z; cases e; rfl
      | _ => cases e
  | _ => cases e
def bo (k : Bool → Prop) : Option PyData → Prop
  | some (.bool b) => k b
  | _ => False
theorem bo_of {k : Bool → Prop} {a : Option PyData} (h : bo k a) : ∃ b, a = some (.bool b) ∧ k b := by
  unfold bo at h
  split at h
  · exact ⟨_, rfl, h⟩
  · cases h
def isD (ρ : En) (g : G) (Q : Rs → En → G → Prop) (r1 : Rs) : Option PyData → Prop
  | some .none => opK (isN r1 ρ) fun b => Q (.dt (.bool b)) ρ g
  | some (.bool c) => bo (fun a => Q (.dt (.bool (decide (a = c)))) ρ g) (rd r1 ρ)
  | _ => False
def isnD (ρ : En) (g : G) (Q : Rs → En → G → Prop) (r1 : Rs) : Option PyData → Prop
  | some .none => opK (isN r1 ρ) fun b => Q (.dt (.bool (!b))) ρ g
  | some (.bool c) => bo (fun a => Q (.dt (.bool (!decide (a = c)))) ρ g) (rd r1 ρ)
  | _ => False
def oIs : RO G := fun r1 r2 ρ g Q => isD ρ g Q r1 (rd r2 ρ)
def oIsN : RO G := fun r1 r2 ρ g Q => isnD ρ g Q r1 (rd r2 ρ)
def rIsX : R2 := fun x y H Q => (y = .non ∧ Q (.bl (decide (x = .non))) H) ∨ rIsB x y H Q
def rIsNX : R2 := fun x y H Q => (y = .non ∧ Q (.bl (!decide (x = .non))) H) ∨ rNotB x y H Q
theorem sim_is : SimO Z rIsX (oIs (G := G)) := fun f F ad ρ g σ H x y r1 r2 Q R h1 h2 q P hP => by
  have q' : isD ρ g Q r1 (rd r2 ρ) := q
  unfold isD at q'
  split at q'
  · rename_i e2
    obtain ⟨b, e1, q'⟩ := opK_e q'
    exact .inl ⟨R.rNone h2 e2, hP _ _ (R.dat (.bl _) (by rw [R.isN h1 e1]; exact q'))⟩
  · rename_i c e2
    obtain ⟨a, e1, q'⟩ := bo_of q'
    exact .inr ⟨a, c, R.rBool h1 e1, R.rBool h2 e2, hP _ _ (R.dat (.bl _) q')⟩
  · cases q'
theorem sim_isN : SimO Z rIsNX (oIsN (G := G)) := fun f F ad ρ g σ H x y r1 r2 Q R h1 h2 q P hP => by
  have q' : isnD ρ g Q r1 (rd r2 ρ) := q
  unfold isnD at q'
  split at q'
  · rename_i e2
    obtain ⟨b, e1, q'⟩ := opK_e q'
    exact .inl ⟨R.rNone h2 e2, hP _ _ (R.dat (.bl _) (by rw [R.isN h1 e1]; exact q'))⟩
  · rename_i c e2
    obtain ⟨a, e1, q'⟩ := bo_of q'
    exact .inr ⟨a, c, R.rBool h1 e1, R.rBool h2 e2, hP _ _ (R.dat (.bl _) q')⟩
  · cases q'
theorem c_is : OpR X (compareOp .Is) rIsX ∧ SimO Z rIsX (oIs (G := G)) := ⟨op_isN.or op_isBl, sim_is⟩
theorem c_isN : OpR X (compareOp .IsNot) rIsNX ∧ SimO Z rIsNX (oIsN (G := G)) := ⟨op_notN.or op_notBl, sim_isN⟩
/-- in, not in, of flat things -/
def toV : PyData → V
  | .none => .non
  | .bool b => .bl b
  | .int i => .int i
  | .str x => .str x
  | _ => .ref 0
def flatD : PyData → Bool
  | .none => true
  | .bool _ => true
  | .int _ => true
  | .str _ => true
  | _ => false
def inD (x : PyData) (ds : List PyData) : Bool := ds.any fun y => eqV (toV y) (toV x)
theorem da_flat {K : PySem.W.Frag} {H : Hp} {v : V} {d : PyData} (h : Da K H v d) (e : flatD d = true) : v = toV d ∧ flatV v = true := by
  cases h <;> first | exact ⟨rfl, rfl⟩ | cases e
theorem daAll_flat {K : PySem.W.Frag} {H : Hp} : ∀ {vs : List V} {ds : List PyData}, DaAll K H vs ds → ds.all flatD = true → vs = ds.map toV ∧ vs.all flatV = true
  | _, _, .nil, _ => ⟨rfl, rfl⟩
  | _, _, .cons h r, e => by
    rw [List.all_cons, Bool.and_eq_true] at e
    obtain ⟨e1, e2⟩ := da_flat h e.1
    obtain ⟨e3, e4⟩ := daAll_flat r e.2
    exact ⟨by rw [List.map_cons, e1, e3], by rw [List.all_cons, e2, e4]; rfl⟩
def inDD (neg : Bool) (ρ : En) (g : G) (Q : Rs → En → G → Prop) : Option PyData → Option PyData → Prop
  | some x, some (.list ds) => flatD x = true ∧ ds.all flatD = true ∧ Q (.dt (.bool (xor neg (inD x ds)))) ρ g
  | some x, some (.tuple ds) => flatD x = true ∧ ds.all flatD = true ∧ Q (.dt (.bool (xor neg (inD x ds)))) ρ g
  | _, _ => False
def oIn (neg : Bool) : RO G := fun r1 r2 ρ g Q => inDD neg ρ g Q (rd r1 ρ) (rd r2 ρ)
theorem inV_inD {x : PyData} {ds : List PyData} : inV (toV x) (ds.map toV) = inD x ds := by
  unfold inV inD
  rw [List.any_map]; rfl
theorem sim_in {neg : Bool} : SimO Z (rIn K neg) (oIn (G := G) neg) := fun f F ad ρ g σ H x y r1 r2 Q R h1 h2 q P hP => by
  have q' : inDD neg ρ g Q (rd r1 ρ) (rd r2 ρ) := q
  unfold inDD at q'
  split at q'
  · rename_i d ds e1 e2
    obtain ⟨a, vs, rfl, ha, da⟩ := R.items h2 e2
    obtain ⟨b1, b2, q'⟩ := q'
    obtain ⟨c1, c2⟩ := da_flat (R.hrd h1 e1) b1
    obtain ⟨c3, c4⟩ := daAll_flat da b2
    refine ⟨a, vs, rfl, .inl (.inl (.inl ha)), c2, c4, hP _ _ (R.dat (.bl _) ?_)⟩
    rw [c1, c3, inV_inD]; cases neg <;> first | exact q' | (rw [Bool.xor_false] at q'; exact q') | simpa using q'
  · rename_i d ds e1 e2
    obtain ⟨a, vs, rfl, ha, da⟩ := R.titems h2 e2
    obtain ⟨b1, b2, q'⟩ := q'
    obtain ⟨c1, c2⟩ := da_flat (R.hrd h1 e1) b1
    obtain ⟨c3, c4⟩ := daAll_flat da b2
    refine ⟨a, vs, rfl, .inr (Evl.ex_t R.fin.sub ha), c2, c4, hP _ _ (R.dat (.bl _) ?_)⟩
    rw [c1, c3, inV_inD]; cases neg <;> first | exact q' | (rw [Bool.xor_false] at q'; exact q') | simpa using q'
  · cases q'
theorem c_in (hK : K = X.K := by rfl) : OpR X (compareOp .In) (rIn K false) ∧ SimO Z (rIn K false) (oIn (G := G) false) := ⟨by rw [hK]; exact op_in_seq, sim_in⟩
theorem c_nin (hK : K = X.K := by rfl) : OpR X (compareOp .NotIn) (rIn K true) ∧ SimO Z (rIn K true) (oIn (G := G) true) := ⟨by rw [hK]; exact op_notIn_seq, sim_in⟩
theorem e_cmp {op : CmpOp} {r : R2} {o : RO G} {ea eb : Expr} {ta tb : TE} {a b : DT G} {pos : Pos} (ho : OpR X (compareOp op) r ∧ SimO Z r o) (ha : DE X Z ea ta a) (hb : DE X Z eb tb b) (hm : behindInMarks op eb = false := by first | exact nomark _ | rfl) :
    DE X Z (.Compare ea [op] [eb] pos) (tOp r ta tb) (dOp o a b) := ⟨pe_cmpR ho.1 ha.pe hb.pe hm, sim_op ho.2 ha.sim hb.sim⟩
/-! ### tests -/
abbrev DB (G : Type) := En → G → (Bool → En → G → Prop) → Prop
def PostB (Z : Zx K G) (f : Fx) (F : Hp) (g : G) (σ : St) (Q : Bool → En → G → Prop) (b : Bool) (H' : Hp) : Prop :=
  ∃ F' ad' ρ' g', Ex F F' ∧ Z.ra g' = Z.ra g ∧ Rel Z f F' ad' ρ' g' σ H' ∧ Q b ρ' g'
def SimT (Z : Zx K G) (tt : TT) (t : DB G) : Prop := ∀ f F ad ρ g σ H Q, Rel Z f F ad ρ g σ H → t ρ g Q → ∀ P : Bool → Hp → Prop, (∀ b H', PostB Z f F g σ Q b H' → P b H') → tt σ H P
structure DTe (X : Cx) (Z : Zx K G) (e : Expr) (tt : TT) (t : DB G) : Prop where
  pt : PT X e tt
  sim : SimT Z tt t
structure DW (X : Cx) (Z : Zx K G) (e : Expr) (tt : TT) (t : DB G) : Prop where
  pw : PW X e tt
  sim : SimT Z tt t
theorem PostB.mono {f : Fx} {F F1 : Hp} {g g1 : G} {σ : St} {Q : Bool → En → G → Prop} {b : Bool} {H' : Hp} (e : Ex F F1) (eg : Z.ra g1 = Z.ra g) (h : PostB Z f F1 g1 σ Q b H') : PostB Z f F g σ Q b H' := by
  obtain ⟨F', ad', ρ', g', h1, h2, h3⟩ := h
  exact ⟨F', ad', ρ', g', e.trans h1, h2.trans eg, h3⟩
def dTst (a : DT G) : DB G := fun ρ g Q => a ρ g fun r ρ1 g1 => bo (fun b => Q b ρ1 g1) (rd r ρ1)
theorem sim_tst {ta : TE} {a : DT G} (ha : Sim Z ta a) : SimT Z (tTest ta) (dTst a) := fun f F ad ρ g σ H Q R h P hP => by
  refine ha f F ad ρ g σ H _ R h _ fun x H1 q => ?_
  obtain ⟨F1, ad1, ρ1, g1, r1, e1, eg1, R1, v1, q⟩ := q
  obtain ⟨b, e, q⟩ := bo_of q
  exact ⟨b, R1.rBool v1 e, hP b H1 ⟨F1, ad1, ρ1, g1, e1, eg1, R1, q⟩⟩
theorem t_cmp {op : CmpOp} {r : R2} {o : RO G} {ea eb : Expr} {ta tb : TE} {a b : DT G} {pos : Pos} (ho : OpR X (compareOp op) r ∧ SimO Z r o) (ha : DE X Z ea ta a) (hb : DE X Z eb tb b) (hm : behindInMarks op eb = false := by first | exact nomark _ | rfl) :
    DTe X Z (.Compare ea [op] [eb] pos) (tTest (tOp r ta tb)) (dTst (dOp o a b)) := ⟨pt_cmpR ho.1 ha.pe hb.pe hm, sim_tst (sim_op ho.2 ha.sim hb.sim)⟩
theorem t_val {e : Expr} {te : TE} {t : DT G} (h : DE X Z e te t) (he : ∀ whole, isTrue e X.env whole = (do let v ← whole; standAt e.pos; holding [v] (truthy v)) := by intro _; rfl) : DTe X Z e (tB te) (dTst t) :=
  ⟨pt_val h.pe he, sim_tst h.sim⟩
def dAnd (a b : DB G) : DB G := fun ρ g Q => a ρ g fun c ρ1 g1 => ifb c (b ρ1 g1 Q) (Q false ρ1 g1)
def dOr (a b : DB G) : DB G := fun ρ g Q => a ρ g fun c ρ1 g1 => ifb c (Q true ρ1 g1) (b ρ1 g1 Q)
def dNot (a : DB G) : DB G := fun ρ g Q => a ρ g fun c ρ1 g1 => Q (!c) ρ1 g1
theorem sim_and {ta tb : TT} {a b : DB G} (ha : SimT Z ta a) (hb : SimT Z tb b) : SimT Z (tAnd ta tb) (dAnd a b) := fun f F ad ρ g σ H Q R h P hP => by
  refine ha f F ad ρ g σ H _ R h _ fun c H1 q => ?_
  obtain ⟨F1, ad1, ρ1, g1, e1, eg1, R1, q⟩ := q
  cases c with
  | true =>
    rw [if_pos rfl]
    replace q := ifb_t q
    exact hb f F1 ad1 ρ1 g1 σ H1 _ R1 q P fun c H' hp => hP c H' (hp.mono e1 eg1)
  | false =>
    rw [if_neg Bool.false_ne_true]
    replace q := ifb_f q
    exact hP false H1 ⟨F1, ad1, ρ1, g1, e1, eg1, R1, q⟩
theorem sim_or {ta tb : TT} {a b : DB G} (ha : SimT Z ta a) (hb : SimT Z tb b) : SimT Z (tOr ta tb) (dOr a b) := fun f F ad ρ g σ H Q R h P hP => by
  refine ha f F ad ρ g σ H _ R h _ fun c H1 q => ?_
  obtain ⟨F1, ad1, ρ1, g1, e1, eg1, R1, q⟩ := q
  cases c with
  | true =>
    rw [if_pos rfl]
    replace q := ifb_t q
    exact hP true H1 ⟨F1, ad1, ρ1, g1, e1, eg1, R1, q⟩
  | false =>
    rw [if_neg Bool.false_ne_true]
    replace q := ifb_f q
    exact hb f F1 ad1 ρ1 g1 σ H1 _ R1 q P fun c H' hp => hP c H' (hp.mono e1 eg1)
theorem sim_not {ta : TT} {a : DB G} (ha : SimT Z ta a) : SimT Z (tNot ta) (dNot a) := fun f F ad ρ g σ H Q R h P hP =>
  ha f F ad ρ g σ H _ R h _ fun c H1 q => by
    obtain ⟨F1, ad1, ρ1, g1, e1, eg1, R1, q⟩ := q
    exact hP (!c) H1 ⟨F1, ad1, ρ1, g1, e1, eg1, R1, q⟩
section
variable {ea eb : Expr} {ta tb : TT} {a b : DB G} {pos : Pos} {rest : List Expr}
theorem w_and1 (h : DTe X Z ea ta a) : DW X Z (.BoolOp .And [ea] pos) ta a := ⟨pw_and1 h.pt, h.sim⟩
theorem w_or1 (h : DTe X Z ea ta a) : DW X Z (.BoolOp .Or [ea] pos) ta a := ⟨pw_or1 h.pt, h.sim⟩
theorem w_and (h : DTe X Z ea ta a) (k : DW X Z (.BoolOp .And (eb :: rest) pos) tb b) : DW X Z (.BoolOp .And (ea :: eb :: rest) pos) (tAnd ta tb) (dAnd a b) := ⟨pw_and h.pt k.pw, sim_and h.sim k.sim⟩
theorem w_or (h : DTe X Z ea ta a) (k : DW X Z (.BoolOp .Or (eb :: rest) pos) tb b) : DW X Z (.BoolOp .Or (ea :: eb :: rest) pos) (tOr ta tb) (dOr a b) := ⟨pw_or h.pt k.pw, sim_or h.sim k.sim⟩
theorem t_w {e : Expr} (h : DW X Z e ta a) : DTe X Z e ta a := ⟨h.pw.pt, h.sim⟩
theorem t_not (h : DTe X Z ea ta a) : DTe X Z (.UnaryOp .Not ea pos) (tNot ta) (dNot a) := ⟨pt_not h.pt, sim_not h.sim⟩
end
/-- and, or, not as values of truths -/
def dAndV (a b : DT G) : DT G := fun ρ g Q => a ρ g fun r ρ1 g1 => bo (fun c => ifb c (b ρ1 g1 Q) (Q (.dt (.bool false)) ρ1 g1)) (rd r ρ1)
def dOrV (a b : DT G) : DT G := fun ρ g Q => a ρ g fun r ρ1 g1 => bo (fun c => ifb c (Q (.dt (.bool true)) ρ1 g1) (b ρ1 g1 Q)) (rd r ρ1)
def dNotV (a : DT G) : DT G := fun ρ g Q => a ρ g fun r ρ1 g1 => bo (fun c => Q (.dt (.bool (!c))) ρ1 g1) (rd r ρ1)
theorem sim_andV {ta tb : TE} {a b : DT G} (ha : Sim Z ta a) (hb : Sim Z tb b) : Sim Z (tAndV ta tb) (dAndV a b) := fun f F ad ρ g σ H Q R h P hP => by
  refine ha f F ad ρ g σ H _ R h _ fun x H1 q => ?_
  obtain ⟨F1, ad1, ρ1, g1, r1, e1, eg1, R1, v1, q⟩ := q
  obtain ⟨c, e, q⟩ := bo_of q
  refine ⟨c, R1.rBool v1 e, ?_⟩
  cases c with
  | true =>
    rw [if_pos rfl]
    replace q := ifb_t q
    exact hb f F1 ad1 ρ1 g1 σ H1 _ R1 q P fun c H' hp => hP c H' (hp.mono e1 eg1)
  | false =>
    rw [if_neg Bool.false_ne_true]
    replace q := ifb_f q
    exact hP _ H1 ((R1.dat (.bl _) q).mono e1 eg1)
theorem sim_orV {ta tb : TE} {a b : DT G} (ha : Sim Z ta a) (hb : Sim Z tb b) : Sim Z (tOrV ta tb) (dOrV a b) := fun f F ad ρ g σ H Q R h P hP => by
  refine ha f F ad ρ g σ H _ R h _ fun x H1 q => ?_
  obtain ⟨F1, ad1, ρ1, g1, r1, e1, eg1, R1, v1, q⟩ := q
  obtain ⟨c, e, q⟩ := bo_of q
  refine ⟨c, R1.rBool v1 e, ?_⟩
  cases c with
  | true =>
    rw [if_pos rfl]
    replace q := ifb_t q
    exact hP _ H1 ((R1.dat (.bl _) q).mono e1 eg1)
  | false =>
    rw [if_neg Bool.false_ne_true]
    replace q := ifb_f q
    exact hb f F1 ad1 ρ1 g1 σ H1 _ R1 q P fun c H' hp => hP c H' (hp.mono e1 eg1)
theorem sim_notV {ta : TE} {a : DT G} (ha : Sim Z ta a) : Sim Z (tNotV ta) (dNotV a) := fun f F ad ρ g σ H Q R h P hP => by
  refine ha f F ad ρ g σ H _ R h _ fun x H1 q => ?_
  obtain ⟨F1, ad1, ρ1, g1, r1, e1, eg1, R1, v1, q⟩ := q
  obtain ⟨c, e, q⟩ := bo_of q
  exact ⟨c, R1.rBool v1 e, hP _ H1 ((R1.dat (.bl _) q).mono e1 eg1)⟩
section
variable {ea eb ec : Expr} {ta tb tc : TE} {tt : TT} {a b c : DT G} {t : DB G} {pos : Pos} {rest : List Expr}
theorem e_one {op} (h : DE X Z ea ta a) : DE X Z (.BoolOp op [ea] pos) ta a := ⟨pe_one h.pe, h.sim⟩
theorem e_and (h : DE X Z ea ta a) (k : DE X Z (.BoolOp .And (eb :: rest) pos) tb b) : DE X Z (.BoolOp .And (ea :: eb :: rest) pos) (tAndV ta tb) (dAndV a b) := ⟨pe_and h.pe k.pe, sim_andV h.sim k.sim⟩
theorem e_or (h : DE X Z ea ta a) (k : DE X Z (.BoolOp .Or (eb :: rest) pos) tb b) : DE X Z (.BoolOp .Or (ea :: eb :: rest) pos) (tOrV ta tb) (dOrV a b) := ⟨pe_or h.pe k.pe, sim_orV h.sim k.sim⟩
theorem e_not (h : DE X Z ea ta a) : DE X Z (.UnaryOp .Not ea pos) (tNotV ta) (dNotV a) := ⟨pe_not h.pe, sim_notV h.sim⟩
def dIf (t : DB G) (a b : DT G) : DT G := fun ρ g Q => t ρ g fun c ρ1 g1 => ifb c (a ρ1 g1 Q) (b ρ1 g1 Q)
theorem sim_if (ht : SimT Z tt t) (ha : Sim Z ta a) (hb : Sim Z tb b) : Sim Z (tIf tt ta tb) (dIf t a b) := fun f F ad ρ g σ H Q R h P hP => by
  refine ht f F ad ρ g σ H _ R h _ fun c H1 q => ?_
  obtain ⟨F1, ad1, ρ1, g1, e1, eg1, R1, q⟩ := q
  cases c with
  | true =>
    rw [if_pos rfl]
    replace q := ifb_t q
    exact ha f F1 ad1 ρ1 g1 σ H1 _ R1 q P fun c H' hp => hP c H' (hp.mono e1 eg1)
  | false =>
    rw [if_neg Bool.false_ne_true]
    replace q := ifb_f q
    exact hb f F1 ad1 ρ1 g1 σ H1 _ R1 q P fun c H' hp => hP c H' (hp.mono e1 eg1)
theorem e_if {et : Expr} (ht : DTe X Z et tt t) (ha : DE X Z ea ta a) (hb : DE X Z eb tb b) : DE X Z (.IfExp et ea eb pos) (tIf tt ta tb) (dIf t a b) := ⟨pe_ifExp ht.pt ha.pe hb.pe, sim_if ht.sim ha.sim hb.sim⟩
/-- a < b < c -/
def dChain (o o' : RO G) (a b c : DT G) : DT G := fun ρ g Q => a ρ g fun r1 ρ1 g1 => ifh r1 (b ρ1 g1 fun r2 ρ2 g2 => ifh r2 (o (st r1) (st r2) ρ2 g2 fun z ρ3 g3 => bo (fun k => ifb k (c ρ3 g3 (fun r3 ρ4 g4 => o' (st r2) r3 ρ4 g4 Q)) (Q (.dt (.bool false)) ρ3 g3)) (rd z ρ3)))
end
end L3
end
section
/-! L3d: chains, subscripts, argument lists, displays, built-in calls. -/
namespace L3
open PySem L2
variable {G : Type} {K : PySem.W.Frag} {X : Cx} {Z : Zx K G}
theorem sim_chain {r r' : R2} {o o' : RO G} {ta tb tc : TE} {a b c : DT G} (ho : SimO Z r o) (ho' : SimO Z r' o') (ha : Sim Z ta a) (hb : Sim Z tb b) (hc : Sim Z tc c) : Sim Z (tChain r r' ta tb tc) (dChain o o' a b c) := fun f F ad ρ g σ H Q R h P hP => by
  refine ha f F ad ρ g σ H _ R h _ fun x H1 q => ?_
  obtain ⟨F1, ad1, ρ1, g1, r1, e1, eg1, R1, v1, q⟩ := q
  replace q := ifh_of q
  obtain ⟨F1', e1', R1', v1'⟩ := R1.hst v1
  refine hb f F1' ad1 ρ1 g1 σ H1 _ R1' q _ fun y H2 q2 => ?_
  obtain ⟨F2, ad2, ρ2, g2, r2, e2, eg2, R2, v2, q⟩ := q2
  replace q := ifh_of q
  obtain ⟨F2', e2', R2', v2'⟩ := R2.hst v2
  refine ho f F2' ad2 ρ2 g2 σ H2 x y (st r1) (st r2) _ R2' (v1'.held (e2.trans e2') eg2) v2' q _ fun z H3 q3 => ?_
  obtain ⟨F3, ad3, ρ3, g3, r3, e3, eg3, R3, v3, q⟩ := q3
  obtain ⟨k, e, q⟩ := bo_of q
  have eA : Ex F F3 := ((e1.trans e1').trans (e2.trans e2')).trans e3
  have gA : Z.ra g3 = Z.ra g := eg3.trans (eg2.trans eg1)
  refine ⟨k, R3.rBool v3 e, ?_⟩
  cases k with
  | true =>
    rw [if_pos rfl]
    replace q := ifb_t q
    refine hc f F3 ad3 ρ3 g3 σ H3 _ R3 q _ fun w H4 q4 => ?_
    obtain ⟨F4, ad4, ρ4, g4, r4, e4, eg4, R4, v4, q⟩ := q4
    exact ho' f F4 ad4 ρ4 g4 σ H4 y w (st r2) r4 Q R4 (v2'.held (e3.trans e4) (eg4.trans eg3)) v4 q P fun v H' hp => hP v H' (hp.mono (eA.trans e4) (eg4.trans gA))
  | false =>
    rw [if_neg Bool.false_ne_true]
    replace q := ifb_f q
    exact hP _ H3 ((R3.dat (.bl _) q).mono eA gA)
section
variable {ea eb ec : Expr} {ta tb tc : TE} {a b c : DT G} {r r' : R2} {o o' : RO G} {op op' : CmpOp} {pos : Pos}
theorem e_chain (ho : OpR X (compareOp op) r ∧ SimO Z r o) (ho' : OpR X (compareOp op') r' ∧ SimO Z r' o') (ha : DE X Z ea ta a) (hb : DE X Z eb tb b) (hc : DE X Z ec tc c) (hm : lastMarks [op, op'] [eb, ec] = false := by with_unfolding_all rfl) :
    DE X Z (.Compare ea [op, op'] [eb, ec] pos) (tChain r r' ta tb tc) (dChain o o' a b c) := ⟨pe_chain ho.1 ho'.1 ha.pe hb.pe hc.pe hm, sim_chain ho.2 ho'.2 ha.sim hb.sim hc.sim⟩
theorem t_chain (ho : OpR X (compareOp op) r ∧ SimO Z r o) (ho' : OpR X (compareOp op') r' ∧ SimO Z r' o') (ha : DE X Z ea ta a) (hb : DE X Z eb tb b) (hc : DE X Z ec tc c) (hm : lastMarks [op, op'] [eb, ec] = false := by with_unfolding_all rfl) :
    DTe X Z (.Compare ea [op, op'] [eb, ec] pos) (tTest (tChain r r' ta tb tc)) (dTst (dChain o o' a b c)) := ⟨pt_chain ho.1 ho'.1 ha.pe hb.pe hc.pe hm, sim_tst (sim_chain ho.2 ho'.2 ha.sim hb.sim hc.sim)⟩
end
/-! ### subscripts -/
def ixD (ρ : En) (g : G) (Q : Rs → En → G → Prop) : Option PyData → Option PyData → Prop
  | some (.list ds), some (.int i) => opK (atI ds i) fun d => Q (.dt d) ρ g
  | some (.tuple ds), some (.int i) => opK (atI ds i) fun d => Q (.dt d) ρ g
  | some (.str z), some (.int i) => z.length ≤ sizeLine ∧ opK (atI z.cps.toList i) fun c => Q (.dt (.str ⟨#[c]⟩)) ρ g
  | _, _ => False
def oIx : RO G := fun r1 r2 ρ g Q => ixD ρ g Q (rd r1 ρ) (rd r2 ρ)
theorem daAll_at {K : PySem.W.Frag} {H : Hp} {vs : List V} {ds : List PyData} {i : Int} {d : PyData} (h : DaAll K H vs ds) (e : atI ds i = some d) : ∃ v, atI vs i = some v ∧ Da K H v d := by
  unfold atI at e ⊢
  rw [h.length]
  cases q : ixN ds.length i with
  | none => rw [q] at e; cases e
  | some j =>
    rw [q] at e
    exact h.get e
theorem sim_ix : SimO Z (rIx K) (oIx (G := G)) := fun f F ad ρ g σ H x y r1 r2 Q R h1 h2 q P hP => by
  have q' : ixD ρ g Q (rd r1 ρ) (rd r2 ρ) := q
  unfold ixD at q'
  split at q'
  · rename_i ds i e1 e2
    obtain ⟨d, hd, q'⟩ := opK_e q'
    obtain ⟨a, vs, rfl, ha, da⟩ := R.items h1 e1
    obtain ⟨v, hv, dv⟩ := daAll_at da hd
    exact .inl ⟨a, vs, i, v, rfl, R.rInt h2 e2, .inl (.inl ha), hv, hP _ _ (R.dat dv q')⟩
  · rename_i ds i e1 e2
    obtain ⟨d, hd, q'⟩ := opK_e q'
    obtain ⟨a, vs, rfl, ha, da⟩ := R.titems h1 e1
    obtain ⟨v, hv, dv⟩ := daAll_at da hd
    exact .inr (.inl ⟨a, vs, i, v, rfl, R.rInt h2 e2, Evl.ex_t R.fin.sub ha, hv, hP _ _ (R.dat dv q')⟩)
  · rename_i z i e1 e2
    obtain ⟨hz, q'⟩ := q'
    obtain ⟨c, hc, q'⟩ := opK_e q'
    exact .inr (.inr ⟨z, i, c, R.rStr h1 e1, R.rInt h2 e2, hz, hc, hP _ _ (R.dat (.str _) q')⟩)
  · cases q'
theorem e_ix {ea eb : Expr} {ta tb : TE} {a b : DT G} {pos : Pos} (ha : DE X Z ea ta a) (hb : DE X Z eb tb b) (hs : PlainIx eb := by exact fun _ _ => rfl) (hK : K = X.K := by rfl) : DE X Z (.Subscript ea eb pos) (tOp (rIx K) ta tb) (dOp oIx a b) :=
  ⟨pe_ix (by rw [hK]; exact ix_seq) ha.pe hb.pe hs, sim_op sim_ix ha.sim hb.sim⟩
/-- slices -/
abbrev DO (G : Type) := En → G → (Option Int → En → G → Prop) → Prop
def PostO (Z : Zx K G) (f : Fx) (F : Hp) (g : G) (σ : St) (Q : Option Int → En → G → Prop) (b : Option Int) (H' : Hp) : Prop :=
  ∃ F' ad' ρ' g', Ex F F' ∧ Z.ra g' = Z.ra g ∧ Rel Z f F' ad' ρ' g' σ H' ∧ Q b ρ' g'
def SimP (Z : Zx K G) (tt : TO) (t : DO G) : Prop := ∀ f F ad ρ g σ H Q, Rel Z f F ad ρ g σ H → t ρ g Q → ∀ P : Option Int → Hp → Prop, (∀ b H', PostO Z f F g σ Q b H' → P b H') → tt σ H P
structure DP (X : Cx) (Z : Zx K G) (e : Option Expr) (tt : TO) (t : DO G) : Prop where
  po : PO X e tt
  sim : SimP Z tt t
def dNoP : DO G := fun ρ g Q => Q Option.none ρ g
def dPart (a : DT G) : DO G := fun ρ g Q => a ρ g fun r ρ1 g1 => iiU (fun i => Q (some i) ρ1 g1) (rd r ρ1)
theorem o_none : DP X Z none tNoPart (dNoP (G := G)) := ⟨po_none, fun f F ad ρ g σ H Q R h P hP => hP Option.none H ⟨F, ad, ρ, g, Evl.Ex.refl F, rfl, R, h⟩⟩
theorem o_some {e : Expr} {te : TE} {a : DT G} (h : DE X Z e te a) : DP X Z (some e) (tPart te) (dPart a) := ⟨po_some h.pe, fun f F ad ρ g σ H Q R q P hP => by
  refine h.sim f F ad ρ g σ H _ R q _ fun x H1 q => ?_
  obtain ⟨F1, ad1, ρ1, g1, r1, e1, eg1, R1, v1, q⟩ := q
  obtain ⟨i, e, q⟩ := iiU_of q
  exact ⟨i, R1.rInt v1 e, hP _ _ ⟨F1, ad1, ρ1, g1, e1, eg1, R1, q⟩⟩⟩
def cutD (xs : List PyData) (lo hi : Option Int) : List PyData := (xs.drop (HT.sIx xs.length 0 lo)).take (HT.sIx xs.length xs.length hi - HT.sIx xs.length 0 lo)
def slD (ρ : En) (g : G) (Q : Rs → En → G → Prop) (lo hi : Option Int) : Option PyData → Prop
  | some (.list ds) => Q (.nl (cutD ds lo hi)) ρ g
  | some (.tuple ds) => Q (.dt (.tuple (cutD ds lo hi))) ρ g
  | _ => False
def dSl (a : DT G) (l h : DO G) : DT G := fun ρ g Q => a ρ g fun r ρ1 g1 => ifh r (l ρ1 g1 fun lo ρ2 g2 => h ρ2 g2 fun hi ρ3 g3 => slD ρ3 g3 Q lo hi (rd (st r) ρ3))
def rSlX (K : PySem.W.Frag) : V → Option Int → Option Int → Hp → VK → Prop := fun x lo hi H Q => rSlL K x lo hi H Q ∨ rSlA K x lo hi H Q
theorem daAll_cut {K : PySem.W.Frag} {H : Hp} {vs : List V} {ds : List PyData} (h : DaAll K H vs ds) (lo hi : Option Int) : DaAll K H (cutV vs lo hi) (cutD ds lo hi) := by
  unfold cutV cutD
  rw [h.length]
  exact (h.drop _).take _
theorem cutD_whole {ds : List PyData} {lo hi : Option Int} (h : HT.sIx ds.length 0 lo = 0 ∧ HT.sIx ds.length ds.length hi = ds.length) : cutD ds lo hi = ds := by
  unfold cutD
  rw [h.1, h.2]
  simp
theorem sim_sl {te : TE} {tl th : TO} {a : DT G} {l h : DO G} (ha : Sim Z te a) (hl : SimP Z tl l) (hh : SimP Z th h) : Sim Z (tSl (rSlX K) te tl th) (dSl a l h) := fun f F ad ρ g σ H Q R q P hP => by
  refine ha f F ad ρ g σ H _ R q _ fun x H1 q => ?_
  obtain ⟨F1, ad1, ρ1, g1, r1, e1, eg1, R1, v1, q⟩ := q
  replace q := ifh_of q
  obtain ⟨F1', e1', R1', v1'⟩ := R1.hst v1
  refine hl f F1' ad1 ρ1 g1 σ H1 _ R1' q _ fun lo H2 q2 => ?_
  obtain ⟨F2, ad2, ρ2, g2, e2, eg2, R2, q⟩ := q2
  refine hh f F2 ad2 ρ2 g2 σ H2 _ R2 q _ fun hi H3 q3 => ?_
  obtain ⟨F3, ad3, ρ3, g3, e3, eg3, R3, q⟩ := q3
  have v3 := v1'.held (ad1 := ad3) (ρ1 := ρ3) (H1 := H3) (e2.trans e3) (eg3.trans eg2)
  have eA : Ex F F3 := (e1.trans e1').trans (e2.trans e3)
  have gA : Z.ra g3 = Z.ra g := eg3.trans (eg2.trans eg1)
  have q' : slD ρ3 g3 Q lo hi (rd (st r1) ρ3) := q
  unfold slD at q'
  split at q'
  · rename_i ds e
    obtain ⟨a, vs, rfl, ha, da⟩ := R3.items v3 e
    exact .inl ⟨a, vs, rfl, .inl (.inl ha), fun p hp => hP _ _ ((R3.newL hp (daAll_cut da lo hi) q').mono eA gA)⟩
  · rename_i ds e
    obtain ⟨a, vs, rfl, ha, da⟩ := R3.titems v3 e
    refine .inr ⟨a, vs, rfl, Evl.ex_t R3.fin.sub ha, fun hw => ?_, fun _ p hp => hP _ _ ((R3.newT hp (daAll_cut da lo hi) q').mono eA gA)⟩
    refine hP _ _ ((R3.dat ?_ q').mono eA gA)
    rw [da.length] at hw
    rw [cutD_whole hw]
    exact .tup ha da
  · cases q'
theorem e_sl {e : Expr} {lo hi : Option Expr} {te : TE} {tl th : TO} {a : DT G} {l h : DO G} {p2 pos : Pos} (ha : DE X Z e te a) (hl : DP X Z lo tl l) (hh : DP X Z hi th h) (hK : K = X.K := by rfl) :
    DE X Z (.Subscript e (.Slice lo hi none p2) pos) (tSl (rSlX K) te tl th) (dSl a l h) := ⟨pe_slice (by rw [hK]; exact sl_list.or sl_tupA) ha.pe hl.po hh.po, sim_sl ha.sim hl.sim hh.sim⟩
/-! ### argument lists -/
abbrev DA (G : Type) := En → G → (List Rs → En → G → Prop) → Prop
abbrev VRs (Z : Zx K G) (f : Fx) (F : Hp) (ad : Nat → Addr) (ρ : En) (g : G) (σ : St) (H : Hp) : List V → List Rs → Prop := Paired fun v r => ∃ r0, r = st r0 ∧ VR Z f F ad ρ g σ H v (st r0)
def PostA (Z : Zx K G) (f : Fx) (F : Hp) (g : G) (σ : St) (Q : List Rs → En → G → Prop) (vs : List V) (H' : Hp) : Prop :=
  ∃ F' ad' ρ' g' rs, Ex F F' ∧ Z.ra g' = Z.ra g ∧ Rel Z f F' ad' ρ' g' σ H' ∧ VRs Z f F' ad' ρ' g' σ H' vs rs ∧ Q rs ρ' g'
def SimA (Z : Zx K G) (ta : TA) (t : DA G) : Prop := ∀ f F ad ρ g σ H Q, Rel Z f F ad ρ g σ H → t ρ g Q → ∀ P : List V → Hp → Prop, (∀ vs H', PostA Z f F g σ Q vs H' → P vs H') → ta σ H P
structure DAs (X : Cx) (Z : Zx K G) (es : List Expr) (ta : TA) (t : DA G) : Prop where
  pa : PA X es ta
  sim : SimA Z ta t
def dNil : DA G := fun ρ g Q => Q [] ρ g
def dCons (a : DT G) (b : DA G) : DA G := fun ρ g Q => a ρ g fun r ρ1 g1 => ifh r (b ρ1 g1 fun rs ρ2 g2 => Q (st r :: rs) ρ2 g2)
theorem a_nil : DAs X Z [] tNil (dNil (G := G)) := ⟨pa_nil, fun f F ad ρ g σ H Q R h P hP => hP [] H ⟨F, ad, ρ, g, [], Evl.Ex.refl F, rfl, R, .nil, h⟩⟩
theorem sim_cons {ta : TE} {tb : TA} {a : DT G} {b : DA G} (ha : Sim Z ta a) (hb : SimA Z tb b) : SimA Z (tCons ta tb) (dCons a b) := fun f F ad ρ g σ H Q R q P hP => by
  refine ha f F ad ρ g σ H _ R q _ fun x H1 q => ?_
  obtain ⟨F1, ad1, ρ1, g1, r1, e1, eg1, R1, v1, q⟩ := q
  replace q := ifh_of q
  obtain ⟨F1', e1', R1', v1'⟩ := R1.hst v1
  refine hb f F1' ad1 ρ1 g1 σ H1 _ R1' q _ fun vs H2 q2 => ?_
  obtain ⟨F2, ad2, ρ2, g2, rs, e2, eg2, R2, v2, q⟩ := q2
  exact hP _ _ ⟨F2, ad2, ρ2, g2, _, (e1.trans e1').trans e2, eg2.trans eg1, R2, .cons ⟨r1, rfl, v1'.held e2 eg2⟩ v2, q⟩
theorem a_cons {e : Expr} {es : List Expr} {ta : TE} {tb : TA} {a : DT G} {b : DA G} (ha : DE X Z e ta a) (hb : DAs X Z es tb b) (hs : starEach (e :: es) X.env = (false, eval e X.env) :: starEach es X.env := by rfl) :
    DAs X Z (e :: es) (tCons ta tb) (dCons a b) := ⟨pa_cons ha.pe hb.pa hs, sim_cons ha.sim hb.sim⟩
/-- all frozen -/
def fzA : List Rs → En → Option (List PyData × En)
  | [], ρ => some ([], ρ)
  | r :: rs, ρ => (fz r ρ).bind fun p => (fzA rs p.2).map fun q => (p.1 :: q.1, q.2)
section
variable {f : Fx} {F F' : Hp} {ad : Nat → Addr} {ρ : En} {g : G} {σ : St} {H H' : Hp}
theorem Rel.hfzA : ∀ {vs : List V} {rs : List Rs} {F : Hp} {ρ : En} {ds : List PyData} {ρ' : En}, Rel Z f F ad ρ g σ H → VRs Z f F ad ρ g σ H vs rs → fzA rs ρ = some (ds, ρ') → ∃ F', Ex F F' ∧ Rel Z f F' ad ρ' g σ H ∧ DaAll K F' vs ds
  | _, [], F, ρ, ds, ρ', R, .nil, e => by cases e; exact ⟨F, Evl.Ex.refl F, R, .nil⟩
  | _, r :: rs, F, ρ, ds, ρ', R, .cons h t, e => by
    obtain ⟨r0, rfl, h⟩ := h
    unfold fzA at e
    cases e1 : fz (st r0) ρ with
    | none => rw [e1] at e; cases e
    | some p =>
      obtain ⟨d, ρ1⟩ := p
      rw [e1] at e
      cases e2 : fzA rs ρ1 with
      | none => simp [e2] at e
      | some p2 =>
        obtain ⟨ds2, ρ2⟩ := p2
        simp [e2] at e
        obtain ⟨rfl, rfl⟩ := e
        obtain ⟨F1, x1, R1, d1⟩ := R.hfz h e1
        obtain ⟨F2, x2, R2, d2⟩ := Rel.hfzA R1 (Paired.mapP t fun v r ⟨r0, er, z⟩ => ⟨r0, er, z.held x1 rfl⟩) e2
        exact ⟨F2, x1.trans x2, R2, .cons (da_mono x2 d1) d2⟩
end
/-- the same, told on: what comes out stays small -/
def fz1S (ρ : En) (i : Nat) (k : PyData → En → Prop) : Option Sl → Prop
  | some (.dt d) => k d ρ
  | some (.ls ds) => k (.list ds) (ρ.set i (.dt (.list ds)))
  | some (.dk ds) => k (.dict ds) (ρ.set i (.dt (.dict ds)))
  | _ => False
def fz1 (r : Rs) (ρ : En) (k : PyData → En → Prop) : Prop := match r with
  | .dt d => k d ρ
  | .nl ds => k (.list ds) ρ
  | .nd ds => k (.dict ds) ρ
  | .br i => fz1S ρ i k ρ[i]?
  | _ => False
theorem fz1_of {r : Rs} {ρ : En} {k : PyData → En → Prop} (h : fz1 r ρ k) : ∃ d ρ', fz r ρ = some (d, ρ') ∧ k d ρ' := by
  cases r with
  | dt d => exact ⟨d, ρ, rfl, h⟩
  | nl d => exact ⟨_, ρ, rfl, h⟩
  | nd d => exact ⟨_, ρ, rfl, h⟩
  | br i =>
    have h1 : fz1S ρ i k ρ[i]? := h
    cases e : ρ[i]? with
    | none => rw [e] at h1; exact h1.elim
    | some s =>
      rw [e] at h1
      cases s with
      | dt d => exact ⟨d, ρ, by show fzS ρ i ρ[i]? = _; rw [e]; rfl, h1⟩
      | ls d => exact ⟨_, _, by show fzS ρ i ρ[i]? = _; rw [e]; rfl, h1⟩
      | dk d => exact ⟨_, _, by show fzS ρ i ρ[i]? = _; rw [e]; rfl, h1⟩
      | _ => exact h1.elim
  | _ => exact h.elim
def fzK : List Rs → En → (List PyData → En → Prop) → Prop
  | [], ρ, k => k [] ρ
  | r :: rs, ρ, k => fz1 r ρ fun d ρ1 => fzK rs ρ1 fun ds ρ2 => k (d :: ds) ρ2
theorem fzK_of : ∀ {rs : List Rs} {ρ : En} {k : List PyData → En → Prop}, fzK rs ρ k → ∃ ds ρ2, fzA rs ρ = some (ds, ρ2) ∧ k ds ρ2
  | [], ρ, k, h => ⟨[], ρ, rfl, h⟩
  | r :: rs, ρ, k, h => by
    obtain ⟨d, ρ1, e, h⟩ := fz1_of h
    obtain ⟨ds, ρ2, e2, h⟩ := fzK_of h
    exact ⟨d :: ds, ρ2, by rw [fzA, e]; show (fzA rs ρ1).map _ = _; rw [e2]; rfl, h⟩
def dTup (t : DA G) : DT G := fun ρ g Q => t ρ g fun rs ρ1 g1 => fzK rs ρ1 fun ds ρ2 => leK ds.length 16777216 (Q (.dt (.tuple ds)) ρ2 g1)
def dLst (t : DA G) : DT G := fun ρ g Q => t ρ g fun rs ρ1 g1 => fzK rs ρ1 fun ds ρ2 => leK ds.length 16777216 (Q (.nl ds) ρ2 g1)
theorem sim_tup {ta : TA} {a : DA G} (ha : SimA Z ta a) : Sim Z (tTup ta) (dTup a) := fun f F ad ρ g σ H Q R q P hP => by
  refine ha f F ad ρ g σ H _ R q _ fun vs H1 q => ?_
  obtain ⟨F1, ad1, ρ1, g1, rs, e1, eg1, R1, v1, q⟩ := q
  obtain ⟨ds, ρ2, ef, q⟩ := fzK_of q
  obtain ⟨hl, q⟩ := leK_e q
  obtain ⟨F2, e2, R2, da⟩ := R1.hfzA v1 ef
  exact ⟨by rw [sizeLine_eq, da.length]; exact hl, fun p hp => hP _ _ ((R2.newT hp da q).mono (e1.trans e2) eg1)⟩
theorem sim_lst {ta : TA} {a : DA G} (ha : SimA Z ta a) : Sim Z (tLst ta) (dLst a) := fun f F ad ρ g σ H Q R q P hP => by
  refine ha f F ad ρ g σ H _ R q _ fun vs H1 q => ?_
  obtain ⟨F1, ad1, ρ1, g1, rs, e1, eg1, R1, v1, q⟩ := q
  obtain ⟨ds, ρ2, ef, q⟩ := fzK_of q
  obtain ⟨hl, q⟩ := leK_e q
  obtain ⟨F2, e2, R2, da⟩ := R1.hfzA v1 ef
  exact ⟨by rw [sizeLine_eq, da.length]; exact hl, fun p hp => hP _ _ ((R2.newL hp da q).mono (e1.trans e2) eg1)⟩
theorem e_tup {es : List Expr} {ta : TA} {a : DA G} {x1} {pos : Pos} (h : DAs X Z es ta a) : DE X Z (.Tuple es x1 pos) (tTup ta) (dTup a) := ⟨pe_tup h.pa, sim_tup h.sim⟩
theorem e_lst {es : List Expr} {ta : TA} {a : DA G} {pos : Pos} (h : DAs X Z es ta a) : DE X Z (.List es pos) (tLst ta) (dLst a) := ⟨pe_lst h.pa, sim_lst h.sim⟩
/-! ### built-in calls -/
abbrev RA (G : Type) := List Rs → En → G → (Rs → En → G → Prop) → Prop
def SimC (Z : Zx K G) (r : List V → Hp → VK → Prop) (o : RA G) : Prop := ∀ f F ad ρ g σ H vs rs Q, Rel Z f F ad ρ g σ H → VRs Z f F ad ρ g σ H vs rs → o rs ρ g Q → ∀ P : VK, (∀ v H', Post Z f F g σ Q v H' → P v H') → r vs H P
def dCB (o : RA G) (a : DA G) : DT G := fun ρ g Q => a ρ g fun rs ρ1 g1 => o rs ρ1 g1 Q
theorem sim_cb {r : List V → Hp → VK → Prop} {o : RA G} {ta : TA} {a : DA G} (ho : SimC Z r o) (ha : SimA Z ta a) : Sim Z (tCB r ta) (dCB o a) := fun f F ad ρ g σ H Q R q P hP => by
  refine ha f F ad ρ g σ H _ R q _ fun vs H1 q => ?_
  obtain ⟨F1, ad1, ρ1, g1, rs, e1, eg1, R1, v1, q⟩ := q
  exact ho f F1 ad1 ρ1 g1 σ H1 vs rs Q R1 v1 q P fun v H' hp => hP v H' (hp.mono e1 eg1)
section
variable {x : Str} {p pos : Pos} {e : Expr} {es : List Expr} {ta : TA} {a : DA G} {id T : String} {r : List V → Hp → VK → Prop} {o : RA G}
theorem e_callB (hc : CallR X (.builtin id) r ∧ SimC Z r o) (ha : DAs X Z (e :: es) ta a) (hm : X.mg x = none) (hv : bootBuiltins x = some (.builtin id)) (hg : Gl X x := by rfl) (hn : x ≠ "__name__" := by decide) (hdb : (x == ("__debug__" : Str)) = false := by decide)
    (he : starEach (e :: es) X.env = (false, eval e X.env) :: starEach es X.env := by rfl) (hpl : (backTo pos (starEach es X.env)).any (·.1) = false := by rfl) : DE X Z (.Call (.Name x p) (e :: es) [] pos) (tCB r ta) (dCB o a) :=
  ⟨pe_callB hc.1 hg hm hv ha.pa hn hdb he hpl, sim_cb hc.2 ha.sim⟩
theorem e_callTy (hc : CallR X (.type T) r ∧ SimC Z r o) (ha : DAs X Z (e :: es) ta a) (hm : X.mg x = none) (hv : bootBuiltins x = some (.type T)) (hg : Gl X x := by rfl) (hn : x ≠ "__name__" := by decide) (hdb : (x == ("__debug__" : Str)) = false := by decide)
    (he : starEach (e :: es) X.env = (false, eval e X.env) :: starEach es X.env := by rfl) (hpl : (backTo pos (starEach es X.env)).any (·.1) = false := by rfl) : DE X Z (.Call (.Name x p) (e :: es) [] pos) (tCB r ta) (dCB o a) :=
  ⟨pe_callTy hc.1 hg hm hv ha.pa hn hdb he hpl, sim_cb hc.2 ha.sim⟩
end
section
variable {f : Fx} {F F' : Hp} {ad : Nat → Addr} {ρ : En} {g : G} {σ : St} {H H' : Hp}
theorem vrs1 {vs : List V} {r : Rs} (h : VRs Z f F ad ρ g σ H vs [r]) : ∃ v, vs = [v] ∧ VR Z f F ad ρ g σ H v r := by
  cases h with
  | cons h t =>
    cases t
    obtain ⟨r0, rfl, h⟩ := h
    exact ⟨_, rfl, h⟩
theorem vrs2 {vs : List V} {r s : Rs} (h : VRs Z f F ad ρ g σ H vs [r, s]) : ∃ v w, vs = [v, w] ∧ VR Z f F ad ρ g σ H v r ∧ VR Z f F ad ρ g σ H w s := by
  cases h with
  | cons h t =>
    cases t with
    | cons h' t =>
      cases t
      obtain ⟨r0, rfl, h⟩ := h
      obtain ⟨r1, rfl, h'⟩ := h'
      exact ⟨_, _, rfl, h, h'⟩
end
def lenD (ρ : En) (g : G) (Q : Rs → En → G → Prop) : Option PyData → Prop
  | some (.list ds) => Q (.dt (.int (ds.length : Nat))) ρ g
  | some (.tuple ds) => Q (.dt (.int (ds.length : Nat))) ρ g
  | some (.str z) => z.length ≤ sizeLine ∧ Q (.dt (.int (z.length : Nat))) ρ g
  | _ => False
def one (k : Rs → Prop) : List Rs → Prop
  | [r] => k r
  | _ => False
theorem one_of {k : Rs → Prop} {rs : List Rs} (h : one k rs) : ∃ r, rs = [r] ∧ k r := by
  unfold one at h
  split at h
  · exact ⟨_, rfl, h⟩
  · cases h
def two (k : Rs → Rs → Prop) : List Rs → Prop
  | [r, s] => k r s
  | _ => False
theorem two_of {k : Rs → Rs → Prop} {rs : List Rs} (h : two k rs) : ∃ r s, rs = [r, s] ∧ k r s := by
  unfold two at h
  split at h
  · exact ⟨_, _, rfl, h⟩
  · cases h
def oLen : RA G := fun rs ρ g Q => one (fun r => lenD ρ g Q (rd r ρ)) rs
def rLenX (K : PySem.W.Frag) : List V → Hp → VK → Prop := fun xs H Q => (∃ p ys, xs = [.ref p] ∧ (SqL K H p ys ∨ SqT K H p ys) ∧ Q (.int ys.length) H) ∨ ∃ z, xs = [.str z] ∧ z.length ≤ sizeLine ∧ Q (.int z.length) H
theorem k_len (hK : K = X.K := by rfl) : CallR X (.builtin "len") (rLenX K) ∧ SimC Z (rLenX K) (oLen (G := G)) := ⟨by rw [hK]; exact call_len_seq.or call_len_str, fun f F ad ρ g σ H vs rs Q R h q P hP => by
  obtain ⟨r, rfl, q⟩ := one_of q
  obtain ⟨v, rfl, h0⟩ := vrs1 h
  have q' : lenD ρ g Q (rd r ρ) := q
  unfold lenD at q'
  split at q'
  · rename_i ds e
    obtain ⟨a, vs, rfl, ha, da⟩ := R.items h0 e
    exact .inl ⟨a, vs, rfl, .inl (.inl (.inl ha)), hP _ _ (by rw [da.length]; exact R.dat (.int _) q')⟩
  · rename_i ds e
    obtain ⟨a, vs, rfl, ha, da⟩ := R.titems h0 e
    exact .inl ⟨a, vs, rfl, .inr (Evl.ex_t R.fin.sub ha), hP _ _ (by rw [da.length]; exact R.dat (.int _) q')⟩
  · rename_i z e
    exact .inr ⟨z, by rw [R.rStr h0 e], q'.1, hP _ _ (R.dat (.int _) q'.2)⟩
  · cases q'⟩
def oAbs : RA G := fun rs ρ g Q => one (fun r => iiU (fun i => Q (.dt (.int (if i < 0 then -i else i))) ρ g) (rd r ρ)) rs
theorem k_abs : CallR X (.builtin "abs") (fun xs H Q => ∃ i, xs = [.int i] ∧ Q (.int (if i < 0 then -i else i)) H) ∧ SimC Z (fun xs H Q => ∃ i, xs = [.int i] ∧ Q (.int (if i < 0 then -i else i)) H) (oAbs (G := G)) := ⟨call_abs, fun f F ad ρ g σ H vs rs Q R h q P hP => by
  obtain ⟨r, rfl, q⟩ := one_of q
  obtain ⟨v, rfl, h0⟩ := vrs1 h
  obtain ⟨i, e, q⟩ := iiU_of q
  exact ⟨i, by rw [R.rInt h0 e], hP _ _ (R.dat (.int _) q)⟩⟩
def oMax2 : RA G := fun rs ρ g Q => two (fun r s => ii (fun i j => Q (.dt (.int (if j > i then j else i))) ρ g) (rd r ρ) (rd s ρ)) rs
def oMin2 : RA G := fun rs ρ g Q => two (fun r s => ii (fun i j => Q (.dt (.int (if j < i then j else i))) ρ g) (rd r ρ) (rd s ρ)) rs
theorem k_max2 (hc : X.calm = true := by rfl) : CallR X (.builtin "max") (fun xs H Q => ∃ i j, xs = [.int i, .int j] ∧ Q (.int (if j > i then j else i)) H) ∧ SimC Z (fun xs H Q => ∃ i j, xs = [.int i, .int j] ∧ Q (.int (if j > i then j else i)) H) (oMax2 (G := G)) :=
  ⟨call_max2 hc, fun f F ad ρ g σ H vs rs Q R h q P hP => by
    obtain ⟨r, s, rfl, q⟩ := two_of q
    obtain ⟨v, w, rfl, h1, h2⟩ := vrs2 h
    obtain ⟨i, j, e1, e2, q⟩ := ii_of q
    exact ⟨i, j, by rw [R.rInt h1 e1, R.rInt h2 e2], hP _ _ (R.dat (.int _) q)⟩⟩
theorem k_min2 (hc : X.calm = true := by rfl) : CallR X (.builtin "min") (fun xs H Q => ∃ i j, xs = [.int i, .int j] ∧ Q (.int (if j < i then j else i)) H) ∧ SimC Z (fun xs H Q => ∃ i j, xs = [.int i, .int j] ∧ Q (.int (if j < i then j else i)) H) (oMin2 (G := G)) :=
  ⟨call_min2 hc, fun f F ad ρ g σ H vs rs Q R h q P hP => by
    obtain ⟨r, s, rfl, q⟩ := two_of q
    obtain ⟨v, w, rfl, h1, h2⟩ := vrs2 h
    obtain ⟨i, j, e1, e2, q⟩ := ii_of q
    exact ⟨i, j, by rw [R.rInt h1 e1, R.rInt h2 e2], hP _ _ (R.dat (.int _) q)⟩⟩
def intD (ρ : En) (g : G) (Q : Rs → En → G → Prop) : Option PyData → Prop
  | some (.int i) => Q (.dt (.int i)) ρ g
  | some (.bool b) => Q (.dt (.int (if b then 1 else 0))) ρ g
  | _ => False
def oInt : RA G := fun rs ρ g Q => one (fun r => intD ρ g Q (rd r ρ)) rs
theorem k_int : CallR X (.type "int") (fun xs H Q => (∃ i, xs = [.int i] ∧ Q (.int i) H) ∨ ∃ k, xs = [.bl k] ∧ Q (.int (if k then 1 else 0)) H) ∧ SimC Z (fun xs H Q => (∃ i, xs = [.int i] ∧ Q (.int i) H) ∨ ∃ k, xs = [.bl k] ∧ Q (.int (if k then 1 else 0)) H) (oInt (G := G)) :=
  ⟨call_int1, fun f F ad ρ g σ H vs rs Q R h q P hP => by
    obtain ⟨r, rfl, q⟩ := one_of q
    obtain ⟨v, rfl, h0⟩ := vrs1 h
    have q' : intD ρ g Q (rd r ρ) := q
    unfold intD at q'
    split at q'
    · rename_i i e
      exact .inl ⟨i, by rw [R.rInt h0 e], hP _ _ (R.dat (.int _) q')⟩
    · rename_i b e
      exact .inr ⟨b, by rw [R.rBool h0 e], hP _ _ (R.dat (.int _) q')⟩
    · cases q'⟩
/-- list(x), tuple(x) -/
def seqD (k : List PyData → Prop) : Option PyData → Prop
  | some (.list ds) => k ds
  | some (.tuple ds) => k ds
  | _ => False
theorem seqD_of {k : List PyData → Prop} {a : Option PyData} (h : seqD k a) : ∃ ds, (a = some (.list ds) ∨ a = some (.tuple ds)) ∧ k ds := by
  unfold seqD at h
  split at h
  · exact ⟨_, .inl rfl, h⟩
  · exact ⟨_, .inr rfl, h⟩
  · cases h
theorem Rel.seq {f : Fx} {F : Hp} {ad : Nat → Addr} {ρ : En} {g : G} {σ : St} {H : Hp} (R : Rel Z f F ad ρ g σ H) {v : V} {r : Rs} {ds : List PyData} (h : VR Z f F ad ρ g σ H v r) (e : L3.rd r ρ = some (.list ds) ∨ L3.rd r ρ = some (.tuple ds)) :
    ∃ a vs, v = .ref a ∧ (SqL K H a vs ∨ SqT K H a vs) ∧ DaAll K F vs ds := by
  rcases e with e | e
  · obtain ⟨a, vs, rfl, ha, da⟩ := R.items h e
    exact ⟨a, vs, rfl, .inl (.inl (.inl ha)), da⟩
  · obtain ⟨a, vs, rfl, ha, da⟩ := R.titems h e
    exact ⟨a, vs, rfl, .inr (Evl.ex_t R.fin.sub ha), da⟩
def oList : RA G := fun rs ρ g Q => one (fun r => seqD (fun ds => Q (.nl ds) ρ g) (rd r ρ)) rs
def oTuple : RA G := fun rs ρ g Q => one (fun r => seqD (fun ds => Q (.dt (.tuple ds)) ρ g) (rd r ρ)) rs
def rList (K : PySem.W.Frag) : List V → Hp → VK → Prop := fun xs H Q => ∃ p ys, xs = [.ref p] ∧ (SqL K H p ys ∨ SqT K H p ys) ∧ ∀ l, H l = none → Q (.ref l) (upd H l (.lst ys))
def rTuple (K : PySem.W.Frag) : List V → Hp → VK → Prop := fun xs H Q => ∃ p ys, xs = [.ref p] ∧ ((SqL K H p ys ∧ ∀ l, H l = none → Q (.ref l) (upd H l (.tup ys))) ∨ (SqT K H p ys ∧ Q (.ref p) H))
theorem k_list (hK : K = X.K := by rfl) : CallR X (.type "list") (rList K) ∧ SimC Z (rList K) (oList (G := G)) := ⟨by rw [hK]; exact call_list_of, fun f F ad ρ g σ H vs rs Q R h q P hP => by
  obtain ⟨r, rfl, q⟩ := one_of q
  obtain ⟨v, rfl, h0⟩ := vrs1 h
  obtain ⟨ds, e, q⟩ := seqD_of q
  obtain ⟨a, vs, rfl, ha, da⟩ := R.seq h0 e
  exact ⟨a, vs, rfl, ha, fun l hl => hP _ _ (R.newL hl da q)⟩⟩
theorem k_tuple (hK : K = X.K := by rfl) : CallR X (.type "tuple") (rTuple K) ∧ SimC Z (rTuple K) (oTuple (G := G)) := ⟨by rw [hK]; exact call_tuple_of, fun f F ad ρ g σ H vs rs Q R h q P hP => by
  obtain ⟨r, rfl, q⟩ := one_of q
  obtain ⟨v, rfl, h0⟩ := vrs1 h
  obtain ⟨ds, e, q⟩ := seqD_of q
  rcases e with e | e
  · obtain ⟨a, vs, rfl, ha, da⟩ := R.items h0 e
    exact ⟨a, vs, rfl, .inl ⟨.inl (.inl ha), fun l hl => hP _ _ (R.newT hl da q)⟩⟩
  · obtain ⟨a, vs, rfl, ha, da⟩ := R.titems h0 e
    exact ⟨a, vs, rfl, .inr ⟨Evl.ex_t R.fin.sub ha, hP _ _ (R.dat (.tup ha da) q)⟩⟩⟩
/-- sum, all, any of a list -/
def intsL : List PyData → Option (List Int)
  | [] => some []
  | .int i :: ds => (intsL ds).map (i :: ·)
  | _ :: _ => none
theorem intsL_of : ∀ {ds : List PyData} {ns : List Int}, intsL ds = some ns → ds = ns.map PyData.int
  | [], ns, e => by cases e; rfl
  | .int i :: ds, ns, e => by
    unfold intsL at e
    cases h : intsL ds with
    | none => rw [h] at e; cases e
    | some ms => rw [h] at e; cases e; rw [intsL_of h]; rfl
  | .none :: _, _, e => by cases e
  | .bool _ :: _, _, e => by cases e
  | .str _ :: _, _, e => by cases e
  | .list _ :: _, _, e => by cases e
  | .tuple _ :: _, _, e => by cases e
  | .dict _ :: _, _, e => by cases e
theorem intsL_map : ∀ ns : List Int, intsL (ns.map PyData.int) = some ns
  | [] => rfl
  | n :: ns => by rw [List.map_cons]; unfold intsL; rw [intsL_map ns]; rfl
def boolsL : List PyData → Option (List Bool)
  | [] => some []
  | .bool i :: ds => (boolsL ds).map (i :: ·)
  | _ :: _ => none
theorem boolsL_of : ∀ {ds : List PyData} {ns : List Bool}, boolsL ds = some ns → ds = ns.map PyData.bool
  | [], ns, e => by cases e; rfl
  | .bool i :: ds, ns, e => by
    unfold boolsL at e
    cases h : boolsL ds with
    | none => rw [h] at e; cases e
    | some ms => rw [h] at e; cases e; rw [boolsL_of h]; rfl
  | .none :: _, _, e => by cases e
  | .int _ :: _, _, e => by cases e
  | .str _ :: _, _, e => by cases e
  | .list _ :: _, _, e => by cases e
  | .tuple _ :: _, _, e => by cases e
  | .dict _ :: _, _, e => by cases e
theorem boolsL_map : ∀ ns : List Bool, boolsL (ns.map PyData.bool) = some ns
  | [] => rfl
  | n :: ns => by rw [List.map_cons]; unfold boolsL; rw [boolsL_map ns]; rfl
theorem daAll_bools {K : PySem.W.Frag} {H : Hp} : ∀ {ns : List Bool} {vs : List V}, DaAll K H vs (ns.map PyData.bool) → vs = ns.map V.bl
  | [], _, .nil => rfl
  | n :: ns, _, .cons h r => by
    cases h
    rw [daAll_bools r]; rfl
def lsD (k : List PyData → Prop) : Option PyData → Prop
  | some (.list ds) => k ds
  | _ => False
theorem lsD_of {k : List PyData → Prop} {a : Option PyData} (h : lsD k a) : ∃ ds, a = some (.list ds) ∧ k ds := by
  unfold lsD at h
  split at h
  · exact ⟨_, rfl, h⟩
  · cases h
def oSum : RA G := fun rs ρ g Q => one (fun r => lsD (fun ds => opK (intsL ds) fun ns => Q (.dt (.int ns.sum)) ρ g) (rd r ρ)) rs
theorem k_sum (hc : X.calm = true := by rfl) (hK : K = X.K := by rfl) : CallR X (.builtin "sum") (rSum K) ∧ SimC Z (rSum K) (oSum (G := G)) := ⟨by rw [hK]; exact cr_sum hc, fun f F ad ρ g σ H vs rs Q R h q P hP => by
  obtain ⟨r, rfl, q⟩ := one_of q
  obtain ⟨v, rfl, h0⟩ := vrs1 h
  obtain ⟨ds, e, q⟩ := lsD_of q
  obtain ⟨ns, ei, q⟩ := opK_e q
  obtain ⟨a, vs, rfl, ha, da⟩ := R.items h0 e
  rw [intsL_of ei] at da
  have ev := daAll_ints da
  subst ev
  exact ⟨a, ns, rfl, .inl (.inl ha), hP _ _ (R.dat (.int _) q)⟩⟩
def oAll : RA G := fun rs ρ g Q => one (fun r => lsD (fun ds => opK (boolsL ds) fun bs => Q (.dt (.bool (bs.all id))) ρ g) (rd r ρ)) rs
def oAny : RA G := fun rs ρ g Q => one (fun r => lsD (fun ds => opK (boolsL ds) fun bs => Q (.dt (.bool (bs.any id))) ρ g) (rd r ρ)) rs
theorem k_all (hc : X.calm = true := by rfl) (hK : K = X.K := by rfl) : CallR X (.builtin "all") (rAll K) ∧ SimC Z (rAll K) (oAll (G := G)) := ⟨by rw [hK]; exact cr_all hc, fun f F ad ρ g σ H vs rs Q R h q P hP => by
  obtain ⟨r, rfl, q⟩ := one_of q
  obtain ⟨v, rfl, h0⟩ := vrs1 h
  obtain ⟨ds, e, q⟩ := lsD_of q
  obtain ⟨ns, ei, q⟩ := opK_e q
  obtain ⟨a, vs, rfl, ha, da⟩ := R.items h0 e
  rw [boolsL_of ei] at da
  have ev := daAll_bools da
  subst ev
  exact ⟨a, ns, rfl, .inl (.inl ha), hP _ _ (R.dat (.bl _) q)⟩⟩
theorem k_any (hc : X.calm = true := by rfl) (hK : K = X.K := by rfl) : CallR X (.builtin "any") (rAny K) ∧ SimC Z (rAny K) (oAny (G := G)) := ⟨by rw [hK]; exact cr_any hc, fun f F ad ρ g σ H vs rs Q R h q P hP => by
  obtain ⟨r, rfl, q⟩ := one_of q
  obtain ⟨v, rfl, h0⟩ := vrs1 h
  obtain ⟨ds, e, q⟩ := lsD_of q
  obtain ⟨ns, ei, q⟩ := opK_e q
  obtain ⟨a, vs, rfl, ha, da⟩ := R.items h0 e
  rw [boolsL_of ei] at da
  have ev := daAll_bools da
  subst ev
  exact ⟨a, ns, rfl, .inl (.inl ha), hP _ _ (R.dat (.bl _) q)⟩⟩
end L3
end
section
/-! L2y: walks over lists and tuples in any mix: enumerate, zip of two and three; a list taken apart by a tuple of targets. -/
namespace L2
open PySem PySem.Spec PyProof.Rows
/-! ### a list taken apart -/
section
variable {prog : Program} {w : World} {A : Around} {E : Value → Shared → Prop} {s : Shared}
theorem draw_lst {it t : Addr} {items : Array Value} (hne : t ≠ it) : ∀ (n i : Nat) (s : Shared) (Q : List Value → Shared → Prop), s.heap.IsListIter it t i → s.heap.IsList t items → i + n ≤ items.size →
    (∀ h', h'.IsListIter it t (i + n) → Heap.SameBut it s.heap h' → Q ((items.toList.drop i).take n) { s with heap := h' }) → wpAny (model prog w) A (draw (.ref it) n) Q E s
  | 0, i, s, Q, hit, _, _, hQ => by
    show wpAny _ _ (pure []) Q E s
    exact wpAny_pure (by simpa using hQ s.heap hit (Heap.SameBut.refl ..))
  | n + 1, i, s, Q, hit, ht, hle, hQ => by
    have hlt : i < items.size := by omega
    show wpAny _ _ (pyNext (.ref it) >>= _) Q E s
    refine wpAny_bind (wpAny_pyNext_list_item hit ht (x := items[i]) (by simp [hlt]) fun h1 hit1 hs1 => ?_)
    refine wpAny_bind (wpAny_holding (draw_lst hne n (i + 1) _ _ hit1 (ht.extBut hs1.extBut hne) (by omega) fun h2 hit2 hs2 => wpAny_pure ?_))
    have hd : items.toList.drop i = items[i] :: items.toList.drop (i + 1) := by simp [List.drop_eq_getElem_cons, hlt]
    have := hQ h2 (by rw [show i + (n + 1) = i + 1 + n by omega]; exact hit2) (hs1.trans hs2)
    rw [hd, List.take_succ_cons] at this
    exact this
theorem unpackItems_lst {t : Addr} {items : Array Value} {Q : List Value → Shared → Prop} (hh : A.handled = none) (ht : s.heap.IsList t items)
    (hQ : ∀ h', Heap.ExtBut s.heap.objs.size s.heap h' → Q items.toList { s with heap := h' }) : wpAny (model prog w) A (unpackItems (.ref t) items.size none) Q E s := by
  have hlt : t ≠ s.heap.objs.size := by obtain ⟨o, ho, _⟩ := ht; exact Nat.ne_of_lt (Heap.lt_size ho)
  unfold unpackItems
  refine wpAny_bind ?_
  · unfold notIterableAtAll
    refine wpAny_bind (wpAny_specialOf ht.typeIs slot_list_iter.lookup ?_)
    refine wpAny_pure ?_
    simp only [Bool.false_eq_true, if_false]
    refine wpAny_bind (wpAny_holding (wpAny_pyIter_list ht ?_))
    refine wpAny_bind (wpAny_holding (draw_lst hlt items.size 0 _ _ ⟨_, Heap.get?_push_size _ rfl, rfl, rfl⟩ (ht.push _) (by omega) fun h1 hit1 hs1 => ?_))
    have hall : List.take items.size (List.drop 0 items.toList) = items.toList := by
      rw [List.drop_zero]; exact List.take_of_length_le (by simp)
    rw [hall]
    rw [if_neg (by simp)]
    have ht1 : h1.IsList t items := (ht.push _).extBut hs1.extBut hlt
    refine wpAny_bind (wpAny_holding (wpAny_pyNext_list_end hh hit1 ht1 (by simp) fun h2 he2 => ?_))
    simp only [Option.isSome_none, Bool.false_eq_true, if_false]
    refine wpAny_pure (hQ h2 fun b o hb e => he2 b o hb (hs1.extBut b o hb (Heap.get?_push_of_some _ e)))
theorem assign_Tuple_lst {env : Env} {elts : List Expr} {x1} {pos : Pos} {t : Addr} {items : Array Value} {Q : Unit → Shared → Prop} (hh : A.handled = none) (ht : s.heap.IsList t items)
    (hn : (assignEach elts env).length = items.size) (hstar : (assignEach elts env).findIdx? (·.1) = none)
    (h : ∀ h', Heap.ExtBut s.heap.objs.size s.heap h' → wpAny (model prog w) A (assignInOrder ((assignEach elts env).map (·.2)) items.toList) Q E { s with heap := h' }) :
    wpAny (model prog w) A (assign (.Tuple elts x1 pos) env (.ref t)) Q E s := by
  rw [assign_Tuple]
  refine wpAny_bind (wpAny_standAt ?_)
  unfold unpack
  rw [hn, hstar]
  exact wpAny_bind (wpAny_holding (unpackItems_lst hh ht h))
end
/-- (a, b, ..) = a list or a tuple of that length -/
def gSeq (K : PySem.W.Frag) (n : Nat) (t : TGs) : TG := fun v σ H Q => ∃ a xs, v = .ref a ∧ (SqL K H a xs ∨ SqT K H a xs) ∧ xs.length = n ∧ t xs σ H Q
theorem pg_seq {X : Cx} {es : List Expr} {k : Nat} {t : TGs} {n : Nat} {pos : Pos} (hc : X.calm = true) (h : PGs X es t)
    (hn : (assignEach es X.env).length = n := by rfl) (hst : (assignEach es X.env).findIdx? (·.1) = none := by rfl) : PG X (.Tuple es k pos) (gSeq X.K n t) := by
  refine ⟨fun pins s σ H v u Q I r hw => ?_⟩
  obtain ⟨a, xs, e1, hq, hl, hw⟩ := hw
  rcases hq with hq | hq
  · subst e1
    cases r
    obtain ⟨its, rv, ht, hz⟩ := I.list hq
    refine assign_Tuple_lst (I.ok.hd hc) ht.isList (by simp [hn, ← hl, rv.length]) hst fun h' hx => ?_
    have I1 : Inv X pins σ H { s with heap := h' } := I.kept (t' := s.toks) fun b o e => hx b o (Nat.ne_of_lt (Heap.lt_size e)) e
    exact h.run pins _ σ H xs _ Q I1 (by simpa using rv) hw
  · exact (pg_tup hc h hn hst).run pins s σ H v u Q I r ⟨a, xs, e1, hq, hl, hw⟩
/-! ### lists and tuples by a sign -/
def SqB (K : PySem.W.Frag) (H : Hp) : Bool → Addr → List V → Prop
  | true, a, xs => SqT K H a xs
  | false, a, xs => SqL K H a xs
def IsB (h : Heap) : Bool → Addr → Array Value → Prop
  | true, a, xs => h.IsTuple a xs
  | false, a, xs => h.IsList a xs
def IterB (h : Heap) : Bool → Addr → Addr → Nat → Prop
  | true, it, a, i => h.IsTupleIter it a i
  | false, it, a, i => h.IsListIter it a i
def itO : Bool → Addr → Obj
  | true, a => { cls := .type "tuple_iterator", data := .fields #[.ref a, .int 0 0] }
  | false, a => { cls := .type "list_iterator", data := .fields #[.ref a, .int 0 0] }
theorem drawsB {prog : Program} {w : World} {A : Around} (hh : A.handled = none) (b : Bool) (it a : Addr) (hne : a ≠ it) (items : Array Value) :
    Draws prog w A it [it, a] items.size (fun i v => items[i]? = some v) (fun i h => IterB h b it a i ∧ IsB h b a items) := by
  cases b with
  | true => exact Draws.tuple hh it a hne items
  | false => exact Draws.list hh it a hne items
theorem beginsB (b : Bool) (a : Addr) (items : Array Value) : Begins (.ref a) (itO b a) fun h => IsB h b a items := by
  cases b with
  | true => exact begins_tuple a items
  | false => exact begins_list a items
theorem IterB.at' {h h' : Heap} {b : Bool} {it a : Addr} {i : Nat} (x : IterB h b it a i) (k : ∀ o, h.get? it = some o → h'.get? it = some o) : IterB h' b it a i := by
  cases b with
  | true => exact Heap.IsTupleIter.at (show h.IsTupleIter it a i from x) k
  | false => exact Heap.IsListIter.at (show h.IsListIter it a i from x) k
theorem IterB.obj {h : Heap} {b : Bool} {it a : Addr} {i : Nat} (x : IterB h b it a i) : ∃ o, h.get? it = some o ∧ ∀ v, o.data ≠ .cell v := by
  cases b with
  | true => obtain ⟨o, e, _, d⟩ := x; exact ⟨o, e, fun v q => by rw [d] at q; cases q⟩
  | false => obtain ⟨o, e, _, d⟩ := x; exact ⟨o, e, fun v q => by rw [d] at q; cases q⟩
theorem IterB.new {h : Heap} {b : Bool} {it a : Addr} (e : h.get? it = some (itO b a)) : IterB h b it a 0 := by
  cases b with
  | true => exact ⟨_, e, rfl, rfl⟩
  | false => exact ⟨_, e, rfl, rfl⟩
theorem IsB.keep {h h' : Heap} {b : Bool} {a : Addr} {xs : Array Value} (x : IsB h b a xs) (k : ∀ o, h.get? a = some o → h'.get? a = some o) : IsB h' b a xs := by
  cases b with
  | true => obtain ⟨o, e, r⟩ := x; exact ⟨o, k o e, r⟩
  | false => obtain ⟨o, e, r⟩ := x; exact ⟨o, k o e, r⟩
section
variable {X : Cx} {pins : List (Addr × Obj)} {σ : St} {H : Hp} {s : Shared}
theorem Inv.seqB (I : Inv X pins σ H s) {b : Bool} {a : Addr} {xs : List V} (h : SqB X.K H b a xs) : ∃ its : List Value, Vals xs its ∧ IsB s.heap b a its.toArray ∧ a < s.heap.objs.size := by
  cases b with
  | true =>
    obtain ⟨its, rv, p, _⟩ := I.tuple h
    exact ⟨its, rv, p, p.lt⟩
  | false =>
    obtain ⟨its, rv, p, _⟩ := I.list h
    exact ⟨its, rv, p.isList, p.lt⟩
theorem Inv.seqB_inj (I : Inv X pins σ H s) {b : Bool} {a : Addr} {xs ys : List V} (h : SqB X.K H b a xs) (h' : SqB X.K H b a ys) : xs = ys := by
  cases b with
  | true => exact I.tuple_inj h h'
  | false => exact I.list_inj h h'
end
theorem fp_of {X : Cx} {pins : List (Addr × Obj)} {H : Hp} {L : List Addr} {s : Shared} {σ : St} (I : Inv X pins σ H s) (h : ∀ c ∈ L, s.heap.objs.size ≤ c) : ∀ c ∈ L, FpOk X pins H c :=
  fun c hc => I.fpOk (h c hc) (I.hok.fresh (h c hc))
theorem lt_one {a N : Nat} (h : a < N) : ∀ b ∈ [a], b < N := fun b hb => by
  have z : b = a := by simpa using hb
  rw [z]; exact h
/-! ### enumerate -/
def IteB (K : PySem.W.Frag) (b : Bool) (a : Addr) : It :=
  ⟨fun i H => ∃ (xs : List V) (x : V), SqB K H b a xs ∧ xs[i]? = some x, fun i H v H' => ∃ T x, v = .ref T ∧ H T = none ∧ H' = upd H T (.tup [.int (i : Nat), x]) ∧ ∀ xs, SqB K H b a xs → xs[i]? = some x, fun i H => ∃ xs : List V, SqB K H b a xs ∧ xs.length = i⟩
theorem turn_enumB {P : Program} {w : World} {K : PySem.W.Frag} {elts : List Expr} {kk : Nat} {tpos : Pos} (b : Bool) (a e it : Addr) :
    Turn P w K (.Tuple elts kk tpos) (IteB K b a) [e, it] e (fun i h => (∃ old, IsEnum h e it ((i : Nat) : Int) old) ∧ IterB h b it a i ∧ e ≠ it ∧ a ≠ it ∧ a ≠ e) where
  mem := by simp
  obj := fun i h st c hc => by
    obtain ⟨⟨old, he⟩, hi, _⟩ := st
    have e' : c = e ∨ c = it := by simpa using hc
    rcases e' with z | z
    · rw [z]; exact ⟨_, he, fun v q => nomatch q⟩
    · rw [z]; exact hi.obj
  keep := fun i h h' st k => let ⟨⟨old, he⟩, hi, hne⟩ := st; ⟨⟨old, k e (by simp) _ he⟩, hi.at' fun o q => k it (by simp) o q, hne⟩
  item := by
    intro X hP hw hK hc i pins s σ H E I hf st hg
    subst hP hw hK
    obtain ⟨⟨old, he⟩, hit, hne, hai, hae⟩ := st
    obtain ⟨xs, x, hq, hx⟩ := hg
    obtain ⟨its, rv, p, hal⟩ := I.seqB hq
    obtain ⟨u, hu, ru⟩ := rv.get hx
    have hel : e < s.heap.objs.size := Heap.lt_size he
    have hil : it < s.heap.objs.size := by obtain ⟨_, q, _⟩ := hit.obj; exact Heap.lt_size q
    have hlt : i < its.toArray.size := by rw [List.size_toArray]; exact (List.getElem?_eq_some_iff.mp hu).1
    refine wpAny_pyNext_enum_itemD (drawsB (show X.A.in1.handled = none from I.ok.hd hc) b it a hai its.toArray) he ⟨hit, p⟩ hlt hne (by simp [hne, Ne.symm hae]) fun u' h' tk hu' ho hst' hT hsz hk => ?_
    have eu : u' = u := by
      have z : its[i]? = some u' := by simpa using hu'
      rw [hu] at z
      exact (Option.some.inj z).symm
    subst eu
    refine ⟨_, rfl, wpAny_letOwnedTupleGo_enum (s := { s with heap := h', toks := tk + 1 }) ho fun h'' he' sb => ?_⟩
    have hT2 : h''.get? s.heap.objs.size = some { cls := .type "tuple", data := .seq #[.int i tk, u'] } := (sb.2 _ (Nat.ne_of_gt hel)).trans hT
    have new : ObjOk X.prog X.w (upd H s.heap.objs.size (.tup [.int (i : Nat), x])) h'' s.heap.objs.size (.tup [.int (i : Nat), x]) :=
      ⟨by show 2 ≤ sizeLine; decide, [.int i tk, u'], .cons ⟨_, rfl⟩ (.cons ru .nil), ⟨_, hT2, rfl, _, rfl⟩⟩
    have I1 : Inv X pins σ (upd H s.heap.objs.size (.tup [.int (i : Nat), x])) { s with heap := h'', toks := tk + 1 } :=
      I.turnedNew (ch := [e, it]) (fun c ob hb q => (sb.2 c (fun z => hb (by simp [z]))).trans (hk c ob (fun z => hb (by simp [z])) (fun z => hb (by simp [z])) q)) hf (Nat.le_refl _) new
    refine ⟨.ref s.heap.objs.size, _, I1, rfl, ⟨_, x, rfl, I.hok.fresh (Nat.le_refl _), rfl, fun ys hy => by rw [I.seqB_inj hy hq]; exact hx⟩, ⟨⟨u', ?_⟩, hst'.1.at' fun o q => (sb.2 it (Ne.symm hne)).trans q, hne, hai, hae⟩, fun c hb => ?_⟩
    · have e1 : ((i + 1 : Nat) : Int) = (i : Int) + 1 := by omega
      rw [e1]; exact he'
    · have hb' : c < s.heap.objs.size := by
        have e' : c = e ∨ c = it := by simpa using hb
        rcases e' with z | z
        · rw [z]; exact hel
        · rw [z]; exact hil
      rw [upd_ne (Nat.ne_of_lt hb')]
      exact (hf c hb).1
  done := by
    intro X hP hw hK hc i pins s σ H E I hf st hg
    subst hP hw hK
    obtain ⟨⟨old, he⟩, hit, hne, hai, hae⟩ := st
    obtain ⟨xs, hq, hx⟩ := hg
    obtain ⟨its, rv, p, hal⟩ := I.seqB hq
    obtain ⟨f0, f1, f2, f3, f4, f5⟩ := hf it (by simp)
    have hl : i = its.toArray.size := by rw [List.size_toArray, ← rv.length]; exact hx.symm
    subst hl
    exact wpAny_pyNext_enum_endD (drawsB (show X.A.in1.handled = none from I.ok.hd hc) b it a hai its.toArray) he ⟨hit, p⟩ fun h' eb => ⟨rfl, I.turned (t' := s.toks) (fun c o hb q => eb c o hb q) f0 f1 f3 f4 f5⟩
  self := fun A i s Q E st h => let ⟨⟨_, he⟩, _⟩ := st; wpAny_pyIter_enum he h
theorem meets_enumerate_newB1 {v : Value} {o : Obj} {H : Heap → Prop} (B : Begins v o H) :
    Meets (Builtin.«enumerate.__new__» ⟨[.type "enumerate", v], []⟩) (fun _ R s => H s.heap ∧
      R (.ok (.ret (.ref (s.heap.push o).objs.size))) { s with heap := (s.heap.push o).push { cls := .type "enumerate", data := .fields #[.none, .bool false, .ref s.heap.objs.size, rawInt 0, .none, .none] } }) :=
  .of_wp fun prog w A R s h => by
    obtain ⟨hp, g, d, tk, os⟩ := s; obtain ⟨h1, h⟩ := h
    have hsub := sub_enumerate
    have q1 : ∀ {A' : Around} {E : Value → Shared → Prop} {Q : Value → Shared → Prop}, Q (.ref hp.objs.size) ⟨hp.push o, g, d, tk, os⟩ → wpAny (model prog w) A' (pyIter v) Q E ⟨hp, g, d, tk, os⟩ :=
      fun q => B.iter prog w _ _ ⟨hp, g, d, tk, os⟩ _ h1 q
    wp_walk using q1
    refine wpAny_stack_any fun st => wpAny_pure ?_
    split
    · rename_i c _ _ _ _ _
      cases (c == Value.type "enumerate")
      · wp_walk using q1
        exact ⟨_, rfl, h⟩
      · wp_walk using q1
        exact ⟨_, rfl, h⟩
    · wp_walk using q1
      exact ⟨_, rfl, h⟩
theorem enum_begins1 {prog : Program} {w : World} {A : Around} {E : Value → Shared → Prop} {s : Shared} {v : Value} {o : Obj} {H : Heap → Prop} {Q : Value → Shared → Prop} (B : Begins v o H) (h1 : H s.heap)
    (h : ∀ h', IsEnum h' (s.heap.objs.size + 1) s.heap.objs.size 0 .none → h'.get? s.heap.objs.size = some o → h'.objs.size = s.heap.objs.size + 2 →
      (∀ b o, s.heap.get? b = some o → h'.get? b = some o) → Q (.ref (s.heap.objs.size + 1)) { s with heap := h' }) :
    wpAny (model prog w) A (call (.type "enumerate") [v]) Q E s := by
  refine callType_new F.called_enumerate (by decide) (F.typeCall_enumerate_1 _) (F.newCall_enumerate_1 _) (fun obj => F.args_object_init_2 obj _) F.entry_enumerate_new
    (meets_enumerate_newB1 B) ⟨h1, ?_⟩
  have hz : (s.heap.push o).objs.size = s.heap.objs.size + 1 := Heap.size_push ..
  show _ ∧ _
  rw [hz]
  have he : IsEnum ((s.heap.push o).push { cls := .type "enumerate", data := .fields #[.none, .bool false, .ref s.heap.objs.size, rawInt 0, .none, .none] }) (s.heap.objs.size + 1) s.heap.objs.size 0 .none := by
    have := Heap.get?_push_size (s.heap.push o) (o := { cls := .type "enumerate", data := .fields #[.none, .bool false, .ref s.heap.objs.size, rawInt 0, .none, .none] }) rfl
    rw [hz] at this; exact this
  refine ⟨⟨_, he, rfl⟩, h _ he (Heap.get?_push_of_some _ (Heap.get?_push_size _ B.free)) (by rw [Heap.size_push, hz]) fun b o x => Heap.get?_push_of_some _ (Heap.get?_push_of_some _ x)⟩
def iEnumB (K : PySem.W.Frag) (ta : TA) : TI := fun σ H R => ta σ H fun vs H1 => ∃ b a xs, vs = [.ref a] ∧ SqB K H1 b a xs ∧ R (IteB K b a) H1
theorem pi_enumB {X : Cx} {e : Expr} {ta : TA} {p pos tpos : Pos} {elts : List Expr} {kk : Nat} (hg : Gl X "enumerate") (hm : X.mg "enumerate" = none) (ha : PA X [e] ta) (hs : starEach [e] X.env = [(false, eval e X.env)] := by rfl) :
    PI X (.Tuple elts kk tpos) (.Call (.Name "enumerate" p) [e] [] pos) (iEnumB X.K ta) := by
  refine ⟨fun pins s σ H R I h => ?_⟩
  refine Call_ (ld_blt I hg hm boot_enumerate (PyProof.Rows.callWith_type1 (thn (ha.run pos pins s σ H _ I h) fun us s1 ⟨vs, H1, I1, r1, q1⟩ => ?_) hs rfl))
  obtain ⟨b, a, xs, ex, hq, q⟩ := q1
  subst ex
  cases r1 with
  | cons r rr =>
    cases rr
    cases r
    obtain ⟨its, rv, p', hal⟩ := I1.seqB hq
    refine enum_begins1 (beginsB b a its.toArray) p' fun h' he hit hsz hk => wpAny_pyIter_enum he ?_
    have I2 : Inv X pins σ H1 { s1 with heap := h' } := I1.kept (t' := s1.toks) hk
    have n1 : a ≠ s1.heap.objs.size := Nat.ne_of_lt hal
    have n2 : a ≠ s1.heap.objs.size + 1 := Nat.ne_of_lt (Nat.lt_succ_of_lt hal)
    refine ⟨s1.heap.objs.size + 1, [s1.heap.objs.size + 1, s1.heap.objs.size], _, _, H1, rfl, I2, turn_enumB b a (s1.heap.objs.size + 1) s1.heap.objs.size, ⟨⟨.none, he⟩, .new hit, Nat.succ_ne_self _, n1, n2⟩, fp_of I1 fun c hc => ?_, q⟩
    have e' : c = s1.heap.objs.size + 1 ∨ c = s1.heap.objs.size := by simpa using hc
    rcases e' with z | z
    · rw [z]; exact Nat.le_add_right _ _
    · rw [z]; exact Nat.le_refl _
/-! ### zip of two -/
def ItzB (K : PySem.W.Frag) (b1 : Bool) (a1 : Addr) (b2 : Bool) (a2 : Addr) : It :=
  ⟨fun i H => ∃ (xs ys : List V) (x y : V), SqB K H b1 a1 xs ∧ SqB K H b2 a2 ys ∧ xs[i]? = some x ∧ ys[i]? = some y,
    fun i H v H' => ∃ T x y, v = .ref T ∧ H T = none ∧ H' = upd H T (.tup [x, y]) ∧ (∀ xs, SqB K H b1 a1 xs → xs[i]? = some x) ∧ ∀ ys, SqB K H b2 a2 ys → ys[i]? = some y,
    fun i H => ∃ xs ys : List V, SqB K H b1 a1 xs ∧ SqB K H b2 a2 ys ∧ i = min xs.length ys.length⟩
theorem turn_zipB {P : Program} {w : World} {K : PySem.W.Frag} {elts : List Expr} {kk : Nat} {tpos : Pos} {b1 b2 : Bool} {a1 a2 z TI TO i1 i2 : Addr} (D : ZipSep2 z TI TO i1 i2 [i1, a1] [i2, a2]) :
    Turn P w K (.Tuple elts kk tpos) (ItzB K b1 a1 b2 a2) [z, TI, TO, i1, i2] z (fun i h => IsZip h z TI TO .none ∧ IsTupOf2 h TI (.ref i1) (.ref i2) ∧ (∃ x y, IsTupOf2 h TO x y) ∧ IterB h b1 i1 a1 i ∧ IterB h b2 i2 a2 i ∧ a1 ≠ i1 ∧ a2 ≠ i2) where
  mem := by simp
  obj := fun i h st c hc => by
    obtain ⟨hz, hTI, ⟨x, y, hTO⟩, h1, h2, _⟩ := st
    have e' : c = z ∨ c = TI ∨ c = TO ∨ c = i1 ∨ c = i2 := by simpa using hc
    rcases e' with q | q | q | q | q
    · rw [q]; exact ⟨_, hz, fun v q => nomatch q⟩
    · rw [q]; exact ⟨_, hTI, fun v q => nomatch q⟩
    · rw [q]; exact ⟨_, hTO, fun v q => nomatch q⟩
    · rw [q]; exact h1.obj
    · rw [q]; exact h2.obj
  keep := fun i h h' st k => by
    obtain ⟨hz, hTI, ⟨x, y, hTO⟩, h1, h2, ne⟩ := st
    exact ⟨k z (by simp) _ hz, k TI (by simp) _ hTI, ⟨x, y, k TO (by simp) _ hTO⟩, h1.at' fun o q => k i1 (by simp) o q, h2.at' fun o q => k i2 (by simp) o q, ne⟩
  item := by
    intro X hP hw hK hc i pins s σ H E I hf st hg
    subst hP hw hK
    obtain ⟨hz, hTI, ⟨x0, y0, hTO⟩, h1, h2, n1, n2⟩ := st
    obtain ⟨xs, ys, x, y, hqx, hqy, hx, hy⟩ := hg
    obtain ⟨its, rv, p, _⟩ := I.seqB hqx
    obtain ⟨its2, rv2, p2, _⟩ := I.seqB hqy
    obtain ⟨u, hu, ru⟩ := rv.get hx
    obtain ⟨u2, hu2, ru2⟩ := rv2.get hy
    have hzl : z < s.heap.objs.size := Heap.lt_size hz
    have l1 : i < its.toArray.size := by rw [List.size_toArray]; exact (List.getElem?_eq_some_iff.mp hu).1
    have l2 : i < its2.toArray.size := by rw [List.size_toArray]; exact (List.getElem?_eq_some_iff.mp hu2).1
    refine wpAny_pyNext_zipD2_item D (drawsB (show X.A.in1.handled = none from I.ok.hd hc) b1 i1 a1 n1 its.toArray) (drawsB (show X.A.in1.handled = none from I.ok.hd hc) b2 i2 a2 n2 its2.toArray) hz hTI hTO ⟨h1, p⟩ ⟨h2, p2⟩ l1 l2 fun v1 v2 h' tk e1 e2 z' TO' h1' h2' hT hsz hk => ?_
    have q1 : v1 = u := by
      have q : its[i]? = some v1 := by simpa using e1
      rw [hu] at q; exact (Option.some.inj q).symm
    have q2 : v2 = u2 := by
      have q : its2[i]? = some v2 := by simpa using e2
      rw [hu2] at q; exact (Option.some.inj q).symm
    subst q1 q2
    refine ⟨_, rfl, wpAny_letOwnedTupleGo_zip (s := { s with heap := h', toks := tk }) z' fun h'' z'' sb => ?_⟩
    have hT2 : h''.get? s.heap.objs.size = some { cls := .type "tuple", data := .seq #[v1, v2] } := (sb.2 _ (Nat.ne_of_gt hzl)).trans hT
    have new : ObjOk X.prog X.w (upd H s.heap.objs.size (.tup [x, y])) h'' s.heap.objs.size (.tup [x, y]) :=
      ⟨by show 2 ≤ sizeLine; decide, [v1, v2], .cons ru (.cons ru2 .nil), ⟨_, hT2, rfl, _, rfl⟩⟩
    have I1 : Inv X pins σ (upd H s.heap.objs.size (.tup [x, y])) { s with heap := h'', toks := tk } :=
      I.turnedNew (t' := tk) (ch := [z, TI, TO, i1, i2]) (fun c o hb q => (sb.2 c (fun q' => hb (by simp [q']))).trans (hk c o (fun q' => hb (by simp [q'])) (fun q' => hb (by simp [q'])) (fun q' => hb (by simp [q'])) (fun q' => hb (by simp [q'])) q)) hf (Nat.le_refl _) new
    refine ⟨.ref s.heap.objs.size, _, I1, rfl, ⟨_, x, y, rfl, I.hok.fresh (Nat.le_refl _), rfl, fun l hl => by rw [I.seqB_inj hl hqx]; exact hx, fun l hl => by rw [I.seqB_inj hl hqy]; exact hy⟩, ⟨z'', ?_, ⟨v1, v2, ?_⟩, ?_, ?_, n1, n2⟩, fun c hcm => ?_⟩
    · exact (sb.2 _ D.TIz).trans (hk _ _ D.TIz D.TITO D.TIi1 D.TIi2 hTI)
    · exact (sb.2 _ D.TOz).trans TO'
    · exact h1'.1.at' fun o q => (sb.2 _ (Ne.symm D.zi1)).trans q
    · exact h2'.1.at' fun o q => (sb.2 _ (Ne.symm D.zi2)).trans q
    · have hlt : c < s.heap.objs.size := by
        have e' : c = z ∨ c = TI ∨ c = TO ∨ c = i1 ∨ c = i2 := by simpa using hcm
        rcases e' with q | q | q | q | q
        · rw [q]; exact hzl
        · rw [q]; exact Heap.lt_size hTI
        · rw [q]; exact Heap.lt_size hTO
        · rw [q]; obtain ⟨_, e1, _⟩ := h1.obj; exact Heap.lt_size e1
        · rw [q]; obtain ⟨_, e2, _⟩ := h2.obj; exact Heap.lt_size e2
      rw [upd_ne (Nat.ne_of_lt hlt)]
      exact (hf c hcm).1
  done := by
    intro X hP hw hK hc i pins s σ H E I hf st hg
    subst hP hw hK
    obtain ⟨hz, hTI, ⟨x0, y0, hTO⟩, h1, h2, n1, n2⟩ := st
    obtain ⟨xs, ys, hqx, hqy, hend⟩ := hg
    obtain ⟨its, rv, p, _⟩ := I.seqB hqx
    obtain ⟨its2, rv2, p2, _⟩ := I.seqB hqy
    have l1 : xs.length = its.toArray.size := by rw [List.size_toArray, rv.length]
    have l2 : ys.length = its2.toArray.size := by rw [List.size_toArray, rv2.length]
    exact wpAny_pyNext_zipD2_end D (drawsB (show X.A.in1.handled = none from I.ok.hd hc) b1 i1 a1 n1 its.toArray) (drawsB (show X.A.in1.handled = none from I.ok.hd hc) b2 i2 a2 n2 its2.toArray) hz hTI hTO ⟨h1, p⟩ ⟨h2, p2⟩ (by omega) (by omega) (by omega) fun h' tk hk => ⟨rfl, I.turnedL (t' := tk) (ch := [z, TI, TO, i1, i2]) (fun c o hb q =>
      hk c o (fun q' => hb (by simp [q'])) (fun q' => hb (by simp [q'])) (fun q' => hb (by simp [q'])) (fun q' => hb (by simp [q'])) q) hf⟩
  self := fun A i s Q E st h => wpAny_pyIter_zip st.1 h
def iZipB (K : PySem.W.Frag) (ta : TA) : TI := fun σ H R => ta σ H fun vs H1 => ∃ b1 b2 a1 a2 xs ys, vs = [.ref a1, .ref a2] ∧ SqB K H1 b1 a1 xs ∧ SqB K H1 b2 a2 ys ∧ R (ItzB K b1 a1 b2 a2) H1
theorem pi_zipB {X : Cx} {e e2 : Expr} {ta : TA} {p pos tpos : Pos} {elts : List Expr} {kk : Nat} (hg : Gl X "zip") (hm : X.mg "zip" = none) (ha : PA X [e, e2] ta)
    (hs : starEach [e, e2] X.env = (false, eval e X.env) :: starEach [e2] X.env := by rfl) (hpl : (backTo pos (starEach [e2] X.env)).any (·.1) = false := by rfl) :
    PI X (.Tuple elts kk tpos) (.Call (.Name "zip" p) [e, e2] [] pos) (iZipB X.K ta) := by
  refine ⟨fun pins s σ H R I h => ?_⟩
  refine Call_ (ld_blt I hg hm PyProof.Rows.boot_zip (PyProof.Rows.callWith_type1 (thn (ha.run pos pins s σ H _ I h) fun us s1 ⟨vs, H1, I1, r1, q1⟩ => ?_) hs hpl))
  obtain ⟨b1, b2, a1, a2, xs, ys, ex, hqx, hqy, q⟩ := q1
  subst ex
  cases r1 with
  | cons r rr =>
    cases rr with
    | cons r' rr =>
      cases rr
      cases r
      cases r'
      obtain ⟨its, rv, p1, la⟩ := I1.seqB hqx
      obtain ⟨its2, rv2, p2, lb⟩ := I1.seqB hqy
      refine zip_begins2 (beginsB b1 a1 its.toArray) (beginsB b2 a2 its2.toArray) p1 p2 fun h' hz hTI hTO h1 h2 hsz hk => wpAny_pyIter_zip hz ?_
      have I2 : Inv X pins σ H1 { s1 with heap := h' } := I1.kept (t' := s1.toks) hk
      refine ⟨s1.heap.objs.size + 4, [s1.heap.objs.size + 4, s1.heap.objs.size + 2, s1.heap.objs.size + 3, s1.heap.objs.size, s1.heap.objs.size + 1], _, _, H1, rfl, I2, turn_zipB (zip_sep2 (fp1 := [a1]) (fp2 := [a2]) (lt_one la) (lt_one lb)), ⟨hz, hTI, ⟨_, _, hTO⟩, .new h1, .new h2, Nat.ne_of_lt la, Nat.ne_of_lt (Nat.lt_succ_of_lt lb)⟩, fp_of I1 fun c hcm => ?_, q⟩
      have e' : c = s1.heap.objs.size + 4 ∨ c = s1.heap.objs.size + 2 ∨ c = s1.heap.objs.size + 3 ∨ c = s1.heap.objs.size ∨ c = s1.heap.objs.size + 1 := by simpa using hcm
      rcases e' with z | z | z | z | z <;> rw [z] <;> first | exact Nat.le_add_right _ _ | exact Nat.le_refl _
end L2
end
section
/-! L3z: a def's promise where no text of an object is being made (so that repr may be asked). -/
namespace L3
open PySem PySem.Spec PyProof.Rows L2
structure RoomG (n : Nat) (B : Around) : Prop where
  rm : Room n B
  gd : B.guards = some []
theorem RoomG.mono {m n : Nat} {B : Around} (r : RoomG n B) (le : m ≤ n) : RoomG m B := ⟨r.rm.mono le, r.gd⟩
theorem RoomG.deeper {n : Nat} {B : Around} (r : RoomG (n + 1) B) (en : Env) : RoomG n (B.deeper en) := ⟨r.rm.deeper en, r.gd⟩
theorem RoomG.units {n : Nat} {B : Around} (r : RoomG n B) : B.units + 64 < cLine := r.rm.units
theorem RoomG.wide {n : Nat} {B : Around} (r : RoomG n B) : B.units + 200 < cLine := by have := r.rm.un; omega
theorem RoomG.make {n : Nat} {B : Around} (r : RoomG (n + 1) B) (D : Addr) (us : List Value) (kw : List (Str × Value)) : RoomG n (B.under (.builtin "type.__call__" ⟨.ref D :: us, kw⟩)) :=
  ⟨r.rm.make D us kw, by
    have := r.gd
    first
      | (simpa [Around.under, Code.guards, pushGuards] using this)
      | (simp [Around.under, pushGuards, this]; rfl)⟩
structure FnG (P : Program) (w : World) (K : PySem.W.Frag) (mg : Str → Option Value) (base : Heap) (CC : CXT) (n : Nat) (fa : Addr) (fd : FuncData) (qs : List Str) (sp : Sp) : Prop where
  len : ∀ us H Q E, sp us H Q E → us.length = qs.length
  run : ∀ (B : Around) (oe : List Env) (s : Shared) (H : Hp) (as : Args) (us : List Value) (vs : List V) (Q : VK) (E : XK), RoomG n B → Env0 P w K mg base B oe s H → BindsTo s fd as (qs.zip us) → Vals vs us → sp vs H Q E →
    codeAny (model P w) B (.call (.ref fa) as) (CR CC oe P w H s Q E) s
section
variable {P : Program} {w : World} {K : PySem.W.Frag} {mg : Str → Option Value} {base : Heap} {CC : CXT}
theorem FnG.mono {m n : Nat} {fa : Addr} {fd : FuncData} {qs : List Str} {sp : Sp} (F : FnG P w K mg base CC m fa fd qs sp) (le : m ≤ n) : FnG P w K mg base CC n fa fd qs sp :=
  ⟨F.len, fun B oe s H as us vs Q E r => F.run B oe s H as us vs Q E (r.mono le)⟩
/-- a def by its body -/
theorem funG {x qual : Str} {st : Stmt} {fa : Addr} {fd : FuncData} {N qs : List Str} {n : Nat} {sp : Sp} (Fu : Fun K x qual st fa fd) (Sc : FnScope N qs (defScope st)) (len : ∀ us H Q E, sp us H Q E → us.length = qs.length)
    (body : ∀ (cdv : Value) (B : Around) (oe : List Env) (s : Shared) (H : Hp) (vs : List V) (Q : VK) (E : XK), RoomG n (B.deeper (PyProof.Rows.envOfC qual (defScope st) s.heap.objs.size fa cdv)) → sp vs H Q E →
      ∃ t, PSs (cxOf CC P w K mg base N qual (defScope st) fa cdv B oe s H E) (defBody st) t ∧ t { nx := fun _ H' => Q .non H', rt := Q } (L2.start N vs) H) : FnG P w K mg base CC (n + 1) fa fd qs sp := by
  obtain ⟨oc, od, kV, doc, pm, an, cdv, ct, osl, rfl, lk, hcd⟩ := Fu.ex
  refine ⟨len, fun B oe s H as us vs Q E hr c0 hb r hsp => ?_⟩
  have vl := len _ _ _ _ hsp
  have kin : K.In s.heap := c0.mod.kin.keeps fun b o q => (c0.bs b o q).1
  have nol : s.heap.NoLimit := c0.mod.nolimit.keeps fun b o q => (c0.bs b o q).1
  have kinds : ∀ y ∈ qs.zip us, (defScope st).names.lookup y.1 = some .local ∨ ((defScope st).names.lookup y.1 = some .cell ∧ ((cellsFrom (s.heap.objs.size + 1) (defScope st).names []).lookup y.1).isSome = true) := fun ⟨m, v⟩ hy => by
    rcases Sc.par m (List.of_mem_zip hy).1 with q | q
    · exact .inl q
    · exact .inr ⟨q, PySem.W.cellsFrom_some _ _ _ (.inl q)⟩
  refine codeAny_call_function hr.rm.depth (kin _ _ lk) rfl Sc.co Sc.gen rfl (PySem.W.codeRec_of kin hcd) (hb _ _ _ _ ?_)
  refine wpAny_newFunctionEnv_cells Sc.kind kinds fun en he s1 y => ?_
  subst he
  refine ⟨nol.keeps y.toInCall.keep, codeAny_func ?_⟩
  obtain ⟨t, ht, hq⟩ := body cdv B oe s H vs Q E (hr.deeper _) hsp
  have J : Inv (cxOf CC P w K mg base N qual (defScope st) fa cdv B oe s H E) [] (L2.start N vs) H s1 := inv_start Sc hr.rm.hd c0 vl r y
  refine wpAny_mono (ht.run [] s1 (L2.start N vs) H _ J hq) (fun fl s' hs => ?_) fun e s' hs => hs
  cases fl with
  | ret u => obtain ⟨v, σ', H', I, rv, q⟩ := hs; exact ⟨v, H', I.os, I.bare, I.base, I.hok, rv, q⟩
  | next => obtain ⟨σ', H', I, q⟩ := hs; exact ⟨.non, H', I.os, I.bare, I.base, I.hok, rfl, q⟩
  | brk => obtain ⟨_, _, _, q⟩ := hs; exact q.elim
  | cont => obtain ⟨_, _, _, q⟩ := hs; exact q.elim
end
section
variable {X : Cx} {CC : CXT} {n : Nat} {fa : Addr} {fd : FuncData} {qs : List Str} {sp : Sp} {dvs : List V} {ds : List Value} {E : XK} {x : Str} {p pos : Pos} {e : Expr} {es : List Expr} {t : TA}
theorem run_fnG {pins : List (Addr × Obj)} {σ : L2.St} {H : Hp} {s : Shared} {Q : VK} {us : List Value} {vs : List V} (F : FnG X.prog X.w X.K X.mg X.base CC n fa fd qs sp) (hr : RoomG n X.A) (hb : Binds X.K fd qs ds) (hd : Vals dvs ds) (hx : PassesAt CC X σ E)
    (I : Inv X pins σ H s) (r : Vals vs us) (h : sp (vs ++ dvs) H Q E) : wpAny (model X.prog X.w) X.A (call (.ref fa) us) (EP X pins σ Q) X.xe s := by
  have rr : Vals (vs ++ dvs) (us ++ ds) := r.append hd
  have ul : (us ++ ds).length = qs.length := by rw [← rr.length]; exact F.len _ _ _ _ h
  refine wpAny_call (codeAny_mono (F.run X.A X.stack s H ⟨us, []⟩ (us ++ ds) (vs ++ dvs) Q E hr I.env0 (hb s us I.kIn ul) rr h) fun res s' hq => ?_)
  cases res with
  | error er => exact hx pins H s er s' I hq
  | ok fl =>
    cases fl with
    | ret u => exact I.after hq
    | next => exact hq.elim
    | brk => exact hq.elim
    | cont => exact hq.elim
/-- f(..), the wish of errors at the slots -/
def tCallE (sp : Sp) (dvs : List V) (E : L2.St → XK) (t : TA) : TE := fun σ H Q => t σ H fun vs H1 => sp (vs ++ dvs) H1 Q (E σ)
theorem pe_callG {E : L2.St → XK} (F : FnG X.prog X.w X.K X.mg X.base CC n fa fd qs sp) (hr : RoomG n X.A) (hg : Gl X x) (hm : X.mg x = some (.ref fa)) (hk : PySem.W.keepIn X.K (.ref fa) = true) (hb : Binds X.K fd qs ds) (hd : Vals dvs ds) (hx : ∀ σ, PassesAt CC X σ (E σ))
    (ha : PA X (e :: es) t) (hdb : (x == ("__debug__" : Str)) = false := by decide) (he : starEach (e :: es) X.env = (false, eval e X.env) :: starEach es X.env := by rfl) (hpl : (backTo pos (starEach es X.env)).any (·.1) = false := by rfl) :
    PE X (.Call (.Name x p) (e :: es) [] pos) (tCallE sp dvs E t) := by
  refine ⟨fun pins s σ H Q I h => wpAny_Call_Name_kw (ld_glob I hg hm ?_ hdb)⟩
  exact PySem.W.callWith_K (h₀ := X.base) I.ok.mod.kin hk (thn (ha.run pos pins s σ H _ I h) fun us s1 ⟨vs, H1, I1, r, q⟩ => ⟨I1.kIn, run_fnG F hr hb hd (hx σ) I1 r q⟩) he hpl
/-- f() -/
theorem pe_callG0 {E : L2.St → XK} (F : FnG X.prog X.w X.K X.mg X.base CC n fa fd qs sp) (hr : RoomG n X.A) (hg : Gl X x) (hm : X.mg x = some (.ref fa)) (hk : PySem.W.keepIn X.K (.ref fa) = true) (hb : Binds X.K fd qs ds) (hd : Vals dvs ds) (hx : ∀ σ, PassesAt CC X σ (E σ))
    (hdb : (x == ("__debug__" : Str)) = false := by decide) : PE X (.Call (.Name x p) [] [] pos) (tCallE sp dvs E tNil) :=
  ⟨fun pins s σ H Q I h => wpAny_Call_Name_kw (ld_glob I hg hm (PySem.W.callWith_K0 I.kIn hk (run_fnG (us := []) F hr hb hd (hx σ) I .nil h)) hdb)⟩
/-- nothing is let out -/
theorem passN {σ : L2.St} : PassesAt (L2.CX X.prog X.w) X σ E0 := fun _ _ _ _ _ _ h => by
  obtain ⟨_, _, _, _, _, _, _, _, _, _, _, _, z⟩ := h
  exact z.elim
end
/-- the script's heap when the law is called: base and what is tracked -/
theorem law_callG {P : Program} {w : World} {K : PySem.W.Frag} {mg mb : Str → Option Value} {CC : CXT} {n : Nat} {fa a : Addr} {fd : FuncData} {x : Str} {sp : Sp} {s0 : Shared} {vs : List Value} {ns : List Int}
    (kin : K.In s0.heap) (hns : s0.heap.Ns mainGlobals mg) (hbn : s0.heap.Ns builtinsNs mb) (hbb : ∀ y : Str, y ≠ "__name__" → mb y = bootBuiltins y) (nol : s0.heap.NoLimit) (gens : s0.gens = #[])
    (ha : s0.heap.get? a = some { cls := .type "list", data := .seq vs.toArray }) (hi : IntsAre vs ns) (hl : ns.length ≤ sizeLine) (hr : RoomG n callerA)
    (F : ∀ base : Heap, K.In base → base.Ns mainGlobals mg → FnG P w K mg base CC n fa fd [x] sp) (hbind : ∀ (s : Shared) (v : Value), BindsTo s fd ⟨[v], []⟩ [(x, v)])
    (hsp : ∀ G : Hp, Only G → SqL K G a (ns.map V.int) → sp [.ref a] G (fun v _ => v = .bl true) fun _ _ _ => False)
    (hCC : ∀ G e t, CC [] G s0 (fun _ _ _ => False) e t → False) :
    codeAny (model P w) callerA (.call (.ref fa) ⟨[.ref a], []⟩) (fun r t => r = .ok (.ret (.bool true)) ∧ OldK s0.heap t.heap ∧ t.os = s0.os ∧ AllBare t.gens) s0 := by
  have rv := vals_ints hi
  have vlen := hi.length
  have core : ∀ G : Hp, Only G → SqL K G a (ns.map V.int) → HOk P w G s0.heap → (∀ b, G b ≠ none → b = a) → (G a ≠ none → K.lookup a = none) →
      codeAny (model P w) callerA (.call (.ref fa) ⟨[.ref a], []⟩) (fun r t => r = .ok (.ret (.bool true)) ∧ OldK s0.heap t.heap ∧ t.os = s0.os ∧ AllBare t.gens) s0 := by
    intro G gO gS gk gA gK
    have low : ∀ {b : Addr} {o : Obj}, s0.heap.get? b = some o → G b = none → (hidT s0.heap G).get? b = some o := fun q z => hidT_get q z
    have noD : ∀ {b : Addr} {o : Obj} {es : Array DictEntry} {ep : Nat}, s0.heap.get? b = some o → o.data = .dict es ep → G b = none := fun {b o es ep} q d => by
      cases z : G b with
      | none => rfl
      | some u =>
        have ea : b = a := gA b (by rw [z]; simp)
        subst ea
        rw [ha] at q; cases q
        have d2 : Data.seq vs.toArray _ = Data.dict es ep := d
        cases d2
    have nsL : ∀ {b : Addr} {m : Str → Option Value}, s0.heap.Ns b m → (hidT s0.heap G).Ns b m := fun {b m} ⟨o, es, ep, q, d, r⟩ => ⟨o, es, ep, low q (noD q d), d, r⟩
    have kinL : K.In (hidT s0.heap G) := fun b o q => low (kin b o q) (by
      cases z : G b with
      | none => rfl
      | some u =>
        have ea : b = a := gA b (by rw [z]; simp)
        subst ea
        rw [gK (by rw [z]; simp)] at q; cases q)
    have md : Mod K mg (hidT s0.heap G) := ⟨kinL, nsL hns, ⟨mb, nsL hbn, hbb⟩, let ⟨mc, h1, h2⟩ := nol; ⟨mc, nsL h1, h2⟩⟩
    have c0 : Env0 P w K mg (hidT s0.heap G) callerA [] s0 G := ⟨rfl, md, fun b o q => of_hidT q, Nat.le_of_eq (hidT_size _ _), trivial, fun b hb => (nomatch hb), gk, .of_eq gens⟩
    refine codeAny_mono ((F _ kinL (nsL hns)).run callerA [] s0 G ⟨[.ref a], []⟩ [.ref a] [.ref a] _ _ hr c0 (hbind s0 (.ref a)) (.cons rfl .nil) (hsp G gO gS)) fun r t hq => ?_
    cases r with
    | error er => exact (hCC G er t hq).elim
    | ok fl =>
      cases fl with
      | next => exact hq.elim
      | brk => exact hq.elim
      | cont => exact hq.elim
      | ret u =>
        obtain ⟨v, G2, os, bare, un, gk2, r2, q⟩ := hq
        replace q : v = .bl true := q
        subst q
        obtain rfl : u = Value.bool true := r2
        refine ⟨rfl, OldK.of_keep fun b o q => ?_, os, bare⟩
        cases z : G b with
        | none => exact un.keep b o q z (fun y => nomatch y) (fun y => nomatch y)
        | some u =>
          rcases gO b with y | ⟨ob, xs, y⟩
          · rw [z] at y; cases y
          · have y2 := un.frzs b ob _ y
            obtain ⟨e1, _⟩ := gk b _ y
            obtain ⟨e2, _⟩ := gk2 b _ y2
            rw [q] at e1; cases e1
            exact e2
  cases kl : K.lookup a with
  | some o =>
    have q := kin a o kl
    rw [ha] at q
    cases q
    exact core (fun _ => none) (fun _ => .inl rfl) (.inr ⟨_, vs.toArray, _, kl, rfl, rfl, rfl, by rw [List.size_toArray, vlen]; exact hl, by simpa using rv⟩) (fun b u z => nomatch (show (none : Option HO) = some u from z)) (fun b z => absurd rfl z) fun z => absurd rfl z
  | none =>
    refine core (fun b => if b = a then some (.frz { cls := .type "list", data := .seq vs.toArray } (.lst (ns.map V.int))) else none) (fun b => ?_) (.inl (.inr ⟨{ cls := .type "list", data := .seq vs.toArray }, if_pos rfl⟩)) (fun b u z => ?_) (fun b z => ?_) fun _ => kl
    · by_cases eb : b = a
      · exact .inr ⟨_, _, if_pos eb⟩
      · exact .inl (if_neg eb)
    · by_cases eb : b = a
      · have z2 := (if_pos eb).symm.trans z
        cases z2
        subst eb
        exact ⟨ha, by rw [List.length_map]; exact hl, vs, _, rv, ha⟩
      · have z2 := (if_neg eb).symm.trans z
        cases z2
    · by_cases eb : b = a
      · exact eb
      · exact absurd (if_neg eb) z
/-- the end of a law -/
theorem walk_ofG {l : PySem.W.OpenLaw} {m n : Nat} {q : Program} {loose : List Str} {XP : (Str → Option Value) → Heap → Prop} {YP : World → Heap → Prop} {d : DefRec} {K : Params → PySem.W.Frag} {CC : World → CXT} {sp : World → Sp} {x : Str}
    (hm : l.most = some m) (hm2 : m ≤ sizeLine) (hdf : d.params.defaults = []) (hr : RoomG n callerA) (hY : ∀ (w : World) (h : Heap), YP w h → (K w.params).In h)
    (F : ∀ (w : World) (mg : Str → Option Value) (fa : Addr) (h : Heap), (K w.params).In h → h.Ns mainGlobals mg → mg d.name = some (.ref fa) →
      ∃ fd : FuncData, (∀ (s : Shared) (v : Value), BindsTo s fd ⟨[v], []⟩ [(x, v)]) ∧ ∀ base : Heap, (K w.params).In base → base.Ns mainGlobals mg → FnG l.prog w (K w.params) mg base (CC w) n fa fd [x] (sp w))
    (hsp : ∀ (w : World) (H : Hp) (a : Addr) (ns : List Int), ns.length ≤ m → Only H → SqL (K w.params) H a (ns.map V.int) → sp w [.ref a] H (fun v _ => v = .bl true) fun _ _ _ => False)
    (hCC : ∀ (w : World) (H : Hp) (s : Shared) (e : Value) (t : Shared), CC w [] H s (fun _ _ _ => False) e t → False) : PySem.W.WalkO q loose XP YP l.row.toRowW d [] (fun f vs => PySem.call f vs) := by
  refine Att.attach_call hm hdf fun w s0 s1 mg mb fa o pm cd doc a vs ns G Y ho hd hcd hmg hobj hints hlen hg => ?_
  obtain ⟨fd, hb, hF⟩ := F w mg fa _ (hY w _ Y) G.T.g hmg
  exact law_callG (hY w _ Y) G.T.g G.T.b G.T.builtins G.T.nolimit hg hobj hints (Nat.le_trans hlen hm2) hr hF hb (fun H hO hS => hsp w H a ns hlen hO hS) fun H e t => hCC w H s1 e t
theorem leave0 (P : Program) (w : World) (H : Hp) (s : Shared) (e : Value) (t : Shared) (h : L2.CX P w [] H s (fun _ _ _ => False) e t) : False := by
  obtain ⟨_, _, _, _, _, _, _, _, _, _, _, _, z⟩ := h
  exact z
end L3
end
section
/-! L3e: promises of defs, calls, statements. -/
namespace L3
open PySem L2
variable {G : Type} {K : PySem.W.Frag} {X : Cx} {Z : Zx K G}
/-! ### what a def promises -/
/-- arguments, state, what is wanted of the answer, what is wanted of an error (class, fields) -/
abbrev XU (G : Type) := Value → List (Str × PyData) → G → Prop
abbrev Spec (G : Type) := List Rs → G → (Rs → G → Prop) → XU G → Prop
structure Frm (Z : Zx K G) (F H : Hp) (g : G) (F' H' : Hp) (g' : G) : Prop where
  ex : Ex F F'
  keep : ∀ b o, H b = some o → b ∉ Z.fp g → H' b = some o
  keepN : ∀ b, H b ≠ none → H' b ≠ none
  new : ∀ b o, F' b = some o → F b = some o ∨ H b = none
  sub : Ex F' H'
  res : Z.R g' F' H'
  fpF : ∀ a ∈ Z.fp g', F' a = none
  fpB : ∀ a ∈ Z.fp g', a ∈ Z.fp g ∨ H a = none
def VRet (Z : Zx K G) (F' H H' : Hp) (g' : G) (v : V) : Rs → Prop
  | .dt d => Da K F' v d
  | .nl ds => ∃ a vs, v = .ref a ∧ H a = none ∧ F' a = none ∧ a ∉ Z.fp g' ∧ H' a = some (.lst vs) ∧ DaAll K F' vs ds
  | .nd ks => ∃ a vs, v = .ref a ∧ H a = none ∧ F' a = none ∧ a ∉ Z.fp g' ∧ H' a = some (.dK vs) ∧ KvAll K F' vs ks
  | .br _ => False
  | .rs n => v = .ref (Z.ra g' n)
  | .vv u => v = u
def ArgV (Z : Zx K G) (F : Hp) (g : G) (v : V) : Rs → Prop
  | .dt d => Da K F v d
  | .rs n => v = .ref (Z.ra g n)
  | .vv u => v = u
  | _ => False
abbrev ArgR (Z : Zx K G) (F : Hp) (g : G) : List V → List Rs → Prop := Paired (ArgV Z F g)
def spZ (Z : Zx K G) (S : Spec G) : Sp := fun vs H Q E => ∃ F g as T U, Ex F H ∧ Z.R g F H ∧ (∀ a ∈ Z.fp g, F a = none) ∧ ArgR Z F g vs as ∧ S as g T U ∧
  (∀ v r F' g' H', Frm Z F H g F' H' g' → Z.ra g' = Z.ra g → VRet Z F' H H' g' v r → T r g' → Q v H') ∧
  (∀ c fs dx F' g' H', Frm Z F H g F' H' g' → Z.ra g' = Z.ra g → XR K F' H' dx fs → U c fs g' → E c dx H')
/-! ### a call -/
def fzR : Rs → En → Option (Rs × En)
  | .rs n, ρ => some (.rs n, ρ)
  | .vv v, ρ => some (.vv v, ρ)
  | .dt d, ρ => some (.dt d, ρ)
  | r, ρ => (fz r ρ).map fun p => (.dt p.1, p.2)
def fzRA : List Rs → En → Option (List Rs × En)
  | [], ρ => some ([], ρ)
  | r :: rs, ρ => (fzR r ρ).bind fun p => (fzRA rs p.2).map fun q => (p.1 :: q.1, q.2)
section
variable {f : Fx} {F F' : Hp} {ad : Nat → Addr} {ρ ρ' : En} {g g' : G} {σ : St} {H H' : Hp}
theorem ArgV.mono {v : V} {r : Rs} (h : ArgV Z F g v r) (e : Ex F F') : ArgV Z F' g v r := by
  cases r <;> first | exact h | exact da_mono e h
theorem Rel.hfzR {v : V} {r q : Rs} (R : Rel Z f F ad ρ g σ H) (h : VR Z f F ad ρ g σ H v r) (e : fzR r ρ = some (q, ρ')) : ∃ F', Ex F F' ∧ Rel Z f F' ad ρ' g σ H ∧ ArgV Z F' g v q := by
  have go : (fz r ρ).map (fun p : PyData × En => (Rs.dt p.1, p.2)) = some (q, ρ') → ∃ F', Ex F F' ∧ Rel Z f F' ad ρ' g σ H ∧ ArgV Z F' g v q := fun e => by
    cases e1 : fz r ρ with
    | none => rw [e1] at e; cases e
    | some p =>
      obtain ⟨d, ρ1⟩ := p
      rw [e1] at e
      cases e
      exact R.hfz h e1
  cases r with
  | rs n => cases e; exact ⟨F, Evl.Ex.refl F, R, h⟩
  | vv n => cases e; exact ⟨F, Evl.Ex.refl F, R, h⟩
  | dt n => cases e; exact ⟨F, Evl.Ex.refl F, R, h⟩
  | nl n => exact go e
  | nd n => exact go e
  | br n => exact go e
theorem Rel.hfzRA : ∀ {vs : List V} {rs : List Rs} {F : Hp} {ρ : En} {qs : List Rs} {ρ' : En}, Rel Z f F ad ρ g σ H → VRs Z f F ad ρ g σ H vs rs → fzRA rs ρ = some (qs, ρ') → ∃ F', Ex F F' ∧ Rel Z f F' ad ρ' g σ H ∧ ArgR Z F' g vs qs
  | _, [], F, ρ, qs, ρ', R, .nil, e => by cases e; exact ⟨F, Evl.Ex.refl F, R, .nil⟩
  | _, r :: rs, F, ρ, qs, ρ', R, .cons h t, e => by
    obtain ⟨r0, rfl, h⟩ := h
    unfold fzRA at e
    cases e1 : fzR (st r0) ρ with
    | none => rw [e1] at e; cases e
    | some p =>
      obtain ⟨d, ρ1⟩ := p
      rw [e1] at e
      cases e2 : fzRA rs ρ1 with
      | none => simp [e2] at e
      | some p2 =>
        obtain ⟨ds2, ρ2⟩ := p2
        simp [e2] at e
        obtain ⟨rfl, rfl⟩ := e
        obtain ⟨F1, x1, R1, d1⟩ := R.hfzR h e1
        obtain ⟨F2, x2, R2, d2⟩ := Rel.hfzRA R1 (Paired.mapP t fun v r ⟨r0, er, z⟩ => ⟨r0, er, z.held x1 rfl⟩) e2
        exact ⟨F2, x1.trans x2, R2, .cons (d1.mono x2) d2⟩
/-- behind a call -/
theorem Rel.called (R : Rel Z f F ad ρ g σ H) (h : Frm Z F H g F' H' g') (er : Z.ra g' = Z.ra g) : Rel Z f F' ad ρ g' σ H' := by
  have nfp : ∀ b, f.B b ≠ none → b ∉ f.fp0 → b ∉ Z.fp g := fun b hb h0 hm => by
    rcases R.fin.fpB b hm with q | q
    · exact h0 q
    · exact hb q
  have own : ∀ i s, ρ[i]? = some s → s.own = true → OwnA Z f F g (ad i) ∧ H (ad i) ≠ none := fun i s hi ho => by
    have q := R.slot i s hi
    cases s with
    | ls ds => obtain ⟨_, q2, vs, q3, _⟩ := q; exact ⟨q2, by rw [q3]; intro z; cases z⟩
    | dk ds => obtain ⟨_, q2, vs, q3, _⟩ := q; exact ⟨q2, by rw [q3]; intro z; cases z⟩
    | _ => cases ho
  have own' : ∀ i s, ρ[i]? = some s → s.own = true → OwnA Z f F' g' (ad i) := fun i s hi ho => by
    obtain ⟨q, hn⟩ := own i s hi ho
    refine ⟨?_, q.2.1, fun hm => ?_⟩
    · cases e : F' (ad i) with
      | none => rfl
      | some o =>
        rcases h.new _ _ e with z | z
        · rw [q.1] at z; cases z
        · exact absurd z hn
    · rcases h.fpB _ hm with z | z
      · exact q.2.2 z
      · exact hn z
  refine ⟨⟨⟨R.fin.base.trans h.ex, h.sub, fun b o hb h0 => h.keep b o (R.fin.keep b o hb h0) (nfp b (by rw [hb]; intro z; cases z) h0), fun b hb => h.keepN b (R.fin.keepN b hb), fun b o hb => ?_, h.res, h.fpF, fun a ha => ?_, R.fin.fpo⟩, R.len, fun i s hi => ?_, R.inj⟩, er ▸ R.lx⟩
  · rcases h.new b o hb with z | z
    · exact R.fin.new b o z
    · right
      cases e : f.B b with
      | none => rfl
      | some u => exact absurd z (R.fin.keepN b (by rw [e]; intro y; cases y))
  · rcases h.fpB a ha with z | z
    · exact R.fin.fpB a z
    · right
      cases e : f.B a with
      | none => rfl
      | some u => exact absurd z (R.fin.keepN a (by rw [e]; intro y; cases y))
  · have q := R.slot i s hi
    cases s with
    | un => trivial
    | dt d => obtain ⟨v, q1, q2⟩ := q; exact ⟨v, q1, da_mono h.ex q2⟩
    | ls ds => obtain ⟨q1, q2, vs, q3, q4⟩ := q; exact ⟨q1, own' i _ hi rfl, vs, h.keep _ _ q3 q2.2.2, daAll_mono h.ex q4⟩
    | dk ds => obtain ⟨q1, q2, vs, q3, q4⟩ := q; exact ⟨q1, own' i _ hi rfl, vs, h.keep _ _ q3 q2.2.2, kv_mono h.ex q4⟩
    | rs n => exact (show σ[i]? = some (some (.ref (Z.ra g n))) from q).trans (by rw [er])
    | vv u => exact q
theorem Rel.ret (R : Rel Z f F ad ρ g σ H) (h : Frm Z F H g F' H' g') {v : V} {r : Rs} (hv : VRet Z F' H H' g' v r) : VR Z f F' ad ρ g' σ H' v r := by
  have ne : ∀ a, H a = none → ∀ i s, ρ[i]? = some s → s.own = true → ad i ≠ a := fun a ha i s hi ho e => by
    have q := R.slot i s hi
    cases s with
    | ls ds => obtain ⟨_, q2, vs, q3, _⟩ := q; rw [e, ha] at q3; cases q3
    | dk ds => obtain ⟨_, q2, vs, q3, _⟩ := q; rw [e, ha] at q3; cases q3
    | _ => cases ho
  have hB : ∀ a, H a = none → f.B a = none := fun a ha => by
    cases e : f.B a with
    | none => rfl
    | some u => exact absurd ha (R.fin.keepN a (by rw [e]; intro y; cases y))
  cases r with
  | dt d => exact hv
  | nl ds => obtain ⟨a, vs, rfl, h1, h2, h3, h4, h5⟩ := hv; exact ⟨a, vs, rfl, ⟨⟨h2, hB a h1, h3⟩, ne a h1⟩, h4, h5⟩
  | nd ds => obtain ⟨a, vs, rfl, h1, h2, h3, h4, h5⟩ := hv; exact ⟨a, vs, rfl, ⟨⟨h2, hB a h1, h3⟩, ne a h1⟩, h4, h5⟩
  | br i => cases hv
  | rs n => exact hv
  | vv u => exact hv
/-- a pure callee's frame is one of the caller's -/
theorem Frm.pure (R : Rel Z f F ad ρ g σ H) {u : Unit} (h : Frm (Z0 K) F H u F' H' u) : Frm Z F H g F' H' g where
  ex := h.ex
  keep := fun b o e _ => h.keep b o e (by intro z; cases z)
  keepN := h.keepN
  new := h.new
  sub := h.sub
  res := Z.loc R.fin.res h.ex fun a ha => by
    cases e : H a with
    | none => exact absurd e (Z.there R.fin.res a ha)
    | some o => exact h.keep a o e (by intro z; cases z)
  fpF := fun a ha => by
    cases e : F' a with
    | none => rfl
    | some o =>
      rcases h.new a o e with z | z
      · rw [R.fin.fpF a ha] at z; cases z
      · exact absurd z (Z.there R.fin.res a ha)
  fpB := fun a ha => .inl ha
theorem VRet.pure (R : Rel Z f F ad ρ g σ H) {u : Unit} (h : Frm (Z0 K) F H u F' H' u) {v : V} {r : Rs} (hr : ∀ n, r ≠ .rs n) (hv : VRet (Z0 K) F' H H' u v r) : VRet Z F' H H' g v r := by
  have nf : ∀ a, H a = none → a ∉ Z.fp g := fun a ha hm => Z.there R.fin.res a hm ha
  cases r with
  | dt d => exact hv
  | nl ds => obtain ⟨a, vs, rfl, h1, h2, h3, h4, h5⟩ := hv; exact ⟨a, vs, rfl, h1, h2, nf a h1, h4, h5⟩
  | nd ds => obtain ⟨a, vs, rfl, h1, h2, h3, h4, h5⟩ := hv; exact ⟨a, vs, rfl, h1, h2, nf a h1, h4, h5⟩
  | br i => exact hv
  | rs n => exact absurd rfl (hr n)
  | vv u => exact hv
end
/-- no error -/
abbrev U0 {G : Type} : XU G := fun _ _ _ => False
/-- f(..) with the same resource -/
def fr1S (ρ : En) (i : Nat) (k : Rs → En → Prop) : Option Sl → Prop
  | some (.dt d) => k (.dt d) ρ
  | some (.ls ds) => k (.dt (.list ds)) (ρ.set i (.dt (.list ds)))
  | some (.dk ds) => k (.dt (.dict ds)) (ρ.set i (.dt (.dict ds)))
  | _ => False
def fr1 (r : Rs) (ρ : En) (k : Rs → En → Prop) : Prop := match r with
  | .dt d => k (.dt d) ρ
  | .nl ds => k (.dt (.list ds)) ρ
  | .br i => fr1S ρ i k ρ[i]?
  | .rs n => k (.rs n) ρ
  | .vv v => k (.vv v) ρ
  | .nd ds => k (.dt (.dict ds)) ρ
theorem fr1_of {r : Rs} {ρ : En} {k : Rs → En → Prop} (h : fr1 r ρ k) : ∃ d ρ', fzR r ρ = some (d, ρ') ∧ k d ρ' := by
  cases r with
  | dt d => exact ⟨_, ρ, rfl, h⟩
  | nl d => exact ⟨_, ρ, rfl, h⟩
  | rs d => exact ⟨_, ρ, rfl, h⟩
  | vv d => exact ⟨_, ρ, rfl, h⟩
  | br i =>
    have h1 : fr1S ρ i k ρ[i]? := h
    cases e : ρ[i]? with
    | none => rw [e] at h1; exact h1.elim
    | some s =>
      rw [e] at h1
      cases s with
      | dt d => exact ⟨_, ρ, by show (fzS ρ i ρ[i]?).map _ = _; rw [e]; rfl, h1⟩
      | ls d => exact ⟨_, _, by show (fzS ρ i ρ[i]?).map _ = _; rw [e]; rfl, h1⟩
      | dk d => exact ⟨_, _, by show (fzS ρ i ρ[i]?).map _ = _; rw [e]; rfl, h1⟩
      | _ => exact h1.elim
  | nd d => exact ⟨_, ρ, rfl, h⟩
def frK : List Rs → En → (List Rs → En → Prop) → Prop
  | [], ρ, k => k [] ρ
  | r :: rs, ρ, k => fr1 r ρ fun d ρ1 => frK rs ρ1 fun ds ρ2 => k (d :: ds) ρ2
theorem frK_of : ∀ {rs : List Rs} {ρ : En} {k : List Rs → En → Prop}, frK rs ρ k → ∃ ds ρ2, fzRA rs ρ = some (ds, ρ2) ∧ k ds ρ2
  | [], ρ, k, h => ⟨[], ρ, rfl, h⟩
  | r :: rs, ρ, k, h => by
    obtain ⟨d, ρ1, e, h⟩ := fr1_of h
    obtain ⟨ds, ρ2, e2, h⟩ := frK_of h
    exact ⟨d :: ds, ρ2, by rw [fzRA, e]; show (fzRA rs ρ1).map _ = _; rw [e2]; rfl, h⟩
/-- no error is let out; errors go where this body's do -/
abbrev Un {G : Type} : UX G := fun _ _ _ _ => False
/-- a wish of errors at data, and at the heap -/
def LeW (Z : Zx K G) (U : UX G) (E : St → XK) : Prop := ∀ f F ad ρ g σ H c dx fs, Rel Z f F ad ρ g σ H → XR K F H dx fs → U c fs ρ g → E σ c dx H
theorem leW_n : LeW Z Un (fun _ => E0) := fun _ _ _ _ _ _ _ _ _ _ _ _ h => h.elim
theorem leW_z : LeW Z Z.U (WE Z.W) := fun f F ad ρ g σ H c dx fs R h u => R.lx F ad ρ g σ H c dx fs rfl R.toRel0 h u
def dCall (U : UX G) (S : Spec G) (das : List Rs) (a : DA G) : DT G := fun ρ g Q => a ρ g fun rs ρ1 g1 => frK rs ρ1 fun qs ρ2 => S (qs ++ das) g1 (fun r g' => Q r ρ2 g') (fun c fs g' => U c fs ρ2 g')
/-- f(..) of a def without a resource -/
def noR (r : Rs) (p : Prop) : Prop := match r with
  | .rs _ => False
  | _ => p
def noRs : List Rs → Bool
  | [] => true
  | .rs _ :: _ => false
  | _ :: r => noRs r
theorem noRs_of : ∀ {qs : List Rs}, noRs qs = true → ∀ q ∈ qs, noR q True
  | [], _, _, h => by cases h
  | .rs _ :: _, e, _, _ => by cases e
  | .dt _ :: r, e, q, h => by
    rcases List.mem_cons.mp h with rfl | h
    · trivial
    · exact noRs_of (qs := r) e q h
  | .nl _ :: r, e, q, h => by
    rcases List.mem_cons.mp h with rfl | h
    · trivial
    · exact noRs_of (qs := r) e q h
  | .nd _ :: r, e, q, h => by
    rcases List.mem_cons.mp h with rfl | h
    · trivial
    · exact noRs_of (qs := r) e q h
  | .br _ :: r, e, q, h => by
    rcases List.mem_cons.mp h with rfl | h
    · trivial
    · exact noRs_of (qs := r) e q h
  | .vv _ :: r, e, q, h => by
    rcases List.mem_cons.mp h with rfl | h
    · trivial
    · exact noRs_of (qs := r) e q h
def dCall0 (U : UX G) (S : Spec Unit) (das : List Rs) (a : DA G) : DT G := fun ρ g Q => a ρ g fun rs ρ1 g1 => frK rs ρ1 fun qs ρ2 => tt (noRs qs) (S (qs ++ das) () (fun r _ => noR r (Q r ρ2 g1)) (fun c fs _ => U c fs ρ2 g1))
theorem argR_append {F : Hp} {g : G} : ∀ {vs ws : List V} {as bs : List Rs}, ArgR Z F g vs as → ArgR Z F g ws bs → ArgR Z F g (vs ++ ws) (as ++ bs)
  | _, _, _, _, .nil, h => h
  | _, _, _, _, .cons a r, h => .cons a (argR_append r h)
theorem argR_pure {F : Hp} {g : G} : ∀ {vs : List V} {as : List Rs}, ArgR Z F g vs as → (∀ q ∈ as, noR q True) → ArgR (Z0 K) F () vs as
  | _, [], .nil, _ => .nil
  | _, r :: rs, .cons h t, hq => .cons (by
      have z := hq r List.mem_cons_self
      cases r <;> first | exact h | exact z.elim) (argR_pure t fun q hm => hq q (List.mem_cons_of_mem _ hm))
theorem sim_call {U : UX G} {E : St → XK} (hU : LeW Z U E) {S : Spec G} {dvs : List V} {das : List Rs} {ta : TA} {a : DA G} (hd : ∀ F g, ArgR Z F g dvs das) (ha : SimA Z ta a) : Sim Z (tCallE (spZ Z S) dvs E ta) (dCall U S das a) := fun f F ad ρ g σ H Q R q P hP => by
  refine ha f F ad ρ g σ H _ R q _ fun vs H1 q => ?_
  obtain ⟨F1, ad1, ρ1, g1, rs, e1, eg1, R1, v1, q⟩ := q
  obtain ⟨qs, ρ2, ef, q⟩ := frK_of q
  obtain ⟨F2, e2, R2, da⟩ := R1.hfzRA v1 ef
  refine ⟨F2, g1, qs ++ das, _, _, R2.fin.sub, R2.fin.res, R2.fin.fpF, argR_append da (hd F2 g1), q, fun v r F' g' H' fr er hv hT => ?_, fun c fs dx F' g' H' fr er hx hu => hU _ _ _ _ _ _ _ _ _ _ (R2.called fr er) hx hu⟩
  exact hP v H' ⟨F', ad1, ρ2, g', r, (e1.trans e2).trans fr.ex, er.trans eg1, R2.called fr er, R2.ret fr hv, hT⟩
theorem sim_call0 {U : UX G} {E : St → XK} (hU : LeW Z U E) {S : Spec Unit} {dvs : List V} {das : List Rs} {ta : TA} {a : DA G} (hd : ∀ F, ArgR (Z0 K) F () dvs das) (ha : SimA Z ta a) : Sim Z (tCallE (spZ (Z0 K) S) dvs E ta) (dCall0 U S das a) := fun f F ad ρ g σ H Q R q P hP => by
  refine ha f F ad ρ g σ H _ R q _ fun vs H1 q => ?_
  obtain ⟨F1, ad1, ρ1, g1, rs, e1, eg1, R1, v1, q⟩ := q
  obtain ⟨qs, ρ2, ef, q⟩ := frK_of q
  obtain ⟨hq, q⟩ := tt_e q
  replace hq := noRs_of hq
  obtain ⟨F2, e2, R2, da⟩ := R1.hfzRA v1 ef
  refine ⟨F2, (), qs ++ das, _, _, R2.fin.sub, trivial, (fun a ha => nomatch ha), argR_append (argR_pure da hq) (hd F2), q, fun v r F' g' H' fr er hv hT => ?_, fun c fs dx F' g' H' fr er hx hu => hU _ _ _ _ _ _ _ _ _ _ (R2.called (Frm.pure R2 fr) rfl) hx hu⟩
  have fr' : Frm Z F2 H1 g1 F' H' g1 := Frm.pure R2 fr
  have hr : (∀ n, r ≠ .rs n) ∧ Q r ρ2 g1 := by
    cases r <;> first | exact ⟨(fun n z => by cases z), hT⟩ | exact hT.elim
  exact hP v H' ⟨F', ad1, ρ2, g1, r, (e1.trans e2).trans fr.ex, eg1, R2.called fr' rfl, R2.ret fr' (VRet.pure R2 fr hr.1 hv), hr.2⟩
/-- the heap has grown, nothing that stood there has changed -/
theorem Rel.grown {f : Fx} {F : Hp} {ad : Nat → Addr} {ρ : En} {g : G} {σ : St} {H H' : Hp} (R : Rel Z f F ad ρ g σ H) (k : ∀ b o, H b = some o → H' b = some o) : Rel Z f F ad ρ g σ H' := by
  refine ⟨⟨⟨R.fin.base, fun b o e => k b o (R.fin.sub b o e), fun b o e h0 => k b o (R.fin.keep b o e h0), fun b hb => ?_, R.fin.new, Z.loc R.fin.res (fun _ _ h => h) fun a ha => ?_, R.fin.fpF, R.fin.fpB, R.fin.fpo⟩, R.len, fun i s hi => ?_, R.inj⟩, R.lx⟩
  · cases e : H b with
    | none => exact absurd e (R.fin.keepN b hb)
    | some o => rw [k b o e]; intro z; cases z
  · cases e : H a with
    | none => exact absurd e (Z.there R.fin.res a ha)
    | some o => exact k a o e
  · have q := R.slot i s hi
    cases s with
    | ls ds => obtain ⟨q1, q2, vs, q3, q4⟩ := q; exact ⟨q1, q2, vs, k _ _ q3, q4⟩
    | dk ds => obtain ⟨q1, q2, vs, q3, q4⟩ := q; exact ⟨q1, q2, vs, k _ _ q3, q4⟩
    | _ => exact q
/-- f(..) of a def without a resource that answers with a flat thing: what is handed in stays the caller's -/
def flR (r : Rs) (p : Prop) : Prop := match r with
  | .dt d => tt (flatD d) p
  | _ => False
def dCallB (U : UX G) (S : Spec Unit) (das : List Rs) (a : DA G) : DT G := fun ρ g Q => a ρ g fun rs ρ1 g1 => frK rs ρ1 fun qs _ => tt (noRs qs) (S (qs ++ das) () (fun r _ => flR r (Q r ρ1 g1)) (fun c fs _ => fs = [] ∧ U c [] ρ1 g1))
theorem xr_nil {K : PySem.W.Frag} {F F' H : Hp} {dx : Option Addr} (h : XR K F H dx []) : XR K F' H dx [] := by
  rcases h with h | ⟨d, vs, h1, _⟩
  · exact .inl h
  · exact absurd rfl h1
theorem sim_callB {U : UX G} {E : St → XK} (hU : LeW Z U E) {S : Spec Unit} {dvs : List V} {das : List Rs} {ta : TA} {a : DA G} (hd : ∀ F, ArgR (Z0 K) F () dvs das) (ha : SimA Z ta a) : Sim Z (tCallE (spZ (Z0 K) S) dvs E ta) (dCallB U S das a) := fun f F ad ρ g σ H Q R q P hP => by
  refine ha f F ad ρ g σ H _ R q _ fun vs H1 q => ?_
  obtain ⟨F1, ad1, ρ1, g1, rs, e1, eg1, R1, v1, q⟩ := q
  obtain ⟨qs, ρ2, ef, q⟩ := frK_of q
  obtain ⟨hq, q⟩ := tt_e q
  replace hq := noRs_of hq
  obtain ⟨F2, e2, R2, da⟩ := R1.hfzRA v1 ef
  refine ⟨F2, (), qs ++ das, _, _, R2.fin.sub, trivial, (fun a ha => nomatch ha), argR_append (argR_pure da hq) (hd F2), q, fun v r F' g' H' fr er hv hT => ?_, fun c fs dx F' g' H' fr er hx hu => ?_⟩
  rotate_left
  · obtain ⟨rfl, hu⟩ := hu
    exact hU _ _ _ _ _ _ _ _ _ _ (R1.grown fun b o e => fr.keep b o e (fun z => nomatch z)) (xr_nil hx) hu
  cases r with
  | dt d =>
    obtain ⟨hf, hT⟩ := tt_e hT
    have hv : Da K F' v d := hv
    have dv : Da K F1 v d := by
      cases hv with
      | non => exact .non
      | bl b => exact .bl b
      | int i => exact .int i
      | str x => exact .str x
      | lst _ _ => cases hf
      | tup _ _ => cases hf
      | dct _ _ => cases hf
    exact hP v H' ⟨F1, ad1, ρ1, g1, .dt d, e1, eg1, R1.grown fun b o e => fr.keep b o e (fun z => nomatch z), dv, hT⟩
  | _ => exact hT.elim
/-! ### statements -/
structure D3 (G : Type) where
  nx : En → G → Prop
  rt : Rs → G → Prop
  bk : En → G → Prop := fun _ _ => False
  ct : En → G → Prop := fun _ _ => False
abbrev DS (G : Type) := D3 G → En → G → Prop
/-- an answer, when the def is left -/
def VFin (Z : Zx K G) (f : Fx) (F : Hp) (g : G) (H : Hp) (v : V) : Rs → Prop
  | .dt d => Da K F v d
  | .nl ds => ∃ a vs, v = .ref a ∧ OwnA Z f F g a ∧ H a = some (.lst vs) ∧ DaAll K F vs ds
  | .nd ks => ∃ a vs, v = .ref a ∧ OwnA Z f F g a ∧ H a = some (.dK vs) ∧ KvAll K F vs ks
  | .br _ => False
  | .rs n => v = .ref (Z.ra g n)
  | .vv u => v = u
structure Le (Z : Zx K G) (f : Fx) (ra0 : Nat → Addr) (D : D3 G) (D2 : Ends) : Prop where
  nx : ∀ F ad ρ g σ H, Z.ra g = ra0 → Rel Z f F ad ρ g σ H → D.nx ρ g → D2.nx σ H
  rt : ∀ F g H v r, Z.ra g = ra0 → Fin Z f F g H → VFin Z f F g H v r → D.rt r g → D2.rt v H
  bk : ∀ F ad ρ g σ H, Z.ra g = ra0 → Rel Z f F ad ρ g σ H → D.bk ρ g → D2.bk σ H
  ct : ∀ F ad ρ g σ H, Z.ra g = ra0 → Rel Z f F ad ρ g σ H → D.ct ρ g → D2.ct σ H
def SimS (Z : Zx K G) (ts : TS) (t : DS G) : Prop := ∀ f F ad ρ g σ H D, Rel Z f F ad ρ g σ H → t D ρ g → ∀ D2 : Ends, Le Z f (Z.ra g) D D2 → ts D2 σ H
structure DSt (X : Cx) (Z : Zx K G) (s : Stmt) (ts : TS) (t : DS G) : Prop where
  ps : PS X s ts
  sim : SimS Z ts t
structure DSs (X : Cx) (Z : Zx K G) (s : List Stmt) (ts : TS) (t : DS G) : Prop where
  ps : PSs X s ts
  sim : SimS Z ts t
def dNext : DS G := fun D ρ g => D.nx ρ g
def dSeq (t u : DS G) : DS G := fun D ρ g => t { D with nx := fun ρ1 g1 => u D ρ1 g1 } ρ g
theorem sim_next : SimS Z tNext (dNext (G := G)) := fun f F ad ρ g σ H D R h D2 le => le.nx F ad ρ g σ H rfl R h
theorem sim_seq {t u : TS} {a b : DS G} (ha : SimS Z t a) (hb : SimS Z u b) : SimS Z (tSeq t u) (dSeq a b) := fun f F ad ρ g σ H D R h D2 le => by
  refine ha f F ad ρ g σ H _ R h _ ⟨fun F1 ad1 ρ1 g1 σ1 H1 er R1 h1 => ?_, le.rt, le.bk, le.ct⟩
  exact hb f F1 ad1 ρ1 g1 σ1 H1 D R1 h1 D2 (by rw [er]; exact le)
theorem s_nil : DSs X Z [] tNext (dNext (G := G)) := ⟨pss_nil, sim_next⟩
theorem s_cons {s : Stmt} {ss : List Stmt} {t u : TS} {a b : DS G} (h : DSt X Z s t a) (k : DSs X Z ss u b) : DSs X Z (s :: ss) (tSeq t u) (dSeq a b) := ⟨pss_cons h.ps k.ps, sim_seq h.sim k.sim⟩
theorem s_one {s : Stmt} {t : TS} {a : DS G} (h : DSt X Z s t a) : DSs X Z [s] t a := ⟨pss_one h.ps, h.sim⟩
theorem s_pass {pos : Pos} : DSt X Z (.Pass pos) tNext (dNext (G := G)) := ⟨ps_pass, sim_next⟩
def dBreak : DS G := fun D ρ g => D.bk ρ g
def dCont : DS G := fun D ρ g => D.ct ρ g
theorem s_break {pos : Pos} : DSt X Z (.Break pos) tBreak (dBreak (G := G)) := ⟨ps_break, fun f F ad ρ g σ H D R h D2 le => le.bk F ad ρ g σ H rfl R h⟩
theorem s_continue {pos : Pos} : DSt X Z (.Continue pos) tCont (dCont (G := G)) := ⟨ps_continue, fun f F ad ρ g σ H D R h D2 le => le.ct F ad ρ g σ H rfl R h⟩
theorem s_doc {x : Str} {j} {pos pos' : Pos} : DSt X Z (.Expr (.Constant (.str x) j pos) pos') tNext (dNext (G := G)) := ⟨ps_doc, sim_next⟩
/-- x = e -/
def asgS (i j : Nat) (ρ : En) : Option Sl → Option En
  | some (.dt d) => some (ρ.set j (.dt d))
  | some (.ls ds) => some ((ρ.set i (.dt (.list ds))).set j (.dt (.list ds)))
  | some (.dk ds) => some ((ρ.set i (.dt (.dict ds))).set j (.dt (.dict ds)))
  | _ => none
def asg (j : Nat) : Rs → En → Option En
  | .dt d, ρ => some (ρ.set j (.dt d))
  | .nl ds, ρ => some (ρ.set j (.ls ds))
  | .nd ks, ρ => some (ρ.set j (.dk ks))
  | .br i, ρ => asgS i j ρ ρ[i]?
  | .rs n, ρ => some (ρ.set j (.rs n))
  | .vv v, ρ => some (ρ.set j (.vv v))
section
variable {f : Fx} {F F' : Hp} {ad : Nat → Addr} {ρ ρ' : En} {g g' : G} {σ : St} {H H' : Hp}
theorem Rel.setD (R : Rel Z f F ad ρ g σ H) {j : Nat} {v : V} {d : PyData} (hj : j < σ.length) (h : Da K F v d) : Rel Z f F (adS ad j 0) (ρ.set j (.dt d)) g (σ.set j (some v)) H :=
  R.setSl ⟨v, by rw [List.getElem?_set_self hj], h⟩ fun ho => by cases ho
theorem Rel.hasg (R : Rel Z f F ad ρ g σ H) {j : Nat} {v : V} {r : Rs} (hj : j < σ.length) (h : VR Z f F ad ρ g σ H v r) (e : asg j r ρ = some ρ') : ∃ F' ad', Rel Z f F' ad' ρ' g (σ.set j (some v)) H := by
  cases r with
  | dt d => cases e; exact ⟨F, _, R.setD hj h⟩
  | nl ds =>
    cases e
    obtain ⟨a, vs, rfl, n, h1, h2⟩ := h
    refine ⟨F, _, R.setSl (a := a) ?_ fun _ i t hi ho _ => n.2 i t hi ho⟩
    exact ⟨by rw [List.getElem?_set_self hj, adS_same], by rw [adS_same]; exact n.1, vs, by rw [adS_same]; exact h1, h2⟩
  | nd ds =>
    cases e
    obtain ⟨a, vs, rfl, n, h1, h2⟩ := h
    refine ⟨F, _, R.setSl (a := a) ?_ fun _ i t hi ho _ => n.2 i t hi ho⟩
    exact ⟨by rw [List.getElem?_set_self hj, adS_same], by rw [adS_same]; exact n.1, vs, by rw [adS_same]; exact h1, h2⟩
  | br i =>
    have e1 : asgS i j ρ ρ[i]? = some ρ' := e
    cases hi : ρ[i]? with
    | none => rw [hi] at e1; cases e1
    | some s =>
      rw [hi] at e1
      have q := R.slot i _ hi
      cases s with
      | dt d =>
        cases e1
        obtain ⟨w, q1, q2⟩ := q
        have z : some (some w) = some (some v) := q1.symm.trans h
        cases z
        exact ⟨F, _, R.setD hj q2⟩
      | ls ds =>
        cases e1
        obtain ⟨F', e, R', dl⟩ := R.fzOwn hi
        have z : some (some (V.ref (ad i))) = some (some v) := q.1.symm.trans h
        cases z
        exact ⟨F', _, R'.setD hj dl⟩
      | dk ds =>
        cases e1
        obtain ⟨F', e, R', dl⟩ := R.fzOwnD hi
        have z : some (some (V.ref (ad i))) = some (some v) := q.1.symm.trans h
        cases z
        exact ⟨F', _, R'.setD hj dl⟩
      | _ => cases e1
  | rs n => cases e; cases (show v = .ref (Z.ra g n) from h); exact ⟨F, _, R.setSl (a := 0) (by show _ = _; rw [List.getElem?_set_self hj]) fun ho => by cases ho⟩
  | vv u => cases e; cases (show v = u from h); exact ⟨F, _, R.setSl (a := 0) (by show _ = _; rw [List.getElem?_set_self hj]) fun ho => by cases ho⟩
end
def dAsg (a : DT G) (j : Nat) : DS G := fun D ρ g => a ρ g fun r ρ1 g1 => opK (asg j r ρ1) fun ρ2 => ltK j ρ1.length (D.nx ρ2 g1)
theorem sim_asg {te : TE} {a : DT G} {j : Nat} (ha : Sim Z te a) : SimS Z (tAsg te (gName j)) (dAsg a j) := fun f F ad ρ g σ H D R h D2 le => by
  refine ha f F ad ρ g σ H _ R h _ fun x H1 q => ?_
  obtain ⟨F1, ad1, ρ1, g1, r1, e1, eg1, R1, v1, q⟩ := q
  obtain ⟨ρ2, ea, q⟩ := opK_e q
  obtain ⟨hj, q⟩ := ltK_e q
  obtain ⟨F2, ad2, R2⟩ := R1.hasg (by rw [← R1.len]; exact hj) v1 ea
  exact le.nx F2 ad2 ρ2 g1 _ H1 eg1 R2 q
theorem s_set (j : Nat) {x : Str} {e : Expr} {te : TE} {a : DT G} {pos pos' : Pos} (hN : X.N.Nodup) (he : DE X Z e te a) (hx : Loc X.env.scope x := by first | exact Or.inl rfl | exact Or.inr rfl) (hi : X.N[j]? = some x := by rfl) (hs : swapsWith e (some (.Name x pos')) pos.line X.env = pure false := by rfl)
    (hf : X.fn x = true ∨ X.env.scope.names.lookup x = some .local := by first | exact .inl rfl | exact .inr rfl | assumption) : DSt X Z (.Assign [.Name x pos'] e pos) (tAsg te (gName j)) (dAsg a j) :=
  ⟨ps_set hN hi hx he.pe hs hf, sim_asg he.sim⟩
def dDrop (a : DT G) : DS G := fun D ρ g => a ρ g fun _ ρ1 g1 => D.nx ρ1 g1
theorem s_expr {e : Expr} {te : TE} {a : DT G} {pos : Pos} (he : DE X Z e te a) (hs : swapsWith e none pos.line X.env = pure false := by rfl) : DSt X Z (.Expr e pos) (tDrop te) (dDrop a) := ⟨ps_expr he.pe hs, fun f F ad ρ g σ H D R h D2 le => by
  refine he.sim f F ad ρ g σ H _ R h _ fun x H1 q => ?_
  obtain ⟨F1, ad1, ρ1, g1, r1, e1, eg1, R1, v1, q⟩ := q
  exact le.nx F1 ad1 ρ1 g1 σ H1 eg1 R1 q⟩
def retS : Option Sl → Option Rs
  | some (.dt d) => some (.dt d)
  | some (.ls ds) => some (.nl ds)
  | some (.dk ks) => some (.nd ks)
  | _ => none
def retR : Rs → En → Option Rs
  | .br i, ρ => retS ρ[i]?
  | r, _ => some r
theorem Rel.hret {f : Fx} {F : Hp} {ad : Nat → Addr} {ρ : En} {g : G} {σ : St} {H : Hp} {v : V} {r q : Rs} (R : Rel Z f F ad ρ g σ H) (h : VR Z f F ad ρ g σ H v r) (e : retR r ρ = some q) : VFin Z f F g H v q := by
  cases r with
  | dt d => cases e; exact h
  | nl ds => cases e; obtain ⟨a, vs, rfl, n, h1, h2⟩ := h; exact ⟨a, vs, rfl, n.1, h1, h2⟩
  | nd ds => cases e; obtain ⟨a, vs, rfl, n, h1, h2⟩ := h; exact ⟨a, vs, rfl, n.1, h1, h2⟩
  | br i =>
    have e1 : retS ρ[i]? = some q := e
    cases hi : ρ[i]? with
    | none => rw [hi] at e1; cases e1
    | some s =>
      rw [hi] at e1
      have z := R.slot i _ hi
      cases s with
      | dt d =>
        cases e1
        obtain ⟨w, q1, q2⟩ := z
        have z : some (some w) = some (some v) := q1.symm.trans h
        cases z
        exact q2
      | ls ds =>
        cases e1
        obtain ⟨q1, q2, vs, q3, q4⟩ := z
        have z : some (some (V.ref (ad i))) = some (some v) := q1.symm.trans h
        cases z
        exact ⟨_, vs, rfl, q2, q3, q4⟩
      | dk ds =>
        cases e1
        obtain ⟨q1, q2, vs, q3, q4⟩ := z
        have z : some (some (V.ref (ad i))) = some (some v) := q1.symm.trans h
        cases z
        exact ⟨_, vs, rfl, q2, q3, q4⟩
      | _ => cases e1
  | rs n => cases e; exact h
  | vv u => cases e; exact h
def dRet (a : DT G) : DS G := fun D ρ g => a ρ g fun r ρ1 g1 => opK (retR r ρ1) fun q => D.rt q g1
theorem s_ret {e : Expr} {te : TE} {a : DT G} {pos : Pos} (he : DE X Z e te a) : DSt X Z (.Return (some e) pos) (tRet te) (dRet a) := ⟨ps_ret he.pe, fun f F ad ρ g σ H D R h D2 le => by
  refine he.sim f F ad ρ g σ H _ R h _ fun x H1 q => ?_
  obtain ⟨F1, ad1, ρ1, g1, r1, e1, eg1, R1, v1, q⟩ := q
  obtain ⟨q, er, hq⟩ := opK_e q
  exact le.rt F1 g1 H1 x q eg1 R1.fin (R1.hret v1 er) hq⟩
def dRetN : DS G := fun D _ g => D.rt (.dt .none) g
theorem s_retN {pos : Pos} : DSt X Z (.Return none pos) tRetN (dRetN (G := G)) := ⟨ps_retN, fun f F ad ρ g σ H D R h D2 le => le.rt F g H .non (.dt .none) rfl R.fin .non h⟩
def dIfS (c : DB G) (t u : DS G) : DS G := fun D ρ g => c ρ g fun b ρ1 g1 => ifb b (t D ρ1 g1) (u D ρ1 g1)
theorem s_if {c : Expr} {tc : TT} {dc : DB G} {a b : List Stmt} {t u : TS} {da db : DS G} {pos : Pos} (hc : DTe X Z c tc dc) (ha : DSs X Z a t da) (hb : DSs X Z b u db) : DSt X Z (.If c a b pos) (tIfS tc t u) (dIfS dc da db) := ⟨ps_if hc.pt ha.ps hb.ps, fun f F ad ρ g σ H D R h D2 le => by
  refine hc.sim f F ad ρ g σ H _ R h _ fun x H1 q => ?_
  obtain ⟨F1, ad1, ρ1, g1, e1, eg1, R1, q⟩ := q
  cases x with
  | true =>
    rw [if_pos rfl]
    replace q := ifb_t q
    exact ha.sim f F1 ad1 ρ1 g1 σ H1 D R1 q D2 (by rw [eg1]; exact le)
  | false =>
    rw [if_neg Bool.false_ne_true]
    replace q := ifb_f q
    exact hb.sim f F1 ad1 ρ1 g1 σ H1 D R1 q D2 (by rw [eg1]; exact le)⟩
/-- code that is never come to -/
def dNever : DS G := fun _ _ _ => False
theorem s_never {ss : List Stmt} : DSs X Z ss tNever (dNever (G := G)) := ⟨pss_never, fun _ _ _ _ _ _ _ _ _ h _ _ => h.elim⟩
/-- while: an invariant with its measure -/
structure WhileP (c : DB G) (b : DS G) (D : D3 G) (ρ0 : En) (g0 : G) : Prop where
  ex : ∃ W : Nat → En → G → Prop, (∃ m, W m ρ0 g0) ∧ ∀ m ρ g, W m ρ g →
    c ρ g fun k ρ1 g1 => ifb k (b { D with nx := fun ρ2 g2 => ∃ m', m' < m ∧ W m' ρ2 g2, ct := fun ρ2 g2 => ∃ m', m' < m ∧ W m' ρ2 g2, bk := D.nx } ρ1 g1) (D.nx ρ1 g1)
def dWhile (c : DB G) (b : DS G) : DS G := fun D ρ g => WhileP c b D ρ g
theorem s_while {c : Expr} {body : List Stmt} {tc : TT} {tb : TS} {dc : DB G} {db : DS G} {pos : Pos} (hc : DTe X Z c tc dc) (hb : DSs X Z body tb db) (hp : PassesOwn (model X.prog X.w) X.A X.env X.xe := by exact PassesOwn.never) : DSt X Z (.While c body [] pos) (tWhile tc tb) (dWhile dc db) := ⟨ps_while hp hc.pt hb.ps, fun f F ad ρ g σ H D R h D2 le => by
  obtain ⟨⟨W, ⟨m0, h0⟩, hs⟩⟩ := h
  refine ⟨fun m σ H => ∃ F ad ρ g', Z.ra g' = Z.ra g ∧ Rel Z f F ad ρ g' σ H ∧ W m ρ g', ⟨m0, F, ad, ρ, g, rfl, R, h0⟩, fun m σ1 H1 hW => ?_⟩
  obtain ⟨F1, ad1, ρ1, g1, eg1, R1, w1⟩ := hW
  refine hc.sim f F1 ad1 ρ1 g1 σ1 H1 _ R1 (hs m ρ1 g1 w1) _ fun k H2 q => ?_
  obtain ⟨F2, ad2, ρ2, g2, e2, eg2, R2, q⟩ := q
  cases k with
  | true =>
    rw [if_pos rfl]
    replace q := ifb_t q
    refine ⟨fun σ' H' => ∃ m', m' < m ∧ ∃ F ad ρ g', Z.ra g' = Z.ra g ∧ Rel Z f F ad ρ g' σ' H' ∧ W m' ρ g', fun σ' H' z => z, ?_⟩
    refine hb.sim f F2 ad2 ρ2 g2 σ1 H2 _ R2 q _ ⟨fun F3 ad3 ρ3 g3 σ3 H3 er R3 h3 => ?_, fun F3 g3 H3 v r er => le.rt F3 g3 H3 v r (er.trans (eg2.trans eg1)), fun F3 ad3 ρ3 g3 σ3 H3 er => le.nx F3 ad3 ρ3 g3 σ3 H3 (er.trans (eg2.trans eg1)), fun F3 ad3 ρ3 g3 σ3 H3 er R3 h3 => ?_⟩
    · obtain ⟨m', hm, w⟩ := h3
      exact ⟨m', hm, F3, ad3, ρ3, g3, er.trans (eg2.trans eg1), R3, w⟩
    · obtain ⟨m', hm, w⟩ := h3
      exact ⟨m', hm, F3, ad3, ρ3, g3, er.trans (eg2.trans eg1), R3, w⟩
  | false =>
    rw [if_neg Bool.false_ne_true]
    replace q := ifb_f q
    exact le.nx F2 ad2 ρ2 g2 σ1 H2 (eg2.trans eg1) R2 q⟩
/-! ### a def -/
def slOf : Rs → Sl
  | .dt d => .dt d
  | .rs n => .rs n
  | .vv v => .vv v
  | _ => .un
def entry (N : List Str) (as : List Rs) : En := as.map slOf ++ List.replicate (N.length - as.length) .un
theorem argR_len {F : Hp} {g : G} {vs : List V} {as : List Rs} (h : ArgR Z F g vs as) : vs.length = as.length := Paired.length h
theorem argR_get {F : Hp} {g : G} : ∀ {vs : List V} {as : List Rs} {i : Nat} {r : Rs}, ArgR Z F g vs as → as[i]? = some r → ∃ v, vs[i]? = some v ∧ ArgV Z F g v r
  | _, _, _, _, .nil, e => by simp at e
  | _, _, 0, _, .cons h _, e => by simp at e; subst e; exact ⟨_, rfl, h⟩
  | _, _, i + 1, _, .cons _ t, e => by
    obtain ⟨v, h1, h2⟩ := argR_get (i := i) t (by simpa using e)
    exact ⟨v, by simpa using h1, h2⟩
theorem rel_entry {N : List Str} {vs : List V} {as : List Rs} {F H : Hp} {g : G} (h1 : Ex F H) (h2 : Z.R g F H) (h3 : ∀ a ∈ Z.fp g, F a = none) (h4 : ArgR Z F g vs as) (hN : as.length ≤ N.length) (lx : LeX Z ⟨H, F, Z.fp g⟩ (Z.ra g)) : Rel Z ⟨H, F, Z.fp g⟩ F (fun _ => 0) (entry N as) g (L2.start N vs) H := by
  have hl := argR_len h4
  have get : ∀ (i : Nat) (s : Sl), (entry N as)[i]? = some s → (i < as.length ∧ ∃ r, as[i]? = some r ∧ s = slOf r) ∨ s = .un := fun i s hi => by
    unfold entry at hi
    by_cases hlt : i < as.length
    · rw [List.getElem?_append_left (by rw [List.length_map]; exact hlt), List.getElem?_map] at hi
      cases e : as[i]? with
      | none => rw [e] at hi; cases hi
      | some r => rw [e] at hi; cases hi; exact .inl ⟨hlt, r, rfl, rfl⟩
    · rw [List.getElem?_append_right (by rw [List.length_map]; omega), List.getElem?_replicate] at hi
      split at hi
      · cases hi; exact .inr rfl
      · cases hi
  have nown : ∀ (i : Nat) (s : Sl), (entry N as)[i]? = some s → s.own = false := fun i s hi => by
    rcases get i s hi with ⟨_, r, _, rfl⟩ | rfl
    · cases r <;> rfl
    · rfl
  refine ⟨⟨⟨Evl.Ex.refl F, h1, fun b o e _ => e, fun b hb => hb, fun b o e => .inl e, h2, h3, fun a ha => .inl ha, fun a ha => Z.there h2 a ha⟩, ?_, fun i s hi => ?_, fun i j s t hi hj hs => ?_⟩, lx⟩
  · unfold entry L2.start
    rw [List.length_append, List.length_map, List.length_replicate, List.length_append, List.length_map, List.length_replicate, hl]
  · rcases get i s hi with ⟨hlt, r, hr, rfl⟩ | rfl
    · obtain ⟨v, hv, av⟩ := argR_get h4 hr
      have hst : (L2.start N vs)[i]? = some (some v) := by
        unfold L2.start
        rw [List.getElem?_append_left (by rw [List.length_map, hl]; exact hlt), List.getElem?_map, hv]; rfl
      cases r with
      | dt d => exact ⟨v, hst, av⟩
      | rs n => cases (show v = .ref (Z.ra g n) from av); exact hst
      | vv u => cases (show v = u from av); exact hst
      | _ => exact av.elim
    · trivial
  · rw [nown i s hi] at hs; cases hs
section
variable {P : Program} {w : World} {K : PySem.W.Frag} {mg : Str → Option Value} {base : Heap}
/-- what a body has to show -/
theorem body3 {Z : Zx K G} {W : WXH} {U' : UX G} {N : List Str} {H : Hp} {vs : List V} {Q : VK} {ts : TS} {t : DS G} {F : Hp} {g : G} {as : List Rs} {T : Rs → G → Prop} {n : Nat}
    (h1 : Ex F H) (h2 : Z.R g F H) (h3 : ∀ a ∈ Z.fp g, F a = none) (h4 : ArgR Z F g vs as) (hn : as.length = n) (hN : n ≤ N.length) (lx : LeX (Z.wish W U') ⟨H, F, Z.fp g⟩ (Z.ra g))
    (h6 : ∀ v r F' g' H', Frm Z F H g F' H' g' → Z.ra g' = Z.ra g → VRet Z F' H H' g' v r → T r g' → Q v H') (hd : SimS (Z.wish W U') ts t) (hb : t { nx := fun _ g' => T (.dt .none) g', rt := T } (entry N as) g) :
    ts { nx := fun _ H' => Q .non H', rt := Q } (L2.start N vs) H := by
  have fr : ∀ {F' : Hp} {g' : G} {H' : Hp}, Fin (Z.wish W U') ⟨H, F, Z.fp g⟩ F' g' H' → Frm Z F H g F' H' g' := fun {F' g' H'} r =>
    ⟨r.base, r.keep, r.keepN, r.new, r.sub, r.res, r.fpF, r.fpB⟩
  have R0 := rel_entry (Z := Z.wish W U') (N := N) h1 h2 h3 h4 (by rw [hn]; exact hN) lx
  refine hd ⟨H, F, Z.fp g⟩ F (fun _ => 0) (entry N as) g (L2.start N vs) H _ R0 hb _ ⟨fun F' ad ρ g' σ H' er R hT => ?_, fun F' g' H' v r er R hv hT => ?_, fun _ _ _ _ _ _ _ _ z => z.elim, fun _ _ _ _ _ _ _ _ z => z.elim⟩
  · exact h6 .non (.dt .none) F' g' H' (fr R.fin) er .non hT
  · refine h6 v r F' g' H' (fr R) er ?_ hT
    cases r with
    | dt d => exact hv
    | nl ds => obtain ⟨a, vs, rfl, n, q1, q2⟩ := hv; exact ⟨a, vs, rfl, n.2.1, n.1, n.2.2, q1, q2⟩
    | nd ds => obtain ⟨a, vs, rfl, n, q1, q2⟩ := hv; exact ⟨a, vs, rfl, n.2.1, n.1, n.2.2, q1, q2⟩
    | br i => exact hv
    | rs n => exact hv
    | vv u => exact hv
/-- THE RULE for a def that lets no error out -/
theorem fun3 {Z : Zx K G} {x qual : Str} {st : Stmt} {fa : Addr} {fd : FuncData} {N ps : List Str} {k : Nat} {S : Spec G} (Fu : Fun K x qual st fa fd) (Sc : FnScope N ps (defScope st)) (hS : ∀ as g T U, S as g T U → as.length = ps.length) (hN : ps.length ≤ N.length)
    (body : ∀ (cdv : Value) (A : Around) (outer : List Env) (s : Shared) (H : Hp) (E : XK), RoomG k (A.deeper (PyProof.Rows.envOfC qual (defScope st) s.heap.objs.size fa cdv)) →
      ∃ ts t, DSs (cxOf (L2.CX P w) P w K mg base N qual (defScope st) fa cdv A outer s H E).nox (Z.wish (fun _ _ _ _ => False) Un) (defBody st) ts t ∧ ∀ as g T U, S as g T U → t { nx := fun _ g' => T (.dt .none) g', rt := T } (entry N as) g) : FnG P w K mg base (L2.CX P w) (k + 1) fa fd ps (spZ Z S) := by
  refine funG Fu Sc (fun vs H Q E h => ?_) (fun cdv A outer s H vs Q E hr h => ?_)
  · obtain ⟨F, g, as, T, U, h1, h2, h3, h4, h5, _⟩ := h
    rw [argR_len h4]
    exact hS as g T U h5
  · obtain ⟨F, g, as, T, U, h1, h2, h3, h4, h5, h6, h7⟩ := h
    obtain ⟨ts, t, hd, hb⟩ := body cdv A outer s H E hr
    exact ⟨ts, hd.ps.nox, body3 h1 h2 h3 h4 (hS as g T U h5) hN (fun _ _ _ _ _ _ _ _ _ _ _ _ z => z.elim) h6 hd.sim (hb as g T U h5)⟩
/-- THE RULE for a def that may raise -/
theorem fun3X {Z : Zx K G} {x qual : Str} {st : Stmt} {fa : Addr} {fd : FuncData} {N ps : List Str} {k : Nat} {S : Spec G} (Fu : Fun K x qual st fa fd) (Sc : FnScope N ps (defScope st)) (hS : ∀ as g T U, S as g T U → as.length = ps.length) (hN : ps.length ≤ N.length)
    (body : ∀ (cdv : Value) (A : Around) (outer : List Env) (s : Shared) (H : Hp) (E : XK) (U : XU G), RoomG k (A.deeper (PyProof.Rows.envOfC qual (defScope st) s.heap.objs.size fa cdv)) →
      Takes (cxOf (L2.CX P w) P w K mg base N qual (defScope st) fa cdv A outer s H E) (fun c d _ H => E c d H) →
      PassesOwn (model P w) (A.deeper (PyProof.Rows.envOfC qual (defScope st) s.heap.objs.size fa cdv)) (PyProof.Rows.envOfC qual (defScope st) s.heap.objs.size fa cdv) (cxOf (L2.CX P w) P w K mg base N qual (defScope st) fa cdv A outer s H E).xe →
      ∃ ts t, DSs (cxOf (L2.CX P w) P w K mg base N qual (defScope st) fa cdv A outer s H E) (Z.wish (fun c d _ H => E c d H) (fun c fs _ g => U c fs g)) (defBody st) ts t ∧ ∀ as g T, S as g T U → t { nx := fun _ g' => T (.dt .none) g', rt := T } (entry N as) g) : FnG P w K mg base (L2.CX P w) (k + 1) fa fd ps (spZ Z S) := by
  refine funG Fu Sc (fun vs H Q E h => ?_) (fun cdv A outer s H vs Q E hr h => ?_)
  · obtain ⟨F, g, as, T, U, h1, h2, h3, h4, h5, _⟩ := h
    rw [argR_len h4]
    exact hS as g T U h5
  · obtain ⟨F, g, as, T, U, h1, h2, h3, h4, h5, h6, h7⟩ := h
    obtain ⟨ts, t, hd, hb⟩ := body cdv A outer s H E U hr (takes_of rfl rfl rfl rfl) (passes_of rfl)
    refine ⟨ts, hd.ps, body3 h1 h2 h3 h4 (hS as g T U h5) hN (fun F' ad ρ g' σ H' c dx fs er R hx hu => ?_) h6 hd.sim (hb as g T h5)⟩
    exact h7 c fs dx F' g' H' ⟨R.fin.base, R.fin.keep, R.fin.keepN, R.fin.new, R.fin.sub, R.fin.res, R.fin.fpF, R.fin.fpB⟩ er hx hu
end
end L3
end
section
/-! L3f: targets, loops, comprehensions, lists and dicts changed by methods. -/
namespace L2
open PySem PySem.Spec PyProof.Rows
def iSeq (K : PySem.W.Frag) (tl : TE) : TI := fun σ H R => tl σ H fun x H1 => (∃ a, x = .ref a ∧ (∃ xs, SqL K H1 a xs) ∧ R (Itl K a) H1) ∨ (∃ a, x = .ref a ∧ (∃ xs, SqT K H1 a xs) ∧ R (Itt K a) H1)
theorem pi_seq {X : Cx} {tg l : Expr} {tl : TE} (hl : PE X l tl) : PI X tg l (iSeq X.K tl) := by
  refine ⟨fun pins s σ H R I h => ?_⟩
  refine thn (hl.run pins s σ H _ I h) fun v s1 ⟨x, H1, I1, r1, q1⟩ => ?_
  rcases q1 with ⟨a, e, ⟨xs, hq⟩, q⟩ | ⟨a, e, ⟨xs, hq⟩, q⟩
  · subst e
    cases r1
    obtain ⟨its, rv, p, hz⟩ := I1.list hq
    refine wpAny_pyIter_list p.isList ?_
    exact ⟨s1.heap.objs.size, [s1.heap.objs.size], _, _, H1, rfl, I1.kept (t' := s1.toks) fun b o e => Heap.get?_push_of_some _ e, turn_list a _, ⟨_, Heap.get?_push_size _ rfl, rfl, rfl⟩, fp_of I1 (by simp), q⟩
  · subst e
    cases r1
    obtain ⟨its, rv, p, hz⟩ := I1.tuple hq
    refine wpAny_pyIter_tuple p ?_
    exact ⟨s1.heap.objs.size, [s1.heap.objs.size], _, _, H1, rfl, I1.kept (t' := s1.toks) fun b o e => Heap.get?_push_of_some _ e, turn_tuple a _, ⟨_, Heap.get?_push_size _ rfl, rfl, rfl⟩, fp_of I1 (by simp), q⟩
end L2
namespace L3
open PySem L2
variable {G : Type} {K : PySem.W.Frag} {X : Cx} {Z : Zx K G}
/-! ### targets -/
abbrev DG (G : Type) := PyData → En → G → (En → G → Prop) → Prop
abbrev DGs (G : Type) := List PyData → En → G → (En → G → Prop) → Prop
def SimG (Z : Zx K G) (tg : TG) (t : DG G) : Prop := ∀ f F ad ρ g σ H v d Q, Rel Z f F ad ρ g σ H → Da K F v d → t d ρ g Q → ∀ P : St → Hp → Prop,
  (∀ F' ad' ρ' g' σ' H', Ex F F' → Z.ra g' = Z.ra g → Rel Z f F' ad' ρ' g' σ' H' → Q ρ' g' → P σ' H') → tg v σ H P
def SimGs (Z : Zx K G) (tg : TGs) (t : DGs G) : Prop := ∀ f F ad ρ g σ H vs ds Q, Rel Z f F ad ρ g σ H → DaAll K F vs ds → t ds ρ g Q → ∀ P : St → Hp → Prop,
  (∀ F' ad' ρ' g' σ' H', Ex F F' → Z.ra g' = Z.ra g → Rel Z f F' ad' ρ' g' σ' H' → Q ρ' g' → P σ' H') → tg vs σ H P
structure DGt (X : Cx) (Z : Zx K G) (e : Expr) (tg : TG) (t : DG G) : Prop where
  pg : PG X e tg
  sim : SimG Z tg t
structure DGts (X : Cx) (Z : Zx K G) (es : List Expr) (tg : TGs) (t : DGs G) : Prop where
  pgs : PGs X es tg
  sim : SimGs Z tg t
def dN (j : Nat) : DG G := fun d ρ g Q => ltK j ρ.length (Q (ρ.set j (.dt d)) g)
theorem g_name (j : Nat) {x : Str} {pos : Pos} (hN : X.N.Nodup) (hx : Loc X.env.scope x := by first | exact Or.inl rfl | exact Or.inr rfl) (hi : X.N[j]? = some x := by rfl) (hf : X.fn x = true ∨ X.env.scope.names.lookup x = some .local := by first | exact .inl rfl | exact .inr rfl | assumption) :
    DGt X Z (.Name x pos) (gName j) (dN (G := G) j) := ⟨pg_name hN hi hx hf, fun f F ad ρ g σ H v d Q R h q P hP => hP F _ _ g _ H (Evl.Ex.refl F) rfl (R.setD (by rw [← R.len]; exact (ltK_e q).1) h) (ltK_e q).2⟩
def dGnil : DGs G := fun ds ρ g Q => match ds with
  | [] => Q ρ g
  | _ => False
def dGcons (t : DG G) (u : DGs G) : DGs G := fun ds ρ g Q => match ds with
  | d :: r => t d ρ g fun ρ1 g1 => u r ρ1 g1 Q
  | [] => False
theorem gs_nil : DGts X Z [] gNil (dGnil (G := G)) := ⟨pgs_nil, fun f F ad ρ g σ H vs ds Q R h q P hP => by
  cases h with
  | nil => exact ⟨rfl, hP F ad ρ g σ H (Evl.Ex.refl F) rfl R q⟩
  | cons _ _ => cases q⟩
theorem gs_cons {e : Expr} {es : List Expr} {t : TG} {u : TGs} {a : DG G} {b : DGs G} (h1 : DGt X Z e t a) (h2 : DGts X Z es u b) (hs : (assignEach (e :: es) X.env).map (·.2) = assign e X.env :: (assignEach es X.env).map (·.2) := by rfl) :
    DGts X Z (e :: es) (gCons t u) (dGcons a b) := ⟨pgs_cons h1.pg h2.pgs hs, fun f F ad ρ g σ H vs ds Q R h q P hP => by
  cases h with
  | nil => cases q
  | cons h r =>
    refine ⟨_, _, rfl, h1.sim f F ad ρ g σ H _ _ _ R h q _ fun F1 ad1 ρ1 g1 σ1 H1 e1 er1 R1 q1 => ?_⟩
    exact h2.sim f F1 ad1 ρ1 g1 σ1 H1 _ _ _ R1 (daAll_mono e1 r) q1 P fun F2 ad2 ρ2 g2 σ2 H2 e2 er2 R2 q2 => hP F2 ad2 ρ2 g2 σ2 H2 (e1.trans e2) (er2.trans er1) R2 q2⟩
def dGt (n : Nat) (t : DGs G) : DG G := fun d ρ g Q => match d with
  | .tuple ds => tt (Nat.beq ds.length n) (t ds ρ g Q)
  | .list ds => tt (Nat.beq ds.length n) (t ds ρ g Q)
  | _ => False
theorem g_tup {es : List Expr} {k : Nat} {t : TGs} {a : DGs G} {n : Nat} {pos : Pos} (h : DGts X Z es t a) (hc : X.calm = true := by rfl) (hn : (assignEach es X.env).length = n := by rfl) (hst : (assignEach es X.env).findIdx? (·.1) = none := by rfl) (hK : K = X.K := by rfl) :
    DGt X Z (.Tuple es k pos) (gSeq K n t) (dGt n a) := ⟨by rw [hK]; exact pg_seq hc h.pgs hn hst, fun f F ad ρ g σ H v d Q R hd q P hP => by
  cases hd with
  | lst h1 h2 => exact ⟨_, _, rfl, .inl (.inl (.inl (R.fin.sub _ _ h1))), h2.length.trans (Nat.eq_of_beq_eq_true (tt_e q).1), h.sim f F ad ρ g σ H _ _ Q R h2 (tt_e q).2 P hP⟩
  | tup h1 h2 => exact ⟨_, _, rfl, .inr (Evl.ex_t R.fin.sub h1), h2.length.trans (Nat.eq_of_beq_eq_true (tt_e q).1), h.sim f F ad ρ g σ H _ _ Q R h2 (tt_e q).2 P hP⟩
  | _ => cases q⟩
/-- a, b = e -/
def dAsgT (a : DT G) (t : DG G) : DS G := fun D ρ g => a ρ g fun r ρ1 g1 => fz1 r ρ1 fun d ρ2 => t d ρ2 g1 D.nx
theorem s_asg {tg e : Expr} {te : TE} {a : DT G} {gt : TG} {t : DG G} {pos : Pos} (he : DE X Z e te a) (hg : DGt X Z tg gt t) (hs : swapsWithSole [tg] e pos.line X.env = pure false := by rfl) (hw : swappedStores [tg] e X.env = pure none := by rfl)
    (h1 : (assignEach [tg] X.env).map (·.2) = [assign tg X.env] := by rfl) : DSt X Z (.Assign [tg] e pos) (tAsg te gt) (dAsgT a t) := ⟨ps_asg he.pe hg.pg hs hw h1, fun f F ad ρ g σ H D R h D2 le => by
  refine he.sim f F ad ρ g σ H _ R h _ fun x H1 q => ?_
  obtain ⟨F1, ad1, ρ1, g1, r1, e1, eg1, R1, v1, q⟩ := q
  obtain ⟨d, ρ2, ef, q⟩ := fz1_of q
  obtain ⟨F2, e2, R2, da⟩ := R1.hfz v1 ef
  exact hg.sim f F2 ad1 ρ2 g1 σ H1 x d _ R2 da q _ fun F3 ad3 ρ3 g3 σ3 H3 e3 er3 R3 q3 => le.nx F3 ad3 ρ3 g3 σ3 H3 (er3.trans eg1) R3 q3⟩
/-- a, b = x, y: both sides written -/
def prD (ds : List PyData) (k : PyData → PyData → Prop) : Prop := match ds with
  | [d, e] => k d e
  | _ => False
theorem prD_of {ds : List PyData} {k : PyData → PyData → Prop} (h : prD ds k) : ∃ d e, ds = [d, e] ∧ k d e := by
  unfold prD at h
  split at h
  · exact ⟨_, _, rfl, h⟩
  · exact h.elim
def dPar (i j : Nat) (t : DA G) : DS G := fun D ρ g => t ρ g fun rs ρ1 g1 => fzK rs ρ1 fun ds ρ2 => prD ds fun d e => ltK i ρ2.length (ltK j ρ2.length (D.nx ((ρ2.set i (.dt d)).set j (.dt e)) g1))
theorem s_par (i j : Nat) {x y : Str} {a b : Expr} {ta : TA} {t : DA G} {px py pt : Pos} {kt k2 pt2} {pos : Pos} (hN : X.N.Nodup) (ha : DAs X Z [a, b] ta t) (hi : X.N[i]? = some x := by rfl) (hj : X.N[j]? = some y := by rfl) (hij : i ≠ j := by decide)
    (hx : X.env.scope.names.lookup x = some .local := by rfl) (hy : X.env.scope.names.lookup y = some .local := by rfl) (hc : X.calm = true := by rfl)
    (hw : swappedStores [.Tuple [.Name x px, .Name y py] kt pt] (.Tuple [a, b] k2 pt2) X.env = pure (some [x, y]) := by rfl)
    (hs : swapsWithSole [.Tuple [.Name x px, .Name y py] kt pt] (.Tuple [a, b] k2 pt2) pos.line X.env = pure false := by rfl) : DSt X Z (.Assign [.Tuple [.Name x px, .Name y py] kt pt] (.Tuple [a, b] k2 pt2) pos) (tPar i j ta) (dPar i j t) :=
  ⟨by first | exact ps_par hc hN hi hj hij hx hy ha.pa hw hs | exact ps_par hc hN hi hj hij hx hy ha.pa hw, fun f F ad ρ g σ H D R h D2 le => by
    refine ha.sim f F ad ρ g σ H _ R h _ fun vs H1 q => ?_
    obtain ⟨F1, ad1, ρ1, g1, rs, e1, eg1, R1, v1, q⟩ := q
    obtain ⟨ds, ρ2, ef, q⟩ := fzK_of q
    obtain ⟨d, e, rfl, q⟩ := prD_of q
    obtain ⟨hi, q⟩ := ltK_e q
    obtain ⟨hj, q⟩ := ltK_e q
    obtain ⟨F2, e2, R2, da⟩ := R1.hfzA v1 ef
    cases da with
    | cons h1 t1 =>
      cases t1 with
      | cons h2 t2 =>
        cases t2
        refine ⟨_, _, rfl, ?_⟩
        have R3 := R2.setD (by rw [← R2.len]; exact hi) h1
        exact le.nx F2 _ _ g1 _ H1 eg1 (R3.setD (by rw [List.length_set, ← R2.len]; exact hj) h2) q⟩
/-! ### what is walked -/
abbrev DI (G : Type) := En → G → (List PyData → En → G → Prop) → Prop
def Wk (Z : Zx K G) (f : Fx) (F : Hp) (J : It) (items : List PyData) : Prop := ∀ f1 F1 ad ρ g σ H, Ex F F1 → Rel Z f1 F1 ad ρ g σ H → J.stop items.length H ∧ ∀ i, i < items.length → J.go i H ∧
  ∀ x H', J.yld i H x H' → ∃ F2 d, items[i]? = some d ∧ Ex F1 F2 ∧ Rel Z f1 F2 ad ρ g σ H' ∧ Da K F2 x d
def SimI (Z : Zx K G) (wi : TI) (t : DI G) : Prop := ∀ f F ad ρ g σ H Q, Rel Z f F ad ρ g σ H → t ρ g Q → ∀ R : It → Hp → Prop,
  (∀ J H' F' ad' ρ' g' items, Ex F F' → Z.ra g' = Z.ra g → Rel Z f F' ad' ρ' g' σ H' → Wk Z f F' J items → Q items ρ' g' → R J H') → wi σ H R
structure DIt (X : Cx) (Z : Zx K G) (tg e : Expr) (wi : TI) (t : DI G) : Prop where
  pi : PI X tg e wi
  sim : SimI Z wi t
def dSeqI (a : DT G) : DI G := fun ρ g Q => a ρ g fun r ρ1 g1 => fz1 r ρ1 fun d ρ2 => seqD (fun ds => Q ds ρ2 g1) (some d)
theorem wk_list {f : Fx} {F : Hp} {a : Addr} {vs : List V} {ds : List PyData} (h : F a = some (.lst vs)) (da : DaAll K F vs ds) : Wk Z f F (Itl K a) ds := fun f1 F1 ad ρ g σ H e R => by
  have hs : SqL K H a vs := .inl (.inl (R.fin.sub _ _ (e _ _ h)))
  refine ⟨⟨vs, hs, by rw [da.length]; exact Nat.le_refl _⟩, fun i hi => ?_⟩
  have hi2 : i < vs.length := by rw [da.length]; exact hi
  refine ⟨⟨vs, vs[i], hs, by simp [hi2]⟩, fun x H' y => ?_⟩
  obtain ⟨rfl, hx⟩ := y
  obtain ⟨d, hd, dv⟩ := da.getV (hx vs hs)
  exact ⟨F1, d, hd, Evl.Ex.refl F1, R, da_mono e dv⟩
theorem wk_tup {f : Fx} {F : Hp} {a : Addr} {vs : List V} {ds : List PyData} (h : SqT K F a vs) (da : DaAll K F vs ds) : Wk Z f F (Itt K a) ds := fun f1 F1 ad ρ g σ H e R => by
  have hs : SqT K H a vs := Evl.ex_t R.fin.sub (Evl.ex_t e h)
  refine ⟨⟨vs, hs, by rw [da.length]; exact Nat.le_refl _⟩, fun i hi => ?_⟩
  have hi2 : i < vs.length := by rw [da.length]; exact hi
  refine ⟨⟨vs, vs[i], hs, by simp [hi2]⟩, fun x H' y => ?_⟩
  obtain ⟨rfl, hx⟩ := y
  obtain ⟨d, hd, dv⟩ := da.getV (hx vs hs)
  exact ⟨F1, d, hd, Evl.Ex.refl F1, R, da_mono e dv⟩
theorem i_seq {tg e : Expr} {te : TE} {a : DT G} (h : DE X Z e te a) (hK : K = X.K := by rfl) : DIt X Z tg e (iSeq K te) (dSeqI a) := ⟨by rw [hK]; exact pi_seq h.pe, fun f F ad ρ g σ H Q R q P hP => by
  refine h.sim f F ad ρ g σ H _ R q _ fun x H1 q => ?_
  obtain ⟨F1, ad1, ρ1, g1, r1, e1, eg1, R1, v1, q⟩ := q
  obtain ⟨d, ρ2, ef, q⟩ := fz1_of q
  obtain ⟨F2, e2, R2, dv⟩ := R1.hfz v1 ef
  obtain ⟨ds, hd, q⟩ := seqD_of q
  rcases hd with hd | hd
  · cases hd
    cases dv with
    | lst h1 h2 => exact .inl ⟨_, rfl, ⟨_, .inl (.inl (R2.fin.sub _ _ h1))⟩, hP _ _ F2 ad1 ρ2 g1 ds (e1.trans e2) eg1 R2 (wk_list h1 h2) q⟩
  · cases hd
    cases dv with
    | tup h1 h2 => exact .inr ⟨_, rfl, ⟨_, Evl.ex_t R2.fin.sub h1⟩, hP _ _ F2 ad1 ρ2 g1 ds (e1.trans e2) eg1 R2 (wk_tup h1 h2) q⟩⟩
/-- range -/
def rngD (lo : Int) (n : Nat) : List PyData := (List.range n).map fun i => .int (lo + (i : Nat))
theorem rngD_len (lo : Int) (n : Nat) : (rngD lo n).length = n := by unfold rngD; rw [List.length_map, List.length_range]
theorem rngD_get (lo : Int) {n i : Nat} (h : i < n) : (rngD lo n)[i]? = some (.int (lo + (i : Nat))) := by
  unfold rngD
  rw [List.getElem?_map, List.getElem?_range h]; rfl
theorem wk_rng {f : Fx} {F : Hp} {lo : Int} {n : Nat} : Wk Z f F (Itr lo n) (rngD lo n) := fun f1 F1 ad ρ g σ H e R => by
  rw [rngD_len]
  refine ⟨Nat.le_refl _, fun i hi => ⟨hi, fun x H' y => ?_⟩⟩
  obtain ⟨rfl, rfl⟩ := y
  exact ⟨F1, _, rngD_get lo hi, Evl.Ex.refl F1, R, .int _⟩
def small62 (j : Int) : Bool := match j with
  | .ofNat n => Nat.ble (n + 1) 4611686018427387904
  | .negSucc n => Nat.ble (n + 1) 4611686018427387904
def rgK (n : Int) (p : Prop) : Prop := gd (small62 n) (-(2 ^ 62) ≤ n ∧ n < 2 ^ 62) p
theorem rgK_e {n : Int} {p : Prop} (h : rgK n p) : (-(2 ^ 62) ≤ n ∧ n < 2 ^ 62) ∧ p := gd_e (fun e => by
  cases n with
  | ofNat n => have := Nat.le_of_ble_eq_true e; constructor <;> (simp only [Int.ofNat_eq_natCast]; omega)
  | negSucc n => have := Nat.le_of_ble_eq_true e; constructor <;> omega) h
theorem rgK_of {n : Int} {p : Prop} (h0 : -(2 ^ 62) ≤ n) (h1 : n < 2 ^ 62) (hp : p) : rgK n p := gd_of ⟨h0, h1⟩ hp
def dRng1 (t : DA G) : DI G := fun ρ g Q => t ρ g fun rs ρ1 g1 => one (fun r => iiU (fun n => rgK n (Q (rngD 0 n.toNat) ρ1 g1)) (rd r ρ1)) rs
def dRng2 (t : DA G) : DI G := fun ρ g Q => t ρ g fun rs ρ1 g1 => two (fun r s => ii (fun lo n => rgK lo (rgK n (Q (rngD lo (n - lo).toNat) ρ1 g1))) (rd r ρ1) (rd s ρ1)) rs
theorem i_rng1 {tg a : Expr} {ta : TA} {t : DA G} {p pos : Pos} (hm : X.mg "range" = none) (ha : DAs X Z [a] ta t) (hg : Gl X "range" := by rfl) (hs : starEach [a] X.env = [(false, eval a X.env)] := by rfl) : DIt X Z tg (.Call (.Name "range" p) [a] [] pos) (iRng1 ta) (dRng1 t) :=
  ⟨pi_range1 hg hm ha.pa hs, fun f F ad ρ g σ H Q R q P hP => by
    refine ha.sim f F ad ρ g σ H _ R q _ fun vs H1 q => ?_
    obtain ⟨F1, ad1, ρ1, g1, rs, e1, eg1, R1, v1, q⟩ := q
    obtain ⟨r, rfl, q⟩ := one_of q
    obtain ⟨v, rfl, h0⟩ := vrs1 v1
    obtain ⟨n, e, q⟩ := iiU_of q
    obtain ⟨⟨b1, b2⟩, q⟩ := rgK_e q
    exact ⟨n, by rw [R1.rInt h0 e], b1, b2, hP _ _ F1 ad1 ρ1 g1 _ e1 eg1 R1 wk_rng q⟩⟩
theorem i_rng2 {tg a b : Expr} {ta : TA} {t : DA G} {p pos : Pos} (hm : X.mg "range" = none) (ha : DAs X Z [a, b] ta t) (hg : Gl X "range" := by rfl) (hs : starEach [a, b] X.env = [(false, eval a X.env), (false, eval b X.env)] := by rfl) (hs2 : starEach [b] X.env = [(false, eval b X.env)] := by rfl) :
    DIt X Z tg (.Call (.Name "range" p) [a, b] [] pos) (iRng2 ta) (dRng2 t) :=
  ⟨pi_range2 hg hm ha.pa hs hs2, fun f F ad ρ g σ H Q R q P hP => by
    refine ha.sim f F ad ρ g σ H _ R q _ fun vs H1 q => ?_
    obtain ⟨F1, ad1, ρ1, g1, rs, e1, eg1, R1, v1, q⟩ := q
    obtain ⟨r, s, rfl, q⟩ := two_of q
    obtain ⟨v, w, rfl, h0, h1⟩ := vrs2 v1
    obtain ⟨lo, n, ea, eb, q⟩ := ii_of q
    obtain ⟨hb1, q⟩ := rgK_e q
    obtain ⟨hb2, q⟩ := rgK_e q
    have hb := And.intro hb1.1 (And.intro hb1.2 hb2)
    exact ⟨lo, n, by rw [R1.rInt h0 ea, R1.rInt h1 eb], hb, hP _ _ F1 ad1 ρ1 g1 _ e1 eg1 R1 wk_rng q⟩⟩
/-- enumerate, zip -/
def enumD (ds : List PyData) : List PyData := (List.range ds.length).zipWith (fun (i : Nat) d => .tuple [.int (i : Nat), d]) ds
theorem enumD_len (ds : List PyData) : (enumD ds).length = ds.length := by unfold enumD; rw [List.length_zipWith, List.length_range, Nat.min_self]
theorem enumD_get {ds : List PyData} {i : Nat} {d : PyData} (h : ds[i]? = some d) : (enumD ds)[i]? = some (.tuple [.int (i : Nat), d]) := by
  have hi : i < ds.length := (List.getElem?_eq_some_iff.mp h).1
  unfold enumD
  rw [List.getElem?_zipWith, h, List.getElem?_range hi]
def zipD (ds es : List PyData) : List PyData := List.zipWith (fun d e => .tuple [d, e]) ds es
theorem zipD_len (ds es : List PyData) : (zipD ds es).length = min ds.length es.length := by unfold zipD; rw [List.length_zipWith]
theorem zipD_get {ds es : List PyData} {i : Nat} {d e : PyData} (h : ds[i]? = some d) (h2 : es[i]? = some e) : (zipD ds es)[i]? = some (.tuple [d, e]) := by
  unfold zipD
  rw [List.getElem?_zipWith, h, h2]
def SqF (K : PySem.W.Frag) (F : Hp) : Bool → Addr → List V → Prop
  | true, a, xs => SqT K F a xs
  | false, a, xs => F a = some (.lst xs)
theorem sqF_B {K : PySem.W.Frag} {F H : Hp} (e : Ex F H) {b : Bool} {a : Addr} {xs : List V} (h : SqF K F b a xs) : SqB K H b a xs := by
  cases b with
  | true => exact Evl.ex_t e h
  | false => exact .inl (.inl (e _ _ h))
theorem da_seq {K : PySem.W.Frag} {F : Hp} {v : V} {d : PyData} {k : List PyData → Prop} (h : Da K F v d) (q : seqD k (some d)) : ∃ ds b a vs, v = .ref a ∧ SqF K F b a vs ∧ DaAll K F vs ds ∧ k ds := by
  obtain ⟨ds, hd, q⟩ := seqD_of q
  rcases hd with hd | hd
  · cases hd
    cases h with
    | lst h1 h2 => exact ⟨ds, false, _, _, rfl, h1, h2, q⟩
  · cases hd
    cases h with
    | tup h1 h2 => exact ⟨ds, true, _, _, rfl, h1, h2, q⟩
theorem wk_pair {f1 : Fx} {F1 : Hp} {ad : Nat → Addr} {ρ : En} {g : G} {σ : St} {H : Hp} (R : Rel Z f1 F1 ad ρ g σ H) {T : Addr} {x y : V} {d e : PyData} (hT : H T = none) (hx : Da K F1 x d) (hy : Da K F1 y e) :
    ∃ F2, Ex F1 F2 ∧ Rel Z f1 F2 ad ρ g σ (upd H T (.tup [x, y])) ∧ Da K F2 (.ref T) (.tuple [d, e]) := by
  obtain ⟨R', n⟩ := R.laid (o := .tup [x, y]) hT
  obtain ⟨R2, ee⟩ := R'.froze n upd_same
  exact ⟨_, ee, R2, .tup (.inl (.inl upd_same)) (.cons (da_mono ee hx) (.cons (da_mono ee hy) .nil))⟩
def dEnum (t : DA G) : DI G := fun ρ g Q => t ρ g fun rs ρ1 g1 => one (fun r => fz1 r ρ1 fun d ρ2 => seqD (fun ds => Q (enumD ds) ρ2 g1) (some d)) rs
def dZip (t : DA G) : DI G := fun ρ g Q => t ρ g fun rs ρ1 g1 => fzK rs ρ1 fun ls ρ2 => prD ls fun d e => seqD (fun ds => seqD (fun es => Q (zipD ds es) ρ2 g1) (some e)) (some d)
theorem i_enum {e : Expr} {ta : TA} {t : DA G} {p pos tpos : Pos} {elts : List Expr} {kk : Nat} (hm : X.mg "enumerate" = none) (ha : DAs X Z [e] ta t) (hg : Gl X "enumerate" := by rfl) (hs : starEach [e] X.env = [(false, eval e X.env)] := by rfl) (hK : K = X.K := by rfl) :
    DIt X Z (.Tuple elts kk tpos) (.Call (.Name "enumerate" p) [e] [] pos) (iEnumB K ta) (dEnum t) := ⟨by rw [hK]; exact pi_enumB hg hm ha.pa hs, fun f F ad ρ g σ H Q R q P hP => by
  refine ha.sim f F ad ρ g σ H _ R q _ fun vs H1 q => ?_
  obtain ⟨F1, ad1, ρ1, g1, rs, e1, eg1, R1, v1, q⟩ := q
  obtain ⟨r, rfl, q2⟩ := one_of q
  obtain ⟨d, ρ2, ef, q⟩ := fz1_of q2
  obtain ⟨v, rfl, h0⟩ := vrs1 v1
  obtain ⟨F2, e2, R2, dv⟩ := R1.hfz h0 ef
  obtain ⟨ds, b, a, vs, rfl, hs, da, q⟩ := da_seq dv q
  refine ⟨b, a, vs, rfl, sqF_B R2.fin.sub hs, hP _ _ F2 ad1 ρ2 g1 _ (e1.trans e2) eg1 R2 ?_ q⟩
  intro f3 F3 ad3 ρ3 g3 σ3 H3 e3 R3
  have hs3 : SqB K H3 b a vs := sqF_B (e3.trans R3.fin.sub) hs
  rw [enumD_len]
  refine ⟨⟨vs, hs3, da.length⟩, fun i hi => ?_⟩
  have hi2 : i < vs.length := by rw [da.length]; exact hi
  refine ⟨⟨vs, vs[i], hs3, by simp [hi2]⟩, fun x H' y => ?_⟩
  obtain ⟨T, y, rfl, hT, rfl, hy⟩ := y
  obtain ⟨d, hd, dv⟩ := da.getV (hy vs hs3)
  obtain ⟨F4, e4, R4, dt⟩ := wk_pair R3 hT (.int (i : Nat)) (da_mono e3 dv)
  exact ⟨F4, _, enumD_get hd, e4, R4, dt⟩⟩
theorem i_zip {e e2 : Expr} {ta : TA} {t : DA G} {p pos tpos : Pos} {elts : List Expr} {kk : Nat} (hm : X.mg "zip" = none) (ha : DAs X Z [e, e2] ta t) (hg : Gl X "zip" := by rfl) (hs : starEach [e, e2] X.env = (false, eval e X.env) :: starEach [e2] X.env := by rfl)
    (hpl : (backTo pos (starEach [e2] X.env)).any (·.1) = false := by rfl) (hK : K = X.K := by rfl) : DIt X Z (.Tuple elts kk tpos) (.Call (.Name "zip" p) [e, e2] [] pos) (iZipB K ta) (dZip t) := ⟨by rw [hK]; exact pi_zipB hg hm ha.pa hs hpl, fun f F ad ρ g σ H Q R q P hP => by
  refine ha.sim f F ad ρ g σ H _ R q _ fun vs H1 q => ?_
  obtain ⟨F1, ad1, ρ1, g1, rs, e1, eg1, R1, v1, q⟩ := q
  obtain ⟨ls, ρ2, ef, q⟩ := fzK_of q
  obtain ⟨d, e, rfl, q⟩ := prD_of q
  obtain ⟨F2, e2, R2, dal⟩ := R1.hfzA v1 ef
  cases dal with
  | cons dv1 t1 =>
    cases t1 with
    | cons dv2 t2 =>
      cases t2
      obtain ⟨ds, b1, a1, vs1, rfl, hs1, da1, q⟩ := da_seq dv1 q
      obtain ⟨es, b2, a2, vs2, rfl, hs2, da2, q⟩ := da_seq dv2 q
      refine ⟨b1, b2, a1, a2, vs1, vs2, rfl, sqF_B R2.fin.sub hs1, sqF_B R2.fin.sub hs2, hP _ _ F2 ad1 ρ2 g1 _ (e1.trans e2) eg1 R2 ?_ q⟩
      intro f3 F3 ad3 ρ3 g3 σ3 H3 e3 R3
      have hs3 : SqB K H3 b1 a1 vs1 := sqF_B (e3.trans R3.fin.sub) hs1
      have hs4 : SqB K H3 b2 a2 vs2 := sqF_B (e3.trans R3.fin.sub) hs2
      have l1 := da1.length
      have l2 := da2.length
      rw [zipD_len]
      refine ⟨⟨vs1, vs2, hs3, hs4, by rw [l1, l2]⟩, fun i hi => ?_⟩
      have hi1 : i < vs1.length := by omega
      have hi2 : i < vs2.length := by omega
      refine ⟨⟨vs1, vs2, vs1[i], vs2[i], hs3, hs4, by simp [hi1], by simp [hi2]⟩, fun x H' y => ?_⟩
      obtain ⟨T, x1, x2, rfl, hT, rfl, hx1, hx2⟩ := y
      obtain ⟨d1, hd1, dw1⟩ := da1.getV (hx1 vs1 hs3)
      obtain ⟨d2, hd2, dw2⟩ := da2.getV (hx2 vs2 hs4)
      obtain ⟨F4, e4, R4, dt⟩ := wk_pair R3 hT (da_mono e3 dw1) (da_mono e3 dw2)
      exact ⟨F4, _, zipD_get hd1 hd2, e4, R4, dt⟩⟩
/-! ### for -/
theorem Fin.back {f : Fx} {F F1 : Hp} {g g1 : G} {H H1 : Hp} (a : Fin Z f F g H) (b : Fin Z ⟨f.B, F, f.fp0⟩ F1 g1 H1) : Fin Z f F1 g1 H1 where
  base := a.base.trans b.base
  sub := b.sub
  keep := b.keep
  keepN := b.keepN
  new := fun c o h => by
    rcases b.new c o h with z | z
    · exact a.new c o z
    · exact .inr z
  res := b.res
  fpF := b.fpF
  fpB := b.fpB
  fpo := b.fpo
theorem Rel0.back {f : Fx} {F F1 : Hp} {ad : Nat → Addr} {ρ : En} {g g1 : G} {σ : St} {H H1 : Hp} (a : Fin Z f F g H) (R : Rel0 Z ⟨f.B, F, f.fp0⟩ F1 ad ρ g1 σ H1) : Rel0 Z f F1 ad ρ g1 σ H1 :=
  ⟨a.back R.fin, R.len, fun i s h => by
    have q := R.slot i s h
    cases s <;> exact q, R.inj⟩
theorem Rel.back {f : Fx} {F F1 : Hp} {ad ad0 : Nat → Addr} {ρ ρ0 : En} {g g1 : G} {σ σ0 : St} {H H1 : Hp} (a : Rel Z f F ad0 ρ0 g σ0 H) (er : Z.ra g1 = Z.ra g) (R : Rel Z ⟨f.B, F, f.fp0⟩ F1 ad ρ g1 σ H1) : Rel Z f F1 ad ρ g1 σ H1 :=
  ⟨Rel0.back a.fin R.toRel0, er ▸ a.lx⟩
theorem Rel.fwd {f : Fx} {F : Hp} {ad : Nat → Addr} {ρ : En} {g : G} {σ : St} {H : Hp} (R : Rel Z f F ad ρ g σ H) : Rel Z ⟨f.B, F, f.fp0⟩ F ad ρ g σ H :=
  ⟨⟨⟨Evl.Ex.refl F, R.fin.sub, R.fin.keep, R.fin.keepN, fun b o h => .inl h, R.fin.res, R.fin.fpF, R.fin.fpB, R.fin.fpo⟩, R.len, fun i s h => by
    have q := R.slot i s h
    cases s <;> exact q, R.inj⟩, fun F' ad' ρ' g' σ' H' c dx fs er R' => R.lx F' ad' ρ' g' σ' H' c dx fs er (Rel0.back R.fin R')⟩
theorem VFin.back {f : Fx} {F F1 : Hp} {g : G} {H : Hp} {v : V} {r : Rs} (h : VFin Z ⟨f.B, F, f.fp0⟩ F1 g H v r) : VFin Z f F1 g H v r := by cases r <;> exact h
structure ForP (items : List PyData) (tg : DG G) (b : DS G) (D : D3 G) (ρ1 : En) (g1 : G) : Prop where
  ex : ∃ I : Nat → En → G → Prop, I 0 ρ1 g1 ∧ (∀ k d ρ' g', items[k]? = some d → I k ρ' g' → tg d ρ' g' fun ρ2 g2 => b { D with nx := I (k + 1), ct := I (k + 1), bk := D.nx } ρ2 g2) ∧ (∀ ρ' g', I items.length ρ' g' → D.nx ρ' g')
def dFor (i : DI G) (tg : DG G) (b : DS G) : DS G := fun D ρ g => i ρ g fun items ρ1 g1 => ForP items tg b D ρ1 g1
theorem s_for {iter tgE : Expr} {body : List Stmt} {wi : TI} {gt : TG} {tb : TS} {di : DI G} {dg : DG G} {db : DS G} {pos : Pos} (hi : DIt X Z tgE iter wi di) (hg : DGt X Z tgE gt dg) (hb : DSs X Z body tb db) (hc : X.calm = true := by rfl) (hp : PassesOwn (model X.prog X.w) X.A X.env X.xe := by exact PassesOwn.never) (hs : ∀ x, foldedSetIterable iter X.env x = pure x := by intro _; rfl) :
    DSt X Z (.For tgE iter body [] pos) (tFor wi gt tb) (dFor di dg db) := ⟨ps_for hp hc hi.pi hg.pg hb.ps hs, fun f F ad ρ g σ H D R h D2 le => by
  refine hi.sim f F ad ρ g σ H _ R h _ fun J H1 F1 ad1 ρ1 g1 items e1 eg1 R1 wk q => ?_
  obtain ⟨⟨I, h0, hs, hd⟩⟩ := q
  refine ⟨fun i m σ' H' => m = items.length - i ∧ i ≤ items.length ∧ ∃ F2 ad2 ρ2 g2, Z.ra g2 = Z.ra g ∧ Rel Z ⟨f.B, F1, f.fp0⟩ F2 ad2 ρ2 g2 σ' H' ∧ I i ρ2 g2, ⟨items.length, rfl, Nat.zero_le _, F1, ad1, ρ1, g1, eg1, R1.fwd, h0⟩, fun i m σ2 H2 hW => ?_⟩
  obtain ⟨rfl, hle, F2, ad2, ρ2, g2, eg2, R2, hI⟩ := hW
  obtain ⟨stop, go⟩ := wk _ F2 ad2 ρ2 g2 σ2 H2 R2.fin.base R2
  by_cases hlt : i < items.length
  · obtain ⟨hgo, hy⟩ := go i hlt
    refine .inr ⟨hgo, fun σ' H' => ∃ F2 ad2 ρ2 g2, Z.ra g2 = Z.ra g ∧ Rel Z ⟨f.B, F1, f.fp0⟩ F2 ad2 ρ2 g2 σ' H' ∧ I (i + 1) ρ2 g2, fun σ' H' z => ⟨items.length - (i + 1), by omega, rfl, hlt, z⟩, fun x H' y => ?_⟩
    obtain ⟨F3, d, hd3, e3, R3, dv⟩ := hy x H' y
    refine hg.sim _ F3 ad2 ρ2 g2 σ2 H' x d _ R3 dv (hs i d ρ2 g2 hd3 hI) _ fun F4 ad4 ρ4 g4 σ4 H4 e4 er4 R4 q4 => ?_
    have er : Z.ra g4 = Z.ra g := er4.trans eg2
    exact hb.sim _ F4 ad4 ρ4 g4 σ4 H4 _ R4 q4 _ ⟨fun F5 ad5 ρ5 g5 σ5 H5 er5 R5 q5 => ⟨F5, ad5, ρ5, g5, er5.trans er, R5, q5⟩, fun F5 g5 H5 v r er5 R5 hv q5 => le.rt F5 g5 H5 v r (er5.trans er) (R1.fin.back R5) hv.back q5,
      fun F5 ad5 ρ5 g5 σ5 H5 er5 R5 q5 => le.nx F5 ad5 ρ5 g5 σ5 H5 (er5.trans er) (Rel.back R1 ((er5.trans er).trans eg1.symm) R5) q5, fun F5 ad5 ρ5 g5 σ5 H5 er5 R5 q5 => ⟨F5, ad5, ρ5, g5, er5.trans er, R5, q5⟩⟩
  · have e : i = items.length := by omega
    subst e
    exact .inl ⟨stop, le.nx F2 ad2 ρ2 g2 σ2 H2 eg2 (Rel.back R1 (eg2.trans eg1.symm) R2) (hd ρ2 g2 hI)⟩⟩
/-! ### comprehensions -/
def wipeE (ρ : En) : List Nat → En
  | [] => ρ
  | v :: vs => (wipeE ρ vs).set v .un
theorem wipeE_len (ρ : En) : ∀ vs : List Nat, (wipeE ρ vs).length = ρ.length
  | [] => rfl
  | v :: vs => by unfold wipeE; rw [List.length_set, wipeE_len ρ vs]
theorem wipeE_out {ρ : En} {i : Nat} : ∀ {vs : List Nat}, i ∉ vs → (wipeE ρ vs)[i]? = ρ[i]?
  | [], _ => rfl
  | v :: vs, h => by
    unfold wipeE
    rw [List.getElem?_set_ne (fun e => h (by rw [e]; exact List.mem_cons_self)), wipeE_out fun z => h (List.mem_cons_of_mem _ z)]
theorem wipeE_in {ρ : En} {i : Nat} : ∀ {vs : List Nat}, i ∈ vs → i < ρ.length → (wipeE ρ vs)[i]? = some .un
  | v :: vs, h, hl => by
    unfold wipeE
    by_cases e : v = i
    · subst e; rw [List.getElem?_set_self (by rw [wipeE_len]; exact hl)]
    · rw [List.getElem?_set_ne e]
      rcases List.mem_cons.mp h with z | z
      · exact absurd z.symm e
      · exact wipeE_in z hl
theorem Rel.slots {f : Fx} {F : Hp} {ad : Nat → Addr} {ρ ρ' : En} {g : G} {σ σ' : St} {H : Hp} (R : Rel Z f F ad ρ g σ H) (hl : ρ'.length = σ'.length) (h : ∀ (i : Nat) (s : Sl), ρ'[i]? = some s → s = .un ∨ (ρ[i]? = some s ∧ σ'[i]? = σ[i]?)) : Rel Z f F ad ρ' g σ' H :=
  ⟨⟨R.fin, hl, fun i s hi => by
    rcases h i s hi with rfl | ⟨h1, h2⟩
    · trivial
    · have q := R.slot i s h1
      cases s with
      | un => trivial
      | dt d => obtain ⟨v, q1, q2⟩ := q; exact ⟨v, by rw [h2]; exact q1, q2⟩
      | ls d => obtain ⟨q1, q2⟩ := q; exact ⟨by rw [h2]; exact q1, q2⟩
      | dk d => obtain ⟨q1, q2⟩ := q; exact ⟨by rw [h2]; exact q1, q2⟩
      | rs n => exact h2.trans q
      | vv v => exact h2.trans q,
  fun i j s t hi hj hs ht e => by
    rcases h i s hi with rfl | ⟨h1, _⟩
    · cases hs
    · rcases h j t hj with rfl | ⟨h2, _⟩
      · cases ht
      · exact R.inj i j s t h1 h2 hs ht e⟩, R.lx⟩
theorem Rel.wipe {f : Fx} {F : Hp} {ad : Nat → Addr} {ρ : En} {g : G} {σ : St} {H : Hp} (R : Rel Z f F ad ρ g σ H) (vs : List Nat) : Rel Z f F ad (wipeE ρ vs) g (wipe σ vs) H :=
  R.slots (by rw [wipeE_len, wipe_length]; exact R.len) fun i s hi => by
    by_cases hm : i ∈ vs
    · have hl : i < ρ.length := by
        have := (List.getElem?_eq_some_iff.mp hi).1
        rwa [wipeE_len] at this
      rw [wipeE_in hm hl] at hi
      cases hi
      exact .inl rfl
    · rw [wipeE_out hm] at hi
      exact .inr ⟨hi, wipe_out hm⟩
theorem Rel0.unhide {f : Fx} {F F1 : Hp} {ad1 : Nat → Addr} {ρ1 : En} {g g1 : G} {σ1 : St} {H H1 : Hp} (a : Fin Z f F g H) {D : Addr} {o : HO} (n : OwnA Z f F g D) (h0 : D ∉ f.fp0) (R : Rel0 Z ⟨upd f.B D o, F, f.fp0⟩ F1 ad1 ρ1 g1 σ1 H1) :
    Rel0 Z f F1 ad1 ρ1 g1 σ1 H1 ∧ NewA Z f F1 ad1 ρ1 g1 D ∧ H1 D = some o := by
  have hF : F1 D = none := by
    cases e : F1 D with
    | none => rfl
    | some u =>
      rcases R.fin.new D u e with z | z
      · have z : F D = some u := z
        rw [n.1] at z; cases z
      · have z : upd f.B D o D = none := z
        rw [upd_same] at z; cases z
  have hfp : D ∉ Z.fp g1 := fun hm => by
    rcases R.fin.fpB D hm with z | z
    · exact h0 z
    · have z : upd f.B D o D = none := z
      rw [upd_same] at z; cases z
  have back : ∀ {b}, (upd f.B D o) b = none → f.B b = none ∧ b ≠ D := fun {b} z => by
    by_cases e : b = D
    · subst e; rw [upd_same] at z; cases z
    · rw [upd_ne e] at z; exact ⟨z, e⟩
  have nB : ∀ {b u}, f.B b = some u → b ≠ D := fun {b u} z e => by rw [e, n.2.1] at z; cases z
  refine ⟨⟨⟨a.base.trans R.fin.base, R.fin.sub, fun b u hb hf => R.fin.keep b u (by show upd f.B D o b = some u; rw [upd_ne (nB hb)]; exact hb) hf, fun b hb => R.fin.keepN b ?_, fun b u h => ?_, R.fin.res, R.fin.fpF, fun c hc => ?_, a.fpo⟩, R.len, fun i s hi => ?_, R.inj⟩, ⟨⟨hF, n.2.1, hfp⟩, fun i s hi hs => ?_⟩, R.fin.keep D o upd_same h0⟩
  · cases e : f.B b with
    | none => exact absurd e hb
    | some u => show upd f.B D o b ≠ none; rw [upd_ne (nB e), e]; intro z; cases z
  · rcases R.fin.new b u h with z | z
    · exact a.new b u z
    · exact .inr (back z).1
  · rcases R.fin.fpB c hc with z | z
    · exact .inl z
    · exact .inr (back z).1
  · have q := R.slot i s hi
    cases s with
    | ls ds => obtain ⟨q1, ⟨z1, z2, z3⟩, q3⟩ := q; exact ⟨q1, ⟨z1, (back z2).1, z3⟩, q3⟩
    | dk ds => obtain ⟨q1, ⟨z1, z2, z3⟩, q3⟩ := q; exact ⟨q1, ⟨z1, (back z2).1, z3⟩, q3⟩
    | _ => exact q
  · have q := R.slot i s hi
    cases s with
    | ls ds => obtain ⟨q1, ⟨z1, z2, z3⟩, q3⟩ := q; exact (back z2).2
    | dk ds => obtain ⟨q1, ⟨z1, z2, z3⟩, q3⟩ := q; exact (back z2).2
    | _ => cases hs
/-- the list that is being made lies apart: it is taken to the caller's -/
theorem Rel.hide {f : Fx} {F : Hp} {ad : Nat → Addr} {ρ : En} {g : G} {σ : St} {H : Hp} (R : Rel Z f F ad ρ g σ H) {D : Addr} {o : HO} (n : NewA Z f F ad ρ g D) (h0 : D ∉ f.fp0) (hD : H D = some o) : Rel Z ⟨upd f.B D o, F, f.fp0⟩ F ad ρ g σ H := by
  refine ⟨⟨⟨Evl.Ex.refl F, R.fin.sub, fun b u hb hf => ?_, fun b hb => ?_, fun b u h => .inl h, R.fin.res, R.fin.fpF, fun a ha => ?_, fun a ha => ?_⟩, R.len, fun i s hi => ?_, R.inj⟩, fun F' ad' ρ' g' σ' H' c dx fs er R' => R.lx F' ad' ρ' g' σ' H' c dx fs er (Rel0.unhide R.fin n.1 h0 R').1⟩
  · have hb : upd f.B D o b = some u := hb
    by_cases e : b = D
    · subst e; rw [upd_same] at hb; cases hb; exact hD
    · rw [upd_ne e] at hb; exact R.fin.keep b u hb hf
  · have hb : upd f.B D o b ≠ none := hb
    by_cases e : b = D
    · subst e; rw [hD]; intro z; cases z
    · rw [upd_ne e] at hb; exact R.fin.keepN b hb
  · rcases R.fin.fpB a ha with z | z
    · exact .inl z
    · right
      show upd f.B D o a = none
      rw [upd_ne fun e => n.1.2.2 (by rw [← e]; exact ha)]
      exact z
  · show upd f.B D o a ≠ none
    by_cases e : a = D
    · subst e; exact absurd ha h0
    · rw [upd_ne e]; exact R.fin.fpo a ha
  · have q := R.slot i s hi
    cases s with
    | ls ds => obtain ⟨q1, ⟨z1, z2, z3⟩, q3⟩ := q; exact ⟨q1, ⟨z1, by show upd f.B D o (ad i) = none; rw [upd_ne (n.2 i _ hi rfl)]; exact z2, z3⟩, q3⟩
    | dk ds => obtain ⟨q1, ⟨z1, z2, z3⟩, q3⟩ := q; exact ⟨q1, ⟨z1, by show upd f.B D o (ad i) = none; rw [upd_ne (n.2 i _ hi rfl)]; exact z2, z3⟩, q3⟩
    | _ => exact q
theorem Rel.unhide {f : Fx} {F F1 : Hp} {ad ad1 : Nat → Addr} {ρ ρ1 : En} {g g1 : G} {σ σ1 : St} {H H1 : Hp} (a : Rel Z f F ad ρ g σ H) (er : Z.ra g1 = Z.ra g) {D : Addr} {o : HO} (n : OwnA Z f F g D) (h0 : D ∉ f.fp0) (R : Rel Z ⟨upd f.B D o, F, f.fp0⟩ F1 ad1 ρ1 g1 σ1 H1) :
    Rel Z f F1 ad1 ρ1 g1 σ1 H1 ∧ NewA Z f F1 ad1 ρ1 g1 D ∧ H1 D = some o := by
  obtain ⟨h1, h2⟩ := Rel0.unhide a.fin n h0 R.toRel0
  exact ⟨⟨h1, er ▸ a.lx⟩, h2⟩
structure DTs (X : Cx) (Z : Zx K G) (ifs : List Expr) (tt : TT) (t : DB G) : Prop where
  pts : PTs X ifs tt
  sim : SimT Z tt t
def dYes : DB G := fun ρ g Q => Q true ρ g
theorem ts_nil : DTs X Z [] tYes (dYes (G := G)) := ⟨pts_nil, fun f F ad ρ g σ H Q R h P hP => hP true H ⟨F, ad, ρ, g, Evl.Ex.refl F, rfl, R, h⟩⟩
theorem ts_one {c : Expr} {tt : TT} {t : DB G} (h : DTe X Z c tt t) : DTs X Z [c] tt t := ⟨pts_one h.pt, h.sim⟩
theorem wipe_wipe (σ : St) (vs : List Nat) : wipe (wipe σ vs) vs = wipe σ vs := by
  apply List.ext_getElem?
  intro i
  by_cases hm : i ∈ vs
  · have key : ∀ (vs : List Nat) (τ : St), i ∈ vs → (wipe τ vs)[i]? = if i < τ.length then some none else none := by
      intro vs
      induction vs with
      | nil => intro τ h; cases h
      | cons v r ih =>
        intro τ h
        unfold wipe
        by_cases e : v = i
        · subst e
          by_cases hl : v < τ.length
          · rw [List.getElem?_set_self (by rw [wipe_length]; exact hl), if_pos hl]
          · rw [List.getElem?_eq_none (by rw [List.length_set, wipe_length]; omega), if_neg hl]
        · rw [List.getElem?_set_ne e]
          rcases List.mem_cons.mp h with z | z
          · exact absurd z.symm e
          · exact ih τ z
    rw [key vs _ hm, key vs _ hm, wipe_length]
  · rw [wipe_out hm]
/-- the target of a comprehension's sets its own slots alone -/
def GOwn (gt : TG) (vs : List Nat) : Prop := ∀ v σ H (P P' : St → Hp → Prop), (∀ σ' H', wipe σ' vs = wipe σ vs → P σ' H' → P' σ' H') → gt v σ H P → gt v σ H P'
def unAll (ρ : En) : List Nat → Prop
  | [] => True
  | i :: r => ρ[i]? = some .un ∧ unAll ρ r
theorem unAll_of {ρ : En} : ∀ {vs : List Nat}, unAll ρ vs → ∀ i ∈ vs, ρ[i]? = some .un
  | _ :: _, h, i, hm => by
    rcases List.mem_cons.mp hm with rfl | hm
    · exact h.1
    · exact unAll_of h.2 i hm
structure LcP (items : List PyData) (tg : DG G) (c : DB G) (e : DT G) (vs : List Nat) (ρ1 : En) (g1 : G) (Q : Rs → En → G → Prop) : Prop where
  ex : ∃ I : Nat → List PyData → En → G → Prop, I 0 [] (wipeE ρ1 vs) g1 ∧
    (∀ k d acc ρ' g', items[k]? = some d → I k acc ρ' g' → tg d ρ' g' fun ρ2 g2 => c ρ2 g2 fun b ρ3 g3 => ifb b (e ρ3 g3 fun r ρ4 g4 => fz1 r ρ4 fun d' ρ5 => I (k + 1) (acc ++ [d']) (wipeE ρ5 vs) g4) (I (k + 1) acc (wipeE ρ3 vs) g3)) ∧
    (∀ acc ρ' g', I items.length acc ρ' g' → unAll ρ' vs ∧ Q (.nl acc) ρ' g')
def dLc (i : DI G) (tg : DG G) (c : DB G) (e : DT G) (vs : List Nat) : DT G := fun ρ g Q => i ρ g fun items ρ1 g1 => leK items.length 16777216 (LcP items tg c e vs ρ1 g1 Q)
theorem sim_lc {wi : TI} {gt : TG} {tt : TT} {te : TE} {i : DI G} {tg : DG G} {c : DB G} {e : DT G} {vs : List Nat} (hi : SimI Z wi i) (hg : SimG Z gt tg) (ho : GOwn gt vs) (hc : SimT Z tt c) (he : Sim Z te e) : Sim Z (tLc wi gt tt te vs) (dLc i tg c e vs) := fun f F ad ρ g σ H Q R h P hP => by
  refine hi f F ad ρ g σ H _ R h _ fun J H1 F1 ad1 ρ1 g1 items e1 eg1 R1 wk q D hD => ?_
  obtain ⟨hlen, ⟨I, h0, hs, hd⟩⟩ := leK_e q
  have hD0 : D ∉ f.fp0 := fun hm => R1.fin.keepN D (R1.fin.fpo D hm) hD
  obtain ⟨R1', n1⟩ := R1.laid (o := .lst []) hD
  have nw : ∀ {F2 : Hp} {ad2 : Nat → Addr} {ρ2 : En} {g2 : G}, NewA Z f F2 ad2 ρ2 g2 D → NewA Z f F2 ad2 (wipeE ρ2 vs) g2 D := fun {F2 ad2 ρ2 g2} n => ⟨n.1, fun j s hj hs => by
    by_cases hm : j ∈ vs
    · have hl : j < ρ2.length := by
        have := (List.getElem?_eq_some_iff.mp hj).1
        rwa [wipeE_len] at this
      rw [wipeE_in hm hl] at hj; cases hj; cases hs
    · rw [wipeE_out hm] at hj; exact n.2 j s hj hs⟩
  refine ⟨fun k m H' => m = items.length - k ∧ k ≤ items.length ∧ ∃ F2 ad2 ρ2 g2 av acc, Ex F1 F2 ∧ Z.ra g2 = Z.ra g ∧ Rel Z f F2 ad2 ρ2 g2 (wipe σ vs) H' ∧ NewA Z f F2 ad2 ρ2 g2 D ∧ H' D = some (.lst av) ∧ DaAll K F2 av acc ∧ acc.length ≤ k ∧ I k acc ρ2 g2,
    ⟨items.length, rfl, Nat.zero_le _, F1, ad1, wipeE ρ1 vs, g1, [], [], Evl.Ex.refl F1, eg1, R1'.wipe vs, nw n1, upd_same, .nil, Nat.le_refl _, h0⟩, fun k m H2 hW => ?_⟩
  obtain ⟨rfl, hle, F2, ad2, ρ2, g2, av, acc, e2, eg2, R2, n2, hD2, da2, hal, hI⟩ := hW
  obtain ⟨stop, go⟩ := wk _ F2 ad2 ρ2 g2 (wipe σ vs) H2 e2 R2
  by_cases hlt : k < items.length
  · obtain ⟨hgo, -⟩ := go k hlt
    have Rh := R2.hide n2 hD0 hD2
    obtain ⟨-, hy⟩ := (wk _ F2 ad2 ρ2 g2 (wipe σ vs) H2 e2 Rh).2 k hlt
    refine .inr ⟨hgo, fun H' => ∃ F2 ad2 ρ2 g2 av acc, Ex F1 F2 ∧ Z.ra g2 = Z.ra g ∧ Rel Z f F2 ad2 ρ2 g2 (wipe σ vs) H' ∧ NewA Z f F2 ad2 ρ2 g2 D ∧ H' D = some (.lst av) ∧ DaAll K F2 av acc ∧ acc.length ≤ k + 1 ∧ I (k + 1) acc ρ2 g2,
      fun H' z => ⟨items.length - (k + 1), by omega, rfl, hlt, z⟩, fun x H3 y => ?_⟩
    obtain ⟨F3, d, hd3, e3, R3, dv⟩ := hy x H3 y
    refine ho x (wipe σ vs) H3 (fun σ4 H4 => wipe σ4 vs = wipe σ vs → _) _ (fun σ4 H4 hw hp => ⟨hw.trans (wipe_wipe σ vs), hp (hw.trans (wipe_wipe σ vs))⟩) (hg _ F3 ad2 ρ2 g2 (wipe σ vs) H3 x d _ R3 dv (hs k d acc ρ2 g2 hd3 hI) _ fun F4 ad4 ρ4 g4 σ4 H4 e4 er4 R4 q4 hw => ?_)
    refine hc _ F4 ad4 ρ4 g4 σ4 H4 _ R4 q4 _ fun b H5 q5 => ?_
    obtain ⟨F5, ad5, ρ5, g5, e5, er5, R5, q5⟩ := q5
    have eA : Ex F1 F5 := (e2.trans e3).trans (e4.trans e5)
    cases b with
    | false =>
      rw [if_neg Bool.false_ne_true]
      replace q5 := ifb_f q5
      obtain ⟨R6, n6, hD6⟩ := Rel.unhide R2 (er5.trans er4) n2.1 hD0 R5
      have R7 := R6.wipe vs
      rw [hw] at R7
      exact ⟨F5, ad5, _, g5, av, acc, eA, er5.trans (er4.trans eg2), R7, nw n6, hD6, daAll_mono ((e3.trans e4).trans e5) da2, by omega, q5⟩
    | true =>
      rw [if_pos rfl]
      replace q5 := ifb_t q5
      refine he _ F5 ad5 ρ5 g5 σ4 H5 _ R5 q5 _ fun v H6 q6 => ?_
      obtain ⟨F6, ad6, ρ6, g6, r6, e6, er6, R6, v6, q6⟩ := q6
      obtain ⟨d', ρ7, ef, q6⟩ := fz1_of q6
      obtain ⟨F7, e7, R7, dv7⟩ := R6.hfz v6 ef
      obtain ⟨R8, n8, hD8⟩ := Rel.unhide R2 (er6.trans (er5.trans er4)) n2.1 hD0 R7
      have eB : Ex F2 F7 := ((e3.trans e4).trans e5).trans (e6.trans e7)
      refine ⟨av, hD8, by rw [sizeLine_eq, da2.length]; omega, ?_⟩
      have hw9 : OwnA Z f F7 g6 D := n8.1
      have R9 : Rel Z f F7 ad6 ρ7 g6 σ4 (upd H6 D (.lst (av ++ [v]))) := by
        refine ⟨⟨R8.fin.upd hw9, R8.len, fun j s hj => ?_, R8.inj⟩, R8.lx⟩
        have q := R8.slot j s hj
        cases s with
        | ls ds => obtain ⟨q1, q2, vs', q3, q4⟩ := q; exact ⟨q1, q2, vs', by rw [upd_ne (n8.2 j _ hj rfl)]; exact q3, q4⟩
        | dk ds => obtain ⟨q1, q2, vs', q3, q4⟩ := q; exact ⟨q1, q2, vs', by rw [upd_ne (n8.2 j _ hj rfl)]; exact q3, q4⟩
        | _ => exact q
      have R10 := R9.wipe vs
      rw [hw] at R10
      exact ⟨F7, ad6, _, g6, av ++ [v], acc ++ [d'], (e2.trans eB), er6.trans (er5.trans (er4.trans eg2)), R10, nw n8, upd_same, (daAll_mono eB da2).append (.cons dv7 .nil), by rw [List.length_append]; show acc.length + 1 ≤ k + 1; omega, q6⟩
  · have e : k = items.length := by omega
    subst e
    obtain ⟨hun, q⟩ := hd acc ρ2 g2 hI
    replace hun := unAll_of hun
    refine .inl ⟨stop, hP _ H2 ⟨F2, ad2, ρ2, g2, .nl acc, e1.trans e2, eg2, R2.slots (by rw [R2.len, wipe_length]) fun j s hj => ?_, ⟨D, av, rfl, n2, hD2, da2⟩, q⟩⟩
    by_cases hm : j ∈ vs
    · rw [hun j hm] at hj; cases hj; exact .inl rfl
    · exact .inr ⟨hj, (wipe_out hm).symm⟩
end L3
end
section
/-! L3g: comprehensions as expressions, own lists and dicts changed, stores. -/
namespace L3
open PySem L2
variable {G : Type} {K : PySem.W.Frag} {X : Cx} {Z : Zx K G}
theorem wipe_set {σ : St} {j : Nat} {x : Option V} {vs : List Nat} (h : j ∈ vs) : wipe (σ.set j x) vs = wipe σ vs := by
  have key : ∀ (vs : List Nat) (τ : St) (i : Nat), i ∈ vs → (wipe τ vs)[i]? = if i < τ.length then some none else none := by
    intro vs
    induction vs with
    | nil => intro τ i h; cases h
    | cons v r ih =>
      intro τ i h
      unfold wipe
      by_cases e : v = i
      · subst e
        by_cases hl : v < τ.length
        · rw [List.getElem?_set_self (by rw [wipe_length]; exact hl), if_pos hl]
        · rw [List.getElem?_eq_none (by rw [List.length_set, wipe_length]; omega), if_neg hl]
      · rw [List.getElem?_set_ne e]
        rcases List.mem_cons.mp h with z | z
        · exact absurd z.symm e
        · exact ih τ i z
  apply List.ext_getElem?
  intro i
  by_cases hm : i ∈ vs
  · rw [key vs _ i hm, key vs _ i hm, List.length_set]
  · rw [wipe_out hm, wipe_out hm, List.getElem?_set_ne fun e => hm (by rw [← e]; exact h)]
theorem own_name {j : Nat} {vs : List Nat} (h : j ∈ vs) : GOwn (gName j) vs := fun v σ H P P' k q => k _ _ (wipe_set h) q
def GsOwn (gt : TGs) (vs : List Nat) : Prop := ∀ ws σ H (P P' : St → Hp → Prop), (∀ σ' H', wipe σ' vs = wipe σ vs → P σ' H' → P' σ' H') → gt ws σ H P → gt ws σ H P'
theorem owns_nil {vs : List Nat} : GsOwn gNil vs := fun ws σ H P P' k q => ⟨q.1, k σ H rfl q.2⟩
theorem owns_cons {t : TG} {u : TGs} {vs : List Nat} (h : GOwn t vs) (h2 : GsOwn u vs) : GsOwn (gCons t u) vs := fun ws σ H P P' k q => by
  obtain ⟨v, r, e, q⟩ := q
  exact ⟨v, r, e, h v σ H _ _ (fun σ1 H1 w1 q1 => h2 r σ1 H1 _ _ (fun σ2 H2 w2 q2 => k σ2 H2 (w2.trans w1) q2) q1) q⟩
theorem own_seq {K : PySem.W.Frag} {n : Nat} {t : TGs} {vs : List Nat} (h : GsOwn t vs) : GOwn (gSeq K n t) vs := fun v σ H P P' k q => by
  obtain ⟨a, xs, e, hq, hl, q⟩ := q
  exact ⟨a, xs, e, hq, hl, h xs σ H _ _ k q⟩
/-- [elt for target in iter if ..] -/
theorem e_lc {elt tg iter : Expr} {ifs : List Expr} {scope : Scope} (own : List (Str × Nat)) {pos : Pos} {wi : TI} {gt : TG} {tt : TT} {te : TE} {i : DI G} {dg : DG G} {c : DB G} {e : DT G} (hN : X.N.Nodup) (hi : DIt X Z tg iter wi i)
    (hg : ∀ (s : Shared) (H : Hp) (C : Addr) (cl : List (Str × Addr)) (fp : List Addr), DGt (X.blk s H scope (compEnvC scope cl C X.env) fp) Z tg gt dg) (ho : GOwn gt (own.map (·.2)))
    (ht : ∀ (s : Shared) (H : Hp) (C : Addr) (cl : List (Str × Addr)) (fp : List Addr), DTs (X.blk s H scope (compEnvC scope cl C X.env) fp) Z ifs tt c)
    (he : ∀ (s : Shared) (H : Hp) (C : Addr) (cl : List (Str × Addr)) (fp : List Addr), DE (X.blk s H scope (compEnvC scope cl C X.env) fp) Z elt te e)
    (ok : BlkOk X.N X.env.scope scope own := by exact blkOk_by (by kernel_rfl)) (hc : X.calm = true := by rfl) (hs : ∀ x, foldedSetIterable iter X.env x = pure x := by intro _; rfl) :
    DE X Z (.ListComp elt [⟨tg, iter, ifs, 0⟩] scope pos) (tLc wi gt tt te (own.map (·.2))) (dLc i dg c e (own.map (·.2))) :=
  have s0 : Shared := {}
  ⟨pe_lc hc hN hi.pi ok (fun s H C cl fp => (hg s H C cl fp).pg) (fun s H C cl fp => (ht s H C cl fp).pts) (fun s H C cl fp => (he s H C cl fp).pe) hs,
    sim_lc hi.sim (hg s0 (fun _ => none) 0 [] []).sim ho (ht s0 (fun _ => none) 0 [] []).sim (he s0 (fun _ => none) 0 [] []).sim⟩
/-- y = [..] on one line, y a plain local: the other form of the assignment -/
theorem s_setLc (j : Nat) {y : Str} {py : Pos} {elt tg iter : Expr} {ifs : List Expr} {scope : Scope} (own : List (Str × Nat)) {pos spos : Pos} {wi : TI} {gt : TG} {tt : TT} {te : TE} {i : DI G} {dg : DG G} {c : DB G} {e : DT G} (hN : X.N.Nodup) (hi : DIt X Z tg iter wi i)
    (hg : ∀ (s : Shared) (H : Hp) (C : Addr) (cl : List (Str × Addr)) (fp : List Addr), DGt (X.blk s H scope (compEnvC scope cl C X.env) fp) Z tg gt dg) (ho : GOwn gt (own.map (·.2)))
    (ht : ∀ (s : Shared) (H : Hp) (C : Addr) (cl : List (Str × Addr)) (fp : List Addr), DTs (X.blk s H scope (compEnvC scope cl C X.env) fp) Z ifs tt c)
    (he : ∀ (s : Shared) (H : Hp) (C : Addr) (cl : List (Str × Addr)) (fp : List Addr), DE (X.blk s H scope (compEnvC scope cl C X.env) fp) Z elt te e)
    (hy : X.N[j]? = some y := by rfl) (hyl : X.env.scope.names.lookup y = some .local := by rfl) (hsw : swapsWith (.ListComp elt [⟨tg, iter, ifs, 0⟩] scope pos) (some (.Name y py)) spos.line X.env = pure true := by exact sw_true rfl rfl rfl (by decide +kernel))
    (ok : BlkOk X.N X.env.scope scope own := by exact blkOk_by (by kernel_rfl)) (hc : X.calm = true := by rfl) (hs : ∀ x, foldedSetIterable iter X.env x = pure x := by intro _; rfl) :
    DSt X Z (.Assign [.Name y py] (.ListComp elt [⟨tg, iter, ifs, 0⟩] scope pos) spos) (tAsg (tLc wi gt tt te (own.map (·.2))) (gName j)) (dAsg (dLc i dg c e (own.map (·.2))) j) :=
  have s0 : Shared := {}
  ⟨ps_setLc hc hN hy hyl hsw hi.pi ok (fun s H C cl fp => (hg s H C cl fp).pg) (fun s H C cl fp => (ht s H C cl fp).pts) (fun s H C cl fp => (he s H C cl fp).pe) hs,
    sim_asg (sim_lc hi.sim (hg s0 (fun _ => none) 0 [] []).sim ho (ht s0 (fun _ => none) 0 [] []).sim (he s0 (fun _ => none) 0 [] []).sim)⟩
/-! ### an own list's methods -/
/-- x.m(e): x an own list in slot i -/
def dMl (i : Nat) (t : DA G) (k : Nat → List PyData → List Rs → En → G → (Rs → List PyData → En → G → Prop) → Prop) : DT G := fun ρ g Q => lsD (fun _ => t ρ g fun rs ρ1 g1 => lsD (fun ds => k i ds rs ρ1 g1 fun r ds' ρ2 g2 => Q r (ρ2.set i (.ls ds')) g2) (ownL ρ1 i)) (ownL ρ i)
where ownL (ρ : En) (i : Nat) : Option PyData := match ρ[i]? with
  | some (.ls ds) => some (.list ds)
  | _ => none
theorem ownL_of {ρ : En} {i : Nat} {ds : List PyData} (h : dMl.ownL ρ i = some (.list ds)) : ρ[i]? = some (.ls ds) := by
  unfold dMl.ownL at h
  split at h
  · rename_i es e
    cases h
    exact e
  · cases h
/-- a method of a list: on the list's values and the arguments -/
def SimL (Z : Zx K G) (r : V → List V → Hp → VK → Prop) (k : Nat → List PyData → List Rs → En → G → (Rs → List PyData → En → G → Prop) → Prop) : Prop :=
  ∀ f F ad ρ g σ H i vs ws ds rs Q, Rel Z f F ad ρ g σ H → ρ[i]? = some (.ls ds) → H (ad i) = some (.lst vs) → DaAll K F vs ds → VRs Z f F ad ρ g σ H ws rs → k i ds rs ρ g Q → ∀ P : VK,
    (∀ F' ρ' v vs' ds' r, Ex F F' → Rel Z f F' ad ρ' g σ H → ρ'[i]? = some (.ls ds) → DaAll K F' vs' ds' → Da K F' v (match r with | .dt d => d | _ => .none) → (∃ d, r = .dt d) → Q r ds' ρ' g → P v (upd H (ad i) (.lst vs'))) → r (.ref (ad i)) ws H P
theorem sim_ml {i : Nat} {ta : TA} {t : DA G} {r : V → List V → Hp → VK → Prop} {k : Nat → List PyData → List Rs → En → G → (Rs → List PyData → En → G → Prop) → Prop} (ha : SimA Z ta t) (hm : SimL Z r k) : Sim Z (tBM K "list" r (tVar i) ta) (dMl i t k) := fun f F ad ρ g σ H Q R h P hP => by
  obtain ⟨ds0, e0, h⟩ := lsD_of h
  have hi0 := ownL_of e0
  have q0 := R.slot i _ hi0
  obtain ⟨z1, z2, vs0, z3, z4⟩ := q0
  refine ⟨.ref (ad i), z1, .inl ⟨rfl, _, .inl (.inl z3)⟩, ha f F ad ρ g σ H _ R h _ fun ws H1 q => ?_⟩
  obtain ⟨F1, ad1, ρ1, g1, rs, e1, eg1, R1, v1, q⟩ := q
  obtain ⟨ds, e, q⟩ := lsD_of q
  have hi := ownL_of e
  obtain ⟨y1, y2, vs, y3, y4⟩ := R1.slot i _ hi
  have ea : ad1 i = ad i := by
    have z : some (some (V.ref (ad1 i))) = some (some (V.ref (ad i))) := y1.symm.trans z1
    injection z with z; injection z with z; injection z
  rw [← ea]
  refine hm f F1 ad1 ρ1 g1 σ H1 i vs ws ds rs _ R1 hi y3 y4 v1 q P fun F' ρ' v vs' ds' r ee R' hi' da dv hr q => ?_
  obtain ⟨d, rfl⟩ := hr
  refine hP v _ ⟨F', ad1, _, g1, .dt d, e1.trans ee, eg1, R'.wrote (s' := .ls ds') hi' rfl ?_, dv, q⟩
  have w := R'.slot i _ hi'
  exact ⟨w.1, w.2.1, vs', upd_same, da⟩
abbrev KL (G : Type) := Nat → List PyData → List Rs → En → G → (Rs → List PyData → En → G → Prop) → Prop
def slK (o : Option Sl) (k : List PyData → Prop) : Prop := match o with
  | some (.ls es) => k es
  | _ => False
theorem slK_e {o : Option Sl} {k : List PyData → Prop} (h : slK o k) : ∃ es, o = some (.ls es) ∧ k es := by
  unfold slK at h
  split at h
  · exact ⟨_, rfl, h⟩
  · exact h.elim
theorem fz_keep {r : Rs} {ρ ρ' : En} {d : PyData} {i : Nat} {ds es : List PyData} (e : fz r ρ = some (d, ρ')) (h : ρ[i]? = some (.ls ds)) (h2 : ρ'[i]? = some (.ls es)) : es = ds := by
  cases r with
  | dt x => cases e; rw [h] at h2; cases h2; rfl
  | nl x => cases e; rw [h] at h2; cases h2; rfl
  | br j =>
    have e1 : fzS ρ j ρ[j]? = some (d, ρ') := e
    cases hj : ρ[j]? with
    | none => rw [hj] at e1; cases e1
    | some s =>
      rw [hj] at e1
      cases s with
      | dt x => cases e1; rw [h] at h2; cases h2; rfl
      | ls x =>
        cases e1
        by_cases q : j = i
        · subst q
          have hl : j < ρ.length := (List.getElem?_eq_some_iff.mp hj).1
          rw [List.getElem?_set_self hl] at h2; cases h2
        · rw [List.getElem?_set_ne q, h] at h2; cases h2; rfl
      | dk x =>
        cases e1
        by_cases q : j = i
        · subst q
          rw [hj] at h; cases h
        · rw [List.getElem?_set_ne q, h] at h2; cases h2; rfl
      | _ => cases e1
  | nd x => cases e; rw [h] at h2; cases h2; rfl
  | _ => cases e
def nilK (rs : List Rs) (p : Prop) : Prop := match rs with
  | [] => p
  | _ => False
theorem nilK_e {rs : List Rs} {p : Prop} (h : nilK rs p) : rs = [] ∧ p := by
  cases rs with
  | nil => exact ⟨rfl, h⟩
  | cons _ _ => exact h.elim
def kApp : KL G := fun i ds rs ρ g Q => one (fun r => fz1 r ρ fun d ρ' => slK ρ'[i]? fun es => ltK es.length 16777216 (Q (.dt .none) (es ++ [d]) ρ' g)) rs
theorem m_app : SimL Z rAppend (kApp (G := G)) := fun f F ad ρ g σ H i vs ws ds rs Q R hi hH da hv q P hP => by
  obtain ⟨r, rfl, q2⟩ := one_of q
  obtain ⟨d, ρ', ef, q⟩ := fz1_of q2
  obtain ⟨es, hi', q⟩ := slK_e q
  cases fz_keep ef hi hi'
  obtain ⟨hl, q⟩ := ltK_e q
  obtain ⟨v, rfl, h0⟩ := vrs1 hv
  obtain ⟨F2, e2, R2, dv⟩ := R.hfz h0 ef
  exact ⟨_, vs, v, rfl, rfl, hH, by rw [sizeLine_eq, da.length]; exact hl, hP F2 ρ' .non _ _ (.dt .none) e2 R2 hi' ((daAll_mono e2 da).append (.cons dv .nil)) .non ⟨_, rfl⟩ q⟩
def kPop : KL G := fun i ds rs ρ g Q => nilK rs (opK ds[ds.length - 1]? fun d => Q (.dt d) ds.dropLast ρ g)
theorem m_pop : SimL Z rPop (kPop (G := G)) := fun f F ad ρ g σ H i vs ws ds rs Q R hi hH da hv q P hP => by
  obtain ⟨rfl, q⟩ := nilK_e q
  obtain ⟨d, hd, q⟩ := opK_e q
  cases hv
  obtain ⟨v, hv, dv⟩ := da.get hd
  exact ⟨_, vs, v, rfl, rfl, hH, by rw [da.length]; exact hv, hP F ρ v _ _ (.dt d) (Evl.Ex.refl F) R hi da.dropLast dv ⟨_, rfl⟩ q⟩
def kPopAt : KL G := fun i ds rs ρ g Q => one (fun r => iiU (fun n => rgK n (opK (ixN ds.length n) fun k => opK ds[k]? fun d => Q (.dt d) (ds.eraseIdx k) ρ g)) (rd r ρ)) rs
theorem m_popAt : SimL Z rPopAt (kPopAt (G := G)) := fun f F ad ρ g σ H i vs ws ds rs Q R hi hH da hv q P hP => by
  obtain ⟨r, rfl, q2⟩ := one_of q
  obtain ⟨v, rfl, h0⟩ := vrs1 hv
  obtain ⟨n, e, q⟩ := iiU_of q2
  obtain ⟨⟨b1, b2⟩, q⟩ := rgK_e q
  replace b1 : -(2 ^ 63) ≤ n := by omega
  replace b2 : n < 2 ^ 63 := by omega
  obtain ⟨k, hk, q⟩ := opK_e q
  obtain ⟨d, hd, q⟩ := opK_e q
  obtain ⟨u, hu, du⟩ := da.get hd
  have hs : seqIndex? n vs.length = some k := by rw [da.length]; exact (ixN_seq hk).1
  exact ⟨_, vs, n, k, u, rfl, by rw [R.rInt h0 e], hH, b1, b2, hs, hu, hP F ρ u _ _ (.dt d) (Evl.Ex.refl F) R hi (da.erase k) du ⟨_, rfl⟩ q⟩
def kExt : KL G := fun i ds rs ρ g Q => one (fun r => fz1 r ρ fun d ρ' => slK ρ'[i]? fun zs => lsD (fun es => leK (zs.length + es.length) 16777216 (Q (.dt .none) (zs ++ es) ρ' g)) (some d)) rs
theorem m_ext : SimL Z rExtend (kExt (G := G)) := fun f F ad ρ g σ H i vs ws ds rs Q R hi hH da hv q P hP => by
  obtain ⟨r, rfl, q2⟩ := one_of q
  obtain ⟨d, ρ', ef, q⟩ := fz1_of q2
  obtain ⟨zs, hi', q⟩ := slK_e q
  cases fz_keep ef hi hi'
  obtain ⟨v, rfl, h0⟩ := vrs1 hv
  obtain ⟨F2, e2, R2, dv⟩ := R.hfz h0 ef
  obtain ⟨es, e, q3⟩ := lsD_of q
  obtain ⟨hl, q4⟩ := leK_e q3
  cases e
  cases dv with
  | lst h1 h2 =>
    exact ⟨_, _, vs, _, rfl, rfl, hH, R2.fin.sub _ _ h1, by rw [sizeLine_eq, da.length, h2.length]; exact hl, hP F2 ρ' .non _ _ (.dt .none) e2 R2 hi' ((daAll_mono e2 da).append h2) .non ⟨_, rfl⟩ q4⟩
def kRev : KL G := fun i ds rs ρ g Q => nilK rs (Q (.dt .none) ds.reverse ρ g)
theorem m_rev : SimL Z rReverse (kRev (G := G)) := fun f F ad ρ g σ H i vs ws ds rs Q R hi hH da hv q P hP => by
  obtain ⟨rfl, q⟩ := nilK_e q
  cases hv
  exact ⟨_, vs, rfl, rfl, hH, hP F ρ .non _ _ (.dt .none) (Evl.Ex.refl F) R hi da.reverse .non ⟨_, rfl⟩ q⟩
def kClr : KL G := fun i ds rs ρ g Q => nilK rs (Q (.dt .none) [] ρ g)
theorem m_clr : SimL Z rClear (kClr (G := G)) := fun f F ad ρ g σ H i vs ws ds rs Q R hi hH da hv q P hP => by
  obtain ⟨rfl, q⟩ := nilK_e q
  cases hv
  exact ⟨_, vs, rfl, rfl, hH, hP F ρ .non [] [] (.dt .none) (Evl.Ex.refl F) R hi .nil .non ⟨_, rfl⟩ q⟩
/-- x.m() -/
theorem sim_dnil : SimA Z tNil (dNil (G := G)) := fun f F ad ρ g σ H Q R h P hP => hP [] H ⟨F, ad, ρ, g, [], Evl.Ex.refl F, rfl, R, .nil, h⟩
end L3
end
section
/-! L3h: methods as expressions, stores, isinstance, module constants. -/
namespace L3
open PySem L2
variable {G : Type} {K : PySem.W.Frag} {X : Cx} {Z : Zx K G}
/-! ### methods of an own list -/
section
variable {id : String} {r : V → List V → Hp → VK → Prop} {k : KL G} {i : Nat} {x name : Str} {px apos cpos : Pos} {e : Expr} {es : List Expr} {ta : TA} {a : DA G}
theorem e_ml (slot : Slot "list" name id) (hty : typeOf (.builtin id) = pure (.type "method_descriptor")) (hm : MtR X id r) (hs : SimL Z r k) (i : Nat) (ha : DAs X Z (e :: es) ta a) (hN : X.N[i]? = some x := by rfl)
    (hv : Vis X.env.scope x := by first | exact Or.inl rfl | exact Or.inr (Or.inl rfl) | exact Or.inr (Or.inr rfl)) (hd : (x == ("__debug__" : Str)) = false := by decide) (hcd : (x == ("__classdict__" : Str)) = false := by decide) (hK : K = X.K := by rfl)
    (hbase : attributeBase (.Name x px) name X.env (eval (.Name x px) X.env) = eval (.Name x px) X.env := by rfl)
    (hfew : ((backTo cpos (starEach (e :: es) X.env)).all (fun x => !x.1) && (backToKw cpos (keywordEach [] X.env)).all (fun x => x.1.isSome)
      && decide ((e :: es).length + ([] : List Keyword).length + (if ([] : List Keyword).isEmpty then 0 else 1) < 30)) = true := by rfl)
    (hline : (apos.endLine == cpos.line) = true := by rfl) (hst : starEach (e :: es) X.env = (false, eval e X.env) :: starEach es X.env := by rfl) (hplain : (backTo cpos (starEach es X.env)).any (·.1) = false := by rfl) :
    DE X Z (.Call (.Attribute (.Name x px) name apos) (e :: es) [] cpos) (tBM K "list" r (tVar i) ta) (dMl i a k) :=
  ⟨by rw [hK]; exact pe_bm PySem.F.plainAttrs_list slot hty hm (pe_var hN hv hd hcd) ha.pa hbase hfew hline hst hplain, sim_ml ha.sim hs⟩
theorem e_ml0 (slot : Slot "list" name id) (hty : typeOf (.builtin id) = pure (.type "method_descriptor")) (hm : MtR X id r) (hs : SimL Z r k) (i : Nat) (hN : X.N[i]? = some x := by rfl)
    (hv : Vis X.env.scope x := by first | exact Or.inl rfl | exact Or.inr (Or.inl rfl) | exact Or.inr (Or.inr rfl)) (hd : (x == ("__debug__" : Str)) = false := by decide) (hcd : (x == ("__classdict__" : Str)) = false := by decide) (hK : K = X.K := by rfl)
    (hbase : attributeBase (.Name x px) name X.env (eval (.Name x px) X.env) = eval (.Name x px) X.env := by rfl) (hline : (apos.endLine == cpos.line) = true := by rfl) :
    DE X Z (.Call (.Attribute (.Name x px) name apos) [] [] cpos) (tBM0 K "list" r (tVar i)) (dMl i dNil k) :=
  ⟨by rw [hK]; exact pe_bm0 PySem.F.plainAttrs_list slot hty hm (pe_var hN hv hd hcd) hbase hline, fun f F ad ρ g σ H Q R h P hP => sim_ml sim_dnil hs f F ad ρ g σ H Q R h P hP⟩
end
/-! ### xs[i] = e of an own list -/
def dSetIx (i : Nat) (a b : DT G) : DS G := fun D ρ g => a ρ g fun r1 ρ1 g1 => ifh r1 (lsD (fun _ => b ρ1 g1 fun r2 ρ2 g2 => iiU (fun n => fz1 (st r1) ρ2 fun d ρ3 => lsD (fun ds => opK (ixN ds.length n) fun k => D.nx (ρ3.set i (.ls (ds.set k d))) g2) (dMl.ownL ρ3 i)) (rd r2 ρ2)) (dMl.ownL ρ1 i))
theorem sim_setIx {i : Nat} {ta tb : TE} {a b : DT G} (ha : Sim Z ta a) (hb : Sim Z tb b) : SimS Z (tAsg ta (gSub (tVar i) tb rSetL)) (dSetIx i a b) := fun f F ad ρ g σ H D R h D2 le => by
  refine ha f F ad ρ g σ H _ R h _ fun x H1 q => ?_
  obtain ⟨F1, ad1, ρ1, g1, r1, e1, eg1, R1, v1, q⟩ := q
  replace q := ifh_of q
  obtain ⟨F1', e1', R1', v1'⟩ := R1.hst v1
  obtain ⟨ds0, e0, q⟩ := lsD_of q
  have hi0 := ownL_of e0
  obtain ⟨z1, z2, vs0, z3, z4⟩ := R1'.slot i _ hi0
  refine ⟨.ref (ad1 i), z1, hb f F1' ad1 ρ1 g1 σ H1 _ R1' q _ fun y H2 q2 => ?_⟩
  obtain ⟨F2, ad2, ρ2, g2, r2, e2, eg2, R2, v2, q⟩ := q2
  obtain ⟨n, en, q⟩ := iiU_of q
  obtain ⟨d, ρ3, ef, q⟩ := fz1_of q
  obtain ⟨ds, el, q⟩ := lsD_of q
  obtain ⟨k, hk, q⟩ := opK_e q
  obtain ⟨F3, e3, R3, dv⟩ := R2.hfz (v1'.held e2 eg2) ef
  have hi := ownL_of el
  obtain ⟨y1, y2, vs, y3, y4⟩ := R3.slot i _ hi
  have ea : ad2 i = ad1 i := by
    have z : some (some (V.ref (ad2 i))) = some (some (V.ref (ad1 i))) := y1.symm.trans z1
    injection z with z; injection z with z; injection z
  rw [← ea]
  refine ⟨_, vs, n, k, rfl, R2.rInt v2 en, y3, by rw [y4.length]; exact hk, ?_⟩
  refine le.nx F3 ad2 _ g2 σ _ (eg2.trans eg1) (R3.wrote (s' := .ls (ds.set k d)) hi rfl ?_) q
  exact ⟨y1, y2, _, upd_same, y4.set dv k⟩
theorem s_setIx (i : Nat) {x : Str} {e j : Expr} {te tj : TE} {a b : DT G} {px ps pos : Pos} (he : DE X Z e te a) (hj : DE X Z j tj b) (hN : X.N[i]? = some x := by rfl)
    (hv : Vis X.env.scope x := by first | exact Or.inl rfl | exact Or.inr (Or.inl rfl) | exact Or.inr (Or.inr rfl)) (hd : (x == ("__debug__" : Str)) = false := by decide) (hcd : (x == ("__classdict__" : Str)) = false := by decide)
    (ha : ∀ v, assign (.Subscript (.Name x px) j ps) X.env v = (do
      let ov ← holding [v] (eval (.Name x px) X.env)
      let iv ← holding [v, ov] (eval j X.env)
      standAt ps
      holding [v, ov, iv] (setItem ov iv v)
      release [v, ov, iv] []) := by intro _; rfl)
    (hs : swapsWithSole [.Subscript (.Name x px) j ps] e pos.line X.env = pure false := by rfl) (hw : swappedStores [.Subscript (.Name x px) j ps] e X.env = pure none := by rfl)
    (h1 : (assignEach [.Subscript (.Name x px) j ps] X.env).map (·.2) = [assign (.Subscript (.Name x px) j ps) X.env] := by rfl) :
    DSt X Z (.Assign [.Subscript (.Name x px) j ps] e pos) (tAsg te (gSub (tVar i) tj rSetL)) (dSetIx i a b) :=
  ⟨ps_asg he.pe (pg_sub (pe_var hN hv hd hcd) hj.pe set_list ha) hs hw h1, sim_setIx he.sim hj.sim⟩
/-! ### types as values, isinstance, module constants -/
def tyN : PyData → String
  | .none => "NoneType"
  | .bool _ => "bool"
  | .int _ => "int"
  | .str _ => "str"
  | .list _ => "list"
  | .tuple _ => "tuple"
  | .dict _ => "dict"
theorem da_ty {K : PySem.W.Frag} {H : Hp} {v : V} {d : PyData} (h : Da K H v d) : TyX K H v (.type (tyN d)) := by
  cases h with
  | non => exact .base .non
  | bl b => exact .base (.bl b)
  | int i => exact .base (.int i)
  | str x => exact .base (.str x)
  | lst h1 h2 => exact .base (.lst h1)
  | tup h1 h2 =>
    rcases h1 with (h1 | ⟨o, h1⟩) | ⟨o, its, n, h1, h2, h3⟩
    · exact .base (.tup h1)
    · exact .fTuple h1
    · exact .kTuple h1 h2
  | dct h1 h2 => exact .base (.dK h1)
def dV (v : V) : DT G := fun ρ g Q => Q (.vv v) ρ g
theorem sim_v {v : V} : Sim Z (tC v) (dV v) := fun f F ad ρ g σ H Q R q P hP => hP v H (R.post (r := .vv v) rfl q)
/-- a built-in type's name as a value -/
theorem e_ty (n : String) {x : Str} {pos : Pos} (hm : X.mg x = none) (hv : bootBuiltins x = some (.type n)) (hg : Gl X x := by rfl) (hn : x ≠ "__name__" := by decide) (hd : (x == ("__debug__" : Str)) = false := by decide) : DE X Z (.Name x pos) (tC (.ty n)) (dV (.ty n)) :=
  ⟨pe_bltn hg hm hv (show Value.type n = Value.type n from rfl) hn hd, sim_v⟩
/-- a module's number -/
theorem e_gint {i : Int} {t : Tok} {x : Str} {pos : Pos} (hm : X.mg x = some (.int i t)) (hg : Gl X x := by rfl) (hd : (x == ("__debug__" : Str)) = false := by decide) : DE X Z (.Name x pos) (tC (.int i)) (dC (.int i)) :=
  ⟨pe_glob hg hm ⟨t, rfl⟩ hd, sim_c fun _ => .int i⟩
theorem e_gstr {i : Str} {t : Tok} {x : Str} {pos : Pos} (hm : X.mg x = some (.str i t)) (hg : Gl X x := by rfl) (hd : (x == ("__debug__" : Str)) = false := by decide) : DE X Z (.Name x pos) (tC (.str i)) (dC (.str i)) :=
  ⟨pe_glob hg hm ⟨t, rfl⟩ hd, sim_c fun _ => .str i⟩
/-- isinstance(x, T) for the types that stand in the laws -/
def isT : String → PyData → Bool
  | "int", .int _ => true
  | "int", .bool _ => true
  | "bool", .bool _ => true
  | "str", .str _ => true
  | "list", .list _ => true
  | "tuple", .tuple _ => true
  | "dict", .dict _ => true
  | _, _ => false
def isTk (n : String) : Bool := n == "int" || n == "bool" || n == "str" || n == "list" || n == "tuple" || n == "dict"
theorem kit_all : ∀ a ∈ ["NoneType", "bool", "int", "float", "str", "list", "tuple", "dict"], ∀ b ∈ ["int", "bool", "str", "list", "tuple", "dict"], kitB a b = some (a == b || (a == "bool" && b == "int")) := by decide +kernel
theorem kit_da {K : PySem.W.Frag} {H : Hp} {v : V} {d : PyData} (h : Da K H v d) {n : String} (hn : isTk n = true) : PySem.W.kitOne K (.type (tyN d)) (.type n) = some (isT n d) := by
  have hm : n ∈ ["int", "bool", "str", "list", "tuple", "dict"] := by
    unfold isTk at hn
    simp only [Bool.or_eq_true, beq_iff_eq] at hn
    simp only [List.mem_cons, List.not_mem_nil, or_false]
    simpa only [or_assoc] using hn
  have key := kit_all (tyN d) (by cases h <;> simp [tyN]) n hm
  refine kit_ty (key.trans ?_)
  congr 1
  simp only [List.mem_cons, List.not_mem_nil, or_false] at hm
  rcases hm with rfl | rfl | rfl | rfl | rfl | rfl <;> cases h <;> rfl
def isiD (Q : PyData → Prop) (a : Option PyData) : Rs → Prop
  | .vv (.ty n) => tt (isTk n) (opK a fun d => Q (.bool (isT n d)))
  | _ => False
def oIsi : RA G := fun rs ρ g Q => two (fun r1 r2 => isiD (fun d => Q (.dt d) ρ g) (rd r1 ρ) r2) rs
theorem sim_isi : SimC Z (rIsi K) (oIsi (G := G)) := fun f F ad ρ g σ H vs rs Q R hv q P hP => by
  obtain ⟨r1, r2, rfl, q⟩ := two_of q
  obtain ⟨x, y, rfl, hx, hy⟩ := vrs2 hv
  replace q : isiD (fun d => Q (.dt d) ρ g) (rd r1 ρ) r2 := q
  unfold isiD at q
  split at q
  · rename_i n q
    obtain ⟨hn, q⟩ := tt_e q
    obtain ⟨d, e, q⟩ := opK_e q
    cases (show y = .ty n from hy)
    have dv := R.hrd hx e
    exact ⟨x, .ty n, _, _, _, rfl, .ty n, da_ty dv, kit_da dv hn, hP _ _ (R.dat (.bl _) q)⟩
  · cases q
theorem k_isi (hK : K = X.K := by rfl) : CallR X (.builtin "isinstance") (rIsi K) ∧ SimC Z (rIsi K) (oIsi (G := G)) := ⟨by rw [hK]; exact call_isi, sim_isi⟩
/-- xs[::-1] of a list -/
def dRevL (a : DT G) : DT G := fun ρ g Q => a ρ g fun r ρ1 g1 => lsD (fun ds => Q (.nl ds.reverse) ρ1 g1) (rd r ρ1)
theorem e_revL {e : Expr} {te : TE} {a : DT G} {k : Nat} {p1 p2 p3 pos : Pos} (h : DE X Z e te a) (hK : K = X.K := by rfl) : DE X Z (.Subscript e (.Slice none none (some (.UnaryOp .USub (.Constant (.int 1) k p1) p2)) p3) pos) (tRevL K te) (dRevL a) :=
  ⟨by rw [hK]; exact pe_revL h.pe, fun f F ad ρ g σ H Q R q P hP => by
    refine h.sim f F ad ρ g σ H _ R q _ fun x H1 q => ?_
    obtain ⟨F1, ad1, ρ1, g1, r1, e1, eg1, R1, v1, q⟩ := q
    obtain ⟨ds, e, q⟩ := lsD_of q
    obtain ⟨a, vs, rfl, ha, da⟩ := R1.items v1 e
    exact ⟨a, vs, rfl, .inl (.inl ha), fun p hp => hP _ _ ((R1.newL hp da.reverse q).mono e1 eg1)⟩⟩
/-- max(xs), min(xs), sorted(xs) of lists of whole numbers -/
def oMaxL : RA G := fun rs ρ g Q => one (fun r => lsD (fun ds => opK (intsL ds) fun ns => 0 < ns.length ∧ ∀ m, m ∈ ns → (∀ y, y ∈ ns → y ≤ m) → Q (.dt (.int m)) ρ g) (rd r ρ)) rs
def oMinL : RA G := fun rs ρ g Q => one (fun r => lsD (fun ds => opK (intsL ds) fun ns => 0 < ns.length ∧ ∀ m, m ∈ ns → (∀ y, y ∈ ns → m ≤ y) → Q (.dt (.int m)) ρ g) (rd r ρ)) rs
def oSorted : RA G := fun rs ρ g Q => one (fun r => lsD (fun ds => opK (intsL ds) fun ns => ns.length < 64 ∧ ∀ ms : List Int, ms.Perm ns → ms.Pairwise (· ≤ ·) → Q (.nl (ms.map PyData.int)) ρ g) (rd r ρ)) rs
theorem k_maxL (hc : X.calm = true := by rfl) (hK : K = X.K := by rfl) : CallR X (.builtin "max") (rMax K) ∧ SimC Z (rMax K) (oMaxL (G := G)) := ⟨by rw [hK]; exact cr_max hc, fun f F ad ρ g σ H vs rs Q R h q P hP => by
  obtain ⟨r, rfl, q2⟩ := one_of q
  obtain ⟨v, rfl, h0⟩ := vrs1 h
  obtain ⟨ds, e, q3⟩ := lsD_of q2
  obtain ⟨ns, ei, hn, q4⟩ := opK_e q3
  obtain ⟨a, vs, rfl, ha, da⟩ := R.items h0 e
  rw [intsL_of ei] at da
  have ev := daAll_ints da
  subst ev
  exact ⟨a, ns, rfl, .inl (.inl ha), hn, fun m h1 h2 => hP _ _ (R.dat (.int _) (q4 m h1 h2))⟩⟩
theorem k_minL (hc : X.calm = true := by rfl) (hK : K = X.K := by rfl) : CallR X (.builtin "min") (rMin K) ∧ SimC Z (rMin K) (oMinL (G := G)) := ⟨by rw [hK]; exact cr_min hc, fun f F ad ρ g σ H vs rs Q R h q P hP => by
  obtain ⟨r, rfl, q2⟩ := one_of q
  obtain ⟨v, rfl, h0⟩ := vrs1 h
  obtain ⟨ds, e, q3⟩ := lsD_of q2
  obtain ⟨ns, ei, hn, q4⟩ := opK_e q3
  obtain ⟨a, vs, rfl, ha, da⟩ := R.items h0 e
  rw [intsL_of ei] at da
  have ev := daAll_ints da
  subst ev
  exact ⟨a, ns, rfl, .inl (.inl ha), hn, fun m h1 h2 => hP _ _ (R.dat (.int _) (q4 m h1 h2))⟩⟩
theorem k_sorted (hK : K = X.K := by rfl) : CallR X (.builtin "sorted") (rSorted K) ∧ SimC Z (rSorted K) (oSorted (G := G)) := ⟨by rw [hK]; exact cr_sorted, fun f F ad ρ g σ H vs rs Q R h q P hP => by
  obtain ⟨r, rfl, q2⟩ := one_of q
  obtain ⟨v, rfl, h0⟩ := vrs1 h
  obtain ⟨ds, e, q3⟩ := lsD_of q2
  obtain ⟨ns, ei, hn, q4⟩ := opK_e q3
  obtain ⟨a, vs, rfl, ha, da⟩ := R.items h0 e
  rw [intsL_of ei] at da
  have ev := daAll_ints da
  subst ev
  exact ⟨a, ns, rfl, .inl (.inl ha), hn, fun ms p h1 h2 hp => hP _ _ (R.newL hp (daAll_of_ints ms) (q4 ms h1 h2))⟩⟩
end L3
end
section
/-! L3i: defs by name. -/
namespace L3
open PySem L2
variable {G : Type} {K : PySem.W.Frag} {X : Cx} {Z : Zx K G}
/-- a def that stands in the module -/
def Dfn (K : PySem.W.Frag) (mg : Str → Option Value) (x : Str) (s : Stmt) (ps : List Str) : Prop := ∃ fa fd, Fun K x x s fa fd ∧ mg x = some (.ref fa) ∧ Binds K fd ps []
/-- a def that keeps its promise -/
def Ok (P : Program) (w : World) (K : PySem.W.Frag) (mg : Str → Option Value) (base : Heap) (k : Nat) (x : Str) (ps : List Str) (sp : Sp) : Prop :=
  ∃ fa fd, mg x = some (.ref fa) ∧ PySem.W.keepIn K (.ref fa) = true ∧ Binds K fd ps [] ∧ (∃ oc od osl, K.lookup fa = some ⟨oc, od, .func fd, osl⟩) ∧ FnG P w K mg base (L2.CX P w) k fa fd ps sp
section
variable {P : Program} {w : World} {K : PySem.W.Frag} {mg : Str → Option Value} {base : Heap}
theorem Ok.up {j : Nat} {x : Str} {ps : List Str} {sp : Sp} (h : Ok P w K mg base j x ps sp) {k : Nat} (hk : j ≤ k) : Ok P w K mg base k x ps sp := by
  obtain ⟨fa, fd, h1, h2, h3, h0, h4⟩ := h
  exact ⟨fa, fd, h1, h2, h3, h0, h4.mono hk⟩
theorem Fun.at_ {x qual : Str} {s : Stmt} {fa : Addr} {fd : FuncData} (F : Fun K x qual s fa fd) : ∃ oc od osl, K.lookup fa = some ⟨oc, od, .func fd, osl⟩ := by
  obtain ⟨oc, od, kV, doc, pm, an, cdv, ct, osl, rfl, h, _⟩ := F.ex
  exact ⟨oc, od, osl, h⟩
/-- for the end: the function's object is known -/
theorem Ok.fn {k : Nat} {x : Str} {ps : List Str} {sp : Sp} (h : Ok P w K mg base k x ps sp) {fa : Addr} {fd : FuncData} {oc : Value} {od : Option Addr} {osl : Array (Option Value)} (hm : mg x = some (.ref fa)) (hl : K.lookup fa = some ⟨oc, od, .func fd, osl⟩) : FnG P w K mg base (L2.CX P w) k fa fd ps sp := by
  obtain ⟨fa', fd', h1, _, _, ⟨_, _, _, h0⟩, h4⟩ := h
  rw [hm] at h1
  cases h1
  rw [hl] at h0
  cases h0
  exact h4
theorem Dfn.ok {x : Str} {s : Stmt} {N ps : List Str} {k : Nat} {Z : Zx K G} {S : Spec G} (D : Dfn K mg x s ps) (Sc : FnScope N ps (defScope s)) (hS : ∀ as g T U, S as g T U → as.length = ps.length) (hN : ps.length ≤ N.length)
    (body : ∀ (fa : Addr) (cdv : Value) (A : Around) (outer : List Env) (s' : Shared) (H : Hp) (E : XK), RoomG k (A.deeper (PyProof.Rows.envOfC x (defScope s) s'.heap.objs.size fa cdv)) →
      ∃ ts t, DSs (cxOf (L2.CX P w) P w K mg base N x (defScope s) fa cdv A outer s' H E).nox (Z.wish (fun _ _ _ _ => False) Un) (defBody s) ts t ∧ ∀ as g T U, S as g T U → t { nx := fun _ g' => T (.dt .none) g', rt := T } (entry N as) g) : Ok P w K mg base (k + 1) x ps (spZ Z S) := by
  obtain ⟨fa, fd, Fu, hm, hb⟩ := D
  exact ⟨fa, fd, hm, Fu.kp, hb, Fun.at_ Fu, fun3 Fu Sc hS hN (body fa)⟩
/-- the same of a def that may raise -/
theorem Dfn.okX {x : Str} {s : Stmt} {N ps : List Str} {k : Nat} {Z : Zx K G} {S : Spec G} (D : Dfn K mg x s ps) (Sc : FnScope N ps (defScope s)) (hS : ∀ as g T U, S as g T U → as.length = ps.length) (hN : ps.length ≤ N.length)
    (body : ∀ (fa : Addr) (cdv : Value) (A : Around) (outer : List Env) (s' : Shared) (H : Hp) (E : XK) (U : XU G), RoomG k (A.deeper (PyProof.Rows.envOfC x (defScope s) s'.heap.objs.size fa cdv)) →
      Takes (cxOf (L2.CX P w) P w K mg base N x (defScope s) fa cdv A outer s' H E) (fun c d _ H => E c d H) →
      PassesOwn (model P w) (A.deeper (PyProof.Rows.envOfC x (defScope s) s'.heap.objs.size fa cdv)) (PyProof.Rows.envOfC x (defScope s) s'.heap.objs.size fa cdv) (cxOf (L2.CX P w) P w K mg base N x (defScope s) fa cdv A outer s' H E).xe →
      ∃ ts t, DSs (cxOf (L2.CX P w) P w K mg base N x (defScope s) fa cdv A outer s' H E) (Z.wish (fun c d _ H => E c d H) (fun c fs _ g => U c fs g)) (defBody s) ts t ∧ ∀ as g T, S as g T U → t { nx := fun _ g' => T (.dt .none) g', rt := T } (entry N as) g) : Ok P w K mg base (k + 1) x ps (spZ Z S) := by
  obtain ⟨fa, fd, Fu, hm, hb⟩ := D
  exact ⟨fa, fd, hm, Fu.kp, hb, Fun.at_ Fu, fun3X Fu Sc hS hN (body fa)⟩
/-- a promise that is never asked -/
theorem Dfn.none {x : Str} {s : Stmt} {ps : List Str} {k : Nat} {Z : Zx K G} {S : Spec G} (D : Dfn K mg x s ps) (h0 : ∀ as g T U, ¬ S as g T U) : Ok P w K mg base k x ps (spZ Z S) := by
  obtain ⟨fa, fd, Fu, hm, hb⟩ := D
  exact ⟨fa, fd, hm, Fu.kp, hb, Fun.at_ Fu, fun vs H Q E h => by obtain ⟨_, _, as, T, U, _, _, _, _, h, _⟩ := h; exact absurd h (h0 as _ T U), fun A outer s' H args us vs Q E _ _ _ _ h => by obtain ⟨_, _, as, T, U, _, _, _, _, h, _⟩ := h; exact absurd h (h0 as _ T U)⟩
/-- the same over the heap, no data layer -/
theorem Dfn.raw {x : Str} {s : Stmt} {N ps : List Str} {k : Nat} {sp : Sp} (D : Dfn K mg x s ps) (Sc : FnScope N ps (defScope s)) (hS : ∀ vs H Q E, sp vs H Q E → vs.length = ps.length)
    (body : ∀ (fa : Addr) (cdv : Value) (A : Around) (outer : List Env) (s' : Shared) (H : Hp) (vs : List V) (Q : VK) (E : XK), RoomG k (A.deeper (PyProof.Rows.envOfC x (defScope s) s'.heap.objs.size fa cdv)) → sp vs H Q E →
      ∃ t, PSs (cxOf (L2.CX P w) P w K mg base N x (defScope s) fa cdv A outer s' H E).nox (defBody s) t ∧ t { nx := fun _ H' => Q .non H', rt := Q } (L2.start N vs) H) : Ok P w K mg base (k + 1) x ps sp := by
  obtain ⟨fa, fd, Fu, hm, hb⟩ := D
  refine ⟨fa, fd, hm, Fu.kp, hb, Fun.at_ Fu, funG Fu Sc hS fun cdv A outer s' H vs Q E hr h => ?_⟩
  obtain ⟨t, h1, h2⟩ := body fa cdv A outer s' H vs Q E hr h
  exact ⟨t, h1.nox, h2⟩
end
section
variable {k : Nat} {ps : List Str} {x : Str} {p pos : Pos} {e : Expr} {es : List Expr} {ta : TA} {a : DA G}
/-- how a call's errors go: nowhere, or where the body's go -/
structure Let (X : Cx) (Z : Zx K G) (U : UX G) (E : St → XK) : Prop where
  pa : ∀ σ, PassesAt (L2.CX X.prog X.w) X σ (E σ)
  lw : LeW Z U E
theorem let_n : Let X Z Un (fun _ => E0) := ⟨fun _ => passN, leW_n⟩
/-- where the body's errors go -/
theorem let_w {W : WXH} {U : UX G} (tk : Takes X W) : Let X (Z.wish W U) U (WE W) := ⟨fun σ => passAt tk σ, leW_z (Z := Z.wish W U)⟩
theorem let_z (tk : Takes X Z.W) : Let X Z Z.U (WE Z.W) := ⟨fun σ => passAt tk σ, leW_z⟩
/-- f(..) with the resource -/
theorem e_fnU {U : UX G} {E : St → XK} (L : Let X Z U E) {S : Spec G} {Z' : Zx K G} (F : Ok X.prog X.w X.K X.mg X.base k x ps (spZ Z' S)) (hr : RoomG k X.A) (ha : DAs X Z (e :: es) ta a) (hz : spZ Z' S = spZ Z S := by rfl) (hg : Gl X x := by rfl) (hdb : (x == ("__debug__" : Str)) = false := by decide)
    (he : starEach (e :: es) X.env = (false, eval e X.env) :: starEach es X.env := by rfl) (hpl : (backTo pos (starEach es X.env)).any (·.1) = false := by rfl) : DE X Z (.Call (.Name x p) (e :: es) [] pos) (tCallE (spZ Z' S) [] E ta) (dCall U S [] a) := by
  obtain ⟨fa, fd, hm, hk, hb, _, Fk⟩ := F
  exact ⟨pe_callG Fk hr hg hm hk hb .nil L.pa ha.pa hdb he hpl, by rw [hz]; exact sim_call L.lw (fun _ _ => .nil) ha.sim⟩
/-- f(..) of a def without one -/
theorem e_fn0U {U : UX G} {E : St → XK} (L : Let X Z U E) {S : Spec Unit} (F : Ok X.prog X.w X.K X.mg X.base k x ps (spZ (Z0 K) S)) (hr : RoomG k X.A) (ha : DAs X Z (e :: es) ta a) (hg : Gl X x := by rfl) (hdb : (x == ("__debug__" : Str)) = false := by decide)
    (he : starEach (e :: es) X.env = (false, eval e X.env) :: starEach es X.env := by rfl) (hpl : (backTo pos (starEach es X.env)).any (·.1) = false := by rfl) : DE X Z (.Call (.Name x p) (e :: es) [] pos) (tCallE (spZ (Z0 K) S) [] E ta) (dCall0 U S [] a) := by
  obtain ⟨fa, fd, hm, hk, hb, _, Fk⟩ := F
  exact ⟨pe_callG Fk hr hg hm hk hb .nil L.pa ha.pa hdb he hpl, sim_call0 L.lw (fun _ => .nil) ha.sim⟩
/-- the same, what is handed in stays the caller's (the answer is flat) -/
theorem e_fnBU {U : UX G} {E : St → XK} (L : Let X Z U E) {S : Spec Unit} (F : Ok X.prog X.w X.K X.mg X.base k x ps (spZ (Z0 K) S)) (hr : RoomG k X.A) (ha : DAs X Z (e :: es) ta a) (hg : Gl X x := by rfl) (hdb : (x == ("__debug__" : Str)) = false := by decide)
    (he : starEach (e :: es) X.env = (false, eval e X.env) :: starEach es X.env := by rfl) (hpl : (backTo pos (starEach es X.env)).any (·.1) = false := by rfl) : DE X Z (.Call (.Name x p) (e :: es) [] pos) (tCallE (spZ (Z0 K) S) [] E ta) (dCallB U S [] a) := by
  obtain ⟨fa, fd, hm, hk, hb, _, Fk⟩ := F
  exact ⟨pe_callG Fk hr hg hm hk hb .nil L.pa ha.pa hdb he hpl, sim_callB L.lw (fun _ => .nil) ha.sim⟩
/-- f(..) at the heap -/
theorem pe_fn {sp : Sp} {ta : TA} (F : Ok X.prog X.w X.K X.mg X.base k x ps sp) (hr : RoomG k X.A) (ha : PA X (e :: es) ta) (hg : Gl X x := by rfl) (hdb : (x == ("__debug__" : Str)) = false := by decide)
    (he : starEach (e :: es) X.env = (false, eval e X.env) :: starEach es X.env := by rfl) (hpl : (backTo pos (starEach es X.env)).any (·.1) = false := by rfl) : PE X (.Call (.Name x p) (e :: es) [] pos) (tCallE sp [] (fun _ => E0) ta) := by
  obtain ⟨fa, fd, hm, hk, hb, _, Fk⟩ := F
  exact pe_callG Fk hr hg hm hk hb .nil (fun _ => passN) ha hdb he hpl
end
theorem tb {G : Type} {T : Rs → G → Prop} {g : G} {b c : Bool} (h : T (.dt (.bool b)) g) (e : b = c) : T (.dt (.bool c)) g := e ▸ h
theorem td {G : Type} {T : Rs → G → Prop} {g : G} {b c : PyData} (h : T (.dt b) g) (e : b = c) : T (.dt c) g := e ▸ h
mutual
/-- no list or tuple in it is too long -/
def smD : PyData → Bool
  | .list ds => decide (ds.length ≤ 16777216) && smDs ds
  | .tuple ds => decide (ds.length ≤ 16777216) && smDs ds
  | .dict _ => false
  | _ => true
def smDs : List PyData → Bool
  | [] => true
  | d :: r => smD d && smDs r
end
theorem smDs_get : ∀ {ds : List PyData} {i : Nat} {d : PyData}, smDs ds = true → ds[i]? = some d → smD d = true
  | [], _, _, _, e => by simp at e
  | x :: r, 0, d, h, e => by
    rw [smDs, Bool.and_eq_true] at h
    simp at e
    rw [← e]; exact h.1
  | x :: r, i + 1, d, h, e => by
    rw [smDs, Bool.and_eq_true] at h
    exact smDs_get (i := i) h.2 (by simpa using e)
theorem smD_tup {ds : List PyData} (h : smD (.tuple ds) = true) : ds.length ≤ 16777216 ∧ smDs ds = true := by
  rw [smD, Bool.and_eq_true] at h
  exact ⟨of_decide_eq_true h.1, h.2⟩
theorem smD_lst {ds : List PyData} (h : smD (.list ds) = true) : ds.length ≤ 16777216 ∧ smDs ds = true := by
  rw [smD, Bool.and_eq_true] at h
  exact ⟨of_decide_eq_true h.1, h.2⟩
/-- a comprehension whose elements' values are known -/
theorem lc_fm {items : List PyData} {tg : DG G} {c : DB G} {e : DT G} {vs : List Nat} {ρ0 ρ1 : En} {g0 : G} {Q : Rs → En → G → Prop} (φ : PyData → Option PyData) (hw : wipeE ρ1 vs = ρ0 := by rfl)
    (hs : ∀ (k : Nat) (d : PyData), items[k]? = some d → ∀ (C1 : PyData → En → G → Prop) (C0 : En → G → Prop), (match φ d with | some d' => C1 d' ρ0 g0 | none => C0 ρ0 g0) →
      tg d ρ0 g0 fun ρ2 g2 => c ρ2 g2 fun b ρ3 g3 => ifb b (e ρ3 g3 fun r ρ4 g4 => fz1 r ρ4 fun d' ρ5 => C1 d' (wipeE ρ5 vs) g4) (C0 (wipeE ρ3 vs) g3))
    (hQ : Q (.nl (items.filterMap φ)) ρ0 g0) (hU : unAll ρ0 vs := by first | exact ⟨rfl, trivial⟩ | exact ⟨rfl, rfl, trivial⟩ | exact ⟨rfl, rfl, rfl, trivial⟩) :
    LcP items tg c e vs ρ1 g0 Q := by
  subst hw
  refine ⟨⟨fun k acc ρ' g' => acc = (items.take k).filterMap φ ∧ ρ' = wipeE ρ1 vs ∧ g' = g0, ⟨rfl, rfl, rfl⟩, fun k d acc ρ' g' hd hI => ?_, fun acc ρ' g' hI => ?_⟩⟩
  · obtain ⟨rfl, rfl, rfl⟩ := hI
    refine hs k d hd (fun d' ρ' g'' => List.filterMap φ (items.take k) ++ [d'] = (items.take (k + 1)).filterMap φ ∧ ρ' = wipeE ρ1 vs ∧ g'' = g') (fun ρ' g'' => List.filterMap φ (items.take k) = (items.take (k + 1)).filterMap φ ∧ ρ' = wipeE ρ1 vs ∧ g'' = g') ?_
    rw [List.take_add_one, hd]
    cases h : φ d with
    | none => simp [h]
    | some d' => simp [h]
  · obtain ⟨rfl, rfl, rfl⟩ := hI
    rw [List.take_length]
    exact ⟨hU, hQ⟩
theorem lc_map {items : List PyData} {tg : DG G} {c : DB G} {e : DT G} {vs : List Nat} {ρ0 ρ1 : En} {g0 : G} {Q : Rs → En → G → Prop} (φ : PyData → PyData) (hw : wipeE ρ1 vs = ρ0 := by rfl)
    (hs : ∀ (k : Nat) (d : PyData), items[k]? = some d → ∀ (C1 : PyData → En → G → Prop) (C0 : En → G → Prop), C1 (φ d) ρ0 g0 →
      tg d ρ0 g0 fun ρ2 g2 => c ρ2 g2 fun b ρ3 g3 => ifb b (e ρ3 g3 fun r ρ4 g4 => fz1 r ρ4 fun d' ρ5 => C1 d' (wipeE ρ5 vs) g4) (C0 (wipeE ρ3 vs) g3))
    (hQ : Q (.nl (items.map φ)) ρ0 g0) (hU : unAll ρ0 vs := by first | exact ⟨rfl, trivial⟩ | exact ⟨rfl, rfl, trivial⟩ | exact ⟨rfl, rfl, rfl, trivial⟩) :
    LcP items tg c e vs ρ1 g0 Q :=
  lc_fm (fun d => some (φ d)) hw hs (by rw [show List.filterMap (fun d => some (φ d)) items = items.map φ from by rw [← List.filterMap_eq_map]; rfl]; exact hQ) hU
/-- a comprehension whose elements are told by a property -/
theorem lc_all {items : List PyData} {tg : DG G} {c : DB G} {e : DT G} {vs : List Nat} {ρ0 ρ1 : En} {g0 : G} {Q : Rs → En → G → Prop} (p : Nat → PyData → Prop) (hw : wipeE ρ1 vs = ρ0 := by rfl)
    (hs : ∀ (k : Nat) (d : PyData), items[k]? = some d → ∀ (C1 : PyData → En → G → Prop) (C0 : En → G → Prop), (∀ d', p k d' → C1 d' ρ0 g0) →
      tg d ρ0 g0 fun ρ2 g2 => c ρ2 g2 fun b ρ3 g3 => ifb b (e ρ3 g3 fun r ρ4 g4 => fz1 r ρ4 fun d' ρ5 => C1 d' (wipeE ρ5 vs) g4) (C0 (wipeE ρ3 vs) g3))
    (hQ : ∀ acc : List PyData, acc.length = items.length → (∀ k d', acc[k]? = some d' → p k d') → Q (.nl acc) ρ0 g0) (hU : unAll ρ0 vs := by first | exact ⟨rfl, trivial⟩ | exact ⟨rfl, rfl, trivial⟩ | exact ⟨rfl, rfl, rfl, trivial⟩) :
    LcP items tg c e vs ρ1 g0 Q := by
  subst hw
  refine ⟨⟨fun k acc ρ' g' => (acc.length = k ∧ ∀ j d', acc[j]? = some d' → p j d') ∧ ρ' = wipeE ρ1 vs ∧ g' = g0, ⟨⟨rfl, fun j d' e => by simp at e⟩, rfl, rfl⟩, fun k d acc ρ' g' hd hI => ?_, fun acc ρ' g' hI => ?_⟩⟩
  · obtain ⟨⟨hl, hp⟩, rfl, rfl⟩ := hI
    refine hs k d hd (fun d' ρ' g'' => ((acc ++ [d']).length = k + 1 ∧ ∀ j x, (acc ++ [d'])[j]? = some x → p j x) ∧ ρ' = wipeE ρ1 vs ∧ g'' = g') (fun ρ' g'' => (acc.length = k + 1 ∧ ∀ j d', acc[j]? = some d' → p j d') ∧ ρ' = wipeE ρ1 vs ∧ g'' = g') fun d' hd' => ⟨⟨by simp [hl], fun j x e => ?_⟩, rfl, rfl⟩
    by_cases hj : j < acc.length
    · rw [List.getElem?_append_left hj] at e
      exact hp j x e
    · have hj2 : j = acc.length := by
        have := (List.getElem?_eq_some_iff.mp e).1
        simp at this
        omega
      subst hj2
      simp at e
      subst e
      rw [hl]; exact hd'
  · obtain ⟨⟨hl, hp⟩, rfl, rfl⟩ := hI
    exact ⟨hU, hQ acc hl hp⟩
theorem take_map {α β : Type} (φ : α → β) {xs : List α} {k : Nat} {d : α} (h : xs[k]? = some d) : (xs.take k).map φ ++ [φ d] = (xs.take (k + 1)).map φ := by
  rw [List.take_add_one, h]; simp
theorem take_all {α β : Type} (φ : α → β) (xs : List α) : (xs.take xs.length).map φ = xs.map φ := by rw [List.take_length]
theorem boolsF {α : Type} (f : α → Bool) (xs : List α) : boolsL (xs.map fun x => PyData.bool (f x)) = some (xs.map f) := by
  have := boolsL_map (xs.map f)
  rwa [List.map_map] at this
theorem intsF {α : Type} (f : α → Int) (xs : List α) : intsL (xs.map fun x => PyData.int (f x)) = some (xs.map f) := by
  have := intsL_map (xs.map f)
  rwa [List.map_map] at this
theorem rngD_inv {lo : Int} {n k : Nat} {d : PyData} (h : (rngD lo n)[k]? = some d) : d = .int (lo + (k : Nat)) ∧ k < n := by
  have hk : k < n := by
    have := (List.getElem?_eq_some_iff.mp h).1
    rwa [rngD_len] at this
  rw [rngD_get lo hk] at h
  cases h
  exact ⟨rfl, hk⟩
theorem smDs_of : ∀ {ds : List PyData}, (∀ (i : Nat) (d : PyData), ds[i]? = some d → smD d = true) → smDs ds = true
  | [], _ => rfl
  | d :: r, h => by
    rw [smDs, h 0 d rfl, smDs_of (ds := r) fun i x e => h (i + 1) x (by simpa using e)]; rfl
theorem smDs_mem : ∀ {ds : List PyData}, (∀ d ∈ ds, smD d = true) → smDs ds = true
  | [], _ => rfl
  | d :: r, h => by
    rw [smDs, h d List.mem_cons_self, smDs_mem (ds := r) fun x e => h x (List.mem_cons_of_mem _ e)]; rfl
theorem all_of_get {p : PyData → Bool} {ds : List PyData} (h : ∀ (i : Nat) (d : PyData), ds[i]? = some d → p d = true) : ds.all p = true := by
  rw [List.all_eq_true]
  intro x hx
  obtain ⟨i, hi⟩ := List.getElem?_of_mem hx
  exact h i x hi
theorem atI_mem {α : Type} {xs : List α} {i : Int} (h0 : 0 ≤ i) (h1 : i < xs.length) : ∃ x, x ∈ xs ∧ atI xs i = some x := by
  obtain ⟨n, rfl⟩ := Int.eq_ofNat_of_zero_le h0
  have hn : n < xs.length := by omega
  refine ⟨xs[n], List.getElem_mem hn, ?_⟩
  exact atI_nat (List.getElem?_eq_getElem hn)
theorem atI_int {zs : List Int} {i : Int} (h0 : 0 ≤ i) (h1 : i < zs.length) : ∃ z, z ∈ zs ∧ atI (zs.map PyData.int) i = some (.int z) := by
  obtain ⟨n, rfl⟩ := Int.eq_ofNat_of_zero_le h0
  have hn : n < zs.length := by omega
  refine ⟨zs[n], List.getElem_mem hn, ?_⟩
  exact atI_nat (by rw [List.getElem?_map, List.getElem?_eq_getElem hn]; rfl)
theorem atI_gen {ds : List PyData} {i : Int} {K : PyData → Prop} (h0 : 0 ≤ i) (h1 : i < ds.length) (k : ∀ d ∈ ds, K d) : opK (atI ds i) K := by
  obtain ⟨d, hd, e⟩ := atI_mem h0 h1
  exact opK_of e (k d hd)
def isInts (ds : List PyData) : Bool := ds.all fun d => match d with
  | .int _ => true
  | _ => false
theorem atI_go {ds : List PyData} {i : Int} {K : PyData → Prop} (hi : isInts ds = true) (h0 : 0 ≤ i) (h1 : i < ds.length) (k : ∀ z, PyData.int z ∈ ds → K (.int z)) : opK (atI ds i) K := by
  obtain ⟨d, hd, e⟩ := atI_mem h0 h1
  have := List.all_eq_true.mp hi d hd
  cases d with
  | int z => exact opK_of e (k z hd)
  | _ => cases this
theorem mulL {i j : Int} (h : (Builtin.Int.intBits i : Int) + (Builtin.Int.intBits j : Int) ≤ 134217728 := by decide +kernel) : MulOk i j := .inr h
theorem pk_of {i m : Int} {p : Prop} (h0 : 0 < m) (h1 : m < 2 ^ 64) (hp : p) : dvK i m p := dvK_of ⟨h0, log_small h0 h1⟩ hp
theorem mulr {i j : Int} (h : -(2 ^ 64) < j ∧ j < 2 ^ 64 := by decide) : MulOk i j := .inl (.inr h)
theorem mull {i j : Int} (h : -(2 ^ 64) < i ∧ i < 2 ^ 64 := by decide) : MulOk i j := .inl (.inl h)
theorem nlt {a b : Nat} (h : Nat.ble (a + 1) b = true := by rfl) : a < b := Nat.le_of_ble_eq_true h
theorem nle {a b : Nat} (h : Nat.ble a b = true := by rfl) : a ≤ b := Nat.le_of_ble_eq_true h
end L3
end
section
/-! L3o: dicts by whole numbers and texts: made, read, stored. -/
namespace L3
open PySem L2
variable {G : Type} {K : PySem.W.Frag} {X : Cx} {Z : Zx K G}
def kOf : PyData → Option Key
  | .int i => some (.inl i)
  | .str x => some (.inr x)
  | _ => none
def kq (d e : PyData) : Bool := match d, e with
  | .int i, .int j => decide (i = j)
  | .str x, .str y => decide (x = y)
  | _, _ => false
/-- what a dict holds at a key; with another value there -/
def lookD (kvs : List (PyData × PyData)) (k : PyData) : Option PyData := match kvs with
  | [] => none
  | p :: r => match kq p.1 k with
    | true => some p.2
    | false => lookD r k
def putD (kvs : List (PyData × PyData)) (k v : PyData) : List (PyData × PyData) := match kvs with
  | [] => [(k, v)]
  | p :: r => match kq p.1 k with
    | true => (p.1, v) :: r
    | false => p :: putD r k v
theorem kq_kD (a b : Key) : kq (kD a) (kD b) = decide (a = b) := by
  cases a <;> cases b <;> simp [kq, kD]
theorem putK_cons_pos {p : Key × V} {r : List (Key × V)} {k : Key} {v : V} (h : p.1 = k) (nd : valV r k = none) : putK (p :: r) k v = (p.1, v) :: r := by
  unfold putK
  rw [if_pos (by simp [h])]
  rw [List.map_cons, if_pos h]
  congr 1
  have := valV_any k r
  rw [nd] at this
  simp only [Option.isSome_none, List.any_eq_false, decide_eq_true_eq] at this
  conv => rhs; rw [← List.map_id r]
  apply List.map_congr_left
  intro q hq
  rw [if_neg (this q hq)]; rfl
theorem putK_cons_neg {p : Key × V} {r : List (Key × V)} {k : Key} {v : V} (h : ¬ p.1 = k) : putK (p :: r) k v = p :: putK r k v := by
  unfold putK
  rw [List.any_cons, decide_eq_false h, Bool.false_or]
  by_cases q : (r.any fun kv => decide (kv.1 = k)) = true
  · rw [if_pos q, if_pos q, List.map_cons, if_neg h]
  · rw [if_neg q, if_neg q]; rfl
/-- no key stands twice -/
def ndK : List (Key × V) → Prop
  | [] => True
  | p :: r => valV r p.1 = none ∧ ndK r
theorem daKv_look {K : PySem.W.Frag} {F : Hp} : ∀ {vs : List (Key × V)} {ds : List (PyData × PyData)} (k : Key), DaKv K F vs ds → (∀ d, lookD ds (kD k) = some d → ∃ v, valV vs k = some v ∧ Da K F v d) ∧ (lookD ds (kD k) = none → valV vs k = none)
  | _, _, k, .nil => ⟨fun d e => (by cases e), fun _ => rfl⟩
  | _, _, k, @DaKv.cons _ _ k' v vs d ds h r => by
    obtain ⟨i1, i2⟩ := daKv_look k r
    by_cases e : k' = k
    · subst e
      rw [lookD, kq_kD, decide_eq_true rfl]
      exact ⟨fun d' e' => ⟨v, valV_pos rfl, by cases e'; exact h⟩, fun e' => by cases e'⟩
    · rw [lookD, kq_kD, decide_eq_false e, valV_neg (p := (k', v)) e]
      exact ⟨i1, i2⟩
theorem daKv_len {K : PySem.W.Frag} {F : Hp} : ∀ {vs : List (Key × V)} {ds : List (PyData × PyData)}, DaKv K F vs ds → vs.length = ds.length
  | _, _, .nil => rfl
  | _, _, .cons _ r => by rw [List.length_cons, List.length_cons, daKv_len r]
/-- a dict's data: the keys differ -/
def ndD : List (PyData × PyData) → Bool
  | [] => true
  | p :: r => (lookD r p.1).isNone && ndD r
theorem daKv_put {K : PySem.W.Frag} {F : Hp} {v : V} {d : PyData} (hv : Da K F v d) (k : Key) : ∀ (vs : List (Key × V)) (ds : List (PyData × PyData)), ndD ds = true → DaKv K F vs ds → DaKv K F (putK vs k v) (putD ds (kD k) d)
  | [], ds, _, h => by cases h; exact DaKv.cons (k := k) (vs := []) (ds := []) hv .nil
  | (k', v') :: vs, ds, nd, h => by
    cases h with
    | cons h r =>
      rw [ndD, Bool.and_eq_true] at nd
      by_cases e : k' = k
      · subst e
        rw [putD, kq_kD, decide_eq_true rfl, putK_cons_pos rfl ((daKv_look k' r).2 (by simpa using nd.1))]
        exact DaKv.cons (k := k') hv r
      · rw [putD, kq_kD, decide_eq_false e, putK_cons_neg (p := (k', v')) e]
        exact DaKv.cons (k := k') h (daKv_put hv k vs _ nd.2 r)
theorem kq_refl_of {a b : PyData} (h : kq a b = true) : a = b := by
  cases a <;> cases b <;> simp [kq] at h <;> rw [h]
theorem lookD_put (k j v : PyData) : ∀ kvs : List (PyData × PyData), (∀ p ∈ kvs, (kOf p.1).isSome = true) → (kOf k).isSome = true → lookD (putD kvs k v) j = if kq k j = true then some v else lookD kvs j
  | [], _, hk => by
    show lookD [(k, v)] j = _
    simp only [lookD]
    cases e : kq k j <;> simp
  | p :: r, hp, hk => by
    have ih := lookD_put k j v r (fun q hq => hp q (List.mem_cons_of_mem _ hq)) hk
    rw [putD]
    cases e : kq p.1 k with
    | true =>
      have e1 := kq_refl_of e
      show lookD ((p.1, v) :: r) j = _
      rw [lookD, lookD, e1]
      cases e2 : kq k j <;> simp
    | false =>
      show lookD (p :: putD r k v) j = _
      rw [lookD, lookD, ih]
      cases e2 : kq p.1 j with
      | true =>
        have e3 := kq_refl_of e2
        have e4 : kq k j = false := by
          cases e5 : kq k j with
          | false => rfl
          | true =>
            have e6 := kq_refl_of e5
            rw [e3, ← e6] at e
            have : kq k k = true := by
              cases k <;> simp [kOf] at hk <;> simp [kq]
            rw [this] at e; cases e
        rw [e4]
        simp
      | false => rfl
theorem ndD_put (k v : PyData) : ∀ kvs : List (PyData × PyData), ndD kvs = true → ndD (putD kvs k v) = true
  | [], _ => rfl
  | p :: r, h => by
    rw [ndD, Bool.and_eq_true] at h
    rw [putD]
    cases e : kq p.1 k with
    | true => show ndD ((p.1, v) :: r) = true; rw [ndD, h.1, h.2]; rfl
    | false =>
      show ndD (p :: putD r k v) = true
      rw [ndD, ndD_put k v r h.2, Bool.and_true]
      have aux : ∀ (r : List (PyData × PyData)), (lookD r p.1).isNone = true → (lookD (putD r k v) p.1).isNone = true := by
        intro r
        induction r with
        | nil =>
          intro _
          rw [putD, lookD]
          have : kq k p.1 = false := by
            cases q : kq k p.1 with
            | false => rfl
            | true =>
              have := kq_refl_of q
              subst this
              rw [q] at e; cases e
          rw [this]; rfl
        | cons q r ih =>
          intro hq
          rw [lookD] at hq
          rw [putD]
          cases e1 : kq q.1 p.1 with
          | true => rw [e1] at hq; cases hq
          | false =>
            rw [e1] at hq
            cases e2 : kq q.1 k with
            | true => show (lookD ((q.1, v) :: r) p.1).isNone = true; rw [lookD, e1]; exact hq
            | false => show (lookD (q :: putD r k v) p.1).isNone = true; rw [lookD, e1]; exact ih hq
      exact aux r h.1
/-! ### values as keys; a dict that is held -/
section
variable {f : Fx} {F F' : Hp} {ad : Nat → Addr} {ρ : En} {g : G} {σ : St} {H H' : Hp} {Q : Rs → En → G → Prop}
theorem Rel.key (R : Rel Z f F ad ρ g σ H) {v : V} {r : Rs} {d : PyData} {k : Key} (h : VR Z f F ad ρ g σ H v r) (e : rd r ρ = some d) (hk : kOf d = some k) : v = kV k ∧ d = kD k := by
  have q := R.hrd h e
  cases d <;> first | (cases hk; cases q; exact ⟨rfl, rfl⟩) | cases hk
theorem Rel.ditems (R : Rel Z f F ad ρ g σ H) {v : V} {r : Rs} {ds : List (PyData × PyData)} (h : VR Z f F ad ρ g σ H v r) (e : rd r ρ = some (.dict ds)) : ∃ a vs, v = .ref a ∧ H a = some (.dK vs) ∧ DaKv K F vs ds := by
  cases r with
  | dt d => cases e; cases h; rename_i a vs h1 h2; exact ⟨a, vs, rfl, R.fin.sub _ _ h1, h2⟩
  | nd ds => obtain ⟨a, vs, rfl, _, h1, h2⟩ := h; cases e; exact ⟨a, vs, rfl, h1, h2⟩
  | br i =>
    have e1 : rdS ρ[i]? = some (.dict ds) := e
    cases hi : ρ[i]? with
    | none => rw [hi] at e1; cases e1
    | some s =>
      rw [hi] at e1
      have q := R.slot i _ hi
      cases s with
      | dt d' =>
        cases e1
        obtain ⟨w, q1, q2⟩ := q
        have z : some (some w) = some (some v) := q1.symm.trans h
        cases z
        cases q2
        rename_i a vs h1 h2
        exact ⟨a, vs, rfl, R.fin.sub _ _ h1, h2⟩
      | dk ds =>
        cases e1
        obtain ⟨q1, _, vs, q3, q4⟩ := q
        have z : some (some (V.ref (ad i))) = some (some v) := q1.symm.trans h
        cases z
        exact ⟨_, vs, rfl, q3, q4⟩
      | _ => cases e1
  | _ => cases e
theorem Rel.dget (R : Rel Z f F ad ρ g σ H) {v y : V} {r r2 : Rs} {ds : List (PyData × PyData)} {k : PyData} {kk : Key} (h : VR Z f F ad ρ g σ H v r) (e : rd r ρ = some (.dict ds)) (h2 : VR Z f F ad ρ g σ H y r2) (e2 : rd r2 ρ = some k) (hk : kOf k = some kk) :
    ∃ a o, v = .ref a ∧ DGet H a y o ∧ (∀ d, lookD ds k = some d → ∃ w, o = some w ∧ Da K F w d) ∧ (lookD ds k = none → o = none) := by
  obtain ⟨a, vs, rfl, ha, da⟩ := R.ditems h e
  obtain ⟨rfl, rfl⟩ := R.key h2 e2 hk
  obtain ⟨l1, l2⟩ := daKv_look kk da
  exact ⟨a, _, rfl, DGet.k ha, l1, l2⟩
theorem Rel.newD (R : Rel Z f F ad ρ g σ H) {p : Addr} {vs : List (Key × V)} {ds : List (PyData × PyData)} (hp : H p = none) (h : DaKv K F vs ds) (q : Q (.nd ds) ρ g) : Post Z f F g σ Q (.ref p) (upd H p (.dK vs)) := by
  obtain ⟨R', n⟩ := R.laid (o := .dK vs) hp
  exact ⟨F, ad, ρ, g, .nd ds, Evl.Ex.refl F, rfl, R', ⟨p, vs, rfl, n, upd_same, h⟩, q⟩
end
/-- {} -/
def dDict0 : DT G := fun ρ g Q => Q (.nd []) ρ g
theorem e_dict0 {pos : Pos} : DE X Z (.Dict [] [] pos) tDNewK (dDict0 (G := G)) := ⟨pe_dnewK, fun f F ad ρ g σ H Q R q P hP => fun p hp => hP _ _ (R.newD hp .nil q)⟩
/-- {k: v} -/
def dDict1 (a b : DT G) : DT G := fun ρ g Q => a ρ g fun r1 ρ1 g1 => b ρ1 g1 fun r2 ρ2 g2 => fz1 r2 ρ2 fun d ρ3 => opK (rd (st r1) ρ3) fun k => opK (kOf k) fun _ => Q (.nd [(k, d)]) ρ3 g2
theorem e_dict1 {k v : Expr} {tk tv : TE} {a b : DT G} {pos : Pos} (hk : DE X Z k tk a) (hv : DE X Z v tv b) : DE X Z (.Dict [some k] [v] pos) (tDisp [(tk, tv)]) (dDict1 a b) :=
  ⟨pe_disp (pps_cons hk.pe hv.pe pps_nil) rfl rfl (by simp) (by simp), fun f F ad ρ g σ H Q R q P hP => by
    intro p hp
    obtain ⟨R0, n0⟩ := R.laid (o := .dK []) hp
    have h0 : p ∉ f.fp0 := fun hm => by
      have := R.fin.fpo p hm
      exact this n0.1.2.1
    have Rh := R0.hide n0 h0 upd_same
    refine hk.sim _ F ad ρ g σ _ _ Rh q _ fun x H1 q1 => ?_
    obtain ⟨F1, ad1, ρ1, g1, r1, e1, eg1, R1, v1, q1⟩ := q1
    obtain ⟨F1', e1', R1', v1'⟩ := R1.hst v1
    refine hv.sim _ F1' ad1 ρ1 g1 σ H1 _ R1' q1 _ fun y H2 q2 => ?_
    obtain ⟨F2, ad2, ρ2, g2, r2, e2, eg2, R2, v2, q2⟩ := q2
    obtain ⟨d, ρ3, ef, q2⟩ := fz1_of q2
    obtain ⟨kd, ek, q2⟩ := opK_e q2
    obtain ⟨kk, eo, q2⟩ := opK_e q2
    obtain ⟨F3, e3, R3, dv⟩ := R2.hfz v2 ef
    obtain ⟨rfl, rfl⟩ := R3.key (v1'.held (ad1 := ad2) (ρ1 := ρ3) (H1 := H2) (e2.trans e3) eg2) ek eo
    obtain ⟨R4, n4, hp4⟩ := Rel.unhide R0 (eg2.trans eg1) n0.1 h0 R3
    refine ⟨hp4, [(kk, y)], rfl, by show 1 ≤ 15; decide, hP _ _ ⟨F3, ad2, ρ3, g2, .nd [(kD kk, d)], (e1.trans e1').trans (e2.trans e3), eg2.trans eg1, ⟨⟨R4.fin.upd n4.1, R4.len, fun i s hi => ?_, R4.inj⟩, R4.lx⟩, ⟨p, [(kk, y)], rfl, n4, upd_same, .cons dv .nil⟩, q2⟩⟩
    have z := R4.slot i s hi
    cases s with
    | ls ds => obtain ⟨z1, z2, vs', z3, z4⟩ := z; exact ⟨z1, z2, vs', by rw [upd_ne (n4.2 i _ hi rfl)]; exact z3, z4⟩
    | dk ds => obtain ⟨z1, z2, vs', z3, z4⟩ := z; exact ⟨z1, z2, vs', by rw [upd_ne (n4.2 i _ hi rfl)]; exact z3, z4⟩
    | _ => exact z⟩
/-- d[k] = v, d an own dict in slot i -/
def ownD (ρ : En) (i : Nat) : Option (List (PyData × PyData)) := match ρ[i]? with
  | some (.dk ds) => some ds
  | _ => none
theorem ownD_of {ρ : En} {i : Nat} {ds : List (PyData × PyData)} (h : ownD ρ i = some ds) : ρ[i]? = some (.dk ds) := by
  unfold ownD at h
  split at h
  · rename_i es e; cases h; exact e
  · cases h
def dDPut (i : Nat) (a b : DT G) : DS G := fun D ρ g => a ρ g fun r1 ρ1 g1 => opK (ownD ρ1 i) fun _ => b ρ1 g1 fun r2 ρ2 g2 => fz1 (st r1) ρ2 fun d ρ3 => opK (rd r2 ρ3) fun k => opK (kOf k) fun _ => opK (ownD ρ3 i) fun ds => ltK ds.length 16777216 (ndD ds = true ∧ D.nx (ρ3.set i (.dk (putD ds k d))) g2)
theorem fz_rd {f : Fx} {F F' : Hp} {ad : Nat → Addr} {ρ ρ' : En} {g : G} {σ : St} {H : Hp} {v : V} {r : Rs} (h : VR Z f F ad ρ g σ H v r) (e : Ex F F') (R' : Rel Z f F' ad ρ' g σ H) {d : PyData} {k : Key} (e1 : rd r ρ' = some d) (hk : kOf d = some k) : v = kV k ∧ d = kD k := by
  cases r with
  | dt x =>
    cases e1
    cases d <;> first | (cases hk; cases (show Da K F _ _ from h); exact ⟨rfl, rfl⟩) | cases hk
  | br i => exact R'.key (r := .br i) (show VR Z f F' ad ρ' g σ H v (.br i) from h) e1 hk
  | nl x => cases e1; cases hk
  | nd x => cases e1; cases hk
  | _ => cases e1
theorem sim_dput {i : Nat} {ta tb : TE} {a b : DT G} (ha : Sim Z ta a) (hb : Sim Z tb b) : SimS Z (sDPut (tVar i) tb ta) (dDPut i a b) := fun f F ad ρ g σ H D R h D2 le => by
  refine ha f F ad ρ g σ H _ R h _ fun x H1 q => ?_
  obtain ⟨F1, ad1, ρ1, g1, r1, e1, eg1, R1, v1, q⟩ := q
  obtain ⟨F1', e1', R1', v1'⟩ := R1.hst v1
  obtain ⟨ds0, e0, q⟩ := opK_e q
  have hi0 := ownD_of e0
  obtain ⟨z1, z2, vs0, z3, z4⟩ := R1'.slot i _ hi0
  refine ⟨.ref (ad1 i), z1, hb f F1' ad1 ρ1 g1 σ H1 _ R1' q _ fun y H2 q2 => ?_⟩
  obtain ⟨F2, ad2, ρ2, g2, r2, e2, eg2, R2, v2, q⟩ := q2
  obtain ⟨d, ρ3, ef, q⟩ := fz1_of q
  obtain ⟨kd, ek, q⟩ := opK_e q
  obtain ⟨kk, eo, q⟩ := opK_e q
  obtain ⟨ds, ed, q⟩ := opK_e q
  obtain ⟨hl, nd, q⟩ := ltK_e q
  obtain ⟨F3, e3, R3, dv⟩ := R2.hfz (v1'.held e2 eg2) ef
  obtain ⟨rfl, rfl⟩ := fz_rd v2 e3 R3 ek eo
  have hi := ownD_of ed
  obtain ⟨y1, y2, vs, y3, y4⟩ := R3.slot i _ hi
  have ea : ad2 i = ad1 i := by
    have z : some (some (V.ref (ad2 i))) = some (some (V.ref (ad1 i))) := y1.symm.trans z1
    injection z with z; injection z with z; injection z
  rw [← ea]
  refine ⟨_, _, rfl, DPut.k y3 (by rw [sizeLine_eq, daKv_len y4]; exact hl), ?_⟩
  refine le.nx F3 ad2 _ g2 σ _ (eg2.trans eg1) (R3.wrote (s' := .dk (putD ds (kD kk) d)) hi rfl ?_) q
  exact ⟨y1, y2, _, upd_same, daKv_put dv kk _ _ nd y4⟩
theorem s_dput (hu : X.A.units + 64 < cLine) (i : Nat) {x : Str} {e j : Expr} {te tj : TE} {a b : DT G} {px ps pos : Pos} (he : DE X Z e te a) (hj : DE X Z j tj b) (hN : X.N[i]? = some x := by rfl)
    (hv : Vis X.env.scope x := by first | exact Or.inl rfl | exact Or.inr (Or.inl rfl) | exact Or.inr (Or.inr rfl)) (hd : (x == ("__debug__" : Str)) = false := by decide) (hcd : (x == ("__classdict__" : Str)) = false := by decide)
    (hs : swapsWith e (some (.Subscript (.Name x px) j ps)) pos.line X.env = pure false := by rfl) : DSt X Z (.Assign [.Subscript (.Name x px) j ps] e pos) (sDPut (tVar i) tj te) (dDPut i a b) :=
  ⟨ps_dput (by omega) (pe_var hN hv hd hcd) hj.pe he.pe hs, sim_dput he.sim hj.sim⟩
/-! ### d[k], k in d, d.get(k, x), len(d) -/
def rIxD : R2 := fun x y H Q => ∃ a v, x = .ref a ∧ DGet H a y (some v) ∧ Q v H
theorem ix_dict (hu : X.A.units + 1 < cLine) : IxR X rIxD := by
  intro value slice pins s σ H x y v u Q I rx ry h hs
  obtain ⟨a, w, rfl, gt, q⟩ := h
  cases rx
  have hT := dict_typeIs I gt
  unfold PyProof.Rows.subscriptTail
  refine wpAny_bind ?_
  rw [getitemInPython_of_ne hT.not_modules]
  refine wpAny_bind (wpAny_specialOf hT PySem.F.slot_dict_getitem.lookup ?_)
  have last : wpAny (model X.prog X.w) X.A (subscripted slice false (.ref a) u) (fun r t => wpAny (model X.prog X.w) X.A (letTemporaryGo value (.ref a) r >>= fun _ => pure r) (EP X pins σ Q) X.xe t) X.xe s := by
    rw [hs]
    exact wpAny_operating (wpAny_mono (d_getItem hu I gt ry fun w' s' I' rw' => ⟨w, H, I', rw', q⟩) (fun r t ht => wpAny_bind (wpAny_letTemporaryGo (wpAny_pure ht))) fun _ _ z => z)
  first
    | exact wpAny_pure (wpAny_bind last)
    | exact wpAny_bind (wpAny_pure (wpAny_bind last))
    | exact wpAny_bind last
def ixX (ρ : En) (g : G) (Q : Rs → En → G → Prop) : Option PyData → Option PyData → Prop
  | some (.list ds), some (.int i) => opK (atI ds i) fun d => Q (.dt d) ρ g
  | some (.tuple ds), some (.int i) => opK (atI ds i) fun d => Q (.dt d) ρ g
  | some (.str z), some (.int i) => z.length ≤ sizeLine ∧ opK (atI z.cps.toList i) fun c => Q (.dt (.str ⟨#[c]⟩)) ρ g
  | some (.dict ds), some k => opK (kOf k) fun _ => opK (lookD ds k) fun d => Q (.dt d) ρ g
  | _, _ => False
def oIxX : RO G := fun r1 r2 ρ g Q => ixX ρ g Q (rd r1 ρ) (rd r2 ρ)
def rIxX (K : PySem.W.Frag) : R2 := fun x y H Q => rIx K x y H Q ∨ rIxD x y H Q
theorem sim_ixX : SimO Z (rIxX K) (oIxX (G := G)) := fun f F ad ρ g σ H x y r1 r2 Q R h1 h2 q P hP => by
  have q' : ixX ρ g Q (rd r1 ρ) (rd r2 ρ) := q
  unfold ixX at q'
  split at q'
  · rename_i ds i e1 e2
    exact .inl (sim_ix f F ad ρ g σ H x y r1 r2 Q R h1 h2 (show ixD ρ g Q (rd r1 ρ) (rd r2 ρ) by rw [e1, e2]; exact q') P hP)
  · rename_i ds i e1 e2
    exact .inl (sim_ix f F ad ρ g σ H x y r1 r2 Q R h1 h2 (show ixD ρ g Q (rd r1 ρ) (rd r2 ρ) by rw [e1, e2]; exact q') P hP)
  · rename_i ds i e1 e2
    exact .inl (sim_ix f F ad ρ g σ H x y r1 r2 Q R h1 h2 (show ixD ρ g Q (rd r1 ρ) (rd r2 ρ) by rw [e1, e2]; exact q') P hP)
  · rename_i ds k e1 e2
    obtain ⟨kk, ek, q'⟩ := opK_e q'
    obtain ⟨d, el, q'⟩ := opK_e q'
    obtain ⟨a, o, rfl, gt, l1, _⟩ := R.dget h1 e1 h2 e2 ek
    obtain ⟨w, rfl, dw⟩ := l1 d el
    exact .inr ⟨a, w, rfl, gt, hP _ _ (R.dat dw q')⟩
  · cases q'
theorem e_ixX (hu : X.A.units + 64 < cLine) {ea eb : Expr} {ta tb : TE} {a b : DT G} {pos : Pos} (ha : DE X Z ea ta a) (hb : DE X Z eb tb b) (hs : PlainIx eb := by exact fun _ _ => rfl) (hK : K = X.K := by rfl) : DE X Z (.Subscript ea eb pos) (tOp (rIxX K) ta tb) (dOp oIxX a b) :=
  ⟨pe_ix (by rw [hK]; exact ix_seq.or (ix_dict (by omega))) ha.pe hb.pe hs, sim_op sim_ixX ha.sim hb.sim⟩
def rInX (neg : Bool) : R2 := fun x y H Q => ∃ a o, y = .ref a ∧ DGet H a x o ∧ Q (.bl (xor neg o.isSome)) H
theorem op_inX (hu : X.A.units + 1 < cLine) : OpR X (compareOp .In) (rInX false) := by
  intro pins s σ H x y v u Q I rx ry h
  obtain ⟨a, o, rfl, gt, q⟩ := h
  cases ry
  exact d_in hu I gt rx fun s' I' => ⟨.bl o.isSome, H, I', rfl, by rw [Bool.false_xor] at q; exact q⟩
theorem op_ninX (hu : X.A.units + 1 < cLine) : OpR X (compareOp .NotIn) (rInX true) := by
  intro pins s σ H x y v u Q I rx ry h
  obtain ⟨a, o, rfl, gt, q⟩ := h
  cases ry
  exact d_notIn hu I gt rx fun s' I' => ⟨.bl (!o.isSome), H, I', rfl, by rw [Bool.true_xor] at q; exact q⟩
def inDX (neg : Bool) (ρ : En) (g : G) (Q : Rs → En → G → Prop) : Option PyData → Option PyData → Prop
  | some (.list a), some (.list ds) => SeqAt.shaped (.list a) = true ∧ SeqAt.shaped (.list ds) = true ∧ Q (.dt (.bool (xor neg (ds.any fun z => PyData.eqv z (.list a))))) ρ g
  | some (.tuple a), some (.list ds) => SeqAt.shaped (.tuple a) = true ∧ SeqAt.shaped (.list ds) = true ∧ Q (.dt (.bool (xor neg (ds.any fun z => PyData.eqv z (.tuple a))))) ρ g
  | some .none, some (.list ds) => SeqAt.shaped (.list ds) = true ∧ Q (.dt (.bool (xor neg (ds.any fun z => PyData.eqv z .none)))) ρ g
  | some (.str a), some (.str b) => Q (.dt (.bool (xor neg (!(Builtin.Str.occurrences b a 0 b.length 1).isEmpty)))) ρ g
  | some x, some (.list ds) => flatD x = true ∧ ds.all flatD = true ∧ Q (.dt (.bool (xor neg (inD x ds)))) ρ g
  | some x, some (.tuple ds) => flatD x = true ∧ ds.all flatD = true ∧ Q (.dt (.bool (xor neg (inD x ds)))) ρ g
  | some k, some (.dict ds) => opK (kOf k) fun _ => Q (.dt (.bool (xor neg (lookD ds k).isSome))) ρ g
  | _, _ => False
def oInX (neg : Bool) : RO G := fun r1 r2 ρ g Q => inDX neg ρ g Q (rd r1 ρ) (rd r2 ρ)
def rInT (neg : Bool) : R2 := fun x y H Q => ∃ i j, x = .str i ∧ y = .str j ∧ Q (.bl (xor neg (!(Builtin.Str.occurrences j i 0 j.length 1).isEmpty))) H
def rInE (K : PySem.W.Frag) (neg : Bool) : R2 := fun x y H Q => ∃ d ds, Dp K H x d ∧ Dp K H y (.list ds) ∧ SeqAt.shaped d = true ∧ SeqAt.shaped (.list ds) = true ∧ Q (.bl (xor neg (ds.any fun z => PyData.eqv z d))) H
def rInA (K : PySem.W.Frag) (neg : Bool) : R2 := fun x y H Q => rIn K neg x y H Q ∨ (rInX neg x y H Q ∨ (rInT neg x y H Q ∨ rInE K neg x y H Q))
theorem op_inT : OpR X (compareOp .In) (rInT false) := by
  intro pins s σ H x y v u Q I rx ry h
  obtain ⟨i, j, e1, e2, q⟩ := h
  exact op_in_str pins s σ H x y v u Q I rx ry ⟨i, j, e1, e2, by rw [Bool.false_xor] at q; exact q⟩
theorem op_ninT : OpR X (compareOp .NotIn) (rInT true) := by
  intro pins s σ H x y v u Q I rx ry h
  obtain ⟨i, j, e1, e2, q⟩ := h
  exact op_notin_str pins s σ H x y v u Q I rx ry ⟨i, j, e1, e2, by rw [Bool.true_xor] at q; exact q⟩
theorem op_inE (hu : X.A.units + 65 < cLine) : OpR X (compareOp .In) (rInE X.K false) := by
  intro pins s σ H x y v u Q I rx ry h
  obtain ⟨d, ds, e1, e2, e3, e4, q⟩ := h
  exact op_inD hu pins s σ H x y v u Q I rx ry ⟨d, ds, e1, e2, e3, e4, by rw [Bool.false_xor] at q; exact q⟩
theorem op_ninE (hu : X.A.units + 65 < cLine) : OpR X (compareOp .NotIn) (rInE X.K true) := by
  intro pins s σ H x y v u Q I rx ry h
  obtain ⟨d, ds, e1, e2, e3, e4, q⟩ := h
  exact op_notInD hu pins s σ H x y v u Q I rx ry ⟨d, ds, e1, e2, e3, e4, by rw [Bool.true_xor] at q; exact q⟩
theorem sim_inX {neg : Bool} : SimO Z (rInA K neg) (oInX (G := G) neg) := fun f F ad ρ g σ H x y r1 r2 Q R h1 h2 q P hP => by
  have q' : inDX neg ρ g Q (rd r1 ρ) (rd r2 ρ) := q
  have deep : ∀ {d : PyData} {ds : List PyData}, rd r1 ρ = some d → rd r2 ρ = some (.list ds) → SeqAt.shaped d = true → SeqAt.shaped (.list ds) = true → Q (.dt (.bool (xor neg (ds.any fun z => PyData.eqv z d)))) ρ g → rInA K neg x y H P := fun e1 e2 c1 c2 q =>
    .inr (.inr (.inr ⟨_, _, (R.hrd h1 e1).dp (SeqAt.canLay_of_shaped c1), (R.hrd h2 e2).dp (SeqAt.canLay_of_shaped c2), c1, c2, hP _ _ (R.dat (.bl _) q)⟩))
  unfold inDX at q'
  split at q'
  · rename_i a ds e1 e2
    exact deep e1 e2 q'.1 q'.2.1 q'.2.2
  · rename_i a ds e1 e2
    exact deep e1 e2 q'.1 q'.2.1 q'.2.2
  · rename_i ds e1 e2
    exact deep e1 e2 rfl q'.1 q'.2
  · rename_i a b e1 e2
    exact .inr (.inr (.inl ⟨a, b, R.rStr h1 e1, R.rStr h2 e2, hP _ _ (R.dat (.bl _) q')⟩))
  · rename_i d ds _ _ _ e1 e2
    exact .inl (sim_in f F ad ρ g σ H x y r1 r2 Q R h1 h2 (show inDD neg ρ g Q (rd r1 ρ) (rd r2 ρ) by rw [e1, e2]; exact q') P hP)
  · rename_i d ds e1 e2
    exact .inl (sim_in f F ad ρ g σ H x y r1 r2 Q R h1 h2 (show inDD neg ρ g Q (rd r1 ρ) (rd r2 ρ) by rw [e1, e2]; exact q') P hP)
  · rename_i k ds e1 e2
    obtain ⟨kk, ek, q'⟩ := opK_e q'
    obtain ⟨a, o, rfl, gt, l1, l2⟩ := R.dget h2 e2 h1 e1 ek
    refine .inr (.inl ⟨a, o, rfl, gt, hP _ _ (R.dat (.bl _) ?_)⟩)
    cases el : lookD ds k with
    | none => rw [l2 el]; rw [el] at q'; exact q'
    | some d => obtain ⟨w, rfl, _⟩ := l1 d el; rw [el] at q'; exact q'
  · cases q'
theorem c_inX (hu : X.A.units + 200 < cLine) (hK : K = X.K := by rfl) : OpR X (compareOp .In) (rInA K false) ∧ SimO Z (rInA K false) (oInX (G := G) false) := ⟨by rw [hK]; exact op_in_seq.or ((op_inX (by omega)).or (op_inT.or (op_inE (by omega)))), sim_inX⟩
theorem c_ninX (hu : X.A.units + 200 < cLine) (hK : K = X.K := by rfl) : OpR X (compareOp .NotIn) (rInA K true) ∧ SimO Z (rInA K true) (oInX (G := G) true) := ⟨by rw [hK]; exact op_notIn_seq.or ((op_ninX (by omega)).or (op_ninT.or (op_ninE (by omega)))), sim_inX⟩
/-- d.get(k, x), d in slot i -/
def dicD (d : Option PyData) (k : List (PyData × PyData) → Prop) : Prop := match d with
  | some (.dict ds) => k ds
  | _ => False
theorem dicD_of {d : Option PyData} {k : List (PyData × PyData) → Prop} (h : dicD d k) : ∃ ds, d = some (.dict ds) ∧ k ds := by
  unfold dicD at h
  split at h
  · exact ⟨_, rfl, h⟩
  · cases h
def dGet2 (i : Nat) (b c : DT G) : DT G := fun ρ g Q => dicD (rdS ρ[i]?) fun _ => b ρ g fun r2 ρ2 g2 => c ρ2 g2 fun r3 ρ3 g3 => dicD (rdS ρ3[i]?) fun ds => opK (rd (st r2) ρ3) fun k => opK (kOf k) fun _ => opK (rd r3 ρ3) fun d => tt (flatD d) (Q (.dt ((lookD ds k).getD d)) ρ3 g3)
theorem flat_any {K : PySem.W.Frag} {F F' : Hp} {v : V} {d : PyData} (h : Da K F v d) (e : flatD d = true) : Da K F' v d := by
  cases h <;> first | exact .non | exact .bl _ | exact .int _ | exact .str _ | cases e
theorem Rel.slv {f : Fx} {F : Hp} {ad : Nat → Addr} {ρ : En} {g : G} {σ : St} {H : Hp} (R : Rel Z f F ad ρ g σ H) {i : Nat} {d : PyData} (e : rdS ρ[i]? = some d) : ∃ v, σ[i]? = some (some v) := by
  cases hi : ρ[i]? with
  | none => rw [hi] at e; cases e
  | some s =>
    rw [hi] at e
    have z := R.slot i _ hi
    cases s with
    | dt d => obtain ⟨v, h, _⟩ := z; exact ⟨v, h⟩
    | ls d => exact ⟨_, z.1⟩
    | dk d => exact ⟨_, z.1⟩
    | _ => cases e
theorem sim_get2 {i : Nat} {tb tc : TE} {b c : DT G} (hb : Sim Z tb b) (hc : Sim Z tc c) : Sim Z (tDGet2 (tVar i) tb tc) (dGet2 i b c) := fun f F ad ρ g σ H Q R q P hP => by
  obtain ⟨ds0, e0, q⟩ := dicD_of q
  obtain ⟨v, hv⟩ := R.slv e0
  obtain ⟨a0, vs0, rfl, h0, _⟩ := R.ditems (r := .br i) hv e0
  refine ⟨_, hv, a0, rfl, .inl ⟨vs0, .inl h0⟩, hb f F ad ρ g σ H _ R q _ fun y H2 q2 => ?_⟩
  obtain ⟨F2, ad2, ρ2, g2, r2, e2, eg2, R2, v2, q⟩ := q2
  obtain ⟨F2', e2', R2', v2'⟩ := R2.hst v2
  refine hc f F2' ad2 ρ2 g2 σ H2 _ R2' q _ fun z H3 q3 => ?_
  obtain ⟨F3, ad3, ρ3, g3, r3, e3, eg3, R3, v3, q⟩ := q3
  obtain ⟨ds, e4, q⟩ := dicD_of q
  obtain ⟨k, ek, q⟩ := opK_e q
  obtain ⟨kk, eo, q⟩ := opK_e q
  obtain ⟨d, ed, q⟩ := opK_e q
  obtain ⟨hf, q⟩ := tt_e q
  obtain ⟨a, o, ea, gt, l1, l2⟩ := R3.dget (r := .br i) hv e4 (v2'.held (ad1 := ad3) (ρ1 := ρ3) (H1 := H3) e3 eg3) ek eo
  cases ea
  refine ⟨o, gt, hP _ _ ⟨F3, ad3, ρ3, g3, .dt ((lookD ds k).getD d), (e2.trans e2').trans e3, eg3.trans eg2, R3, ?_, q⟩⟩
  cases el : lookD ds k with
  | none => rw [l2 el]; exact flat_any (R3.hrd v3 ed) hf
  | some d' => obtain ⟨w, rfl, dw⟩ := l1 d' el; exact dw
theorem e_get2 (hu : X.A.units + 64 < cLine) (i : Nat) {x : Str} {px apos cpos : Pos} {e h : Expr} {te th : TE} {b c : DT G} (he : DE X Z e te b) (hh : DE X Z h th c) (hN : X.N[i]? = some x := by rfl)
    (hv : Vis X.env.scope x := by first | exact Or.inl rfl | exact Or.inr (Or.inl rfl) | exact Or.inr (Or.inr rfl)) (hd : (x == ("__debug__" : Str)) = false := by decide) (hcd : (x == ("__classdict__" : Str)) = false := by decide)
    (m : M2 X (.Name x px) "get" apos e h cpos := by exact ⟨rfl, rfl, rfl, rfl⟩) : DE X Z (.Call (.Attribute (.Name x px) "get" apos) [e, h] [] cpos) (tDGet2 (tVar i) te th) (dGet2 i b c) :=
  ⟨pe_dget2 (by omega) (pe_var hN hv hd hcd) he.pe hh.pe m, sim_get2 he.sim hh.sim⟩
end L3
end
section
/-! L3p: the text of data (repr). -/
namespace L3
open PySem L2
variable {G : Type} {K : PySem.W.Frag} {X : Cx} {Z : Zx K G}
structure ShOk (d : PyData) : Prop where
  sh : d.showable = true
  nd : d.hasDict = false
  dp : d.depth ≤ 150
  sz : d.shown.length ≤ 16777216
mutual
theorem da_reads {K : PySem.W.Frag} {H : Hp} : ∀ {v : V} {d : PyData}, d.hasDict = false → Da K H v d → Dp K H v d
  | _, _, _, .non => .non
  | _, _, _, .bl b => .bl b
  | _, _, _, .int i => .int i
  | _, _, _, .str x => .str x
  | _, _, c, .lst h r => .lst (.inl (.inl h)) (daAll_reads (by rwa [PyData.hasDict] at c) r)
  | _, _, c, .tup h r => .tup h (daAll_reads (by rwa [PyData.hasDict] at c) r)
  | _, _, c, .dct h r => by rw [PyData.hasDict] at c; cases c
theorem daAll_reads {K : PySem.W.Frag} {H : Hp} : ∀ {vs : List V} {ds : List PyData}, PyData.hasDictAll ds = false → DaAll K H vs ds → DpAll K H vs ds
  | _, _, _, .nil => .nil
  | _, _, c, .cons h r => by
    rw [PyData.hasDictAll, Bool.or_eq_false_iff] at c
    exact .cons (da_reads c.1 h) (daAll_reads c.2 r)
end
def rReprX (K : PySem.W.Frag) : List V → Hp → VK → Prop := fun xs H Q => ∃ v d, xs = [v] ∧ Dp K H v d ∧ ShOk d ∧ Q (.str d.shown) H
theorem call_reprX (hr : RoomG 0 X.A) : CallR X (.builtin "repr") (rReprX X.K) := by
  intro pins s σ H xs us Q I r h
  obtain ⟨v, d, rfl, dp, ok, q⟩ := h
  obtain ⟨u, rfl, ru⟩ := vals1 r
  obtain ⟨as, rd⟩ := Dp.reads I d v u dp ru
  have hz : d.shown.length ≤ sizeLine := by rw [sizeLine_eq]; exact ok.sz
  have hun : X.A.units + (d.depth + 1) < cLine := by
    have h1 := hr.rm.un
    have h2 := ok.dp
    omega
  have obj : ∀ {a : Addr}, Reads s.heap (.ref a) d as → wpAny (model X.prog X.w) X.A (call (.builtin "repr") [.ref a]) (EP X pins σ Q) X.xe s := fun {a} rd =>
    repr_of_reads' rd ok.sh (PyData.noDict_hsm ok.nd) hr.gd hun (fun _ _ e => e) (fun h' w tk keep => ⟨.str d.shown, H, I.kept keep, ⟨_, rfl⟩, q⟩) hz
  cases dp with
  | non =>
    cases ru
    exact PySem.P.repr_of_none ⟨.str _, H, I.tok _, ⟨_, rfl⟩, q⟩
  | bl b =>
    cases ru
    exact PySem.P.repr_of_bool ⟨.str _, H, I.tok _, ⟨_, rfl⟩, q⟩
  | int i =>
    obtain ⟨t, rfl⟩ := ru
    exact PySem.P.repr_of_int (by have := ok.sh; simpa [PyData.showable] using this) ⟨.str _, H, I.tok _, ⟨_, rfl⟩, by rw [PyData.shown_int] at q; exact q⟩
  | str x =>
    obtain ⟨t, rfl⟩ := ru
    exact PySem.P.repr_of_str ⟨.str _, H, I.tok _, ⟨_, rfl⟩, by rw [PyData.shown_str] at q; exact q⟩ (by rw [PyData.shown_str] at hz; exact hz)
  | lst h1 h2 => cases ru; exact obj rd
  | tup h1 h2 => cases ru; exact obj rd
/-- repr(x): what is asked stands as it is, to be seen by hand -/
structure ShK (d : PyData) (p : Prop) : Prop where
  ok : ShOk d
  p : p
def oRepr : RA G := fun rs ρ g Q => one (fun r => opK (rd r ρ) fun d => ShK d (Q (.dt (.str d.shown)) ρ g)) rs
theorem k_reprX {k : Nat} (hr : RoomG k X.A) (hK : K = X.K := by rfl) : CallR X (.builtin "repr") (rReprX K) ∧ SimC Z (rReprX K) (oRepr (G := G)) := ⟨by rw [hK]; exact call_reprX (hr.mono (Nat.zero_le _)), fun f F ad ρ g σ H vs rs Q R h q P hP => by
  obtain ⟨r, rfl, q2⟩ := one_of q
  obtain ⟨v, rfl, h0⟩ := vrs1 h
  obtain ⟨d, e, q3⟩ := opK_e q2
  exact ⟨v, d, rfl, da_reads q3.ok.nd (R.hrd h0 e), q3.ok, hP _ _ (R.dat (.str _) q3.p)⟩⟩
/-! ### how long such a text is -/
mutual
def wd : PyData → Nat
  | .none => 4
  | .bool _ => 5
  | .int i => i.natAbs.log2 + 3
  | .str x => 10 * x.length + 2
  | .list xs => wdAll xs + 2
  | .tuple xs => wdAll xs + 3
  | .dict _ => 0
def wdAll : List PyData → Nat
  | [] => 0
  | x :: xs => wd x + 2 + wdAll xs
end
mutual
def okTx : PyData → Bool
  | .none => true
  | .bool _ => true
  | .int i => decide (i.natAbs.log2 < 1920)
  | .str x => x.cps.toList.all fun c => decide (c < 4294967296)
  | .list xs => okTxs xs
  | .tuple xs => okTxs xs
  | .dict _ => false
def okTxs : List PyData → Bool
  | [] => true
  | x :: xs => okTx x && okTxs xs
end
theorem strlen_append (x y : Str) : (x ++ y).length = x.length + y.length := by
  show (x.cps ++ y.cps).size = _
  rw [Array.size_append]; rfl
theorem join_le (ts : List Str) : (Str.join ", " ts).length ≤ piled ts := by
  by_cases h : ts = []
  · subst h; exact Nat.zero_le _
  · have := join_length_add ts h
    omega
theorem txt_len (i : Int) : ((toString i : String) : Str).length ≤ i.natAbs.log2 + 3 := by
  have h1 := int_text_length_le (a := i) (k := i.natAbs.log2 + 1) (by omega) (by omega)
  rw [ofString_length]
  omega
mutual
theorem wd_shown : ∀ d : PyData, okTx d = true → d.shown.length ≤ wd d
  | .none, _ => by rw [PyData.shown_none]; decide
  | .bool b, _ => by rw [PyData.shown_bool]; cases b <;> decide
  | .int i, h => by
    rw [PyData.shown_int]
    exact txt_len i
  | .str x, h => by
    rw [PyData.shown_str]
    rw [okTx, List.all_eq_true] at h
    exact PySem.StrLaws.reprText_len x fun c hc => by have := of_decide_eq_true (h c hc); omega
  | .list xs, h => by
    rw [okTx] at h
    rw [PyData.shown_list, strlen_append, strlen_append]
    have := Nat.le_trans (join_le _) (wdAll_shown xs h)
    show 1 + _ + 1 ≤ wdAll xs + 2
    omega
  | .tuple xs, h => by
    rw [okTx] at h
    rw [PyData.shown_tuple, strlen_append, strlen_append]
    have := Nat.le_trans (join_le _) (wdAll_shown xs h)
    have e : (((if xs.length == 1 then ",)" else ")" : String) : Str)).length ≤ 2 := by split <;> decide
    show 1 + _ + _ ≤ wdAll xs + 3
    omega
  | .dict _, h => by cases h
theorem wdAll_shown : ∀ ds : List PyData, okTxs ds = true → piled (PyData.shownAll ds) ≤ wdAll ds
  | [], _ => by rw [PyData.shownAll_nil]; exact Nat.zero_le _
  | x :: xs, h => by
    rw [okTxs, Bool.and_eq_true] at h
    rw [PyData.shownAll_cons, piled_cons, wdAll]
    have h1 := wd_shown x h.1
    have h2 := wdAll_shown xs h.2
    omega
end
theorem shOk_of {d : PyData} (h1 : d.showable = true) (h2 : d.hasDict = false) (h3 : d.depth ≤ 150) (h4 : okTx d = true) (h5 : wd d ≤ 16777216) : ShOk d := ⟨h1, h2, h3, Nat.le_trans (wd_shown d h4) h5⟩
theorem shK_of {d : PyData} {p : Prop} (h : ShOk d) (hp : p) : ShK d p := ⟨h, hp⟩
end L3
end
section
/-! L3x: errors raised and caught. -/
namespace L3
open PySem L2
variable {G : Type} {K : PySem.W.Frag} {X : Cx} {Z : Zx K G}
/-- the class that a name of the module holds -/
def cv (mg : Str → Option Value) (x : Str) : Value := (mg x).getD .none
structure ExX (K : PySem.W.Frag) (mg : Str → Option Value) (x : Str) : Prop where
  ex : ∃ C, mg x = some (.ref C) ∧ PySem.W.excIn K C [.type "ValueError", .type "Exception", .type "BaseException", .type "object"] "ValueError.__new__" = true ∧ PySem.W.keepIn K (.ref C) = true ∧
    PySem.W.subIn K (.ref C) (.type "BaseException") = some true ∧ PySem.W.typeIn K (.ref C) = some (.type "type") ∧ PySem.W.hasDictIn K C = true
def SubX (K : PySem.W.Frag) (mg : Str → Option Value) (x y : Str) (b : Bool) : Prop := PySem.W.subIn K (cv mg x) (cv mg y) = some b
theorem cv_of {mg : Str → Option Value} {x : Str} {v : Value} (h : mg x = some v) : cv mg x = v := by unfold cv; rw [h]; rfl
/-- what an except clause for y asks of a class -/
def Takes1 (K : PySem.W.Frag) (mg : Str → Option Value) (c : Value) (y : Str) (b : Bool) : Prop := PySem.W.exmOne K c (cv mg y) = some b
theorem takes1_of {mg : Str → Option Value} {x y : Str} {b : Bool} (e : ExX K mg y) (h : SubX K mg x y b) : Takes1 K mg (cv mg x) y b := by
  obtain ⟨C, h1, _, _, h2, h3, h4⟩ := e.ex
  unfold Takes1
  unfold SubX at h
  rw [cv_of h1] at h ⊢
  exact PySem.W.exm_ref h2 h4 h3 h
/-! ### raise -/
def dRaise (U : UX G) (c : Value) : DS G := fun _ ρ g => U c [] ρ g
theorem s_raise {W : WXH} {U : UX G} {x m : Str} {j : Nat} {p p2 p3 pos : Pos} (e : ExX X.K X.mg x) (tk : Takes X W) (hc : X.calm = true := by rfl) (hg : Gl X x := by rfl) (hdb : (x == ("__debug__" : Str)) = false := by decide) :
    DSt X (Z.wish W U) (.Raise (some (.Call (.Name x p) [.Constant (.str m) j p2] [] p3)) none pos) (fun _ σ H => W (cv X.mg x) none σ H) (dRaise U (cv X.mg x)) := by
  obtain ⟨C, h1, h2, h3, h4, h5, h6⟩ := e.ex
  rw [cv_of h1]
  exact ⟨ps_raise hc tk (pmk_own PySem.F.excBase_ValueError h2 h1 h3 (raises_own h4 h5) hg hdb), fun f F ad ρ g σ H D R h D2 le => R.lx F ad ρ g σ H (.ref C) none [] rfl R.toRel0 (.inl ⟨rfl, rfl⟩) h⟩
/-! ### other wishes -/
theorem Fin.wish {f : Fx} {F : Hp} {g : G} {H : Hp} {W W' : WXH} {U U' : UX G} (R : Fin (Z.wish W U) f F g H) : Fin (Z.wish W' U') f F g H := ⟨R.base, R.sub, R.keep, R.keepN, R.new, R.res, R.fpF, R.fpB, R.fpo⟩
theorem Rel0.wish {f : Fx} {F : Hp} {ad : Nat → Addr} {ρ : En} {g : G} {σ : St} {H : Hp} {W W' : WXH} {U U' : UX G} (R : Rel0 (Z.wish W U) f F ad ρ g σ H) : Rel0 (Z.wish W' U') f F ad ρ g σ H :=
  ⟨R.fin.wish, R.len, fun i s hi => by
    have q := R.slot i s hi
    cases s <;> exact q, R.inj⟩
theorem Rel.wish {f : Fx} {F : Hp} {ad : Nat → Addr} {ρ : En} {g : G} {σ : St} {H : Hp} {W W' : WXH} {U U' : UX G} (R : Rel (Z.wish W U) f F ad ρ g σ H) (lx : LeX (Z.wish W' U') f (Z.ra g)) : Rel (Z.wish W' U') f F ad ρ g σ H := ⟨R.toRel0.wish, lx⟩
theorem VFin.wish {f : Fx} {F : Hp} {g : G} {H : Hp} {v : V} {r : Rs} {W W' : WXH} {U U' : UX G} (h : VFin (Z.wish W U) f F g H v r) : VFin (Z.wish W' U') f F g H v r := by cases r <;> exact h
theorem Le.wish {f : Fx} {ra0 : Nat → Addr} {D : D3 G} {D2 : Ends} {W W' : WXH} {U U' : UX G} (h : Le (Z.wish W U) f ra0 D D2) (lx : LeX (Z.wish W U) f ra0) : Le (Z.wish W' U') f ra0 D D2 :=
  ⟨fun F ad ρ g σ H e R => h.nx F ad ρ g σ H e (R.wish (by rw [show Z.ra g = ra0 from e]; exact lx)), fun F g H v r e R hv => h.rt F g H v r e R.wish hv.wish, fun F ad ρ g σ H e R => h.bk F ad ρ g σ H e (R.wish (by rw [show Z.ra g = ra0 from e]; exact lx)), fun F ad ρ g σ H e R => h.ct F ad ρ g σ H e (R.wish (by rw [show Z.ra g = ra0 from e]; exact lx))⟩
/-- the data's reading, at the heap -/
def dTS (Z : Zx K G) (t : DS G) : TS := fun D2 σ H => ∃ f F ad ρ g D, Rel Z f F ad ρ g σ H ∧ t D ρ g ∧ Le Z f (Z.ra g) D D2
theorem DSs.imp {st : List Stmt} {ts : TS} {t : DS G} (h : DSs X Z st ts t) : PSs X st (dTS Z t) := ⟨fun pins s σ H D I q => by
  obtain ⟨f, F, ad, ρ, g, D1, R, q, le⟩ := q
  exact h.ps.run pins s σ H D I (h.sim f F ad ρ g σ H D1 R q D le)⟩
/-! ### try .. except X -/
def dTry (K : PySem.W.Frag) (mg : Str → Option Value) (y : Str) (U : UX G) (db : UX G → DS G) (ds : DS G) : DS G := fun D ρ g =>
  db (fun c fs ρ' g' => (Takes1 K mg c y true ∧ ds D ρ' g') ∨ (Takes1 K mg c y false ∧ U c fs ρ' g')) D ρ g
theorem s_try {W : WXH} {U : UX G} {y : Str} {body suite : List Stmt} {b0 : Stmt} {np pos pos2 : Pos} {db : UX G → DS G} {du : DS G} (e : ExX X.K X.mg y) (tk : Takes X W)
    (hb : ∀ (W' : WXH) (U' : UX G) (pn : List (Addr × Obj)) (xe : Value → Shared → Prop), Takes (X.tr pn xe) W' → PassesOwn (model X.prog X.w) X.A X.env xe → ∃ ts, DSs (X.tr pn xe) (Z.wish W' U') body ts (db U'))
    (hsu : ∀ (a : Addr) (oe : Obj) (cls : Value) (d : Option Addr) (pn : List (Addr × Obj)), Zc cls d oe → (∃ vs, oe.data = .fields vs) → ∃ ts, DSs (X.suite a ((a, oe) :: pn)) (Z.wish W U) (b0 :: suite) ts du)
    (hK : K = X.K := by rfl) (hs : X.stack = X.env :: X.outer := by rfl) (hf : X.env.frame = some X.env.locals := by rfl) (hg : Gl X y := by rfl) (hdb : (y == ("__debug__" : Str)) = false := by decide) :
    DSt X (Z.wish W U) (.Try body [.ExceptHandler (some (.Name y np)) none (b0 :: suite) pos] [] [] pos2)
      (fun D σ H => (fun W' : WXH => fun D σ H => ∃ U', dTS (Z.wish W' U') (db U') D σ H) (wOnly X.K (cv X.mg y) (fun _ _ _ => dTS (Z.wish W U) du) W D) D σ H) (dTry K X.mg y U db du) := by
  subst hK
  obtain ⟨C, h1, _⟩ := e.ex
  refine ⟨ps_try_only (tb := fun W' D σ H => ∃ U', dTS (Z.wish W' U') (db U') D σ H) hs hf ⟨hg, hdb, .inl (by rw [cv_of h1]; exact h1)⟩ tk (fun W' pn xe tk' po => ⟨fun pins s σ H D I q => ?_⟩) (fun a oe cls d pn hz hv => ?_), fun f F ad ρ g σ H D R h D2 le => ?_⟩
  · obtain ⟨U', q⟩ := q
    obtain ⟨ts, hd⟩ := hb W' U' pn xe tk' po
    exact (DSs.imp hd).run pins s σ H D I q
  · obtain ⟨ts, hd⟩ := hsu a oe cls d pn hz hv
    exact DSs.imp hd
  · have lx : LeX (Z.wish (wOnly X.K (cv X.mg y) (fun _ _ _ => dTS (Z.wish W U) du) W D2) (fun c fs ρ' g' => (Takes1 X.K X.mg c y true ∧ du D ρ' g') ∨ (Takes1 X.K X.mg c y false ∧ U c fs ρ' g'))) f (Z.ra g) := fun F' ad' ρ' g' σ' H' c dx fs er R' hx hu => by
      rcases hu with ⟨h1, h2⟩ | ⟨h1, h2⟩
      · exact ⟨true, h1, fun _ a ha => ⟨f, F', ad', ρ', g', D, ⟨R'.wish, by rw [show (Z.wish W U).ra g' = (Z.wish W U).ra g from er]; exact R.lx⟩, h2, by rw [show (Z.wish W U).ra g' = (Z.wish W U).ra g from er]; exact le⟩, fun z => by cases z⟩
      · exact ⟨false, h1, fun z => (by cases z), fun _ => R.lx F' ad' ρ' g' σ' H' c dx fs er R'.wish hx h2⟩
    exact ⟨_, f, F, ad, ρ, g, D, R.wish lx, h, le.wish R.lx⟩
end L3
end
section
/-! L3s: list(range(..)). -/
namespace L3
open PySem L2
variable {G : Type} {K : PySem.W.Frag} {X : Cx} {Z : Zx K G}
theorem daAll_rg {F : Hp} (a b : Int) : DaAll K F (rgV a b) (rngD a (b - a).toNat) := by
  have : ∀ l : List Nat, DaAll K F (l.map fun i => V.int (a + (i : Nat))) (l.map fun i => PyData.int (a + (i : Nat))) := fun l => by
    induction l with
    | nil => exact .nil
    | cons x r ih => exact .cons (.int _) ih
  exact this _
def sz24 (n : Int) : Bool := match n with
  | .ofNat m => Nat.ble m 16777216
  | .negSucc _ => true
def szK (n : Int) (p : Prop) : Prop := gd (sz24 n) (n ≤ 16777216) p
theorem szK_e {n : Int} {p : Prop} (h : szK n p) : n ≤ 16777216 ∧ p := gd_e (fun e => by
  cases n with
  | ofNat m => have := Nat.le_of_ble_eq_true e; simp only [Int.ofNat_eq_natCast]; omega
  | negSucc m => omega) h
theorem szK_of {n : Int} {p : Prop} (hc : n ≤ 16777216) (hp : p) : szK n p := gd_of hc hp
def dLR1 (a : DT G) : DT G := fun ρ g Q => a ρ g fun r ρ1 g1 => iiU (fun n => rgK n (szK n (Q (.nl (rngD 0 n.toNat)) ρ1 g1))) (rd r ρ1)
theorem e_lr1 {e : Expr} {te : TE} {a : DT G} {p p1 p2 pos : Pos} (hl : X.mg "list" = none) (hr : X.mg "range" = none) (he : DE X Z e te a) (hc : X.calm = true := by rfl) (hg : Gl X "list" := by rfl) (hg2 : Gl X "range" := by rfl)
    (na : starEach [e] X.env = (false, eval e X.env) :: starEach [] X.env := by rfl) (na2 : starEach [.Call (.Name "range" p1) [e] [] p2] X.env = (false, eval (.Call (.Name "range" p1) [e] [] p2) X.env) :: starEach [] X.env := by rfl) :
    DE X Z (.Call (.Name "list" p) [.Call (.Name "range" p1) [e] [] p2] [] pos) (tLstRg (tRg1 te)) (dLR1 a) :=
  ⟨pe_listRg hc hg hl (prg_1 hg2 hr he.pe na) na2, fun f F ad ρ g σ H Q R q P hP => by
    refine he.sim f F ad ρ g σ H _ R q _ fun x H1 q => ?_
    obtain ⟨F1, ad1, ρ1, g1, r1, e1, eg1, R1, v1, q⟩ := q
    obtain ⟨n, en, q⟩ := iiU_of q
    obtain ⟨⟨b1, b2⟩, q⟩ := rgK_e q
    obtain ⟨b3, q⟩ := szK_e q
    refine ⟨n, R1.rInt v1 en, ⟨by decide, by decide, b1, b2, by omega⟩, fun p hp => hP _ _ ((R1.newL hp (daAll_rg 0 n) ?_).mono e1 eg1)⟩
    rw [Int.sub_zero]; exact q⟩
def dLR2 (a b : DT G) : DT G := fun ρ g Q => a ρ g fun r ρ1 g1 => b ρ1 g1 fun r2 ρ2 g2 => ii (fun lo n => rgK lo (rgK n (szK (n - lo) (Q (.nl (rngD lo (n - lo).toNat)) ρ2 g2)))) (rd (st r) ρ2) (rd r2 ρ2)
theorem e_lr2 {e h : Expr} {te th : TE} {a b : DT G} {p p1 p2 pos : Pos} (hl : X.mg "list" = none) (hr : X.mg "range" = none) (he : DE X Z e te a) (hh : DE X Z h th b) (hc : X.calm = true := by rfl) (hg : Gl X "list" := by rfl) (hg2 : Gl X "range" := by rfl)
    (na : starEach [e, h] X.env = (false, eval e X.env) :: starEach [h] X.env := by rfl) (nb : starEach [h] X.env = (false, eval h X.env) :: starEach [] X.env := by rfl) (np : ((backTo p2 (starEach [h] X.env)).any fun y => y.1) = false := by rfl) (na2 : starEach [.Call (.Name "range" p1) [e, h] [] p2] X.env = (false, eval (.Call (.Name "range" p1) [e, h] [] p2) X.env) :: starEach [] X.env := by rfl) :
    DE X Z (.Call (.Name "list" p) [.Call (.Name "range" p1) [e, h] [] p2] [] pos) (tLstRg (tRg2 te th)) (dLR2 a b) :=
  ⟨pe_listRg hc hg hl (prg_2 hg2 hr he.pe hh.pe na nb np) na2, fun f F ad ρ g σ H Q R q P hP => by
    refine he.sim f F ad ρ g σ H _ R q _ fun x H1 q => ?_
    obtain ⟨F1, ad1, ρ1, g1, r1, e1, eg1, R1, v1, q⟩ := q
    obtain ⟨F1', e1', R1', v1'⟩ := R1.hst v1
    refine hh.sim f F1' ad1 ρ1 g1 σ H1 _ R1' q _ fun y H2 q2 => ?_
    obtain ⟨F2, ad2, ρ2, g2, r2, e2, eg2, R2, v2, q⟩ := q2
    obtain ⟨lo, n, el, en, q⟩ := ii_of q
    obtain ⟨⟨c1, c2⟩, q⟩ := rgK_e q
    obtain ⟨⟨b1, b2⟩, q⟩ := rgK_e q
    obtain ⟨b3, q⟩ := szK_e q
    exact ⟨lo, n, R2.rInt (v1'.held e2 eg2) el, R2.rInt v2 en, ⟨c1, c2, b1, b2, by omega⟩, fun p hp => hP _ _ ((R2.newL hp (daAll_rg lo n) q).mono ((e1.trans e1').trans e2) (eg2.trans eg1))⟩⟩
end L3
end
section
/-! L3r: a dict of own lists as a resource: made by the first statement of a def. -/
namespace L3
open PySem L2
structure DLG where
  da : Addr
  es : List (Key × Addr)
  ls : Addr → List PyData
def DLG.vs (g : DLG) : List (Key × V) := g.es.map fun p => (p.1, .ref p.2)
def DLG.adr (g : DLG) (k : Key) : Option Addr := (g.es.find? fun p => decide (p.1 = k)).map (·.2)
def DLG.look (g : DLG) (k : Key) : Option (List PyData) := (g.adr k).map g.ls
def DLG.fp (g : DLG) : List Addr := g.da :: g.es.map (·.2)
structure DLR (K : PySem.W.Frag) (g : DLG) (F H : Hp) : Prop where
  d : H g.da = some (.dK g.vs)
  l : ∀ a ∈ g.es.map (·.2), ∃ vs, H a = some (.lst vs) ∧ DaAll K F vs (g.ls a)
  nd : g.fp.Nodup
def ZD (K : PySem.W.Frag) : Zx K DLG where
  fp := DLG.fp
  ra := fun g _ => g.da
  R := DLR K
  loc := fun {g F F' H H'} h e k => ⟨(k g.da List.mem_cons_self).trans h.d, fun a ha => by
    obtain ⟨vs, h1, h2⟩ := h.l a ha
    exact ⟨vs, (k a (List.mem_cons_of_mem _ ha)).trans h1, daAll_mono e h2⟩, h.nd⟩
  there := fun {g F H} h a ha => by
    rcases List.mem_cons.mp ha with rfl | ha
    · rw [h.d]; intro z; cases z
    · obtain ⟨vs, h1, _⟩ := h.l a ha
      rw [h1]; intro z; cases z
theorem inj_map {α β : Type} {f : α → β} : ∀ {xs : List α}, (xs.map f).Nodup → ∀ {x y : α}, x ∈ xs → y ∈ xs → f x = f y → x = y
  | [], _, x, y, hx, _, _ => by cases hx
  | z :: r, nd, x, y, hx, hy, e => by
    rw [List.map_cons, List.nodup_cons] at nd
    rcases List.mem_cons.mp hx with h1 | h1 <;> rcases List.mem_cons.mp hy with h2 | h2
    · rw [h1, h2]
    · exact absurd (List.mem_map.mpr ⟨y, h2, by rw [← e, h1]⟩) nd.1
    · exact absurd (List.mem_map.mpr ⟨x, h1, by rw [e, h2]⟩) nd.1
    · exact inj_map nd.2 h1 h2 e
theorem DLG.val (g : DLG) (k : Key) : valV g.vs k = (g.adr k).map V.ref := by
  unfold valV DLG.vs DLG.adr
  rw [List.find?_map]
  cases h : List.find? ((fun kv : Key × V => decide (kv.1 = k)) ∘ fun p : Key × Addr => (p.1, V.ref p.2)) g.es with
  | none =>
    rw [show List.find? (fun p : Key × Addr => decide (p.1 = k)) g.es = none from h]; rfl
  | some p =>
    rw [show List.find? (fun p : Key × Addr => decide (p.1 = k)) g.es = some p from h]; rfl
theorem DLG.adr_mem {g : DLG} {k : Key} {a : Addr} (h : g.adr k = some a) : a ∈ g.es.map (·.2) := by
  unfold DLG.adr at h
  obtain ⟨p, hp, rfl⟩ := Option.map_eq_some_iff.mp h
  exact List.mem_map.mpr ⟨p, List.mem_of_find?_eq_some hp, rfl⟩
theorem DLG.look_adr {g : DLG} {k : Key} {ds : List PyData} (h : g.look k = some ds) : ∃ a, g.adr k = some a ∧ g.ls a = ds := by
  unfold DLG.look at h
  exact Option.map_eq_some_iff.mp h
section
variable {K : PySem.W.Frag} {X : Cx} {W : WXH} {U : UX DLG}
/-- one of the resource's cells is written -/
theorem Rel.upR {G : Type} {Z : Zx K G} {f : Fx} {F : Hp} {ad : Nat → Addr} {ρ : En} {g g' : G} {σ : St} {H : Hp} (R : Rel Z f F ad ρ g σ H) {a : Addr} {o : HO} (ha : a ∈ Z.fp g) (hf : Z.fp g' = Z.fp g) (hr : Z.ra g' = Z.ra g) (hR : Z.R g' F (L2.upd H a o)) : Rel Z f F ad ρ g' σ (L2.upd H a o) := by
  have ne : ∀ i s, ρ[i]? = some s → s.own = true → ad i ≠ a := fun i s hi ho e => by
    have q := R.slot i s hi
    cases s with
    | ls ds => exact q.2.1.2.2 (by rw [e]; exact ha)
    | dk ds => exact q.2.1.2.2 (by rw [e]; exact ha)
    | _ => cases ho
  refine ⟨⟨⟨R.fin.base, fun b u e => ?_, fun b u e h0 => ?_, fun b hb => ?_, R.fin.new, hR, by rw [hf]; exact R.fin.fpF, by rw [hf]; exact R.fin.fpB, R.fin.fpo⟩, R.len, fun i s hi => ?_, R.inj⟩, by rw [hr]; exact R.lx⟩
  · rw [upd_ne fun z => by rw [z, R.fin.fpF a ha] at e; cases e]
    exact R.fin.sub b u e
  · rw [upd_ne fun z => ?_]
    · exact R.fin.keep b u e h0
    · rcases R.fin.fpB a ha with h | h
      · exact h0 (by rw [z]; exact h)
      · rw [z, h] at e; cases e
  · by_cases z : b = a
    · rw [z, upd_same]; intro y; cases y
    · rw [upd_ne z]; exact R.fin.keepN b hb
  · have q := R.slot i s hi
    cases s with
    | un => trivial
    | dt d => exact q
    | ls ds => obtain ⟨q1, q2, vs, q3, q4⟩ := q; exact ⟨q1, ⟨q2.1, q2.2.1, by rw [hf]; exact q2.2.2⟩, vs, by rw [upd_ne (ne i _ hi rfl)]; exact q3, q4⟩
    | dk ds => obtain ⟨q1, q2, vs, q3, q4⟩ := q; exact ⟨q1, ⟨q2.1, q2.2.1, by rw [hf]; exact q2.2.2⟩, vs, by rw [upd_ne (ne i _ hi rfl)]; exact q3, q4⟩
    | rs n => exact (show σ[i]? = some (some (.ref (Z.ra g n))) from q).trans (by rw [hr])
    | vv v => exact q
/-- a new object is taken into the resource -/
theorem Rel.inR {G : Type} {Z : Zx K G} {f : Fx} {F : Hp} {ad : Nat → Addr} {ρ : En} {g g' : G} {σ : St} {H : Hp} (R : Rel Z f F ad ρ g σ H) {p : Addr} (n : NewA Z f F ad ρ g p) (h0 : p ∉ f.fp0) (hf : ∀ a, a ∈ Z.fp g' ↔ a ∈ Z.fp g ∨ a = p) (hr : Z.ra g' = Z.ra g) (hR : Z.R g' F H) : Rel Z f F ad ρ g' σ H := by
  refine ⟨⟨⟨R.fin.base, R.fin.sub, R.fin.keep, R.fin.keepN, R.fin.new, hR, fun a ha => ?_, fun a ha => ?_, R.fin.fpo⟩, R.len, fun i s hi => ?_, R.inj⟩, by rw [hr]; exact R.lx⟩
  · rcases (hf a).mp ha with h | rfl
    · exact R.fin.fpF a h
    · exact n.1.1
  · rcases (hf a).mp ha with h | rfl
    · exact R.fin.fpB a h
    · exact .inr n.1.2.1
  · have q := R.slot i s hi
    have nin : ∀ s, ρ[i]? = some s → s.own = true → ad i ∉ Z.fp g → ad i ∉ Z.fp g' := fun s hi ho h1 h2 => by
      rcases (hf _).mp h2 with h | h
      · exact h1 h
      · exact n.2 i s hi ho h
    cases s with
    | un => trivial
    | dt d => exact q
    | ls ds => obtain ⟨q1, q2, q3⟩ := q; exact ⟨q1, ⟨q2.1, q2.2.1, nin _ hi rfl q2.2.2⟩, q3⟩
    | dk ds => obtain ⟨q1, q2, q3⟩ := q; exact ⟨q1, ⟨q2.1, q2.2.1, nin _ hi rfl q2.2.2⟩, q3⟩
    | rs n => exact (show σ[i]? = some (some (.ref (Z.ra g n))) from q).trans (by rw [hr])
    | vv v => exact q
def rsK (o : Option Sl) (p : Prop) : Prop := match o with
  | some (.rs 0) => p
  | _ => False
theorem rsK_e {o : Option Sl} {p : Prop} (h : rsK o p) : o = some (.rs 0) ∧ p := by
  unfold rsK at h
  split at h
  · exact ⟨rfl, h⟩
  · cases h
abbrev ZDw (K : PySem.W.Frag) (W : WXH) (U : UX DLG) : Zx K DLG := (ZD K).wish W U
/-- x in d[k] -/
def dDlIn (neg : Bool) (i : Nat) (a b : DT DLG) : DT DLG := fun ρ g Q => a ρ g fun r1 ρ1 g1 => rsK ρ1[i]? (b ρ1 g1 fun r2 ρ2 g2 => opK (rd r2 ρ2) fun k => opK (kOf k) fun kk => opK (g2.look kk) fun ds => opK (rd (st r1) ρ2) fun x => flatD x = true ∧ ds.all flatD = true ∧ Q (.dt (.bool (xor neg (inD x ds)))) ρ2 g2)
theorem sim_dlin {neg : Bool} {i : Nat} {ta tb : TE} {a b : DT DLG} (ha : Sim (ZDw K W U) ta a) (hb : Sim (ZDw K W U) tb b) : Sim (ZDw K W U) (tOp (rIn K neg) ta (tDGet (tVar i) tb)) (dDlIn neg i a b) := fun f F ad ρ g σ H Q R q P hP => by
  refine ha f F ad ρ g σ H _ R q _ fun x H1 q => ?_
  obtain ⟨F1, ad1, ρ1, g1, r1, e1, eg1, R1, v1, q⟩ := q
  obtain ⟨F1', e1', R1', v1'⟩ := R1.hst v1
  obtain ⟨hi, q⟩ := rsK_e q
  have hs : σ[i]? = some (some (.ref g1.da)) := R1'.slot i _ hi
  refine ⟨_, hs, hb f F1' ad1 ρ1 g1 σ H1 _ R1' q _ fun y H2 q2 => ?_⟩
  obtain ⟨F2, ad2, ρ2, g2, r2, e2, eg2, R2, v2, q⟩ := q2
  obtain ⟨k, ek, q⟩ := opK_e q
  obtain ⟨kk, eo, q⟩ := opK_e q
  obtain ⟨ds, el, q⟩ := opK_e q
  obtain ⟨d, ed, b1, b2, q⟩ := opK_e q
  obtain ⟨rfl, rfl⟩ := R2.key v2 ek eo
  obtain ⟨c, hc, rfl⟩ := DLG.look_adr el
  have hres : DLR K g2 F2 H2 := R2.fin.res
  have eda : g2.da = g1.da := congrFun eg2 0
  obtain ⟨vs, hv, da⟩ := hres.l c (DLG.adr_mem hc)
  refine ⟨g1.da, .ref c, rfl, ?_, ?_⟩
  · have := DGet.k (k := kk) hres.d
    rw [g2.val, hc, eda] at this
    exact this
  · obtain ⟨c1, c2⟩ := da_flat (R2.hrd (v1'.held e2 eg2) ed) b1
    obtain ⟨c3, c4⟩ := daAll_flat da b2
    refine ⟨c, vs, rfl, .inl (.inl (.inl hv)), c2, c4, hP _ _ (Post.mono ((e1.trans e1').trans e2) (eg2.trans eg1) (R2.dat (.bl _) ?_))⟩
    rw [c1, c3, inV_inD]
    cases neg <;> first | exact q | (rw [Bool.xor_false] at q; exact q) | simpa using q
/-- d[k].append(x) -/
def dDlApp (i : Nat) (b a : DT DLG) : DT DLG := fun ρ g Q => rsK ρ[i]? (b ρ g fun r2 ρ2 g2 => opK (rd r2 ρ2) fun k => opK (kOf k) fun kk => opK (g2.look kk) fun _ => a ρ2 g2 fun r1 ρ1 g1 => fz1 (st r1) ρ1 fun d ρ3 => g1 = g2 ∧ opK (g2.look kk) fun ds => ltK ds.length 16777216 (∀ g', (∀ j, g'.look j = if j = kk then some (ds ++ [d]) else g2.look j) → g'.es.length = g2.es.length → Q (.dt .none) ρ3 g'))
theorem sim_dlapp {i : Nat} {ta tb : TE} {a b : DT DLG} (hb : Sim (ZDw K W U) tb b) (ha : Sim (ZDw K W U) ta a) : Sim (ZDw K W U) (tBM K "list" rAppend (tDGet (tVar i) tb) (tCons ta tNil)) (dDlApp i b a) := fun f F ad ρ g σ H Q R q P hP => by
  obtain ⟨hi, q⟩ := rsK_e q
  have hs : σ[i]? = some (some (.ref g.da)) := R.slot i _ hi
  refine ⟨_, hs, hb f F ad ρ g σ H _ R q _ fun y H2 q2 => ?_⟩
  obtain ⟨F2, ad2, ρ2, g2, r2, e2, eg2, R2, v2, q⟩ := q2
  obtain ⟨k, ek, qa⟩ := opK_e q
  obtain ⟨kk, eo, qb⟩ := opK_e qa
  obtain ⟨ds0, el0, qc⟩ := opK_e qb
  clear q qa qb
  obtain ⟨rfl, rfl⟩ := R2.key v2 ek eo
  obtain ⟨c, hc, _⟩ := DLG.look_adr el0
  have hres2 : DLR K g2 F2 H2 := R2.fin.res
  have eda : g2.da = g.da := congrFun eg2 0
  obtain ⟨vs2, hv2, _⟩ := hres2.l c (DLG.adr_mem hc)
  refine ⟨g.da, .ref c, rfl, ?_, ?_⟩
  · have := DGet.k (k := kk) hres2.d
    rw [g2.val, hc, eda] at this
    exact this
  · refine ⟨.inl ⟨rfl, vs2, .inl (.inl hv2)⟩, ?_⟩
    refine ha f F2 ad2 ρ2 g2 σ H2 _ R2 qc _ fun x H3 q3 => ?_
    obtain ⟨F3, ad3, ρ3, g3, r3, e3, eg3, R3, v3, q⟩ := q3
    obtain ⟨F3', e3', R3', v3'⟩ := R3.hst v3
    obtain ⟨d, ρ4, ef, rfl, q⟩ := fz1_of q
    obtain ⟨ds, el, q⟩ := opK_e q
    obtain ⟨hl, q⟩ := ltK_e q
    obtain ⟨F4, e4, R4, dv⟩ := R3'.hfz v3' ef
    obtain ⟨c', hc', rfl⟩ := DLG.look_adr el
    rw [hc] at hc'
    cases hc'
    have hres : DLR K g3 F4 H3 := R4.fin.res
    have hcm := DLG.adr_mem hc
    obtain ⟨vs, hv, da⟩ := hres.l c hcm
    have hnd := hres.nd
    unfold DLG.fp at hnd
    rw [List.nodup_cons] at hnd
    have hcd : c ≠ g3.da := fun z => hnd.1 (by rw [← z]; exact hcm)
    refine ⟨c, vs, x, rfl, rfl, hv, by rw [sizeLine_eq, da.length]; exact hl, ?_⟩
    let g' : DLG := ⟨g3.da, g3.es, fun b => if b = c then g3.ls c ++ [d] else g3.ls b⟩
    refine hP _ _ ⟨F4, ad3, ρ4, g', .dt .none, (e2.trans e3).trans (e3'.trans e4), eg3.trans eg2, R4.upR (g' := g') (List.mem_cons_of_mem _ hcm) rfl rfl ⟨?_, fun b hb => ?_, hres.nd⟩, Da.non, q g' (fun j => ?_) rfl⟩
    · show upd H3 c _ g3.da = _
      rw [upd_ne hcd.symm]; exact hres.d
    · by_cases z : b = c
      · subst z
        exact ⟨_, upd_same, by show DaAll K F4 _ (if b = b then _ else _); rw [if_pos rfl]; exact da.append (.cons dv .nil)⟩
      · obtain ⟨vs', h1, h2⟩ := hres.l b hb
        exact ⟨vs', by rw [upd_ne z]; exact h1, by show DaAll K F4 _ (if b = c then _ else _); rw [if_neg z]; exact h2⟩
    · show (g3.adr j).map (fun b => if b = c then g3.ls c ++ [d] else g3.ls b) = _
      by_cases z : j = kk
      · subst z
        rw [if_pos rfl, hc]
        show some (if c = c then _ else _) = _
        rw [if_pos rfl]
      · rw [if_neg z]
        unfold DLG.look
        cases hj : g3.adr j with
        | none => rfl
        | some b =>
          have hbc : b ≠ c := fun zz => by
            subst zz
            have h1 := hnd.2
            unfold DLG.adr at hj hc
            obtain ⟨p, hp, hp2⟩ := Option.map_eq_some_iff.mp hj
            obtain ⟨p', hp', hp2'⟩ := Option.map_eq_some_iff.mp hc
            have m1 := List.mem_of_find?_eq_some hp
            have m2 := List.mem_of_find?_eq_some hp'
            have k1 := of_decide_eq_true (List.find?_some (p := fun p : Key × Addr => decide (p.1 = j)) hp)
            have k2 := of_decide_eq_true (List.find?_some (p := fun p : Key × Addr => decide (p.1 = kk)) hp')
            have : p = p' := inj_map h1 m1 m2 (hp2.trans hp2'.symm)
            rw [this] at k1
            exact z (k1.symm.trans k2)
          show some (if b = c then _ else _) = some _
          rw [if_neg hbc]
/-- d[k] = a new list, k the name in slot j, not yet there -/
def nlK (r : Rs) (k : List PyData → Prop) : Prop := match r with
  | .nl ds => k ds
  | _ => False
theorem nlK_e {r : Rs} {k : List PyData → Prop} (h : nlK r k) : ∃ ds, r = .nl ds ∧ k ds := by
  cases r <;> first | exact ⟨_, rfl, h⟩ | exact h.elim
def dDlPut (i j : Nat) (a : DT DLG) : DS DLG := fun D ρ g => a ρ g fun r1 ρ1 g1 => nlK r1 fun ds => rsK ρ1[i]? (opK (rdS ρ1[j]?) fun k => opK (kOf k) fun kk => g1.look kk = none ∧ ltK g1.es.length 16777216 (∀ g', (∀ x, g'.look x = if x = kk then some ds else g1.look x) → g'.es.length = g1.es.length + 1 → D.nx ρ1 g'))
theorem putK_new2 {kvs : List (Key × V)} {k : Key} {v : V} (h : valV kvs k = none) : putK kvs k v = kvs ++ [(k, v)] := putK_new v h
theorem sim_dlput {i j : Nat} {ta : TE} {a : DT DLG} (ha : Sim (ZDw K W U) ta a) : SimS (ZDw K W U) (sDPut (tVar i) (tVar j) ta) (dDlPut i j a) := fun f F ad ρ g σ H D R h D2 le => by
  refine ha f F ad ρ g σ H _ R h _ fun x H1 q => ?_
  obtain ⟨F1, ad1, ρ1, g1, r1, e1, eg1, R1, v1, q⟩ := q
  obtain ⟨ds, rfl, q⟩ := nlK_e q
  obtain ⟨hi, q⟩ := rsK_e q
  obtain ⟨k, ek, qa⟩ := opK_e q
  obtain ⟨kk, eo, hn, qb⟩ := opK_e qa
  obtain ⟨hl, qc⟩ := ltK_e qb
  clear q qa qb
  obtain ⟨p, vs, rfl, np, hp, da⟩ := v1
  have hs : σ[i]? = some (some (.ref g1.da)) := R1.slot i _ hi
  obtain ⟨y, hy⟩ := R1.slv ek
  obtain ⟨rfl, rfl⟩ := R1.key (r := .br j) hy ek eo
  have hres : DLR K g1 F1 H1 := R1.fin.res
  have hv : valV g1.vs kk = none := by
    rw [g1.val]
    unfold DLG.look at hn
    cases e : g1.adr kk with
    | none => rfl
    | some a => rw [e] at hn; cases hn
  have hadr : g1.adr kk = none := by
    unfold DLG.look at hn
    cases e : g1.adr kk with
    | none => rfl
    | some a => rw [e] at hn; cases hn
  have hpf : p ∉ g1.fp := np.1.2.2
  have hpd : p ≠ g1.da := fun z => hpf (by rw [z]; exact List.mem_cons_self)
  have hp0 : p ∉ f.fp0 := fun hm => R1.fin.fpo p hm np.1.2.1
  refine ⟨_, hs, _, hy, g1.da, _, rfl, DPut.k hres.d (by rw [sizeLine_eq]; unfold DLG.vs; rw [List.length_map]; exact hl), ?_⟩
  rw [putK_new2 hv]
  let g' : DLG := ⟨g1.da, g1.es ++ [(kk, p)], fun b => if b = p then ds else g1.ls b⟩
  have efp : ∀ a, a ∈ g'.fp ↔ a ∈ g1.fp ∨ a = p := fun a => by
    show a ∈ g1.da :: (g1.es ++ [(kk, p)]).map (·.2) ↔ a ∈ g1.da :: g1.es.map (·.2) ∨ a = p
    rw [List.map_append]
    simp [or_assoc]
  have evs : g'.vs = g1.vs ++ [(kk, .ref p)] := by
    show (g1.es ++ [(kk, p)]).map _ = _
    rw [List.map_append]; rfl
  have key : ∀ {H' : Hp}, H' = L2.upd H1 g1.da (.dK (g1.vs ++ [(kk, .ref p)])) → DLR K g' F1 H' := fun {H'} e => by
    subst e
    refine ⟨?_, fun b hb => ?_, ?_⟩
    · rw [evs]; exact upd_same
    · have hb2 : b ∈ g1.es.map (·.2) ∨ b = p := by
        have : b ∈ (g1.es ++ [(kk, p)]).map (·.2) := hb
        rw [List.map_append] at this
        simpa using this
      have hbd : b ≠ g1.da := fun z => by
        rcases hb2 with h | h
        · have hnd := hres.nd
          unfold DLG.fp at hnd
          rw [List.nodup_cons] at hnd
          exact hnd.1 (by rw [← z]; exact h)
        · exact hpd (by rw [← h, z])
      by_cases z : b = p
      · subst z
        exact ⟨vs, by rw [upd_ne hbd]; exact hp, by show DaAll K F1 _ (if b = b then _ else _); rw [if_pos rfl]; exact da⟩
      · rcases hb2 with h | h
        · obtain ⟨vs', h1, h2⟩ := hres.l b h
          exact ⟨vs', by rw [upd_ne hbd]; exact h1, by show DaAll K F1 _ (if b = p then _ else _); rw [if_neg z]; exact h2⟩
        · exact absurd h z
    · show (g1.da :: (g1.es ++ [(kk, p)]).map (·.2)).Nodup
      rw [List.map_append]
      have hnd := hres.nd
      unfold DLG.fp at hnd hpf
      show (g1.da :: (g1.es.map (·.2) ++ [p])).Nodup
      rw [← List.cons_append, List.nodup_append]
      exact ⟨hnd, by simp, fun a ha b hb e => hpf (by rw [← List.mem_singleton.mp hb, ← e]; exact ha)⟩
  have look : ∀ x, g'.look x = if x = kk then some ds else g1.look x := fun x => by
    unfold DLG.look
    have ea : g'.adr x = match g1.adr x with
        | some a => some a
        | none => if kk = x then some p else none := by
      show ((g1.es ++ [(kk, p)]).find? fun q => decide (q.1 = x)).map (·.2) = _
      rw [List.find?_append]
      unfold DLG.adr
      cases e : g1.es.find? fun q => decide (q.1 = x) with
      | some q => rfl
      | none =>
        by_cases z : kk = x
        · simp [z]
        · simp [z]
    by_cases z : x = kk
    · subst z
      rw [if_pos rfl, ea, hadr, if_pos rfl]
      show some (if p = p then ds else _) = _
      rw [if_pos rfl]
    · rw [if_neg z, ea]
      cases e : g1.adr x with
      | none => rw [if_neg fun q => z q.symm]; rfl
      | some a =>
        have hap : a ≠ p := fun q => hpf (by rw [← q]; exact List.mem_cons_of_mem _ (DLG.adr_mem e))
        show some (if a = p then ds else g1.ls a) = _
        rw [if_neg hap]; rfl
  -- first the list is taken in, then the dict is written
  let gm : DLG := ⟨g1.da, g1.es, g1.ls⟩
  have R2 : Rel (ZDw K W U) f F1 ad1 ρ1 g' σ (L2.upd H1 g1.da (.dK (g1.vs ++ [(kk, .ref p)]))) := by
    have ne : ∀ i s, ρ1[i]? = some s → s.own = true → ad1 i ≠ g1.da := fun i s hi ho e => by
      have q := R1.slot i s hi
      cases s with
      | ls ds => exact q.2.1.2.2 (by rw [e]; exact List.mem_cons_self)
      | dk ds => exact q.2.1.2.2 (by rw [e]; exact List.mem_cons_self)
      | _ => cases ho
    have hdF : F1 g1.da = none := R1.fin.fpF _ List.mem_cons_self
    refine ⟨⟨⟨R1.fin.base, fun b u e => ?_, fun b u e h0 => ?_, fun b hb => ?_, R1.fin.new, key rfl, fun a ha => ?_, fun a ha => ?_, R1.fin.fpo⟩, R1.len, fun i s hi => ?_, R1.inj⟩, R1.lx⟩
    · rw [upd_ne fun z => by rw [z, hdF] at e; cases e]
      exact R1.fin.sub b u e
    · rw [upd_ne fun z => ?_]
      · exact R1.fin.keep b u e h0
      · rcases R1.fin.fpB g1.da List.mem_cons_self with h | h
        · exact h0 (by rw [z]; exact h)
        · rw [z, h] at e; cases e
    · by_cases z : b = g1.da
      · rw [z, upd_same]; intro y; cases y
      · rw [upd_ne z]; exact R1.fin.keepN b hb
    · rcases (efp a).mp ha with h | rfl
      · exact R1.fin.fpF a h
      · exact np.1.1
    · rcases (efp a).mp ha with h | rfl
      · exact R1.fin.fpB a h
      · exact .inr np.1.2.1
    · have q := R1.slot i s hi
      have nin : ∀ s, ρ1[i]? = some s → s.own = true → ad1 i ∉ g1.fp → ad1 i ∉ g'.fp := fun s hi ho h1 h2 => by
        rcases (efp _).mp h2 with h | h
        · exact h1 h
        · exact np.2 i s hi ho h
      cases s with
      | un => trivial
      | dt d => exact q
      | ls ds => obtain ⟨q1, q2, vs, q3, q4⟩ := q; exact ⟨q1, ⟨q2.1, q2.2.1, nin _ hi rfl q2.2.2⟩, vs, by rw [upd_ne (ne i _ hi rfl)]; exact q3, q4⟩
      | dk ds => obtain ⟨q1, q2, vs, q3, q4⟩ := q; exact ⟨q1, ⟨q2.1, q2.2.1, nin _ hi rfl q2.2.2⟩, vs, by rw [upd_ne (ne i _ hi rfl)]; exact q3, q4⟩
      | rs n => exact q
      | vv v => exact q
  exact le.nx F1 ad1 ρ1 g' σ _ eg1 R2 (qc g' look (by show (g1.es ++ [(kk, p)]).length = _; rw [List.length_append]; rfl))
end
section
variable {K : PySem.W.Frag} {X : Cx} {W : WXH} {U : UX DLG} {i : Nat} {x : Str} {px p1 pos apos cpos : Pos} {e k : Expr} {te tk : TE} {a b : DT DLG}
/-- the subscript of a dict in slot i -/
theorem pe_dl (hu : X.A.units + 64 < cLine) (hk : PE X k tk) (hN : X.N[i]? = some x := by rfl)
    (hv : Vis X.env.scope x := by first | exact Or.inl rfl | exact Or.inr (Or.inl rfl) | exact Or.inr (Or.inr rfl)) (hd : (x == ("__debug__" : Str)) = false := by decide) (hcd : (x == ("__classdict__" : Str)) = false := by decide) (hs : NoSl k := by exact fun _ _ => rfl) :
    PE X (.Subscript (.Name x px) k p1) (tDGet (tVar i) tk) := pe_dget (by omega) (pe_var hN hv hd hcd) hk hs
theorem t_dlin (hu : X.A.units + 200 < cLine) (i : Nat) (he : DE X (ZDw K W U) e te a) (hk : DE X (ZDw K W U) k tk b) (hK : K = X.K := by rfl) (hm : behindInMarks .In (.Subscript (.Name x px) k p1) = false := by rfl)
    (hN : X.N[i]? = some x := by rfl) (hv : Vis X.env.scope x := by first | exact Or.inl rfl | exact Or.inr (Or.inl rfl) | exact Or.inr (Or.inr rfl)) (hd : (x == ("__debug__" : Str)) = false := by decide) (hcd : (x == ("__classdict__" : Str)) = false := by decide) (hs : NoSl k := by exact fun _ _ => rfl) :
    DTe X (ZDw K W U) (.Compare e [.In] [.Subscript (.Name x px) k p1] pos) (tTest (tOp (rIn K false) te (tDGet (tVar i) tk))) (dTst (dDlIn false i a b)) := ⟨by rw [hK]; exact pt_cmpR op_in_seq he.pe (pe_dl (by omega) hk.pe hN hv hd hcd hs) hm, sim_tst (sim_dlin he.sim hk.sim)⟩
theorem t_dlnin (hu : X.A.units + 200 < cLine) (i : Nat) (he : DE X (ZDw K W U) e te a) (hk : DE X (ZDw K W U) k tk b) (hK : K = X.K := by rfl) (hm : behindInMarks .NotIn (.Subscript (.Name x px) k p1) = false := by rfl)
    (hN : X.N[i]? = some x := by rfl) (hv : Vis X.env.scope x := by first | exact Or.inl rfl | exact Or.inr (Or.inl rfl) | exact Or.inr (Or.inr rfl)) (hd : (x == ("__debug__" : Str)) = false := by decide) (hcd : (x == ("__classdict__" : Str)) = false := by decide) (hs : NoSl k := by exact fun _ _ => rfl) :
    DTe X (ZDw K W U) (.Compare e [.NotIn] [.Subscript (.Name x px) k p1] pos) (tTest (tOp (rIn K true) te (tDGet (tVar i) tk))) (dTst (dDlIn true i a b)) := ⟨by rw [hK]; exact pt_cmpR op_notIn_seq he.pe (pe_dl (by omega) hk.pe hN hv hd hcd hs) hm, sim_tst (sim_dlin he.sim hk.sim)⟩
theorem e_dlapp (hu : X.A.units + 200 < cLine) (i : Nat) (hk : DE X (ZDw K W U) k tk b) (he : DE X (ZDw K W U) e te a) (hK : K = X.K := by rfl)
    (hN : X.N[i]? = some x := by rfl) (hv : Vis X.env.scope x := by first | exact Or.inl rfl | exact Or.inr (Or.inl rfl) | exact Or.inr (Or.inr rfl)) (hd : (x == ("__debug__" : Str)) = false := by decide) (hcd : (x == ("__classdict__" : Str)) = false := by decide) (hs : NoSl k := by exact fun _ _ => rfl)
    (hst : starEach [e] X.env = (false, eval e X.env) :: starEach [] X.env := by rfl) (hfew : ((backTo cpos (starEach [e] X.env)).all (fun y => !y.1) && (backToKw cpos (keywordEach [] X.env)).all (fun y => y.1.isSome) && decide (([e] : List Expr).length + ([] : List Keyword).length + (if ([] : List Keyword).isEmpty then 0 else 1) < 30)) = true := by rfl)
    (hbase : attributeBase (.Subscript (.Name x px) k p1) "append" X.env (eval (.Subscript (.Name x px) k p1) X.env) = eval (.Subscript (.Name x px) k p1) X.env := by rfl)
    (hline : (apos.endLine == cpos.line) = true := by rfl) :
    DE X (ZDw K W U) (.Call (.Attribute (.Subscript (.Name x px) k p1) "append" apos) [e] [] cpos) (tBM K "list" rAppend (tDGet (tVar i) tk) (tCons te tNil)) (dDlApp i b a) :=
  ⟨by rw [hK]; exact pe_bm PySem.F.plainAttrs_list PySem.F.slot_list_append PySem.F.type_list_append mt_append (pe_dl (by omega) hk.pe hN hv hd hcd hs) (pa_cons he.pe pa_nil hst) hbase hfew hline hst, sim_dlapp hk.sim he.sim⟩
theorem s_dlput (hu : X.A.units + 64 < cLine) (i j : Nat) {y : Str} {ps py : Pos} (he : DE X (ZDw K W U) e te a) (hN : X.N[i]? = some x := by rfl) (hM : X.N[j]? = some y := by rfl)
    (hv : Vis X.env.scope x := by first | exact Or.inl rfl | exact Or.inr (Or.inl rfl) | exact Or.inr (Or.inr rfl)) (hw : Vis X.env.scope y := by first | exact Or.inl rfl | exact Or.inr (Or.inl rfl) | exact Or.inr (Or.inr rfl))
    (hd : (x == ("__debug__" : Str)) = false := by decide) (hcd : (x == ("__classdict__" : Str)) = false := by decide) (hd2 : (y == ("__debug__" : Str)) = false := by decide) (hcd2 : (y == ("__classdict__" : Str)) = false := by decide)
    (hs : swapsWith e (some (.Subscript (.Name x px) (.Name y py) ps)) pos.line X.env = pure false := by rfl) : DSt X (ZDw K W U) (.Assign [.Subscript (.Name x px) (.Name y py) ps] e pos) (sDPut (tVar i) (tVar j) te) (dDlPut i j a) :=
  ⟨ps_dput (by omega) (pe_var hN hv hd hcd) (pe_var hM hw hd2 hcd2) he.pe hs, sim_dlput he.sim⟩
end
end L3
namespace L3
open PySem L2
theorem noRs_get : ∀ {as : List Rs}, noRs as = true → ∀ (i n : Nat), as[i]? ≠ some (.rs n)
  | [], _, i, n, h => by simp at h
  | a :: r, e, 0, n, h => by
    simp at h
    subst h
    cases e
  | a :: r, e, i + 1, n, h => by
    have e2 : noRs r = true := by
      cases a <;> first | exact e | cases e
    exact noRs_get e2 i n (by simpa using h)
theorem entry_set_len {N : List Str} {as : List Rs} {i : Nat} {s : Sl} (h : as.length ≤ N.length) : ((entry N as).set i s).length = N.length := by
  unfold entry
  rw [List.length_set, List.length_append, List.length_map, List.length_replicate]
  omega
section
variable {P : Program} {w : World} {K : PySem.W.Frag} {mg : Str → Option Value} {base : Heap}
/-- a def whose first statement makes a dict of lists -/
theorem Dfn.okD {x y : Str} {s : Stmt} {N ps : List Str} {k i : Nat} {S : Spec Unit} {rest : List Stmt} {p1 p2 p3 : Pos} (D : Dfn K mg x s ps) (Sc : FnScope N ps (defScope s)) (hdef : defBody s = .Assign [.Name y p1] (.Dict [] [] p2) p3 :: rest) (hi : N[i]? = some y) (hl : Loc (defScope s) y)
    (hS : ∀ as g T U, S as g T U → as.length = ps.length ∧ noRs as = true) (hN : ps.length ≤ N.length) (hpi : ps.length ≤ i)
    (body : ∀ (fa : Addr) (cdv : Value) (A : Around) (outer : List Env) (s' : Shared) (H : Hp) (E : XK), RoomG k (A.deeper (PyProof.Rows.envOfC x (defScope s) s'.heap.objs.size fa cdv)) →
      ∃ ts t, DSs (cxOf (L2.CX P w) P w K mg base N x (defScope s) fa cdv A outer s' H E).nox (ZDw K (fun _ _ _ _ => False) Un) rest ts t ∧ ∀ as g T U, S as g T U → ∀ g0 : DLG, (∀ j, g0.look j = Option.none) → g0.es = [] → t { nx := fun _ _ => T (.dt .none) (), rt := fun r _ => noR r (T r ()) } ((entry N as).set i (.rs 0)) g0) :
    Ok P w K mg base (k + 1) x ps (spZ (Z0 K) S) := by
  refine Dfn.raw D Sc (fun vs H Q E h => ?_) fun fa cdv A outer s' H vs Q E hr h => ?_
  · obtain ⟨F, g, as, T, U, h1, h2, h3, h4, h5, _⟩ := h
    rw [argR_len h4]
    exact (hS as g T U h5).1
  · obtain ⟨F, u, as, T, U, h1, h2, h3, h4, h5, h6, h7⟩ := h
    obtain ⟨ts, t, hd, hb⟩ := body fa cdv A outer s' H E hr
    obtain ⟨hlen, hnr⟩ := hS as u T U h5
    rw [hdef]
    refine ⟨_, pss_cons (ps_set (i := i) Sc.nd hi hl pe_dnewK) hd.ps, fun p hp => ?_⟩
    have R0 := rel_entry (Z := Z0 K) (N := N) h1 h2 h3 h4 (by rw [hlen]; exact hN) (fun _ _ _ _ _ _ _ _ _ _ _ _ z => z.elim)
    let g0 : DLG := ⟨p, [], fun _ => []⟩
    have hFp : F p = Option.none := Evl.fresh_back h1 hp
    have hiN : i < N.length := (List.getElem?_eq_some_iff.mp hi).1
    have el : (entry N as).length = N.length := by
      have := entry_set_len (N := N) (as := as) (i := i) (s := .un) (by rw [hlen]; exact hN)
      rwa [List.length_set] at this
    have sl : (L2.start N vs).length = N.length := by rw [← R0.len, el]
    have R : Rel (ZDw K (fun _ _ _ _ => False) Un) ⟨H, F, []⟩ F (fun _ => 0) ((entry N as).set i (.rs 0)) g0 ((L2.start N vs).set i (some (.ref p))) (L2.upd H p (.dK [])) := by
      refine ⟨⟨⟨Evl.Ex.refl F, fun b o e => ?_, fun b o e _ => ?_, fun b hb => ?_, fun b o e => .inl e, ⟨upd_same, fun a ha => (nomatch ha), by show [p].Nodup; simp⟩, fun a ha => ?_, fun a ha => ?_, fun a ha => (nomatch ha)⟩, ?_, fun j q hj => ?_, fun j l q q2 hj hl hq => ?_⟩, fun _ _ _ _ _ _ _ _ _ _ _ _ z => z.elim⟩
      · rw [upd_ne (ne_of_none (h1 b o e) hp)]; exact h1 b o e
      · rw [upd_ne (ne_of_none e hp)]; exact e
      · by_cases z : b = p
        · rw [z, upd_same]; intro y; cases y
        · rw [upd_ne z]; exact hb
      · have : a = p := by
          have : a ∈ [p] := ha
          simpa using this
        rw [this]; exact hFp
      · have : a = p := by
          have : a ∈ [p] := ha
          simpa using this
        rw [this]; exact .inr hp
      · rw [List.length_set, List.length_set, el, sl]
      · by_cases z : i = j
        · subst z
          rw [List.getElem?_set_self (by rw [el]; exact hiN)] at hj
          cases hj
          show _ = _
          rw [List.getElem?_set_self (by rw [sl]; exact hiN)]; rfl
        · rw [List.getElem?_set_ne z] at hj
          have q0 := R0.slot j q hj
          cases q with
          | un => trivial
          | dt d => obtain ⟨v, q1, q2⟩ := q0; exact ⟨v, by rw [List.getElem?_set_ne z]; exact q1, q2⟩
          | vv v => exact (List.getElem?_set_ne z).trans q0
          | rs n =>
            unfold entry at hj
            by_cases hlt : j < as.length
            · rw [List.getElem?_append_left (by rw [List.length_map]; exact hlt), List.getElem?_map] at hj
              cases ea : as[j]? with
              | none => rw [ea] at hj; cases hj
              | some r =>
                rw [ea] at hj
                cases r <;> cases hj
                exact absurd ea (noRs_get hnr j n)
            · rw [List.getElem?_append_right (by rw [List.length_map]; omega), List.getElem?_replicate] at hj
              split at hj <;> cases hj
          | ls d => exact absurd q0.2.2.choose_spec.1 (by
              intro hh
              unfold entry at hj
              by_cases hlt : j < as.length
              · rw [List.getElem?_append_left (by rw [List.length_map]; exact hlt), List.getElem?_map] at hj
                cases ea : as[j]? with
                | none => rw [ea] at hj; cases hj
                | some r => rw [ea] at hj; cases r <;> cases hj
              · rw [List.getElem?_append_right (by rw [List.length_map]; omega), List.getElem?_replicate] at hj
                split at hj <;> cases hj)
          | dk d => exact absurd q0.2.2.choose_spec.1 (by
              intro hh
              unfold entry at hj
              by_cases hlt : j < as.length
              · rw [List.getElem?_append_left (by rw [List.length_map]; exact hlt), List.getElem?_map] at hj
                cases ea : as[j]? with
                | none => rw [ea] at hj; cases hj
                | some r => rw [ea] at hj; cases r <;> cases hj
              · rw [List.getElem?_append_right (by rw [List.length_map]; omega), List.getElem?_replicate] at hj
                split at hj <;> cases hj)
      · have none_own : ∀ (j : Nat) (q : Sl), ((entry N as).set i (.rs 0))[j]? = some q → q.own = false := fun j q hj => by
          by_cases z : i = j
          · subst z
            rw [List.getElem?_set_self (by rw [el]; exact hiN)] at hj
            cases hj; rfl
          · rw [List.getElem?_set_ne z] at hj
            unfold entry at hj
            by_cases hlt : j < as.length
            · rw [List.getElem?_append_left (by rw [List.length_map]; exact hlt), List.getElem?_map] at hj
              cases ea : as[j]? with
              | none => rw [ea] at hj; cases hj
              | some r => rw [ea] at hj; cases r <;> cases hj <;> rfl
            · rw [List.getElem?_append_right (by rw [List.length_map]; omega), List.getElem?_replicate] at hj
              split at hj <;> cases hj
              rfl
        rw [none_own j q hj] at hq; cases hq
    have fr : ∀ {F' : Hp} {g' : DLG} {H' : Hp}, Fin (ZDw K (fun _ _ _ _ => False) Un) ⟨H, F, []⟩ F' g' H' → Frm (Z0 K) F H u F' H' () := fun {F' g' H'} r =>
      ⟨r.base, fun b o e _ => r.keep b o e (fun z => nomatch z), r.keepN, r.new, r.sub, trivial, fun a ha => (nomatch ha), fun a ha => (nomatch ha)⟩
    refine hd.sim ⟨H, F, []⟩ F (fun _ => 0) _ g0 _ _ _ R (hb as u T U h5 g0 (fun j => rfl) rfl) _ ⟨fun F' ad ρ g' σ H' er R hT => ?_, fun F' g' H' v r er R hv hT => ?_, fun _ _ _ _ _ _ _ _ z => z.elim, fun _ _ _ _ _ _ _ _ z => z.elim⟩
    · exact h6 .non (.dt .none) F' () H' (fr R.fin) rfl .non hT
    · cases r with
      | dt d => exact h6 v (.dt d) F' () H' (fr R) rfl hv hT
      | nl ds => obtain ⟨a, vs, rfl, n, q1, q2⟩ := hv; exact h6 _ (.nl ds) F' () H' (fr R) rfl ⟨a, vs, rfl, n.2.1, n.1, (fun z => nomatch z), q1, q2⟩ hT
      | nd ds => obtain ⟨a, vs, rfl, n, q1, q2⟩ := hv; exact h6 _ (.nd ds) F' () H' (fr R) rfl ⟨a, vs, rfl, n.2.1, n.1, (fun z => nomatch z), q1, q2⟩ hT
      | br i => exact hv.elim
      | rs n => exact hT.elim
      | vv z => exact h6 v (.vv z) F' () H' (fr R) rfl hv hT
end
end L3
end
section
/-! L3j: the jar, a dict that is drawn from. -/
namespace L3
open PySem L2
structure JG where
  a : Addr
  b : Addr
  most : Option Int := none
def kCl : Key := .inr "cells"
def kRs : Key := .inr "rest"
def kSd : Key := .inr "seed"
def kTn : Key := .inr "turn"
def kMs : Key := .inr "most"
def mostKv : Option Int → List (Key × V)
  | none => []
  | some m => [(kMs, .int m)]
def jarKv (m : Option Int) (cl : Addr) (r s t : Int) : List (Key × V) := (kCl, .ref cl) :: (kRs, .int r) :: (kSd, .int s) :: (kTn, .int t) :: mostKv m
/-- the jar at ja, its cells at cl -/
def JAt (ja cl : Addr) (m : Option Int) (cells : List Int) (r s t : Int) (H : Hp) : Prop := H ja = some (.dK (jarKv m cl r s t)) ∧ H cl = some (.lst (cells.map V.int)) ∧ ja ≠ cl
def JR (g : JG) (H : Hp) : Prop := ∃ cells r s t, JAt g.1 g.2 g.most cells r s t H
def ZJ (K : PySem.W.Frag) : Zx K JG where
  fp g := [g.1, g.2]
  ra g _ := g.1
  R g _ H := JR g H
  loc := fun {g F F' H H'} ⟨cells, r, s, t, h1, h2, h3⟩ _ e => ⟨cells, r, s, t, (e g.1 (by simp)).trans h1, (e g.2 (by simp)).trans h2, h3⟩
  there := fun {g F H} ⟨cells, r, s, t, h1, h2, h3⟩ a ha => by
    simp at ha
    rcases ha with rfl | rfl
    · rw [h1]; intro z; cases z
    · rw [h2]; intro z; cases z
/-- what is left as it was but for the jar -/
structure JF (ja cl : Addr) (H H' : Hp) : Prop where
  keep : ∀ b o, H b = some o → b ≠ ja → b ≠ cl → H' b = some o
  keepN : ∀ b, H b ≠ none → H' b ≠ none
section
variable {ja cl : Addr} {m : Option Int} {cells : List Int} {r s t : Int} {H H' H2 : Hp}
theorem JF.refl : JF ja cl H H := ⟨fun _ _ e _ _ => e, fun _ h => h⟩
theorem JF.trans (a : JF ja cl H H') (b : JF ja cl H' H2) : JF ja cl H H2 := ⟨fun x o e n1 n2 => b.keep x o (a.keep x o e n1 n2) n1 n2, fun x h => b.keepN x (a.keepN x h)⟩
theorem JF.same (e : ∀ b o, H b = some o → H' b = some o) : JF ja cl H H' := ⟨fun b o h _ _ => e b o h, fun b h => by
  cases q : H b with
  | none => exact absurd q h
  | some o => rw [e b o q]; intro z; cases z⟩
theorem JF.dict {o : HO} : JF ja cl H (upd H ja o) := ⟨fun b x e n1 _ => by rw [upd_ne n1]; exact e, fun b h => by
  by_cases e : b = ja
  · subst e; rw [upd_same]; intro z; cases z
  · rw [upd_ne e]; exact h⟩
theorem JF.lst {o : HO} : JF ja cl H (upd H cl o) := ⟨fun b x e _ n2 => by rw [upd_ne n2]; exact e, fun b h => by
  by_cases e : b = cl
  · subst e; rw [upd_same]; intro z; cases z
  · rw [upd_ne e]; exact h⟩
theorem JF.new {p : Addr} {o : HO} (h : H p = none) : JF ja cl H (upd H p o) := .same fun b x e => by rw [upd_ne (ne_of_none e h)]; exact e
theorem jar_len (m : Option Int) {cl : Addr} {r s t : Int} : (jarKv m cl r s t).length < sizeLine := by cases m <;> (show (_ : Nat) < _; first | (show 4 < sizeLine; decide) | (show 5 < sizeLine; decide))
theorem JAt.keep (j : JAt ja cl m cells r s t H) (e : ∀ b o, H b = some o → H' b = some o) : JAt ja cl m cells r s t H' := ⟨e _ _ j.1, e _ _ j.2.1, j.2.2⟩
theorem JAt.put {r' s' t' : Int} (j : JAt ja cl m cells r s t H) : JAt ja cl m cells r' s' t' (upd H ja (.dK (jarKv m cl r' s' t'))) := ⟨upd_same, by rw [upd_ne j.2.2.symm]; exact j.2.1, j.2.2⟩
theorem JAt.cut {cells' : List Int} (j : JAt ja cl m cells r s t H) : JAt ja cl m cells' r s t (upd H cl (.lst (cells'.map V.int))) := ⟨by rw [upd_ne j.2.2]; exact j.1, upd_same, j.2.2⟩
theorem JAt.getR (j : JAt ja cl m cells r s t H) : DGet H ja (.str "rest") (some (.int r)) := by have := DGet.k (k := kRs) j.1; exact this
theorem JAt.getS (j : JAt ja cl m cells r s t H) : DGet H ja (.str "seed") (some (.int s)) := by have := DGet.k (k := kSd) j.1; exact this
theorem JAt.getT (j : JAt ja cl m cells r s t H) : DGet H ja (.str "turn") (some (.int t)) := by have := DGet.k (k := kTn) j.1; exact this
theorem JAt.getC (j : JAt ja cl m cells r s t H) : DGet H ja (.str "cells") (some (.ref cl)) := by have := DGet.k (k := kCl) j.1; exact this
theorem JAt.putR {x : Int} (j : JAt ja cl m cells r s t H) : DPut H ja (.str "rest") (.int x) (upd H ja (.dK (jarKv m cl x s t))) := by cases m <;> (have := DPut.k (k := kRs) (v := .int x) j.1 (jar_len _); exact this)
theorem JAt.putS {x : Int} (j : JAt ja cl m cells r s t H) : DPut H ja (.str "seed") (.int x) (upd H ja (.dK (jarKv m cl r x t))) := by cases m <;> (have := DPut.k (k := kSd) (v := .int x) j.1 (jar_len _); exact this)
theorem JAt.putT {x : Int} (j : JAt ja cl m cells r s t H) : DPut H ja (.str "turn") (.int x) (upd H ja (.dK (jarKv m cl r s x))) := by cases m <;> (have := DPut.k (k := kTn) (v := .int x) j.1 (jar_len _); exact this)
theorem JF.frm {K : PySem.W.Frag} {F : Hp} {g : JG} (h : JF g.1 g.2 H H') (e1 : Ex F H) (e2 : ∀ a ∈ (ZJ K).fp g, F a = none) (hR : JR g H') : Frm (ZJ K) F H g F H' g := ⟨Evl.Ex.refl F, fun b o e hn => h.keep b o e (fun z => hn (by rw [z]; exact List.mem_cons_self)) (fun z => hn (by rw [z]; exact List.mem_cons_of_mem _ List.mem_cons_self)), h.keepN, fun b o e => .inl e,
  fun b o e => h.keep b o (e1 b o e) (fun z => by rw [z, e2 g.1 List.mem_cons_self] at e; cases e) (fun z => by rw [z, e2 g.2 (List.mem_cons_of_mem _ List.mem_cons_self)] at e; cases e), hR, e2, fun a ha => .inl ha⟩
end
/-- a draw: anything below many -/
def S__law_pick : Spec JG := fun as g T U => match as with
  | [.rs 0, .dt (.int m)] => dvK 0 m (∀ r : Int, 0 ≤ r → r < m → T (.dt (.int r)) g)
  | _ => False
end L3
namespace L3
open PySem
theorem canLay_ints : ∀ ns : List Int, PyData.canLayAll0 (ns.map PyData.int) = true
  | [] => rfl
  | n :: ns => by
    rw [List.map_cons, PyData.canLayAll0, canLay_ints ns]; rfl
theorem depth_ints : ∀ ns : List Int, PyData.depthAll (ns.map PyData.int) = 0
  | [] => rfl
  | n :: ns => by
    rw [List.map_cons, PyData.depthAll, depth_ints ns]; rfl
theorem shaped_ints (ns : List Int) : SeqAt.shaped (.list (ns.map PyData.int)) = true := by
  unfold SeqAt.shaped
  rw [Bool.and_eq_true]
  refine ⟨?_, ?_⟩
  · rw [PyData.canLay0]; exact canLay_ints ns
  · rw [PyData.depth, depth_ints]; rfl
end L3
namespace L3
open PySem L2
/-- the jar is made -/
def spJar (K : PySem.W.Frag) : Sp := fun vs H Q _ => ∃ (a : Addr) (ns : List Int), vs = [.ref a] ∧ SqL K H a (ns.map V.int) ∧
  ∀ (H' : Hp) (g : JG), (∀ b o, H b = some o → H' b = some o) → H g.1 = none → H g.2 = none → JR g H' → Q (.ref g.1) H'
theorem cut_ints (ns : List Int) (lo hi : Option Int) : ∃ ms : List Int, cutV (ns.map V.int) lo hi = ms.map V.int := by
  unfold cutV
  rw [← List.map_drop, ← List.map_take]
  exact ⟨_, rfl⟩
end L3
namespace L3
open PySem L2
/-- the law's promise: true -/
def spLaw (K : PySem.W.Frag) : Sp := fun vs H Q _ => ∃ (a : Addr) (ns : List Int), vs = [.ref a] ∧ SqL K H a (ns.map V.int) ∧ ∀ H', Q (.bl true) H'
def lawD (G : Type) : D3 G := { nx := fun _ _ => False, rt := fun r _ => r = .dt (.bool true) }
def lawE (N : List Str) (j : Nat) : En := (List.replicate N.length .un).set j (.rs 0)
theorem law_rel {G : Type} {K : PySem.W.Frag} {Z : Zx K G} {N : List Str} {j : Nat} {g : G} {H : Hp} {σ : St} (hR : Z.R g (fun _ => none) H) (hl : σ.length = N.length) (hj : σ[j]? = some (some (.ref (Z.ra g 0)))) (hU : ∀ c fs ρ g, ¬ Z.U c fs ρ g) : Rel Z ⟨H, fun _ => none, Z.fp g⟩ (fun _ => none) (fun _ => 0) (lawE N j) g σ H := by
  refine ⟨⟨⟨Evl.Ex.refl _, fun b o e => (by cases e), fun b o e _ => e, fun b h => h, fun b o e => (by cases e), hR, fun a _ => rfl, fun a h => .inl h, fun a ha => Z.there hR a ha⟩, by unfold lawE; rw [List.length_set, List.length_replicate, hl], fun i s hi => ?_, fun i i2 s t hi hi2 hs ht => ?_⟩, fun _ _ _ _ _ _ c fs _ _ _ _ z => (hU _ _ _ _ z).elim⟩
  · unfold lawE at hi
    by_cases e : j = i
    · subst e
      have hlt := (List.getElem?_eq_some_iff.mp hi).1
      rw [List.length_set] at hlt
      rw [List.getElem?_set_self hlt] at hi
      cases hi
      exact hj
    · rw [List.getElem?_set_ne e, List.getElem?_replicate] at hi
      split at hi
      · cases hi; trivial
      · cases hi
  · unfold lawE at hi
    by_cases e : j = i
    · subst e
      have hlt := (List.getElem?_eq_some_iff.mp hi).1
      rw [List.length_set] at hlt
      rw [List.getElem?_set_self hlt] at hi
      cases hi
      cases hs
    · rw [List.getElem?_set_ne e, List.getElem?_replicate] at hi
      split at hi
      · cases hi; cases hs
      · cases hi
theorem law_simJ {K : PySem.W.Frag} {ts : TS} {t : DS JG} {N : List Str} {j : Nat} {a : Addr} {ns : List Int} {H : Hp} {Q : VK} (hd : SimS ((ZJ K).wish (fun _ _ _ _ => False) Un) ts t) (hS : SqL K H a (ns.map V.int)) (hq : ∀ H', Q (.bl true) H') (hj : j < N.length)
    (hN : 0 < N.length) (hb : ∀ g, t (lawD JG) (lawE N j) g) : tSeq (tAsg (tCallE (spJar K) [] (fun _ => E0) (tCons (tVar 0) tNil)) (gName j)) ts { nx := fun _ H' => Q .non H', rt := Q } (L2.start N [.ref a]) H := by
  have h0 : (L2.start N [.ref a])[0]? = some (some (.ref a)) := by
    unfold L2.start
    rfl
  have hl : (L2.start N [.ref a]).length = N.length := by
    unfold L2.start
    rw [List.length_append, List.length_map, List.length_replicate]
    show 1 + (N.length - 1) = N.length
    omega
  refine ⟨.ref a, h0, a, ns, rfl, hS, fun H' g e n1 n2 hJ => ?_⟩
  refine hd ⟨H', fun _ => none, (ZJ K).fp g⟩ (fun _ => none) (fun _ => 0) (lawE N j) g _ H' (lawD JG) (law_rel (Z := (ZJ K).wish (fun _ _ _ _ => False) Un) hJ (by rw [List.length_set, hl]) (by rw [List.getElem?_set_self (by rw [hl]; exact hj)]; rfl) fun _ _ _ _ z => z) (hb g) _ ⟨fun _ _ _ _ _ _ _ _ z => z.elim, fun F' g' H2 v r _ _ hv hT => ?_, fun _ _ _ _ _ _ _ _ z => z.elim, fun _ _ _ _ _ _ _ _ z => z.elim⟩
  cases (show r = .dt (.bool true) from hT)
  cases (show Da K F' v (.bool true) from hv)
  exact hq H2
end L3
end
section
/-! L3k: books as data. -/
namespace L3
open PySem L2
/-- a statement that the stepper leaves alone -/
structure Hold (p : Prop) : Prop where
  h : p
  t : True
theorem hold {p : Prop} (h : p) : Hold p := ⟨h, trivial⟩
structure Way where
  a : Int
  b : Int
  gs : List Int
structure Book where
  rooms : Int
  purses : Int
  ways : List Way
def intsD (ns : List Int) : List PyData := ns.map PyData.int
def Way.d (w : Way) : PyData := .tuple [.int w.a, .int w.b, .tuple (w.gs.map PyData.int)]
def Book.d (b : Book) : PyData := .tuple [.int b.rooms, .int b.purses, .tuple (b.ways.map Way.d)]
structure Way.Ok (w : Way) (rooms purses : Int) : Prop where
  a0 : 0 ≤ w.a
  a1 : w.a < rooms
  b0 : 0 ≤ w.b
  b1 : w.b < rooms
  len : (w.gs.length : Int) = purses
  g : ∀ x ∈ w.gs, -99 ≤ x ∧ x ≤ 99
structure Book.Ok (b : Book) (mr mw : Int) : Prop where
  r0 : 1 ≤ b.rooms
  r1 : b.rooms ≤ mr
  p0 : 1 ≤ b.purses
  p1 : b.purses ≤ 6
  n : (b.ways.length : Int) ≤ mw
  w : ∀ x ∈ b.ways, x.Ok b.rooms b.purses
theorem smDs_ints : ∀ ns : List Int, smDs (ns.map PyData.int) = true
  | [] => rfl
  | n :: ns => by rw [List.map_cons, smDs, smDs_ints ns]; rfl
theorem atI_map {α β : Type} (f : α → β) {xs : List α} {i : Int} {x : α} (h : atI xs i = some x) : atI (xs.map f) i = some (f x) := by
  unfold atI at h ⊢
  rw [List.length_map]
  cases e : ixN xs.length i with
  | none => rw [e] at h; cases h
  | some j =>
    rw [e] at h
    show (xs.map f)[j]? = some (f x)
    rw [List.getElem?_map, show xs[j]? = some x from h]; rfl
theorem atI_at {α : Type} {xs : List α} {i : Int} (h0 : 0 ≤ i) (h1 : i < xs.length) : ∃ (h : i.toNat < xs.length), atI xs i = some xs[i.toNat] := by
  obtain ⟨n, rfl⟩ := Int.eq_ofNat_of_zero_le h0
  have hn : n < xs.length := by omega
  exact ⟨hn, atI_nat (List.getElem?_eq_getElem hn)⟩
theorem ixN_at {n : Nat} {i : Int} (h0 : 0 ≤ i) (h1 : i < n) : ixN n i = some i.toNat := by
  obtain ⟨m, rfl⟩ := Int.eq_ofNat_of_zero_le h0
  unfold ixN
  first
    | (rw [if_pos h0, if_pos h1]; done)
    | (simp; omega)
end L3
namespace L3
open PySem L2
variable {G : Type}
theorem eqv_nil (xs : List PyData) : PyData.eqv (.list xs) (.list []) = xs.isEmpty := by cases xs <;> rfl
theorem eqv_tnil (xs : List PyData) : PyData.eqv (.tuple xs) (.tuple []) = xs.isEmpty := by cases xs <;> rfl
theorem eqvAll_ints : ∀ ns ms : List Int, PyData.eqvAll (ns.map PyData.int) (ms.map PyData.int) = decide (ns = ms)
  | [], [] => rfl
  | [], _ :: _ => rfl
  | _ :: _, [] => rfl
  | n :: ns, m :: ms => by
    rw [List.map_cons, List.map_cons, PyData.eqvAll, eqvAll_ints ns ms, PyData.eqv]
    rw [Bool.eq_iff_iff]
    simp
theorem eqv_lists (ns ms : List Int) : PyData.eqv (.list (ns.map PyData.int)) (.list (ms.map PyData.int)) = decide (ns = ms) := eqvAll_ints ns ms
theorem eqv_tups (ns ms : List Int) : PyData.eqv (.tuple (ns.map PyData.int)) (.tuple (ms.map PyData.int)) = decide (ns = ms) := eqvAll_ints ns ms
theorem shaped_tints (ns : List Int) : SeqAt.shaped (.tuple (ns.map PyData.int)) = true := by
  unfold SeqAt.shaped
  rw [Bool.and_eq_true]
  exact ⟨by rw [PyData.canLay0]; exact canLay_ints ns, by rw [PyData.depth, depth_ints]; rfl⟩
/-- slices -/
def cutL {α : Type} (xs : List α) (lo hi : Option Int) : List α := (xs.drop (HT.sIx xs.length 0 lo)).take (HT.sIx xs.length xs.length hi - HT.sIx xs.length 0 lo)
theorem cutD_map {α : Type} (f : α → PyData) (xs : List α) (lo hi : Option Int) : L3.cutD (xs.map f) lo hi = (cutL xs lo hi).map f := by
  unfold L3.cutD cutL
  rw [List.length_map, List.map_take, List.map_drop]
theorem sIx_int {n d : Nat} {i : Int} (h : 0 ≤ i) : HT.sIx n d (some i) = min i.toNat n := by
  unfold HT.sIx
  simp
  intro h2
  omega
theorem cutL_drop {α : Type} {xs : List α} {i : Int} (h : 0 ≤ i) : cutL xs (some i) none = xs.drop i.toNat := by
  unfold cutL
  rw [sIx_int h, HT.sIx_none]
  rw [List.take_of_length_le (by rw [List.length_drop]; exact Nat.le_refl _)]
  by_cases h2 : i.toNat ≤ xs.length
  · rw [Nat.min_eq_left h2]
  · rw [Nat.min_eq_right (by omega), List.drop_of_length_le (Nat.le_refl _), List.drop_of_length_le (by omega)]
theorem cutL_take {α : Type} {xs : List α} {i : Int} (h : 0 ≤ i) : cutL xs none (some i) = xs.take i.toNat := by
  unfold cutL
  rw [sIx_int h, HT.sIx_none, List.drop_zero, Nat.sub_zero]
  by_cases h2 : i.toNat ≤ xs.length
  · rw [Nat.min_eq_left h2]
  · rw [Nat.min_eq_right (by omega), List.take_of_length_le (Nat.le_refl _), List.take_of_length_le (by omega)]
theorem zipD_map {α β : Type} (f : α → PyData) (g : β → PyData) : ∀ (xs : List α) (ys : List β), zipD (xs.map f) (ys.map g) = (xs.zip ys).map fun p => .tuple [f p.1, g p.2]
  | [], _ => rfl
  | _ :: _, [] => rfl
  | x :: xs, y :: ys => by
    have := zipD_map f g xs ys
    unfold zipD at this ⊢
    rw [List.map_cons, List.map_cons, List.zipWith_cons_cons, this]; rfl
theorem zipD_self : ∀ ds : List PyData, zipD ds ds = ds.map fun d => .tuple [d, d]
  | [] => rfl
  | d :: r => by
    have := zipD_self r
    unfold zipD at this ⊢
    rw [List.zipWith_cons_cons, this]; rfl
theorem zipD_mapL {α : Type} (f : α → PyData) (xs : List α) (lo hi : Option Int) : zipD (xs.map f) (L3.cutD (xs.map f) lo hi) = (xs.zip (cutL xs lo hi)).map fun p => .tuple [f p.1, f p.2] := by
  rw [cutD_map, zipD_map]
theorem enumD_map {α : Type} (f : α → PyData) (xs : List α) : enumD (xs.map f) = (List.zip (List.range xs.length) xs).map fun p => .tuple [.int (p.1 : Nat), f p.2] := by
  unfold enumD
  rw [List.length_map, List.zipWith_map_right]
  rw [show (List.zip (List.range xs.length) xs).map (fun p => PyData.tuple [.int (p.1 : Nat), f p.2]) = List.zipWith (fun (a : Nat) b => PyData.tuple [.int (a : Nat), f b]) (List.range xs.length) xs from by rw [List.zip, List.map_zipWith]]
theorem rngD_map (lo : Int) (n : Nat) : rngD lo n = (List.range n).map fun i => .int (lo + (i : Nat)) := rfl
/-- a comprehension over a mapped list -/
theorem lc_fmL {α : Type} {L : List α} {h : α → PyData} {tg : DG G} {c : DB G} {e : DT G} {vs : List Nat} {ρ0 ρ1 : En} {g0 : G} {Q : Rs → En → G → Prop} (φ : α → Option PyData) (hw : wipeE ρ1 vs = ρ0 := by rfl)
    (hs : ∀ p ∈ L, ∀ (C1 : PyData → En → G → Prop) (C0 : En → G → Prop), (match φ p with | some d' => C1 d' ρ0 g0 | none => C0 ρ0 g0) →
      tg (h p) ρ0 g0 fun ρ2 g2 => c ρ2 g2 fun b ρ3 g3 => ifb b (e ρ3 g3 fun r ρ4 g4 => fz1 r ρ4 fun d' ρ5 => C1 d' (wipeE ρ5 vs) g4) (C0 (wipeE ρ3 vs) g3))
    (hQ : Q (.nl (L.filterMap φ)) ρ0 g0) (hU : unAll ρ0 vs := by first | exact ⟨rfl, trivial⟩ | exact ⟨rfl, rfl, trivial⟩ | exact ⟨rfl, rfl, rfl, trivial⟩) : LcP (L.map h) tg c e vs ρ1 g0 Q := by
  subst hw
  refine ⟨⟨fun k acc ρ' g' => acc = (L.take k).filterMap φ ∧ ρ' = wipeE ρ1 vs ∧ g' = g0, ⟨rfl, rfl, rfl⟩, fun k d acc ρ' g' hd hI => ?_, fun acc ρ' g' hI => ?_⟩⟩
  · obtain ⟨rfl, rfl, rfl⟩ := hI
    rw [List.getElem?_map] at hd
    obtain ⟨p, hp, rfl⟩ := Option.map_eq_some_iff.mp hd
    refine hs p (List.mem_of_getElem? hp) (fun d' ρ' g'' => List.filterMap φ (L.take k) ++ [d'] = (L.take (k + 1)).filterMap φ ∧ ρ' = wipeE ρ1 vs ∧ g'' = g') (fun ρ' g'' => List.filterMap φ (L.take k) = (L.take (k + 1)).filterMap φ ∧ ρ' = wipeE ρ1 vs ∧ g'' = g') ?_
    rw [List.take_add_one, hp]
    cases h : φ p with
    | none => simp [h]
    | some d' => simp [h]
  · obtain ⟨rfl, rfl, rfl⟩ := hI
    rw [List.length_map, List.take_length]
    exact ⟨hU, hQ⟩
theorem lc_mapL {α : Type} {L : List α} {h : α → PyData} {tg : DG G} {c : DB G} {e : DT G} {vs : List Nat} {ρ0 ρ1 : En} {g0 : G} {Q : Rs → En → G → Prop} (φ : α → PyData) (hw : wipeE ρ1 vs = ρ0 := by rfl)
    (hs : ∀ p ∈ L, ∀ (C1 : PyData → En → G → Prop) (C0 : En → G → Prop), C1 (φ p) ρ0 g0 →
      tg (h p) ρ0 g0 fun ρ2 g2 => c ρ2 g2 fun b ρ3 g3 => ifb b (e ρ3 g3 fun r ρ4 g4 => fz1 r ρ4 fun d' ρ5 => C1 d' (wipeE ρ5 vs) g4) (C0 (wipeE ρ3 vs) g3))
    (hQ : Q (.nl (L.map φ)) ρ0 g0) (hU : unAll ρ0 vs := by first | exact ⟨rfl, trivial⟩ | exact ⟨rfl, rfl, trivial⟩ | exact ⟨rfl, rfl, rfl, trivial⟩) : LcP (L.map h) tg c e vs ρ1 g0 Q :=
  lc_fmL (fun d => some (φ d)) hw hs (by rw [show List.filterMap (fun d => some (φ d)) L = L.map φ from by rw [← List.filterMap_eq_map]; rfl]; exact hQ) hU
theorem fm_if {α β : Type} (p : α → Bool) (φ : α → β) : ∀ L : List α, (L.filterMap fun x => if p x = true then some (φ x) else none) = (L.filter p).map φ
  | [] => rfl
  | x :: r => by
    have ih := fm_if p φ r
    cases e : p x with
    | true => simp [e, ih]
    | false => simp [e, ih]
/-- [h x for x in L if p x] -/
theorem lc_filL {α : Type} {L : List α} {h : α → PyData} {tg : DG G} {c : DB G} {e : DT G} {vs : List Nat} {ρ0 ρ1 : En} {g0 : G} {Q : Rs → En → G → Prop} (p : α → Bool) (φ : α → PyData) (hw : wipeE ρ1 vs = ρ0 := by rfl)
    (hs : ∀ x ∈ L, ∀ (C1 : PyData → En → G → Prop) (C0 : En → G → Prop), (p x = true → C1 (φ x) ρ0 g0) → (p x = false → C0 ρ0 g0) →
      tg (h x) ρ0 g0 fun ρ2 g2 => c ρ2 g2 fun b ρ3 g3 => ifb b (e ρ3 g3 fun r ρ4 g4 => fz1 r ρ4 fun d' ρ5 => C1 d' (wipeE ρ5 vs) g4) (C0 (wipeE ρ3 vs) g3))
    (hQ : Q (.nl ((L.filter p).map φ)) ρ0 g0) (hU : unAll ρ0 vs := by first | exact ⟨rfl, trivial⟩ | exact ⟨rfl, rfl, trivial⟩ | exact ⟨rfl, rfl, rfl, trivial⟩) : LcP (L.map h) tg c e vs ρ1 g0 Q :=
  lc_fmL (fun x => if p x = true then some (φ x) else none) hw (fun x hx C1 C0 q => hs x hx C1 C0 (fun e => by rw [if_pos e] at q; exact q) (fun e => by rw [if_neg (by rw [e]; exact Bool.false_ne_true)] at q; exact q))
    (by rw [fm_if]; exact hQ) hU
end L3
namespace L3
open PySem L2
theorem canLayAll_of {ds : List PyData} (h : ∀ d ∈ ds, d.canLay0 = true) : PyData.canLayAll0 ds = true := by
  induction ds with
  | nil => rfl
  | cons d r ih => rw [PyData.canLayAll0, h d List.mem_cons_self, ih fun x hx => h x (List.mem_cons_of_mem _ hx)]; rfl
theorem depthAll_of {ds : List PyData} {n : Nat} (h : ∀ d ∈ ds, d.depth ≤ n) : PyData.depthAll ds ≤ n := by
  induction ds with
  | nil => exact Nat.zero_le _
  | cons d r ih =>
    rw [PyData.depthAll]
    exact Nat.max_le.mpr ⟨h d List.mem_cons_self, ih fun x hx => h x (List.mem_cons_of_mem _ hx)⟩
theorem Way.lay (w : Way) : w.d.canLay0 = true ∧ w.d.depth ≤ 2 := by
  unfold Way.d
  refine ⟨?_, ?_⟩
  · rw [PyData.canLay0]
    simp [PyData.canLayAll0, PyData.canLay0, canLay_ints]
  · rw [PyData.depth]
    simp [PyData.depthAll, PyData.depth, depth_ints]
theorem shaped_ways (ws : List Way) : SeqAt.shaped (.tuple (ws.map Way.d)) = true := by
  unfold SeqAt.shaped
  rw [Bool.and_eq_true]
  refine ⟨?_, ?_⟩
  · rw [PyData.canLay0]
    refine canLayAll_of fun d hd => ?_
    obtain ⟨w, _, rfl⟩ := List.mem_map.mp hd
    exact w.lay.1
  · rw [PyData.depth]
    have : PyData.depthAll (ws.map Way.d) ≤ 2 := depthAll_of fun d hd => by
      obtain ⟨w, _, rfl⟩ := List.mem_map.mp hd
      exact w.lay.2
    exact decide_eq_true (by omega)
theorem atI_last_int {ns : List Int} (h : ns ≠ []) : atI (ns.map PyData.int) (-1) = some (.int (ns.getLast h)) := by
  have e : ns.map PyData.int = ns.dropLast.map PyData.int ++ [.int (ns.getLast h)] := by
    rw [← List.map_singleton, ← List.map_append, List.dropLast_concat_getLast]
  rw [e]
  exact atI_last _ _
end L3
namespace L3
open PySem
theorem cut_ex (ws : List Int) (lo hi : Option Int) : ∃ r : List Int, L3.cutD (ws.map PyData.int) lo hi = r.map PyData.int ∧ r.length ≤ ws.length := by
  refine ⟨cutL ws lo hi, cutD_map _ _ _ _, ?_⟩
  unfold cutL
  rw [List.length_take, List.length_drop]
  omega
end L3
namespace L3
open PySem
theorem sh_of {d e : PyData} {p : Prop} (h1 : SeqAt.shaped d = true) (h2 : SeqAt.shaped e = true) (hp : p) : SeqAt.shaped d = true ∧ SeqAt.shaped e = true ∧ p := ⟨h1, h2, hp⟩
end L3
end
section
/-! L3m: plain mathematics of walks and books. -/
namespace L3
open PySem L2
theorem smDs_rep (d : PyData) (h : smD d = true) : ∀ n : Nat, smDs (List.replicate n d) = true
  | 0 => rfl
  | n + 1 => by rw [List.replicate_succ, smDs, h, smDs_rep d h n]; rfl
theorem rep_flat {α : Type} (x : α) : ∀ n : Nat, (List.replicate n [x]).flatten = List.replicate n x
  | 0 => rfl
  | n + 1 => by rw [List.replicate_succ, List.flatten_cons, rep_flat x n, List.replicate_succ]; rfl
def wAt (B : Book) (k : Int) : Way := B.ways.getD k.toNat ⟨0, 0, []⟩
def inW (B : Book) (k : Int) : Bool := decide (0 ≤ k) && decide (k < (B.ways.length : Int))
def isWalk (B : Book) (ns : List Int) : Bool := !ns.isEmpty && ns.all (inW B) && (ns.zip (ns.drop 1)).all fun p => decide ((wAt B p.1).b = (wAt B p.2).a)
theorem wAt_at {B : Book} {k : Int} (h : inW B k = true) : atI (B.ways.map Way.d) k = some (wAt B k).d := by
  simp [inW] at h
  obtain ⟨hl, e⟩ := atI_at (xs := B.ways) h.1 h.2
  rw [atI_map Way.d e]
  unfold wAt
  rw [List.getD_eq_getElem?_getD, List.getElem?_eq_getElem hl]; rfl
def fromW (ws : List Way) (room : Int) : List Int := (((List.range ws.length).zip ws).filter fun p => decide (p.2.a = room)).map fun p => (p.1 : Int)
theorem fromW_mem {B : Book} {room k : Int} : k ∈ fromW B.ways room ↔ 0 ≤ k ∧ k < (B.ways.length : Int) ∧ (B.ways.getD k.toNat ⟨0, 0, []⟩).a = room := by
  unfold fromW
  simp only [List.mem_map, List.mem_filter, decide_eq_true_eq, Prod.exists]
  constructor
  · rintro ⟨i, w, ⟨hm, e⟩, rfl⟩
    obtain ⟨j, hj, hz⟩ := List.getElem_of_mem hm
    simp at hj hz
    obtain ⟨h1, h2⟩ := hz
    subst h1
    refine ⟨by omega, by omega, ?_⟩
    rw [List.getD_eq_getElem?_getD, Int.toNat_natCast, List.getElem?_eq_getElem hj, Option.getD_some, h2]
    exact e
  · rintro ⟨h0, h1, e⟩
    obtain ⟨n, rfl⟩ := Int.eq_ofNat_of_zero_le h0
    have hn : n < B.ways.length := by omega
    refine ⟨n, B.ways[n], ⟨?_, ?_⟩, rfl⟩
    · rw [List.mem_iff_getElem]
      exact ⟨n, by simp; exact hn, by simp⟩
    · rw [List.getD_eq_getElem?_getD, Int.toNat_natCast, List.getElem?_eq_getElem hn, Option.getD_some] at e
      exact e
theorem fromW_len (ws : List Way) (room : Int) : (fromW ws room).length ≤ ws.length := by
  unfold fromW
  rw [List.length_map]
  exact Nat.le_trans (List.length_filter_le _ _) (by simp)
/-- the ways of a list can be gone one behind the other -/
def chainW (B : Book) : List Int → Bool
  | [] => true
  | [k] => inW B k
  | k :: l :: r => inW B k && decide ((wAt B k).b = (wAt B l).a) && chainW B (l :: r)
theorem isWalk_chain (B : Book) : ∀ ns : List Int, isWalk B ns = (!ns.isEmpty && chainW B ns)
  | [] => rfl
  | [k] => by simp [isWalk, chainW]
  | k :: l :: r => by
    have ih := isWalk_chain B (l :: r)
    rw [Bool.eq_iff_iff] at ih ⊢
    simp [isWalk, chainW] at ih ⊢
    constructor
    · rintro ⟨⟨h1, h2, h3⟩, h4, h5⟩
      exact ⟨⟨h1, h4⟩, ih.mp ⟨⟨h2, h3⟩, h5⟩⟩
    · rintro ⟨⟨h1, h4⟩, h⟩
      obtain ⟨⟨h2, h3⟩, h5⟩ := ih.mpr h
      exact ⟨⟨h1, h2, h3⟩, h4, h5⟩
theorem chainW_push (B : Book) {k : Int} (hk : inW B k = true) : ∀ {ns : List Int} (h : ns ≠ []), chainW B ns = true → (wAt B (ns.getLast h)).b = (wAt B k).a → chainW B (ns ++ [k]) = true
  | [x], _, h, e => by
    simp at e
    simp [chainW] at h ⊢
    exact ⟨⟨h, e⟩, hk⟩
  | x :: y :: r, _, h, e => by
    simp [chainW] at h
    have := chainW_push B hk (ns := y :: r) (by simp) h.2 (by simpa using e)
    show (inW B x && decide _ && chainW B (y :: (r ++ [k]))) = true
    simp [h.1]
    exact this
theorem chainW_mem {B : Book} : ∀ {ns : List Int}, chainW B ns = true → ∀ k ∈ ns, inW B k = true
  | [k], h, x, hx => by
    cases List.mem_singleton.mp hx
    exact h
  | k :: l :: r, h, x, hx => by
    simp [chainW] at h
    rcases List.mem_cons.mp hx with rfl | hx
    · exact h.1.1
    · exact chainW_mem h.2 x hx
def optD : Option Int → PyData
  | some h => .int h
  | none => .none
def goW (B : Book) : Option Int → List Int → Bool
  | here, [] => here.isSome
  | here, k :: r => inW B k && (match here with
    | none => true
    | some h => decide ((wAt B k).a = h)) && goW B (some (wAt B k).b) r
def eqO (w : Way) : Option Int → Bool
  | none => true
  | some h => decide (w.a = h)
theorem goW_cons (B : Book) (here : Option Int) (k : Int) (r : List Int) : goW B here (k :: r) = (inW B k && eqO (wAt B k) here && goW B (some (wAt B k).b) r) := by cases here <;> rfl
theorem goW_nil (B : Book) (here : Option Int) : goW B here [] = here.isSome := by cases here <;> rfl
theorem goW_some (B : Book) : ∀ (r : List Int) (k : Int), inW B k = true → goW B (some (wAt B k).b) r = chainW B (k :: r)
  | [], k, h => by simp [goW, chainW, h]
  | l :: r, k, h => by
    show (inW B l && decide ((wAt B l).a = (wAt B k).b) && goW B (some (wAt B l).b) r) = (inW B k && decide ((wAt B k).b = (wAt B l).a) && chainW B (l :: r))
    rw [h]
    cases hl : inW B l with
    | false =>
      have : chainW B (l :: r) = false := by
        cases e : chainW B (l :: r) with
        | false => rfl
        | true => rw [chainW_mem e l List.mem_cons_self] at hl; cases hl
      simp [this]
    | true =>
      rw [goW_some B r l hl]
      rw [show decide ((wAt B l).a = (wAt B k).b) = decide ((wAt B k).b = (wAt B l).a) from by rw [Bool.eq_iff_iff]; simp; exact ⟨fun e => e.symm, fun e => e.symm⟩]
theorem goW_walk (B : Book) (ns : List Int) : goW B none ns = isWalk B ns := by
  rw [isWalk_chain]
  cases ns with
  | nil => rfl
  | cons k r =>
    show (inW B k && true && goW B (some (wAt B k).b) r) = _
    cases h : inW B k with
    | true => rw [goW_some B r k h]; rfl
    | false =>
      have : chainW B (k :: r) = false := by
        cases e : chainW B (k :: r) with
        | false => rfl
        | true => rw [chainW_mem e k List.mem_cons_self] at h; cases h
      rw [this]; rfl
theorem ints_of_get {acc : List PyData} {p : Int → Prop} (h : ∀ (k : Nat) (d : PyData), acc[k]? = some d → ∃ z, d = .int z ∧ p z) : ∃ zs : List Int, acc = zs.map PyData.int ∧ ∀ z ∈ zs, p z := by
  induction acc with
  | nil => exact ⟨[], rfl, fun z hz => by cases hz⟩
  | cons d r ih =>
    obtain ⟨z, rfl, hz⟩ := h 0 d rfl
    obtain ⟨zs, rfl, hs⟩ := ih fun k d e => h (k + 1) d (by simpa using e)
    exact ⟨z :: zs, rfl, fun x hx => by
      rcases List.mem_cons.mp hx with rfl | hx
      · exact hz
      · exact hs x hx⟩
def addL (xs ys : List Int) : List Int := List.zipWith (· + ·) xs ys
def gainL (B : Book) (ns : List Int) : List Int := ns.foldl (fun acc k => addL acc (wAt B k).gs) (List.replicate B.purses.toNat 0)
theorem gainL_push (B : Book) (ns : List Int) (k : Int) : gainL B (ns ++ [k]) = addL (gainL B ns) (wAt B k).gs := by
  unfold gainL
  rw [List.foldl_append]; rfl
theorem gainL_len {B : Book} {ns : List Int} (h : ∀ k ∈ ns, ((wAt B k).gs.length : Int) = B.purses) : (gainL B ns).length = B.purses.toNat := by
  have key : ∀ (ns : List Int) (acc : List Int), acc.length = B.purses.toNat → (∀ k ∈ ns, ((wAt B k).gs.length : Int) = B.purses) → (ns.foldl (fun acc k => addL acc (wAt B k).gs) acc).length = B.purses.toNat := by
    intro ns
    induction ns with
    | nil => intro acc h _; exact h
    | cons k r ih =>
      intro acc ha hk
      refine ih _ ?_ fun x hx => hk x (List.mem_cons_of_mem _ hx)
      have := hk k List.mem_cons_self
      show (List.zipWith (· + ·) acc (wAt B k).gs).length = _
      rw [List.length_zipWith]
      omega
  exact key ns _ (List.length_replicate ..) h
theorem atI_head_int {ns : List Int} (h : ns ≠ []) : atI (ns.map PyData.int) 0 = some (.int (ns.head h)) := by
  cases ns with
  | nil => exact absurd rfl h
  | cons x r => exact atI_nat (j := 0) rfl
def colSum (B : Book) (ns : List Int) (p : Nat) : Int := (ns.map fun k => (wAt B k).gs.getD p 0).sum
theorem gainL_col {B : Book} : ∀ {ns : List Int}, (∀ k ∈ ns, ((wAt B k).gs.length : Int) = B.purses) → ∀ p, p < B.purses.toNat → (gainL B ns)[p]? = some (colSum B ns p) := by
  intro ns
  have key : ∀ (ns : List Int) (acc : List Int), acc.length = B.purses.toNat → (∀ k ∈ ns, ((wAt B k).gs.length : Int) = B.purses) → ∀ p, p < B.purses.toNat → (ns.foldl (fun acc k => addL acc (wAt B k).gs) acc)[p]? = some (acc.getD p 0 + colSum B ns p) := by
    intro ns
    induction ns with
    | nil =>
      intro acc ha _ p hp
      have hlt : p < acc.length := by omega
      show acc[p]? = _
      rw [List.getElem?_eq_getElem hlt, List.getD_eq_getElem?_getD, List.getElem?_eq_getElem hlt]
      show some acc[p] = some (acc[p] + 0)
      rw [Int.add_zero]
    | cons k r ih =>
      intro acc ha hk p hp
      have hg := hk k List.mem_cons_self
      have hlen : (addL acc (wAt B k).gs).length = B.purses.toNat := by
        show (List.zipWith (· + ·) acc (wAt B k).gs).length = _
        rw [List.length_zipWith]
        omega
      have h1 : p < acc.length := by omega
      have h2 : p < (wAt B k).gs.length := by omega
      have e : (addL acc (wAt B k).gs).getD p 0 = acc.getD p 0 + (wAt B k).gs.getD p 0 := by
        simp only [List.getD_eq_getElem?_getD, addL, List.getElem?_zipWith, List.getElem?_eq_getElem h1, List.getElem?_eq_getElem h2]
        rfl
      show (List.foldl _ (addL acc (wAt B k).gs) r)[p]? = _
      rw [ih _ hlen (fun x hx => hk x (List.mem_cons_of_mem _ hx)) p hp, e]
      unfold colSum
      rw [List.map_cons, List.sum_cons, Int.add_assoc]
  intro h p hp
  have := key ns (List.replicate B.purses.toNat 0) (List.length_replicate ..) h p hp
  rw [show (List.replicate B.purses.toNat (0 : Int)).getD p 0 = 0 from by simp [List.getD_eq_getElem?_getD, List.getElem?_replicate]; split <;> rfl, Int.zero_add] at this
  exact this
theorem gainL_cols {B : Book} {ns : List Int} (h : ∀ k ∈ ns, ((wAt B k).gs.length : Int) = B.purses) : gainL B ns = (List.range B.purses.toNat).map (colSum B ns) := by
  apply List.ext_getElem?
  intro p
  by_cases hp : p < B.purses.toNat
  · rw [gainL_col h p hp, List.getElem?_map, List.getElem?_range hp]; rfl
  · rw [List.getElem?_eq_none (by rw [gainL_len h]; omega), List.getElem?_eq_none (by rw [List.length_map, List.length_range]; omega)]
/-- a list of n places, the first k of them told -/
def upto (f : Nat → Int) (n k : Nat) : List Int := (List.range n).map fun p => if p < k then f p else 0
theorem upto_zero (f : Nat → Int) (n : Nat) : upto f n 0 = List.replicate n 0 := by
  unfold upto
  simp [List.map_const']
theorem upto_all (f : Nat → Int) (n : Nat) : upto f n n = (List.range n).map f := by
  unfold upto
  apply List.map_congr_left
  intro p hp
  rw [if_pos (List.mem_range.mp hp)]
theorem upto_set (f : Nat → Int) {n k : Nat} (h : k < n) : (upto f n k).set k (f k) = upto f n (k + 1) := by
  apply List.ext_getElem?
  intro p
  unfold upto
  by_cases e : k = p
  · subst e
    rw [List.getElem?_set_self (by simpa using h), List.getElem?_map, List.getElem?_range h]
    simp
  · rw [List.getElem?_set_ne e, List.getElem?_map, List.getElem?_map]
    by_cases hp : p < n
    · rw [List.getElem?_range hp]
      simp only [Option.map_some]
      congr 1
      by_cases q : p < k
      · rw [if_pos q, if_pos (by omega)]
      · rw [if_neg q, if_neg (by omega)]
    · rw [List.getElem?_eq_none (by simpa using hp)]
      rfl
theorem upto_len (f : Nat → Int) (n k : Nat) : (upto f n k).length = n := by simp [upto]
theorem wAt_mem {B : Book} {k : Int} (h : inW B k = true) : wAt B k ∈ B.ways := by
  simp [inW] at h
  unfold wAt
  rw [List.getD_eq_getElem?_getD, List.getElem?_eq_getElem (show k.toNat < B.ways.length by omega)]
  exact List.getElem_mem _
theorem atI_getD {xs : List Int} {k : Nat} (h : k < xs.length) : atI (xs.map PyData.int) (k : Nat) = some (.int (xs.getD k 0)) := by
  refine atI_nat ?_
  rw [List.getElem?_map, List.getElem?_eq_getElem h, List.getD_eq_getElem?_getD, List.getElem?_eq_getElem h]; rfl
def minI (a b : Int) : Int := if b < a then b else a
def minL (xs ys : List Int) : List Int := List.zipWith minI xs ys
/-- where a walk stands and the least numbers on the way -/
def stepN (B : Book) (s : List Int × List Int) (k : Int) : List Int × List Int := (addL s.1 (wAt B k).gs, minL s.2 (addL s.1 (wAt B k).gs))
def zeros (B : Book) : List Int := List.replicate B.purses.toNat 0
def needS (B : Book) (ns : List Int) : List Int × List Int := ns.foldl (stepN B) (zeros B, zeros B)
def needL (B : Book) (ns : List Int) : List Int := (needS B ns).2.map fun x => 0 - x
theorem needS_push (B : Book) (ns : List Int) (k : Int) : needS B (ns ++ [k]) = stepN B (needS B ns) k := by
  unfold needS
  rw [List.foldl_append]; rfl
theorem addL_len {xs ys : List Int} {n : Nat} (h1 : xs.length = n) (h2 : ys.length = n) : (addL xs ys).length = n := by
  show (List.zipWith _ xs ys).length = n
  rw [List.length_zipWith]; omega
theorem minL_len {xs ys : List Int} {n : Nat} (h1 : xs.length = n) (h2 : ys.length = n) : (minL xs ys).length = n := by
  show (List.zipWith _ xs ys).length = n
  rw [List.length_zipWith]; omega
theorem needS_len {B : Book} {ns : List Int} (h : ∀ k ∈ ns, ((wAt B k).gs.length : Int) = B.purses) : (needS B ns).1.length = B.purses.toNat ∧ (needS B ns).2.length = B.purses.toNat := by
  have key : ∀ (ns : List Int) (s : List Int × List Int), s.1.length = B.purses.toNat ∧ s.2.length = B.purses.toNat → (∀ k ∈ ns, ((wAt B k).gs.length : Int) = B.purses) → (ns.foldl (stepN B) s).1.length = B.purses.toNat ∧ (ns.foldl (stepN B) s).2.length = B.purses.toNat := by
    intro ns
    induction ns with
    | nil => intro s h _; exact h
    | cons k r ih =>
      intro s hs hk
      have hg := hk k List.mem_cons_self
      have h1 : (addL s.1 (wAt B k).gs).length = B.purses.toNat := addL_len hs.1 (by omega)
      exact ih _ ⟨h1, minL_len hs.2 h1⟩ fun x hx => hk x (List.mem_cons_of_mem _ hx)
  exact key ns _ ⟨List.length_replicate .., List.length_replicate ..⟩ h
end L3
end
section
/-! L3n: needs of walks, plain mathematics. -/
namespace L3
open PySem L2
/-- what the way k puts to the purse p -/
def gC (B : Book) (p : Nat) (k : Int) : Int := (wAt B k).gs.getD p 0
def mxI (a : Int) : Int := if a > 0 then a else 0
theorem mxI_le {a x : Int} (h : 0 ≤ x) : mxI a ≤ x ↔ a ≤ x := by unfold mxI; split <;> omega
theorem mxI_nn (a : Int) : 0 ≤ mxI a := by unfold mxI; split <;> omega
/-- what a purse needs -/
def dueC (B : Book) (p : Nat) : List Int → Int
  | [] => 0
  | k :: r => mxI (dueC B p r - gC B p k)
theorem dueC_nn (B : Book) (p : Nat) : ∀ ns : List Int, 0 ≤ dueC B p ns
  | [] => Int.le_refl 0
  | _ :: _ => mxI_nn _
def dueL (B : Book) (ns : List Int) : List Int := (List.range B.purses.toNat).map fun p => dueC B p ns
def GsOk (B : Book) (ns : List Int) : Prop := ∀ k ∈ ns, ((wAt B k).gs.length : Int) = B.purses
theorem addL_getD {xs ys : List Int} {p : Nat} (h1 : p < xs.length) (h2 : p < ys.length) : (addL xs ys).getD p 0 = xs.getD p 0 + ys.getD p 0 := by
  simp only [List.getD_eq_getElem?_getD, addL, List.getElem?_zipWith, List.getElem?_eq_getElem h1, List.getElem?_eq_getElem h2]
  rfl
theorem minL_getD {xs ys : List Int} {p : Nat} (h1 : p < xs.length) (h2 : p < ys.length) : (minL xs ys).getD p 0 = minI (xs.getD p 0) (ys.getD p 0) := by
  simp only [List.getD_eq_getElem?_getD, minL, List.getElem?_zipWith, List.getElem?_eq_getElem h1, List.getElem?_eq_getElem h2]
  rfl
theorem ext_getD {xs ys : List Int} (hl : xs.length = ys.length) (h : ∀ p, p < xs.length → xs.getD p 0 = ys.getD p 0) : xs = ys := by
  apply List.ext_getElem hl
  intro p h1 h2
  have := h p h1
  simpa [List.getD_eq_getElem?_getD, List.getElem?_eq_getElem h1, List.getElem?_eq_getElem h2] using this
theorem needS_low {B : Book} : ∀ (ns : List Int) (s : List Int × List Int), s.1.length = B.purses.toNat → s.2.length = B.purses.toNat → GsOk B ns → ∀ p, p < B.purses.toNat → s.2.getD p 0 ≤ s.1.getD p 0 →
    (ns.foldl (stepN B) s).2.getD p 0 = minI (s.2.getD p 0) (s.1.getD p 0 - dueC B p ns)
  | [], s, _, _, _, p, _, h => by
    show s.2.getD p 0 = _
    unfold dueC minI
    split <;> omega
  | k :: r, s, h1, h2, hg, p, hp, h => by
    have hk := hg k List.mem_cons_self
    have l1 : (addL s.1 (wAt B k).gs).length = B.purses.toNat := addL_len h1 (by omega)
    have e1 : (addL s.1 (wAt B k).gs).getD p 0 = s.1.getD p 0 + gC B p k := addL_getD (by omega) (by omega)
    have e2 : (minL s.2 (addL s.1 (wAt B k).gs)).getD p 0 = minI (s.2.getD p 0) (s.1.getD p 0 + gC B p k) := by rw [minL_getD (by omega) (by omega), e1]
    show (r.foldl (stepN B) (stepN B s k)).2.getD p 0 = _
    rw [needS_low r (stepN B s k) l1 (minL_len h2 l1) (fun x hx => hg x (List.mem_cons_of_mem _ hx)) p hp (by
      show (minL s.2 (addL s.1 (wAt B k).gs)).getD p 0 ≤ (addL s.1 (wAt B k).gs).getD p 0
      rw [e1, e2]; unfold minI; split <;> omega)]
    show minI ((minL s.2 (addL s.1 (wAt B k).gs)).getD p 0) ((addL s.1 (wAt B k).gs).getD p 0 - dueC B p r) = _
    rw [e1, e2]
    have := dueC_nn B p r
    show _ = minI _ (_ - mxI (dueC B p r - gC B p k))
    unfold minI mxI
    split <;> split <;> split <;> split <;> omega
theorem zeros_getD (B : Book) (p : Nat) : (zeros B).getD p 0 = 0 := by
  unfold zeros
  rw [List.getD_eq_getElem?_getD, List.getElem?_replicate]
  split <;> rfl
theorem needL_due {B : Book} {ns : List Int} (hg : GsOk B ns) : needL B ns = dueL B ns := by
  have hl := needS_len hg
  refine ext_getD (by rw [needL, dueL, List.length_map, List.length_map, List.length_range]; exact hl.2) fun p hp => ?_
  have hp : p < B.purses.toNat := by rw [needL, List.length_map] at hp; omega
  have e := needS_low ns (zeros B, zeros B) (List.length_replicate ..) (List.length_replicate ..) hg p hp (Int.le_refl _)
  have e : (needS B ns).2.getD p 0 = minI ((zeros B).getD p 0) ((zeros B).getD p 0 - dueC B p ns) := e
  rw [zeros_getD] at e
  have h1 : (needL B ns).getD p 0 = 0 - (needS B ns).2.getD p 0 := by
    rw [needL, List.getD_eq_getElem?_getD, List.getElem?_map, List.getD_eq_getElem?_getD, List.getElem?_eq_getElem (by omega)]; rfl
  have h2 : (dueL B ns).getD p 0 = dueC B p ns := by
    rw [dueL, List.getD_eq_getElem?_getD, List.getElem?_map, List.getElem?_range hp]; rfl
  rw [h1, h2, e]
  have := dueC_nn B p ns
  unfold minI
  split <;> omega
/-- can the walk be gone along from these numbers -/
def goesL (B : Book) : List Int → List Int → Bool
  | _, [] => true
  | xs, k :: r => !(addL xs (wAt B k).gs).any (fun x => decide (x < 0)) && goesL B (addL xs (wAt B k).gs) r
theorem goesL_due {B : Book} : ∀ {ns xs : List Int}, xs.length = B.purses.toNat → GsOk B ns → (∀ x ∈ xs, 0 ≤ x) → (goesL B xs ns = true ↔ ∀ p, p < B.purses.toNat → dueC B p ns ≤ xs.getD p 0)
  | [], xs, hl, _, h0 => by
    refine ⟨fun _ p hp => ?_, fun _ => rfl⟩
    have hp2 : p < xs.length := by omega
    rw [List.getD_eq_getElem?_getD, List.getElem?_eq_getElem hp2]
    exact h0 _ (List.getElem_mem hp2)
  | k :: r, xs, hl, hg, h0 => by
    have hk := hg k List.mem_cons_self
    have l1 : (addL xs (wAt B k).gs).length = B.purses.toNat := addL_len hl (by omega)
    have hx0 : ∀ p, p < B.purses.toNat → 0 ≤ xs.getD p 0 := fun p hp => by
      have hp2 : p < xs.length := by omega
      rw [List.getD_eq_getElem?_getD, List.getElem?_eq_getElem hp2]
      exact h0 _ (List.getElem_mem hp2)
    have any_iff : (addL xs (wAt B k).gs).any (fun x => decide (x < 0)) = false ↔ ∀ p, p < B.purses.toNat → 0 ≤ xs.getD p 0 + gC B p k := by
      rw [List.any_eq_false]
      constructor
      · intro h p hp
        have e := addL_getD (xs := xs) (ys := (wAt B k).gs) (p := p) (by omega) (by omega)
        have hp2 : p < (addL xs (wAt B k).gs).length := by omega
        have := h _ (List.getElem_mem hp2)
        rw [List.getD_eq_getElem?_getD, List.getElem?_eq_getElem hp2] at e
        simp only [Option.getD_some] at e
        simp at this
        unfold gC
        omega
      · intro h x hx
        obtain ⟨p, hp, rfl⟩ := List.getElem_of_mem hx
        have e := addL_getD (xs := xs) (ys := (wAt B k).gs) (p := p) (by omega) (by omega)
        rw [List.getD_eq_getElem?_getD, List.getElem?_eq_getElem hp] at e
        simp only [Option.getD_some] at e
        have := h p (by omega)
        unfold gC at this
        simp
        omega
    unfold goesL
    rw [Bool.and_eq_true, Bool.not_eq_true']
    constructor
    · rintro ⟨ha, hr⟩ p hp
      have ha' := any_iff.mp ha
      have := (goesL_due l1 (fun x hx => hg x (List.mem_cons_of_mem _ hx)) (fun x hx => by
        have := List.any_eq_false.mp ha x hx
        simp at this
        exact this)).mp hr p hp
      rw [addL_getD (by omega) (by omega)] at this
      show mxI (dueC B p r - gC B p k) ≤ _
      rw [mxI_le (hx0 p hp)]
      unfold gC
      omega
    · intro h
      have hd : ∀ p, p < B.purses.toNat → dueC B p r ≤ xs.getD p 0 + gC B p k := fun p hp => by
        have := h p hp
        rw [show dueC B p (k :: r) = mxI (dueC B p r - gC B p k) from rfl, mxI_le (hx0 p hp)] at this
        omega
      have ha : (addL xs (wAt B k).gs).any (fun x => decide (x < 0)) = false := any_iff.mpr fun p hp => by
        have := hd p hp
        have := dueC_nn B p r
        omega
      refine ⟨ha, (goesL_due l1 (fun x hx => hg x (List.mem_cons_of_mem _ hx)) (fun x hx => by
        have := List.any_eq_false.mp ha x hx
        simp at this
        exact this)).mpr fun p hp => ?_⟩
      rw [addL_getD (by omega) (by omega)]
      exact hd p hp
/-- the needs from the last way back -/
def stepD (B : Book) (d : List Int) (k : Int) : List Int := List.zipWith (fun o m => mxI (o - m)) d (wAt B k).gs
theorem dueL_len (B : Book) (ns : List Int) : (dueL B ns).length = B.purses.toNat := by rw [dueL, List.length_map, List.length_range]
theorem dueL_getD {B : Book} {ns : List Int} {p : Nat} (hp : p < B.purses.toNat) : (dueL B ns).getD p 0 = dueC B p ns := by
  rw [dueL, List.getD_eq_getElem?_getD, List.getElem?_map, List.getElem?_range hp]; rfl
theorem stepD_len {B : Book} {d : List Int} {k : Int} (h1 : d.length = B.purses.toNat) (h2 : ((wAt B k).gs.length : Int) = B.purses) : (stepD B d k).length = B.purses.toNat := by
  rw [stepD, List.length_zipWith]; omega
theorem dueL_fold {B : Book} : ∀ {ns : List Int}, GsOk B ns → ns.foldr (fun k d => stepD B d k) (zeros B) = dueL B ns
  | [], _ => by
    refine ext_getD (by rw [dueL_len]; exact List.length_replicate ..) fun p hp => ?_
    have hp : p < B.purses.toNat := by rw [show (List.foldr (fun k d => stepD B d k) (zeros B) []) = zeros B from rfl, zeros, List.length_replicate] at hp; exact hp
    rw [dueL_getD hp]
    exact zeros_getD B p
  | k :: r, hg => by
    rw [List.foldr_cons, dueL_fold (ns := r) fun x hx => hg x (List.mem_cons_of_mem _ hx)]
    have hk := hg k List.mem_cons_self
    refine ext_getD (by rw [stepD_len (dueL_len B r) hk, dueL_len]) fun p hp => ?_
    rw [stepD_len (dueL_len B r) hk] at hp
    rw [dueL_getD hp]
    have h1 : p < (dueL B r).length := by rw [dueL_len]; exact hp
    have h2 : p < (wAt B k).gs.length := by omega
    have e : (stepD B (dueL B r) k).getD p 0 = mxI ((dueL B r).getD p 0 - (wAt B k).gs.getD p 0) := by
      simp only [List.getD_eq_getElem?_getD, stepD, List.getElem?_zipWith, List.getElem?_eq_getElem h1, List.getElem?_eq_getElem h2]
      rfl
    rw [e, dueL_getD hp]
    rfl
theorem foldD_len {B : Book} : ∀ {ns d : List Int}, d.length = B.purses.toNat → GsOk B ns → (ns.foldl (stepD B) d).length = B.purses.toNat
  | [], _, h, _ => h
  | k :: r, d, h, hg => by
    show (r.foldl (stepD B) (stepD B d k)).length = _
    exact foldD_len (stepD_len h (hg k List.mem_cons_self)) fun x hx => hg x (List.mem_cons_of_mem _ hx)
theorem goes_set {B : Book} {ns : List Int} (hg : GsOk B ns) {p : Nat} {v : Int} (hp : p < B.purses.toNat) (hv : 0 ≤ v) : goesL B ((dueL B ns).set p v) ns = decide (dueC B p ns ≤ v) := by
  have hl : ((dueL B ns).set p v).length = B.purses.toNat := by rw [List.length_set, dueL_len]
  have hget : ∀ q, q < B.purses.toNat → ((dueL B ns).set p v).getD q 0 = if p = q then v else dueC B q ns := fun q hq => by
    rw [List.getD_eq_getElem?_getD]
    by_cases e : p = q
    · subst e
      rw [List.getElem?_set_self (by rw [dueL_len]; exact hp), if_pos rfl]; rfl
    · rw [List.getElem?_set_ne e, if_neg e, ← List.getD_eq_getElem?_getD, dueL_getD hq]
  have h0 : ∀ x ∈ (dueL B ns).set p v, 0 ≤ x := fun x hx => by
    obtain ⟨q, hq, rfl⟩ := List.getElem_of_mem hx
    have hq2 : q < B.purses.toNat := by omega
    have := hget q hq2
    rw [List.getD_eq_getElem?_getD, List.getElem?_eq_getElem hq, Option.getD_some] at this
    rw [this]
    split
    · exact hv
    · exact dueC_nn B q ns
  rw [Bool.eq_iff_iff, goesL_due hl hg h0, decide_eq_true_eq]
  constructor
  · intro h
    have := h p hp
    rw [hget p hp, if_pos rfl] at this
    exact this
  · intro h q hq
    rw [hget q hq]
    split
    · rename_i e; subst e; exact h
    · exact Int.le_refl _
theorem atI_due {B : Book} {ns : List Int} {p : Nat} (hp : p < B.purses.toNat) : atI ((dueL B ns).map PyData.int) (p : Nat) = some (.int (dueC B p ns)) := by
  rw [atI_getD (by rw [dueL_len]; exact hp), dueL_getD hp]
theorem atI_set {xs : List Int} {p : Nat} {v : Int} (hp : p < xs.length) : atI ((xs.set p v).map PyData.int) (p : Nat) = some (.int v) := by
  refine atI_nat ?_
  rw [List.getElem?_map, List.getElem?_set_self hp]; rfl
end L3
end
section
/-! L3q: rooms that are met, rings: plain mathematics; dicts by whole numbers. -/
namespace L3
open PySem L2
inductive Rch (B : Book) (ws : List Int) : Int → Int → Prop
  | refl (a : Int) : Rch B ws a a
  | step {a k : Int} : Rch B ws a (wAt B k).a → k ∈ ws → Rch B ws a (wAt B k).b
theorem Rch.trans {B : Book} {ws : List Int} {a b c : Int} (h : Rch B ws a b) (k : Rch B ws b c) : Rch B ws a c := by
  induction k with
  | refl => exact h
  | step _ m ih => exact .step ih m
theorem Rch.one {B : Book} {ws : List Int} {k : Int} (h : k ∈ ws) : Rch B ws (wAt B k).a (wAt B k).b := .step (.refl _) h
theorem Rch.mono {B : Book} {ws vs : List Int} {a b : Int} (h : Rch B ws a b) (s : ∀ k ∈ ws, k ∈ vs) : Rch B vs a b := by
  induction h with
  | refl => exact .refl _
  | step _ m ih => exact .step ih (s _ m)
noncomputable def rch (B : Book) (ws : List Int) (a b : Int) : Bool := @decide (Rch B ws a b) (Classical.propDecidable _)
theorem rch_iff {B : Book} {ws : List Int} {a b : Int} : rch B ws a b = true ↔ Rch B ws a b := by
  unfold rch
  exact @decide_eq_true_iff (Rch B ws a b) (Classical.propDecidable _)
theorem rch_trans {B : Book} {ws : List Int} {a b c : Int} (h : rch B ws a b = true) (k : rch B ws b c = true) : rch B ws a c = true := rch_iff.mpr ((rch_iff.mp h).trans (rch_iff.mp k))
/-- a closed set of rooms with a in it holds all that is met -/
theorem rch_closed {B : Book} {ws : List Int} {a : Int} {ms : List Int} (ha : a ∈ ms) (hc : ∀ k ∈ ws, (wAt B k).a ∈ ms → (wAt B k).b ∈ ms) {x : Int} (h : Rch B ws a x) : x ∈ ms := by
  induction h with
  | refl => exact ha
  | step _ m ih => exact hc _ m ih
/-- no more than n numbers below n -/
theorem nodup_len : ∀ (n : Nat) {ms : List Int}, ms.Nodup → (∀ x ∈ ms, 0 ≤ x ∧ x < n) → ms.length ≤ n
  | 0, ms, _, h => by
    cases ms with
    | nil => exact Nat.le_refl _
    | cons x r => have := h x List.mem_cons_self; omega
  | n + 1, ms, nd, h => by
    by_cases e : (n : Int) ∈ ms
    · have nd2 := nd.erase (n : Int)
      have := nodup_len n nd2 fun x hx => by
        have h1 := h x (List.mem_of_mem_erase hx)
        have h2 : x ≠ (n : Int) := fun q => by
          subst q
          exact (List.Nodup.mem_erase_iff nd).mp hx |>.1 rfl
        omega
      rw [List.length_erase_of_mem e] at this
      omega
    · have := nodup_len n nd fun x hx => by
        have h1 := h x hx
        have h2 : x ≠ (n : Int) := fun q => e (by rw [← q]; exact hx)
        omega
      omega
/-! ### dicts -/
def boolD (ms : List Int) : List (PyData × PyData) := ms.map fun r => (.int r, .bool true)
theorem lookD_bool (ms : List Int) (x : Int) : lookD (boolD ms) (.int x) = if x ∈ ms then some (.bool true) else none := by
  induction ms with
  | nil => rfl
  | cons m r ih =>
    show lookD ((.int m, .bool true) :: boolD r) (.int x) = _
    rw [lookD, show kq (PyData.int m, PyData.bool true).1 (.int x) = decide (m = x) from rfl]
    by_cases e : m = x
    · subst e
      simp
    · rw [decide_eq_false e]
      show lookD (boolD r) (.int x) = _
      rw [ih]
      simp [show ¬ x = m from fun q => e q.symm]
theorem putD_bool {ms : List Int} {x : Int} (h : x ∉ ms) : putD (boolD ms) (.int x) (.bool true) = boolD (ms ++ [x]) := by
  induction ms with
  | nil => rfl
  | cons m r ih =>
    show putD ((.int m, .bool true) :: boolD r) (.int x) (.bool true) = _
    rw [putD, show kq (PyData.int m, PyData.bool true).1 (.int x) = decide (m = x) from rfl, decide_eq_false fun q => h (by rw [q]; exact List.mem_cons_self)]
    show (PyData.int m, PyData.bool true) :: putD (boolD r) (.int x) (.bool true) = _
    rw [ih fun q => h (List.mem_cons_of_mem _ q)]; rfl
/-- again put: nothing changes -/
theorem putD_bool_old {ms : List Int} {x : Int} (h : x ∈ ms) : putD (boolD ms) (.int x) (.bool true) = boolD ms := by
  induction ms with
  | nil => cases h
  | cons m r ih =>
    show putD ((.int m, .bool true) :: boolD r) (.int x) (.bool true) = _
    rw [putD, show kq (PyData.int m, PyData.bool true).1 (.int x) = decide (m = x) from rfl]
    by_cases e : m = x
    · subst e
      rw [decide_eq_true rfl]; rfl
    · rw [decide_eq_false e]
      show (PyData.int m, PyData.bool true) :: putD (boolD r) (.int x) (.bool true) = _
      rw [ih (by rcases List.mem_cons.mp h with q | q; exact absurd q.symm e; exact q)]; rfl
theorem ndD_bool {ms : List Int} (h : ms.Nodup) : ndD (boolD ms) = true := by
  induction ms with
  | nil => rfl
  | cons m r ih =>
    rw [List.nodup_cons] at h
    show ndD ((.int m, .bool true) :: boolD r) = true
    rw [ndD, ih h.2, lookD_bool, if_neg h.1]; rfl
def rngF (f : Nat → PyData) (n : Nat) : List (PyData × PyData) := (List.range n).map fun i => (.int (i : Nat), f i)
theorem lookD_snoc (kvs : List (PyData × PyData)) (k v : PyData) (x : Int) : lookD (kvs ++ [(k, v)]) (.int x) = match lookD kvs (.int x) with
    | some d => some d
    | none => lookD [(k, v)] (.int x) := by
  induction kvs with
  | nil => rfl
  | cons p r ih =>
    show lookD (p :: (r ++ [(k, v)])) (.int x) = _
    rw [lookD, lookD, ih]
    cases kq p.1 (.int x) <;> rfl
theorem putD_snoc {kvs : List (PyData × PyData)} {x : Int} {v : PyData} (h : lookD kvs (.int x) = none) : putD kvs (.int x) v = kvs ++ [(.int x, v)] := by
  induction kvs with
  | nil => rfl
  | cons p r ih =>
    rw [lookD] at h
    rw [putD]
    cases e : kq p.1 (.int x) with
    | true => rw [e] at h; cases h
    | false =>
      rw [e] at h
      show p :: putD r (.int x) v = _
      rw [ih h]; rfl
theorem lookD_rng (f : Nat → PyData) : ∀ (n : Nat) (x : Int), lookD (rngF f n) (.int x) = if 0 ≤ x ∧ x < n then some (f x.toNat) else none
  | 0, x => by
    rw [if_neg (by omega)]; rfl
  | n + 1, x => by
    unfold rngF
    rw [List.range_succ, List.map_append, List.map_singleton, lookD_snoc]
    have ih := lookD_rng f n x
    unfold rngF at ih
    rw [ih]
    by_cases h : 0 ≤ x ∧ x < n
    · rw [if_pos h, if_pos (by omega)]
    · rw [if_neg h]
      show lookD [(.int (n : Nat), f n)] (.int x) = _
      rw [lookD, show kq (PyData.int (n : Nat), f n).1 (.int x) = decide ((n : Int) = x) from rfl]
      by_cases e : (n : Int) = x
      · subst e
        rw [decide_eq_true rfl, if_pos (by omega)]
        simp
      · rw [decide_eq_false e, if_neg (by omega)]; rfl
theorem putD_rng (f : Nat → PyData) (n : Nat) (v : PyData) : putD (rngF f n) (.int (n : Nat)) v = rngF (fun i => if i = n then v else f i) (n + 1) := by
  rw [putD_snoc (by rw [lookD_rng, if_neg (by omega)])]
  unfold rngF
  rw [List.range_succ, List.map_append, List.map_singleton]
  congr 1
  · apply List.map_congr_left
    intro i hi
    have hl := List.mem_range.mp hi
    show _ = (PyData.int (i : Nat), if i = n then v else f i)
    rw [if_neg (by omega)]
  · simp
theorem ndD_snoc {kvs : List (PyData × PyData)} {x : Int} {v : PyData} (h : lookD kvs (.int x) = none) (nd : ndD kvs = true) : ndD (kvs ++ [(.int x, v)]) = true := by
  rw [← putD_snoc h]
  exact ndD_put _ _ _ nd
theorem ndD_rng (f : Nat → PyData) : ∀ n, ndD (rngF f n) = true
  | 0 => rfl
  | n + 1 => by
    have e : rngF f (n + 1) = rngF f n ++ [(.int (n : Nat), f n)] := by
      unfold rngF
      rw [List.range_succ, List.map_append]; rfl
    rw [e]
    exact ndD_snoc (by rw [lookD_rng, if_neg (by omega)]) (ndD_rng f n)
theorem rngF_len (f : Nat → PyData) (n : Nat) : (rngF f n).length = n := by simp [rngF]
/-! ### rings -/
noncomputable def onR (B : Book) (ws : List Int) (k : Int) : Bool := rch B ws (wAt B k).b (wAt B k).a
noncomputable def inRg (B : Book) (ws : List Int) (k j : Int) : Bool := rch B ws (wAt B k).b (wAt B j).a && rch B ws (wAt B j).b (wAt B k).a
noncomputable def ringOf (B : Book) (ws : List Int) (k : Int) : List Int := ws.filter (inRg B ws k)
noncomputable def ringStep (B : Book) (ws : List Int) (acc : List (List Int)) (k : Int) : List (List Int) := if onR B ws k = true ∧ ringOf B ws k ∉ acc then acc ++ [ringOf B ws k] else acc
noncomputable def ringsL (B : Book) (ws : List Int) : List (List Int) := ws.foldl (ringStep B ws) []
theorem onR_mem {B : Book} {ws : List Int} {k : Int} (h : k ∈ ws) (o : onR B ws k = true) : k ∈ ringOf B ws k := by
  unfold ringOf
  rw [List.mem_filter]
  unfold onR at o
  exact ⟨h, by unfold inRg; rw [o]; rfl⟩
theorem ring_mem {B : Book} {ws : List Int} {k j : Int} : j ∈ ringOf B ws k ↔ j ∈ ws ∧ rch B ws (wAt B k).b (wAt B j).a = true ∧ rch B ws (wAt B j).b (wAt B k).a = true := by
  unfold ringOf
  rw [List.mem_filter]
  unfold inRg
  rw [Bool.and_eq_true]
theorem rch_one {B : Book} {ws : List Int} {k : Int} (h : k ∈ ws) : rch B ws (wAt B k).a (wAt B k).b = true := rch_iff.mpr (.one h)
/-- the ways of a ring have it for theirs -/
theorem ring_eq {B : Book} {ws : List Int} {k j : Int} (hk : k ∈ ws) (h : j ∈ ringOf B ws k) : ringOf B ws j = ringOf B ws k ∧ onR B ws j = true ∧ onR B ws k = true := by
  obtain ⟨hj, h1, h2⟩ := ring_mem.mp h
  have k1 := rch_one (B := B) hk
  have j1 := rch_one (B := B) hj
  refine ⟨?_, ?_, ?_⟩
  · unfold ringOf
    apply List.filter_congr
    intro x _
    unfold inRg
    rw [Bool.eq_iff_iff, Bool.and_eq_true, Bool.and_eq_true]
    constructor
    · rintro ⟨a, b⟩
      exact ⟨rch_trans (rch_trans h1 j1) a, rch_trans (rch_trans b j1) h2⟩
    · rintro ⟨a, b⟩
      exact ⟨rch_trans (rch_trans h2 k1) a, rch_trans (rch_trans b k1) h1⟩
  · unfold onR
    exact rch_trans (rch_trans h2 k1) h1
  · unfold onR
    exact rch_trans (rch_trans h1 j1) h2
/-- what stands in the list of rings that are told so far -/
structure RingInv (B : Book) (ws done : List Int) (acc : List (List Int)) : Prop where
  sub : ∀ r ∈ acc, ∃ k ∈ done, onR B ws k = true ∧ r = ringOf B ws k
  all : ∀ k ∈ done, onR B ws k = true → ringOf B ws k ∈ acc
theorem RingInv.step {B : Book} {ws done : List Int} {acc : List (List Int)} {k : Int} (h : RingInv B ws done acc) : RingInv B ws (done ++ [k]) (ringStep B ws acc k) := by
  unfold ringStep
  split
  · rename_i q
    refine ⟨fun r hr => ?_, fun x hx ho => ?_⟩
    · rcases List.mem_append.mp hr with hr | hr
      · obtain ⟨y, hy, z⟩ := h.sub r hr
        exact ⟨y, List.mem_append_left _ hy, z⟩
      · rw [List.mem_singleton.mp hr]
        exact ⟨k, by simp, q.1, rfl⟩
    · rcases List.mem_append.mp hx with hx | hx
      · exact List.mem_append_left _ (h.all x hx ho)
      · rw [List.mem_singleton.mp hx]; simp
  · rename_i q
    refine ⟨fun r hr => ?_, fun x hx ho => ?_⟩
    · obtain ⟨y, hy, z⟩ := h.sub r hr
      exact ⟨y, List.mem_append_left _ hy, z⟩
    · rcases List.mem_append.mp hx with hx | hx
      · exact h.all x hx ho
      · rw [List.mem_singleton.mp hx] at ho ⊢
        exact Classical.byContradiction fun z => q ⟨ho, z⟩
theorem ringInv_take {B : Book} {ws : List Int} : ∀ n, RingInv B ws (ws.take n) ((ws.take n).foldl (ringStep B ws) [])
  | 0 => by
    rw [List.take_zero]
    exact ⟨fun r h => (by cases h), fun k h => (by cases h)⟩
  | n + 1 => by
    rw [List.take_add_one, List.foldl_append]
    cases e : ws[n]? with
    | none => simpa using ringInv_take (B := B) (ws := ws) n
    | some k => exact (ringInv_take (B := B) (ws := ws) n).step
/-- a way is taken just where its ring is told -/
theorem taken_iff {B : Book} {ws done : List Int} {acc : List (List Int)} {k : Int} (hd : ∀ x ∈ done, x ∈ ws) (hk : k ∈ ws) (ho : onR B ws k = true) (h : RingInv B ws done acc) : (∃ r ∈ acc, k ∈ r) ↔ ringOf B ws k ∈ acc := by
  constructor
  · rintro ⟨r, hr, hm⟩
    obtain ⟨y, hy, _, rfl⟩ := h.sub r hr
    rw [(ring_eq (hd y hy) hm).1]
    exact hr
  · intro hr
    exact ⟨_, hr, onR_mem hk ho⟩
theorem ringOf_len {B : Book} {ws : List Int} {k : Int} : (ringOf B ws k).length ≤ ws.length := List.length_filter_le _ _
theorem ringsF_len {B : Book} {ws : List Int} : ∀ (ns : List Int) (acc : List (List Int)), (ns.foldl (ringStep B ws) acc).length ≤ acc.length + ns.length
  | [], acc => Nat.le_refl _
  | k :: r, acc => by
    have h := ringsF_len (B := B) (ws := ws) r (ringStep B ws acc k)
    have h2 : (ringStep B ws acc k).length ≤ acc.length + 1 := by
      unfold ringStep
      split
      · simp
      · omega
    show (r.foldl (ringStep B ws) (ringStep B ws acc k)).length ≤ _
    rw [List.length_cons]
    omega
end L3
namespace L3
open PySem L2
/-- what stands while rooms are being met -/
structure MetI (B : Book) (ns : List Int) (room : Int) (ms wl : List Int) (cl : Int → Int → Prop) : Prop where
  mem : room ∈ ms
  sub : ∀ x ∈ wl, x ∈ ms
  rc : ∀ x ∈ ms, Rch B ns room x
  cl : ∀ x ∈ ms, x ∉ wl → ∀ k ∈ ns, (wAt B k).a = x → cl x k → (wAt B k).b ∈ ms
  nd : ms.Nodup
  rg : ∀ x ∈ ms, 0 ≤ x ∧ x < B.rooms
theorem MetI.len {B : Book} {ns ms wl : List Int} {room : Int} {cl : Int → Int → Prop} (h : MetI B ns room ms wl cl) : ms.length ≤ B.rooms.toNat :=
  nodup_len _ h.nd fun x hx => by have := h.rg x hx; omega
theorem MetI.fin {B : Book} {ns ms : List Int} {room : Int} (h : MetI B ns room ms [] fun _ _ => True) (x : Int) : x ∈ ms ↔ Rch B ns room x :=
  ⟨h.rc x, fun q => rch_closed h.mem (fun k hk hm => h.cl _ hm (by simp) k hk rfl trivial) q⟩
theorem MetI.push {B : Book} {ns ms wl : List Int} {room k : Int} {cl cl2 : Int → Int → Prop} (h : MetI B ns room ms wl cl) (hk : k ∈ ns) (ha : (wAt B k).a ∈ ms) (hb : (wAt B k).b ∉ ms) (hr : 0 ≤ (wAt B k).b ∧ (wAt B k).b < B.rooms) (hc : ∀ x j, cl2 x j → cl x j ∨ (wAt B j).b = (wAt B k).b) : MetI B ns room (ms ++ [(wAt B k).b]) (wl ++ [(wAt B k).b]) cl2 where
  mem := List.mem_append_left _ h.mem
  sub := fun x hx => by
    rcases List.mem_append.mp hx with q | q
    · exact List.mem_append_left _ (h.sub x q)
    · exact List.mem_append_right _ q
  rc := fun x hx => by
    rcases List.mem_append.mp hx with q | q
    · exact h.rc x q
    · rw [List.mem_singleton.mp q]
      exact .step (h.rc _ ha) hk
  cl := fun x hx hw j hj e c => by
    have hw1 : x ∉ wl := fun q => hw (List.mem_append_left _ q)
    have hx1 : x ∈ ms := by
      rcases List.mem_append.mp hx with q | q
      · exact q
      · exact absurd (List.mem_append_right _ q) hw
    rcases hc x j c with c | c
    · exact List.mem_append_left _ (h.cl x hx1 hw1 j hj e c)
    · rw [c]; simp
  nd := by
    rw [List.nodup_append]
    refine ⟨h.nd, by simp, fun a ha b hb' => ?_⟩
    rw [List.mem_singleton.mp hb']
    exact fun q => hb (by rw [← q]; exact ha)
  rg := fun x hx => by
    rcases List.mem_append.mp hx with q | q
    · exact h.rg x q
    · rw [List.mem_singleton.mp q]; exact hr
theorem MetI.weak {B : Book} {ns ms wl : List Int} {room : Int} {cl cl2 : Int → Int → Prop} (h : MetI B ns room ms wl cl) (hc : ∀ x ∈ ms, ∀ k ∈ ns, (wAt B k).a = x → cl2 x k → cl x k ∨ (wAt B k).b ∈ ms) : MetI B ns room ms wl cl2 :=
  ⟨h.mem, h.sub, h.rc, fun x hx hw k hk e c => by
    rcases hc x hx k hk e c with c | c
    · exact h.cl x hx hw k hk e c
    · exact c, h.nd, h.rg⟩
/-- the last of the waiting is taken -/
theorem MetI.pop {B : Book} {ns ms wl : List Int} {room here : Int} (h : MetI B ns room ms (wl ++ [here]) fun _ _ => True) : MetI B ns room ms wl fun x _ => x ≠ here :=
  ⟨h.mem, fun x hx => h.sub x (List.mem_append_left _ hx), h.rc, fun x hx hw k hk e c => h.cl x hx (fun q => by
    rcases List.mem_append.mp q with q | q
    · exact hw q
    · exact c (List.mem_singleton.mp q)) k hk e trivial, h.nd, h.rg⟩
/-- the first of the waiting is taken -/
theorem MetI.shift {B : Book} {ns ms wl : List Int} {room here : Int} (h : MetI B ns room ms (here :: wl) fun _ _ => True) : MetI B ns room ms wl fun x _ => x ≠ here :=
  ⟨h.mem, fun x hx => h.sub x (List.mem_cons_of_mem _ hx), h.rc, fun x hx hw k hk e c => h.cl x hx (fun q => by
    rcases List.mem_cons.mp q with q | q
    · exact c q
    · exact hw q) k hk e trivial, h.nd, h.rg⟩
theorem pop_last {wl : List Int} (h : wl ≠ []) : ∃ (l : List Int) (x : Int), wl = l ++ [x] ∧ (wl.map PyData.int)[(wl.map PyData.int).length - 1]? = some (.int x) ∧ (wl.map PyData.int).dropLast = l.map PyData.int := by
  refine ⟨wl.dropLast, wl.getLast h, (List.dropLast_concat_getLast h).symm, ?_, by rw [List.map_dropLast]⟩
  rw [List.length_map, List.getElem?_map, ← List.getLast?_eq_getElem?, List.getLast?_eq_some_getLast h]
  rfl
end L3
namespace L3
open PySem L2
def upM (m : Nat → List Int) (k : Nat) (ms : List Int) : Nat → List Int := fun i => if i = k then ms else m i
theorem putD_met (m : Nat → List Int) (k : Nat) (ms : List Int) : putD (rngF (fun i => .dict (boolD (m i))) k) (.int (k : Nat)) (.dict (boolD ms)) = rngF (fun i => .dict (boolD (upM m k ms i))) (k + 1) := by
  rw [putD_rng]
  congr 1
  funext i
  unfold upM
  split <;> rfl
def putI (ms : List Int) (x : Int) : List Int := if x ∈ ms then ms else ms ++ [x]
theorem putD_boolI (ms : List Int) (x : Int) : putD (boolD ms) (.int x) (.bool true) = boolD (putI ms x) := by
  unfold putI
  split
  · rename_i h; exact putD_bool_old h
  · rename_i h; exact putD_bool h
theorem putI_nd {ms : List Int} {x : Int} (h : ms.Nodup) : (putI ms x).Nodup := by
  unfold putI
  split
  · exact h
  · rename_i q
    rw [List.nodup_append]
    refine ⟨h, by simp, fun a ha b hb e => q ?_⟩
    rw [← List.mem_singleton.mp hb, ← e]; exact ha
theorem putI_mem {ms : List Int} {x y : Int} : y ∈ putI ms x ↔ y ∈ ms ∨ y = x := by
  unfold putI
  split
  · rename_i q
    constructor
    · exact fun h => .inl h
    · rintro (h | rfl)
      · exact h
      · exact q
  · rw [List.mem_append, List.mem_singleton]
end L3
namespace L3
theorem filter_t {α : Type} {p : α → Bool} {xs : List α} {y : α} (h : p y = true) : (xs ++ [y]).filter p = xs.filter p ++ [y] := by
  rw [List.filter_append]; simp [h]
theorem filter_f {α : Type} {p : α → Bool} {xs : List α} {y : α} (h : p y = false) : (xs ++ [y]).filter p = xs.filter p := by
  rw [List.filter_append]; simp [h]
end L3
namespace L3
open PySem L2
def intsLD (r : List Int) : PyData := .list (r.map PyData.int)
structure SetOk (B : Book) (ns : List Int) : Prop where
  w : ∀ k ∈ ns, inW B k = true ∧ (0 ≤ (wAt B k).a ∧ (wAt B k).a < B.rooms) ∧ 0 ≤ (wAt B k).b ∧ (wAt B k).b < B.rooms
  n : ns.length ≤ 100000
  r0 : 0 ≤ B.rooms
  r1 : B.rooms ≤ 100000
  l : B.ways.length ≤ 100000
theorem lookD_met {B : Book} {ns : List Int} {m : Nat → List Int} {n : Nat} (hm : ∀ i, i < n → (m i).Nodup ∧ ∀ x, x ∈ m i ↔ Rch B ns (i : Nat) x) {a : Int} (h0 : 0 ≤ a) (h1 : a < n) :
    lookD (rngF (fun i => .dict (boolD (m i))) n) (.int a) = some (.dict (boolD (m a.toNat))) ∧ ∀ x, (lookD (boolD (m a.toNat)) (.int x)).isSome = rch B ns a x := by
  refine ⟨by rw [lookD_rng, if_pos ⟨h0, h1⟩], fun x => ?_⟩
  rw [lookD_bool]
  have h := (hm a.toNat (by omega)).2 x
  rw [show ((a.toNat : Nat) : Int) = a from by omega] at h
  by_cases e : x ∈ m a.toNat
  · rw [if_pos e, rch_iff.mpr (h.mp e)]; rfl
  · rw [if_neg e]
    cases q : rch B ns a x with
    | false => rfl
    | true => exact absurd (h.mpr (rch_iff.mp q)) e
theorem flat_ints (ns : List Int) : (ns.map PyData.int).all flatD = true := by
  rw [List.all_map, List.all_eq_true]
  intro x _
  rfl
theorem inD_ints (x : Int) (ns : List Int) : inD (.int x) (ns.map PyData.int) = decide (x ∈ ns) := by
  unfold inD
  rw [List.any_map, Bool.eq_iff_iff, List.any_eq_true, decide_eq_true_iff]
  constructor
  · rintro ⟨y, hy, e⟩
    have e2 : eqV (V.int y) (V.int x) = true := e
    have : y = x := by simpa [eqV] using e2
    rw [← this]; exact hy
  · intro h
    exact ⟨x, h, by show eqV (V.int x) (V.int x) = true; simp [eqV]⟩
/-- the lists of rooms met, as the resource holds them -/
def LK (m : Nat → List Int) (n : Nat) (g : DLG) : Prop := ∀ j, g.look j = match j with
  | .inl x => if 0 ≤ x ∧ x < n then some ((m x.toNat).map PyData.int) else none
  | .inr _ => none
theorem LK.put {m : Nat → List Int} {n : Nat} {g g' : DLG} (h : LK m n g) {ms : List Int} (e : ∀ x, g'.look x = if x = .inl (n : Nat) then some (ms.map PyData.int) else g.look x) : LK (upM m n ms) (n + 1) g' := fun j => by
  rw [e j, h j]
  cases j with
  | inl x =>
    by_cases q : x = (n : Int)
    · subst q
      rw [if_pos rfl]
      show _ = if (0 ≤ (n : Int) ∧ (n : Int) < (n + 1 : Nat)) then _ else _
      rw [if_pos (by omega)]
      unfold upM
      rw [if_pos (by omega)]
    · rw [if_neg fun z => q (Sum.inl.inj z)]
      show (if (0 ≤ x ∧ x < n) then _ else _) = if (0 ≤ x ∧ x < (n + 1 : Nat)) then _ else _
      by_cases c : 0 ≤ x ∧ x < n
      · rw [if_pos c, if_pos (by omega)]
        unfold upM
        rw [if_neg (by omega)]
      · rw [if_neg c, if_neg (by omega)]
  | inr x => rw [if_neg (by intro z; cases z)]
theorem LK.again {m : Nat → List Int} {n : Nat} {g g' : DLG} {a : Nat} (h : LK m n g) (ha : a < n) {ms : List Int} (e : ∀ x, g'.look x = if x = .inl (a : Nat) then some (ms.map PyData.int) else g.look x) : LK (upM m a ms) n g' := fun j => by
  rw [e j, h j]
  cases j with
  | inl x =>
    by_cases q : x = (a : Int)
    · subst q
      rw [if_pos rfl]
      show _ = if (0 ≤ (a : Int) ∧ (a : Int) < n) then _ else _
      rw [if_pos (by omega)]
      unfold upM
      rw [if_pos (by omega)]
    · rw [if_neg fun z => q (Sum.inl.inj z)]
      show (if (0 ≤ x ∧ x < n) then _ else _) = if (0 ≤ x ∧ x < n) then _ else _
      by_cases c : 0 ≤ x ∧ x < n
      · rw [if_pos c, if_pos c]
        unfold upM
        rw [if_neg (by omega)]
      · rw [if_neg c, if_neg c]
  | inr x => rw [if_neg (by intro z; cases z)]
theorem LK.at {m : Nat → List Int} {n : Nat} {g : DLG} (h : LK m n g) {x : Int} (h0 : 0 ≤ x) (h1 : x < n) : g.look (.inl x) = some ((m x.toNat).map PyData.int) := by
  rw [h (.inl x)]
  exact if_pos ⟨h0, h1⟩
theorem LK.no {m : Nat → List Int} {n : Nat} {g : DLG} (h : LK m n g) : g.look (.inl (n : Nat)) = none := by
  rw [h (.inl (n : Nat))]
  exact if_neg (by omega)
/-- rooms gathered by turns -/
structure TurnI (B : Book) (ns : List Int) (room : Int) (ms : List Int) : Prop where
  mem : room ∈ ms
  rc : ∀ x ∈ ms, Rch B ns room x
  nd : ms.Nodup
  rg : ∀ x ∈ ms, 0 ≤ x ∧ x < B.rooms
def ClsM (B : Book) (ks ms : List Int) : Prop := ∀ k ∈ ks, (wAt B k).a ∈ ms → (wAt B k).b ∈ ms
theorem TurnI.push {B : Book} {ns ms : List Int} {room k : Int} (h : TurnI B ns room ms) (hk : k ∈ ns) (ha : (wAt B k).a ∈ ms) (hb : (wAt B k).b ∉ ms) (hr : 0 ≤ (wAt B k).b ∧ (wAt B k).b < B.rooms) : TurnI B ns room (ms ++ [(wAt B k).b]) :=
  ⟨List.mem_append_left _ h.mem, fun x hx => by
    rcases List.mem_append.mp hx with q | q
    · exact h.rc x q
    · rw [List.mem_singleton.mp q]; exact .step (h.rc _ ha) hk, by
    rw [List.nodup_append]
    refine ⟨h.nd, by simp, fun a ha b hb' => ?_⟩
    rw [List.mem_singleton.mp hb']
    exact fun q => hb (by rw [← q]; exact ha), fun x hx => by
    rcases List.mem_append.mp hx with q | q
    · exact h.rg x q
    · rw [List.mem_singleton.mp q]; exact hr⟩
theorem TurnI.len {B : Book} {ns ms : List Int} {room : Int} (h : TurnI B ns room ms) : ms.length ≤ B.rooms.toNat :=
  nodup_len _ h.nd fun x hx => by have := h.rg x hx; omega
theorem TurnI.fin {B : Book} {ns ms : List Int} {room : Int} (h : TurnI B ns room ms) (c : B.rooms.toNat + 1 ≤ ms.length ∨ ClsM B ns ms) (x : Int) : x ∈ ms ↔ Rch B ns room x := by
  rcases c with c | c
  · have := h.len; omega
  · exact ⟨h.rc x, fun q => rch_closed h.mem c q⟩
end L3
namespace L3
open PySem L2
theorem shaped_lists (acc : List (List Int)) : SeqAt.shaped (.list (acc.map intsLD)) = true := by
  unfold SeqAt.shaped
  rw [Bool.and_eq_true]
  refine ⟨?_, ?_⟩
  · rw [PyData.canLay0]
    refine canLayAll_of fun d hd => ?_
    obtain ⟨r, _, rfl⟩ := List.mem_map.mp hd
    show PyData.canLay0 (.list _) = true
    rw [PyData.canLay0]; exact canLay_ints r
  · rw [PyData.depth]
    have : PyData.depthAll (acc.map intsLD) ≤ 1 := depthAll_of fun d hd => by
      obtain ⟨r, _, rfl⟩ := List.mem_map.mp hd
      show PyData.depth (.list _) ≤ 1
      rw [PyData.depth, depth_ints]
      exact Nat.le_refl _
    exact decide_eq_true (by omega)
theorem any_lists (acc : List (List Int)) (r : List Int) : ((acc.map intsLD).any fun z => PyData.eqv z (.list (r.map PyData.int))) = decide (r ∈ acc) := by
  rw [List.any_map, Bool.eq_iff_iff, List.any_eq_true, decide_eq_true_iff]
  constructor
  · rintro ⟨y, hy, e⟩
    have e2 : PyData.eqv (.list (y.map PyData.int)) (.list (r.map PyData.int)) = true := e
    rw [eqv_lists] at e2
    rw [← of_decide_eq_true e2]; exact hy
  · intro h
    exact ⟨r, h, by show PyData.eqv (.list (r.map PyData.int)) (.list (r.map PyData.int)) = true; rw [eqv_lists]; exact decide_eq_true rfl⟩
end L3
namespace L3
open PySem L2
/-- a comprehension that leaves out what it will -/
theorem lc_subL {G : Type} {α : Type} {L : List α} {h : α → PyData} {tg : DG G} {c : DB G} {e : DT G} {vs : List Nat} {ρ0 ρ1 : En} {g0 : G} {Q : Rs → En → G → Prop} (φ : α → PyData) (hw : wipeE ρ1 vs = ρ0 := by rfl)
    (hs : ∀ p ∈ L, ∀ (C1 : PyData → En → G → Prop) (C0 : En → G → Prop), C1 (φ p) ρ0 g0 → C0 ρ0 g0 →
      tg (h p) ρ0 g0 fun ρ2 g2 => c ρ2 g2 fun b ρ3 g3 => ifb b (e ρ3 g3 fun r ρ4 g4 => fz1 r ρ4 fun d' ρ5 => C1 d' (wipeE ρ5 vs) g4) (C0 (wipeE ρ3 vs) g3))
    (hQ : ∀ S : List α, S.Sublist L → Q (.nl (S.map φ)) ρ0 g0) (hU : unAll ρ0 vs := by first | exact ⟨rfl, trivial⟩ | exact ⟨rfl, rfl, trivial⟩ | exact ⟨rfl, rfl, rfl, trivial⟩) : LcP (L.map h) tg c e vs ρ1 g0 Q := by
  subst hw
  refine ⟨⟨fun k acc ρ' g' => (∃ S : List α, S.Sublist (L.take k) ∧ acc = S.map φ) ∧ ρ' = wipeE ρ1 vs ∧ g' = g0, ⟨⟨[], List.nil_sublist _, rfl⟩, rfl, rfl⟩, fun k d acc ρ' g' hd hI => ?_, fun acc ρ' g' hI => ?_⟩⟩
  · obtain ⟨⟨S, hS, rfl⟩, rfl, rfl⟩ := hI
    rw [List.getElem?_map] at hd
    obtain ⟨p, hp, rfl⟩ := Option.map_eq_some_iff.mp hd
    have et : L.take (k + 1) = L.take k ++ [p] := by rw [List.take_add_one, hp]; rfl
    refine hs p (List.mem_of_getElem? hp) (fun d' ρ' g'' => (∃ S2 : List α, S2.Sublist (L.take (k + 1)) ∧ S.map φ ++ [d'] = S2.map φ) ∧ ρ' = wipeE ρ1 vs ∧ g'' = g') (fun ρ' g'' => (∃ S2 : List α, S2.Sublist (L.take (k + 1)) ∧ S.map φ = S2.map φ) ∧ ρ' = wipeE ρ1 vs ∧ g'' = g') ⟨⟨S ++ [p], ?_, by rw [List.map_append]; rfl⟩, rfl, rfl⟩ ⟨⟨S, ?_, rfl⟩, rfl, rfl⟩
    · rw [et]; exact hS.append (List.Sublist.refl _)
    · rw [et]; exact hS.trans (List.sublist_append_left _ _)
  · obtain ⟨⟨S, hS, rfl⟩, rfl, rfl⟩ := hI
    rw [List.length_map, List.take_length] at hS
    exact ⟨hU, hQ S hS⟩
end L3
end
section
/-! L3u: min, max, sum of a list or a tuple of whole numbers. -/
namespace L3
open PySem L2
variable {G : Type} {K : PySem.W.Frag} {X : Cx} {Z : Zx K G}
theorem minOf_spec : ∀ (x : Int) (xs : List Int), PySem.W.minOf x xs ∈ x :: xs ∧ ∀ y ∈ x :: xs, PySem.W.minOf x xs ≤ y
  | x, [] => ⟨List.mem_singleton.mpr rfl, fun y hy => by rw [List.mem_singleton.mp hy]; exact Int.le_refl _⟩
  | x, y :: ys => by
    have e : PySem.W.minOf x (y :: ys) = PySem.W.minOf (if y < x then y else x) ys := by
      unfold PySem.W.minOf
      rw [List.foldl_cons]
      congr 1
      by_cases h : y < x <;> simp [PySem.W.DatumOrd.lt, h]
    obtain ⟨h1, h2⟩ := minOf_spec (if y < x then y else x) ys
    rw [e]
    refine ⟨?_, fun z hz => ?_⟩
    · rcases List.mem_cons.mp h1 with h | h
      · rw [h]; split <;> simp
      · exact List.mem_cons_of_mem _ (List.mem_cons_of_mem _ h)
    · have h0 := h2 _ List.mem_cons_self
      have h3 := fun z hz => h2 z (List.mem_cons_of_mem _ hz)
      clear h1 h2 e
      generalize hm : PySem.W.minOf _ ys = m at h0 h3 ⊢
      clear hm
      rcases List.mem_cons.mp hz with rfl | hz
      · split at h0 <;> omega
      · rcases List.mem_cons.mp hz with rfl | hz
        · split at h0 <;> omega
        · exact h3 z hz
theorem maxOf_spec : ∀ (x : Int) (xs : List Int), PySem.W.maxOf x xs ∈ x :: xs ∧ ∀ y ∈ x :: xs, y ≤ PySem.W.maxOf x xs
  | x, [] => ⟨List.mem_singleton.mpr rfl, fun y hy => by rw [List.mem_singleton.mp hy]; exact Int.le_refl _⟩
  | x, y :: ys => by
    have e : PySem.W.maxOf x (y :: ys) = PySem.W.maxOf (if x < y then y else x) ys := by
      unfold PySem.W.maxOf
      rw [List.foldl_cons]
      congr 1
      by_cases h : x < y <;> simp [PySem.W.DatumOrd.lt, h]
    obtain ⟨h1, h2⟩ := maxOf_spec (if x < y then y else x) ys
    rw [e]
    refine ⟨?_, fun z hz => ?_⟩
    · rcases List.mem_cons.mp h1 with h | h
      · rw [h]; split <;> simp
      · exact List.mem_cons_of_mem _ (List.mem_cons_of_mem _ h)
    · have h0 := h2 _ List.mem_cons_self
      have h3 := fun z hz => h2 z (List.mem_cons_of_mem _ hz)
      clear h1 h2 e
      generalize hm : PySem.W.maxOf _ ys = m at h0 h3 ⊢
      clear hm
      rcases List.mem_cons.mp hz with rfl | hz
      · split at h0 <;> omega
      · rcases List.mem_cons.mp hz with rfl | hz
        · split at h0 <;> omega
        · exact h3 z hz
def rMaxT (K : PySem.W.Frag) : List V → Hp → VK → Prop := fun vs H Q => ∃ (a : Addr) (ns : List Int), vs = [V.ref a] ∧ SqT K H a (ns.map V.int) ∧ 0 < ns.length ∧ ∀ m, m ∈ ns → (∀ y, y ∈ ns → y ≤ m) → Q (.int m) H
def rMinT (K : PySem.W.Frag) : List V → Hp → VK → Prop := fun vs H Q => ∃ (a : Addr) (ns : List Int), vs = [V.ref a] ∧ SqT K H a (ns.map V.int) ∧ 0 < ns.length ∧ ∀ m, m ∈ ns → (∀ y, y ∈ ns → m ≤ y) → Q (.int m) H
theorem cr_maxT (hc : X.calm = true) (hu : X.A.units + 64 < cLine) : CallR X (.builtin "max") (rMaxT X.K) := by
  intro pins s σ H vs us Q I r h
  obtain ⟨a, ns, rfl, hs, hne, q⟩ := h
  obtain ⟨its, rv, hl, _⟩ := I.tuple hs
  rw [Vals.ref1 r]
  cases ns with
  | nil => simp at hne
  | cons x xs =>
    obtain ⟨h1, h2⟩ := maxOf_spec x xs
    refine PySem.W.max_tuple_datum (I.ok.hd hc) hl (x := x) (xs := xs) (by simpa using PySem.W.HoldAll.of_ints rv.ints) (by show X.A.units + 1 + 0 < _; omega) fun i v h' tk hi hv hk => ?_
    obtain ⟨as, hv⟩ := hv
    cases hv
    exact ⟨.int _, H, I.kept hk, ⟨_, rfl⟩, q _ h1 h2⟩
theorem cr_minT (hc : X.calm = true) (hu : X.A.units + 64 < cLine) : CallR X (.builtin "min") (rMinT X.K) := by
  intro pins s σ H vs us Q I r h
  obtain ⟨a, ns, rfl, hs, hne, q⟩ := h
  obtain ⟨its, rv, hl, _⟩ := I.tuple hs
  rw [Vals.ref1 r]
  cases ns with
  | nil => simp at hne
  | cons x xs =>
    obtain ⟨h1, h2⟩ := minOf_spec x xs
    refine PySem.W.min_tuple_datum (I.ok.hd hc) hl (x := x) (xs := xs) (by simpa using PySem.W.HoldAll.of_ints rv.ints) (by show X.A.units + 1 + 0 < _; omega) fun i v h' tk hi hv hk => ?_
    obtain ⟨as, hv⟩ := hv
    cases hv
    exact ⟨.int _, H, I.kept hk, ⟨_, rfl⟩, q _ h1 h2⟩
def oMaxX : RA G := fun rs ρ g Q => one (fun r => seqD (fun ds => opK (intsL ds) fun ns => 0 < ns.length ∧ ∀ m, m ∈ ns → (∀ y, y ∈ ns → y ≤ m) → Q (.dt (.int m)) ρ g) (rd r ρ)) rs
def oMinX : RA G := fun rs ρ g Q => one (fun r => seqD (fun ds => opK (intsL ds) fun ns => 0 < ns.length ∧ ∀ m, m ∈ ns → (∀ y, y ∈ ns → m ≤ y) → Q (.dt (.int m)) ρ g) (rd r ρ)) rs
def rMaxX (K : PySem.W.Frag) : List V → Hp → VK → Prop := fun vs H Q => rMax K vs H Q ∨ rMaxT K vs H Q
def rMinX (K : PySem.W.Frag) : List V → Hp → VK → Prop := fun vs H Q => rMin K vs H Q ∨ rMinT K vs H Q
theorem k_maxX (hu : X.A.units + 64 < cLine) (hc : X.calm = true := by rfl) (hK : K = X.K := by rfl) : CallR X (.builtin "max") (rMaxX K) ∧ SimC Z (rMaxX K) (oMaxX (G := G)) := ⟨by
  rw [hK]
  intro pins s σ H vs us Q I r h
  rcases h with h | h
  · exact cr_max hc pins s σ H vs us Q I r h
  · exact cr_maxT hc hu pins s σ H vs us Q I r h, fun f F ad ρ g σ H vs rs Q R h q P hP => by
  obtain ⟨r, rfl, q2⟩ := one_of q
  obtain ⟨v, rfl, h0⟩ := vrs1 h
  obtain ⟨ds, e, q3⟩ := seqD_of q2
  obtain ⟨ns, ei, hn, q4⟩ := opK_e q3
  rcases e with e | e
  · obtain ⟨a, vs, rfl, ha, da⟩ := R.items h0 e
    rw [intsL_of ei] at da
    have ev := daAll_ints da
    subst ev
    exact .inl ⟨a, ns, rfl, .inl (.inl ha), hn, fun m h1 h2 => hP _ _ (R.dat (.int _) (q4 m h1 h2))⟩
  · obtain ⟨a, vs, rfl, ha, da⟩ := R.titems h0 e
    rw [intsL_of ei] at da
    have ev := daAll_ints da
    subst ev
    exact .inr ⟨a, ns, rfl, Evl.ex_t R.fin.sub ha, hn, fun m h1 h2 => hP _ _ (R.dat (.int _) (q4 m h1 h2))⟩⟩
theorem k_minX (hu : X.A.units + 64 < cLine) (hc : X.calm = true := by rfl) (hK : K = X.K := by rfl) : CallR X (.builtin "min") (rMinX K) ∧ SimC Z (rMinX K) (oMinX (G := G)) := ⟨by
  rw [hK]
  intro pins s σ H vs us Q I r h
  rcases h with h | h
  · exact cr_min hc pins s σ H vs us Q I r h
  · exact cr_minT hc hu pins s σ H vs us Q I r h, fun f F ad ρ g σ H vs rs Q R h q P hP => by
  obtain ⟨r, rfl, q2⟩ := one_of q
  obtain ⟨v, rfl, h0⟩ := vrs1 h
  obtain ⟨ds, e, q3⟩ := seqD_of q2
  obtain ⟨ns, ei, hn, q4⟩ := opK_e q3
  rcases e with e | e
  · obtain ⟨a, vs, rfl, ha, da⟩ := R.items h0 e
    rw [intsL_of ei] at da
    have ev := daAll_ints da
    subst ev
    exact .inl ⟨a, ns, rfl, .inl (.inl ha), hn, fun m h1 h2 => hP _ _ (R.dat (.int _) (q4 m h1 h2))⟩
  · obtain ⟨a, vs, rfl, ha, da⟩ := R.titems h0 e
    rw [intsL_of ei] at da
    have ev := daAll_ints da
    subst ev
    exact .inr ⟨a, ns, rfl, Evl.ex_t R.fin.sub ha, hn, fun m h1 h2 => hP _ _ (R.dat (.int _) (q4 m h1 h2))⟩⟩
end L3
end
section
/-! L3v: paths, closed walks, counts of ways: plain mathematics. -/
namespace L3
open PySem L2
/-- a list of ways that leads from a to b -/
def Pth (B : Book) : Int → List Int → Int → Prop
  | a, [], b => a = b
  | a, k :: ns, b => inW B k = true ∧ (wAt B k).a = a ∧ Pth B (wAt B k).b ns b
theorem Pth.app {B : Book} {b c : Int} : ∀ {ns ms : List Int} {a : Int}, Pth B a ns b → Pth B b ms c → Pth B a (ns ++ ms) c
  | [], _, _, h, k => by cases h; exact k
  | _ :: _, _, _, h, k => ⟨h.1, h.2.1, Pth.app h.2.2 k⟩
theorem Pth.snoc {B : Book} {ns : List Int} {a b k : Int} (h : Pth B a ns b) (hk : inW B k = true) (e : (wAt B k).a = b) : Pth B a (ns ++ [k]) (wAt B k).b :=
  h.app ⟨hk, e, rfl⟩
theorem Pth.mem {B : Book} {b : Int} : ∀ {ns : List Int} {a : Int}, Pth B a ns b → ∀ k ∈ ns, inW B k = true
  | k :: ns, _, h, j, hj => by
    rcases List.mem_cons.mp hj with rfl | hj
    · exact h.1
    · exact Pth.mem h.2.2 j hj
theorem pth_chain {B : Book} : ∀ {ns : List Int}, chainW B ns = true → ∀ (h : ns ≠ []), Pth B (wAt B (ns.head h)).a ns (wAt B (ns.getLast h)).b
  | [k], hc, _ => by
    have := chainW_mem hc k List.mem_cons_self
    exact ⟨this, rfl, rfl⟩
  | k :: j :: ns, hc, _ => by
    have hk := chainW_mem hc k List.mem_cons_self
    have hc2 : (wAt B k).b = (wAt B j).a ∧ chainW B (j :: ns) = true := by
      simp only [chainW, Bool.and_eq_true, decide_eq_true_eq] at hc
      exact ⟨hc.1.2, hc.2⟩
    refine ⟨hk, rfl, ?_⟩
    have := pth_chain hc2.2 (by simp)
    rw [hc2.1]
    simpa using this
/-- rooms with the paths to them, as a dict -/
def pathsD (kp : List (Int × List Int)) : List (PyData × PyData) := kp.map fun p => (.int p.1, intsLD p.2)
theorem lookD_paths : ∀ (kp : List (Int × List Int)) (x : Int), (lookD (pathsD kp) (.int x) = none ∧ x ∉ kp.map Prod.fst) ∨ ∃ ns, (x, ns) ∈ kp ∧ lookD (pathsD kp) (.int x) = some (intsLD ns)
  | [], x => .inl ⟨rfl, by simp⟩
  | p :: kp, x => by
    have e : lookD (pathsD (p :: kp)) (.int x) = match kq (.int p.1) (.int x) with | true => some (intsLD p.2) | false => lookD (pathsD kp) (.int x) := rfl
    by_cases h : p.1 = x
    · right
      refine ⟨p.2, by rw [← h]; exact List.mem_cons_self, ?_⟩
      rw [e]
      subst h
      simp [kq, kOf]
    · have hq : kq (.int p.1) (.int x) = false := by simp [kq, kOf, h]
      rw [e, hq]
      rcases lookD_paths kp x with ⟨h1, h2⟩ | ⟨ns, h1, h2⟩
      · left
        refine ⟨h1, ?_⟩
        rw [List.map_cons, List.mem_cons]
        rintro (h3 | h3)
        · exact h h3.symm
        · exact h2 h3
      · exact .inr ⟨ns, List.mem_cons_of_mem _ h1, h2⟩
theorem putD_paths {kp : List (Int × List Int)} {x : Int} {ns : List Int} (h : x ∉ kp.map Prod.fst) : putD (pathsD kp) (.int x) (intsLD ns) = pathsD (kp ++ [(x, ns)]) := by
  rw [putD_snoc (by rcases lookD_paths kp x with h1 | ⟨ms, h1, _⟩; exact h1.1; exact absurd (List.mem_map_of_mem (f := Prod.fst) h1) h)]
  simp [pathsD]
theorem ndD_paths : ∀ {kp : List (Int × List Int)}, (kp.map Prod.fst).Nodup → ndD (pathsD kp) = true
  | [], _ => rfl
  | p :: kp, h => by
    rw [List.map_cons, List.nodup_cons] at h
    show ((lookD (pathsD kp) (.int p.1)).isNone && ndD (pathsD kp)) = true
    rw [ndD_paths h.2, Bool.and_true]
    rcases lookD_paths kp p.1 with h1 | ⟨ms, h1, _⟩
    · rw [h1.1]; rfl
    · exact absurd (List.mem_map_of_mem (f := Prod.fst) h1) h.1
structure BkI (B : Book) (first : Int) (kp : List (Int × List Int)) (wl : List Int) : Prop where
  nd : (kp.map Prod.fst).Nodup
  ok : ∀ p ∈ kp, (0 ≤ p.1 ∧ p.1 < B.rooms) ∧ Pth B first p.2 p.1 ∧ p.2.length < kp.length
  wt : ∀ x ∈ wl, x ∈ kp.map Prod.fst
theorem BkI.len {B : Book} {first : Int} {kp : List (Int × List Int)} {wl : List Int} (h : BkI B first kp wl) : kp.length ≤ B.rooms.toNat := by
  have := nodup_len B.rooms.toNat h.nd (fun x hx => by
    obtain ⟨p, hp, rfl⟩ := List.mem_map.mp hx
    have := (h.ok p hp).1
    omega)
  rwa [List.length_map] at this
theorem BkI.at {B : Book} {first : Int} {kp : List (Int × List Int)} {wl : List Int} (h : BkI B first kp wl) {x : Int} (hx : x ∈ kp.map Prod.fst) : ∃ ns, lookD (pathsD kp) (.int x) = some (intsLD ns) ∧ Pth B first ns x ∧ ns.length < kp.length := by
  rcases lookD_paths kp x with ⟨_, h2⟩ | ⟨ns, h1, h2⟩
  · exact absurd hx h2
  · exact ⟨ns, h2, (h.ok _ h1).2⟩
theorem BkI.push {B : Book} {first : Int} {kp : List (Int × List Int)} {wl ns : List Int} {x : Int} (h : BkI B first kp wl) (hx : x ∉ kp.map Prod.fst) (hr : 0 ≤ x ∧ x < B.rooms) (hp : Pth B first ns x) (hl : ns.length ≤ kp.length) : BkI B first (kp ++ [(x, ns)]) (wl ++ [x]) := by
  refine ⟨?_, fun p hp2 => ?_, fun y hy => ?_⟩
  · rw [List.map_append, List.nodup_append]
    exact ⟨h.nd, by simp, fun a ha b hb => by simp at hb; subst hb; exact fun e => hx (e ▸ ha)⟩
  · rw [List.length_append]
    rcases List.mem_append.mp hp2 with hp2 | hp2
    · obtain ⟨h1, h2, h3⟩ := h.ok p hp2
      exact ⟨h1, h2, by simp; omega⟩
    · rw [List.mem_singleton.mp hp2]
      exact ⟨hr, hp, by simp; omega⟩
  · rw [List.map_append]
    rcases List.mem_append.mp hy with hy | hy
    · exact List.mem_append_left _ (h.wt y hy)
    · rw [List.mem_singleton.mp hy]; exact List.mem_append_right _ (by simp)
/-- how often each way is counted: pairs of a count and a walk -/
def cntW (wk : List (Int × List Int)) (j : Int) : Int := (wk.map fun p => p.1 * ((p.2.count j : Nat) : Int)).sum
def cntL (n : Nat) (wk : List (Int × List Int)) : List Int := (List.range n).map fun i => cntW wk (i : Nat)
def cwD (p : Int × List Int) : PyData := .tuple [.int p.1, .list (p.2.map PyData.int)]
theorem cntL_len (n : Nat) (wk : List (Int × List Int)) : (cntL n wk).length = n := by simp [cntL]
theorem cntL_get {n i : Nat} (wk : List (Int × List Int)) (h : i < n) : (cntL n wk)[i]? = some (cntW wk (i : Nat)) := by simp [cntL, h]
theorem cntW_nil (j : Int) : cntW [] j = 0 := rfl
theorem cntW_zero (p : Int) (wk : List (Int × List Int)) (j : Int) : cntW (wk ++ [(p, [])]) j = cntW wk j := by simp [cntW]
theorem cntW_push (p : Int) (wk : List (Int × List Int)) (ns : List Int) (x j : Int) : cntW (wk ++ [(p, ns ++ [x])]) j = cntW (wk ++ [(p, ns)]) j + if x = j then p else 0 := by
  simp only [cntW, List.map_append, List.sum_append, List.map_cons, List.map_nil, List.sum_cons, List.sum_nil, List.count_append, List.count_singleton]
  by_cases h : x = j
  · simp [h, Int.mul_add]; omega
  · simp [h, beq_eq_false_iff_ne.mpr h]
theorem cntL_push {n : Nat} (p : Int) (wk : List (Int × List Int)) (ns : List Int) (x : Int) (h0 : 0 ≤ x) (h1 : x < n) : cntL n (wk ++ [(p, ns ++ [x])]) = (cntL n (wk ++ [(p, ns)])).set x.toNat (cntW (wk ++ [(p, ns)]) x + p) := by
  apply List.ext_getElem?
  intro i
  by_cases hi : i < n
  · rw [cntL_get _ hi, List.getElem?_set]
    by_cases e : x.toNat = i
    · rw [if_pos e, if_pos (by rw [cntL_len]; omega), cntW_push, if_pos (by omega), show ((i : Nat) : Int) = x by omega]
    · rw [if_neg e, cntL_get _ hi, cntW_push, if_neg (by omega), Int.add_zero]
  · rw [List.getElem?_eq_none (by rw [cntL_len]; omega), List.getElem?_eq_none (by rw [List.length_set, cntL_len]; omega)]
theorem cntL_start (n : Nat) : List.replicate n (0 : Int) = cntL n [] := by
  apply List.ext_getElem?
  intro i
  by_cases hi : i < n
  · rw [cntL_get _ hi, List.getElem?_replicate, if_pos hi]; rfl
  · rw [List.getElem?_eq_none (by simp; omega), List.getElem?_eq_none (by rw [cntL_len]; omega)]
theorem cntL_zero (n : Nat) (p : Int) (wk : List (Int × List Int)) : cntL n (wk ++ [(p, [])]) = cntL n wk := by
  unfold cntL
  exact List.map_congr_left fun i _ => cntW_zero p wk _
theorem atI_cnt {n : Nat} {x : Int} (wk : List (Int × List Int)) (h0 : 0 ≤ x) (h1 : x < n) : atI ((cntL n wk).map PyData.int) x = some (.int (cntW wk x)) := by
  obtain ⟨m, rfl⟩ := Int.eq_ofNat_of_zero_le h0
  exact atI_nat (by rw [List.getElem?_map, cntL_get _ (by omega)]; rfl)
/-! ### tables: a number for each of the first n -/
def tab (f : Int → Int) (n : Nat) : List Int := (List.range n).map fun i => f (i : Nat)
theorem tab_len (f : Int → Int) (n : Nat) : (tab f n).length = n := by simp [tab]
theorem tab_get {n i : Nat} (f : Int → Int) (h : i < n) : (tab f n)[i]? = some (f (i : Nat)) := by simp [tab, h]
theorem tab_set {n : Nat} {x v : Int} (f : Int → Int) (h0 : 0 ≤ x) : (tab f n).set x.toNat v = tab (fun j => if j = x then v else f j) n := by
  apply List.ext_getElem?
  intro i
  by_cases hi : i < n
  · rw [tab_get _ hi, List.getElem?_set]
    by_cases e : x.toNat = i
    · rw [if_pos e, if_pos (by rw [tab_len]; omega), if_pos (by omega)]
    · rw [if_neg e, tab_get _ hi, if_neg (by omega)]
  · rw [List.getElem?_eq_none (by rw [List.length_set, tab_len]; omega), List.getElem?_eq_none (by rw [tab_len]; omega)]
theorem tab_congr {n : Nat} {f g : Int → Int} (h : ∀ x : Int, 0 ≤ x → x < n → f x = g x) : tab f n = tab g n := by
  unfold tab
  exact List.map_congr_left fun i hi => h _ (by omega) (by have := List.mem_range.mp hi; omega)
theorem tab_rep (n : Nat) (v : Int) : List.replicate n v = tab (fun _ => v) n := by
  apply List.ext_getElem?
  intro i
  by_cases hi : i < n
  · rw [tab_get _ hi, List.getElem?_replicate, if_pos hi]
  · rw [List.getElem?_eq_none (by simp; omega), List.getElem?_eq_none (by rw [tab_len]; omega)]
theorem atI_tab {n : Nat} {x : Int} (f : Int → Int) (h0 : 0 ≤ x) (h1 : x < n) : atI ((tab f n).map PyData.int) x = some (.int (f x)) := by
  obtain ⟨m, rfl⟩ := Int.eq_ofNat_of_zero_le h0
  exact atI_nat (by rw [List.getElem?_map, tab_get _ (by omega)]; rfl)
/-! ### rounds -/
def outS (zs : List (Int × Way)) (r : Int) : Int := ((zs.filter fun p => decide (p.2.a = r)).map Prod.fst).sum
def inS (zs : List (Int × Way)) (r : Int) : Int := ((zs.filter fun p => decide (p.2.b = r)).map Prod.fst).sum
def isRound (B : Book) (cs : List Int) : Bool := !(cs.any fun c => decide (c < 0)) && cs.any (fun c => decide (c > 0)) && (List.range B.rooms.toNat).all fun r => decide (outS (cs.zip B.ways) (r : Nat) = inS (cs.zip B.ways) (r : Nat))
theorem outS_push (zs : List (Int × Way)) (c : Int) (w : Way) (r : Int) : outS (zs ++ [(c, w)]) r = outS zs r + if r = w.a then c else 0 := by
  unfold outS
  rw [List.filter_append, List.map_append, List.sum_append]
  by_cases h : w.a = r
  · rw [if_pos h.symm]; simp [h]
  · rw [if_neg (fun e => h e.symm)]; simp [h]
theorem inS_push (zs : List (Int × Way)) (c : Int) (w : Way) (r : Int) : inS (zs ++ [(c, w)]) r = inS zs r + if r = w.b then c else 0 := by
  unfold inS
  rw [List.filter_append, List.map_append, List.sum_append]
  by_cases h : w.b = r
  · rw [if_pos h.symm]; simp [h]
  · rw [if_neg (fun e => h e.symm)]; simp [h]
theorem tab_all {n : Nat} {f : Int → Int} : ((tab f n).map fun x => decide (x = 0)).all id = (List.range n).all fun r => decide (f (r : Nat) = 0) := by
  unfold tab
  rw [List.map_map, List.all_map]
  rfl
theorem ints_of : ∀ {ds : List PyData}, (∀ (i : Nat) (d : PyData), ds[i]? = some d → ∃ z, d = PyData.int z) → ∃ zs : List Int, ds = zs.map PyData.int
  | [], _ => ⟨[], rfl⟩
  | d :: ds, h => by
    obtain ⟨z, rfl⟩ := h 0 d rfl
    obtain ⟨zs, rfl⟩ := ints_of (ds := ds) fun i d hi => h (i + 1) d (by simpa using hi)
    exact ⟨z :: zs, rfl⟩
theorem atI_getI {zs : List Int} {i : Int} (h0 : 0 ≤ i) (h1 : i < zs.length) : atI (zs.map PyData.int) i = some (.int (zs.getD i.toNat 0)) := by
  obtain ⟨m, rfl⟩ := Int.eq_ofNat_of_zero_le h0
  exact atI_getD (by omega)
theorem eqv_bl (b : Bool) : PyData.eqv (.bool b) (.bool b) = true := by cases b <;> rfl
end L3
end
section
/-! L3w: xs.count(n) of whole numbers. -/
namespace L3
open PySem L2
variable {G : Type} {K : PySem.W.Frag} {X : Cx} {Z : Zx K G}
def rCnt (K : PySem.W.Frag) : V → List V → Hp → VK → Prop := fun x vs H Q => ∃ (a : Addr) (ns : List Int) (i : Int), x = .ref a ∧ vs = [.int i] ∧ SqL K H a (ns.map V.int) ∧ Q (.int ((ns.count i : Nat) : Int)) H
theorem mt_cnt (hu : X.A.units + 64 < cLine) : MtR X "list.count" (rCnt X.K) := by
  intro pins s σ H x xs v us Q I rx rxs h
  obtain ⟨a, ns, i, rfl, rfl, hs, q⟩ := h
  cases rx
  obtain ⟨u, rfl, ru⟩ := rxs.one
  obtain ⟨t, rfl⟩ := ru
  obtain ⟨its, rv, hl, _⟩ := I.list hs
  refine PySem.W.count_list_datum hl.isList (by simpa using PySem.W.HoldAll.of_ints rv.ints) (PySem.W.holds_int i t) (by show X.A.units + 1 + 0 < _; omega) ?_
  have e : (ns.countP fun y => decide (y = i)) = ns.count i := by
    unfold List.count
    congr 1
  refine ⟨.int _, H, I.tok _, ⟨_, rfl⟩, ?_⟩
  rw [e]
  exact q
def dCnt (a b : DT G) : DT G := fun ρ g Q => a ρ g fun r1 ρ1 g1 => lsD (fun _ => b ρ1 g1 fun r2 ρ2 g2 => lsD (fun ds => opK (intsL ds) fun ns => iiU (fun i => Q (.dt (.int ((ns.count i : Nat) : Int))) ρ2 g2) (rd r2 ρ2)) (rd (st r1) ρ2)) (rd r1 ρ1)
theorem sim_cnt {ta : TE} {tb : TA} {tb' : TE} {a b : DT G} (ha : Sim Z ta a) (hb : Sim Z tb' b) (e : tb = fun σ H Q => tb' σ H fun x H1 => Q [x] H1) : Sim Z (tBM K "list" (rCnt K) ta tb) (dCnt a b) := fun f F ad ρ g σ H Q R h P hP => by
  subst e
  refine ha f F ad ρ g σ H _ R h _ fun x H1 q => ?_
  obtain ⟨F1, ad1, ρ1, g1, r1, e1, eg1, R1, v1, q⟩ := q
  obtain ⟨ds0, e0, q⟩ := lsD_of q
  obtain ⟨a0, vs0, rfl, ha0, da0⟩ := R1.items v1 e0
  obtain ⟨F1', e1', R1', v1'⟩ := R1.hst v1
  refine ⟨.inl ⟨rfl, _, .inl (.inl ha0)⟩, hb f F1' ad1 ρ1 g1 σ H1 _ R1' q _ fun y H2 q2 => ?_⟩
  obtain ⟨F2, ad2, ρ2, g2, r2, e2, eg2, R2, v2, q⟩ := q2
  obtain ⟨ds, ed, q⟩ := lsD_of q
  obtain ⟨ns, ei, q⟩ := opK_e q
  obtain ⟨i, en, q⟩ := iiU_of q
  obtain ⟨a1, vs1, ea, ha1, da1⟩ := R2.items (v1'.held e2 eg2) ed
  cases ea
  rw [intsL_of ei] at da1
  have ev := daAll_ints da1
  subst ev
  exact ⟨a0, ns, i, rfl, by rw [R2.rInt v2 en], .inl (.inl ha1), hP _ _ ((R2.dat (.int _) q).mono ((e1.trans e1').trans e2) (eg2.trans eg1))⟩
theorem e_cnt (hu : X.A.units + 64 < cLine) {apos cpos : Pos} {o e : Expr} {to te : TE} {a b : DT G} (ho : DE X Z o to a) (he : DE X Z e te b) (hK : K = X.K := by rfl)
    (hbase : attributeBase o "count" X.env (eval o X.env) = eval o X.env := by rfl)
    (hfew : ((backTo cpos (starEach [e] X.env)).all (fun x => !x.1) && (backToKw cpos (keywordEach [] X.env)).all (fun x => x.1.isSome)
      && decide (([e] : List Expr).length + ([] : List Keyword).length + (if ([] : List Keyword).isEmpty then 0 else 1) < 30)) = true := by rfl)
    (hline : (apos.endLine == cpos.line) = true := by rfl) (hst : starEach [e] X.env = (false, eval e X.env) :: starEach [] X.env := by rfl) (hplain : (backTo cpos (starEach [] X.env)).any (·.1) = false := by rfl) :
    DE X Z (.Call (.Attribute o "count" apos) [e] [] cpos) (tBM K "list" (rCnt K) to (tCons te tNil)) (dCnt a b) :=
  ⟨by rw [hK]; exact pe_bm PySem.F.plainAttrs_list PySem.F.slot_list_count PySem.F.type_list_count (mt_cnt hu) ho.pe (pa_cons he.pe pa_nil hst) hbase hfew hline hst hplain, sim_cnt ho.sim he.sim rfl⟩
end L3
end
section
/-! L3y: rounds of closed walks: plain mathematics. -/
namespace L3
open PySem L2
/-! ### rows put together -/
def rowsL (n : Nat) (rows : List (List Int)) : List Int := rows.foldl addL (List.replicate n 0)
theorem addL_len' {n : Nat} {xs ys : List Int} (h : xs.length = n) (k : ys.length = n) : (addL xs ys).length = n := by
  unfold addL; rw [List.length_zipWith]; omega
theorem addL_getD' {xs ys : List Int} {p : Nat} (h : p < xs.length) (k : p < ys.length) : (addL xs ys).getD p 0 = xs.getD p 0 + ys.getD p 0 := by
  simp only [List.getD_eq_getElem?_getD, addL, List.getElem?_zipWith, List.getElem?_eq_getElem h, List.getElem?_eq_getElem k]
  rfl
theorem rows_fold {n : Nat} : ∀ (rows : List (List Int)) (acc : List Int), acc.length = n → (∀ r ∈ rows, r.length = n) → (rows.foldl addL acc).length = n ∧ ∀ p, p < n → (rows.foldl addL acc).getD p 0 = acc.getD p 0 + (rows.map fun r => r.getD p 0).sum
  | [], acc, h, _ => ⟨h, fun p _ => by simp⟩
  | r :: rows, acc, h, k => by
    have hr := k r List.mem_cons_self
    obtain ⟨h1, h2⟩ := rows_fold rows (addL acc r) (addL_len' h hr) fun x hx => k x (List.mem_cons_of_mem _ hx)
    refine ⟨h1, fun p hp => ?_⟩
    rw [List.foldl_cons, h2 p hp, addL_getD' (by omega) (by omega), List.map_cons, List.sum_cons, Int.add_assoc]
theorem rowsL_len {n : Nat} {rows : List (List Int)} (k : ∀ r ∈ rows, r.length = n) : (rowsL n rows).length = n := (rows_fold rows _ (by simp) k).1
theorem rowsL_cols {n : Nat} {rows : List (List Int)} (k : ∀ r ∈ rows, r.length = n) : rowsL n rows = (List.range n).map fun p => (rows.map fun r => r.getD p 0).sum := by
  obtain ⟨h1, h2⟩ := rows_fold rows (List.replicate n 0) (by simp) k
  apply List.ext_getElem?
  intro p
  by_cases hp : p < n
  · have h3 := h2 p hp
    rw [show (List.replicate n (0 : Int)).getD p 0 = 0 from by simp [List.getD_eq_getElem?_getD, List.getElem?_replicate]; split <;> rfl, Int.zero_add] at h3
    rw [List.getElem?_map, List.getElem?_range hp]
    show _ = some (rows.map fun r => r.getD p 0).sum
    rw [← h3]
    unfold rowsL
    rw [List.getD_eq_getElem?_getD, List.getElem?_eq_getElem (by omega)]
    rfl
  · rw [List.getElem?_eq_none (by unfold rowsL; omega), List.getElem?_eq_none (by rw [List.length_map, List.length_range]; omega)]
theorem rowsL_push (n : Nat) (rows : List (List Int)) (r : List Int) : rowsL n (rows ++ [r]) = addL (rowsL n rows) r := by
  unfold rowsL
  rw [List.foldl_append]; rfl
def rowW (p : Int × Way) : List Int := p.2.gs.map fun g => p.1 * g
def rgainL (B : Book) (zs : List (Int × Way)) : List Int := rowsL B.purses.toNat (zs.map rowW)
theorem rgainL_push (B : Book) (zs : List (Int × Way)) (c : Int) (w : Way) : rgainL B (zs ++ [(c, w)]) = addL (rgainL B zs) (w.gs.map fun g => c * g) := by
  unfold rgainL
  rw [List.map_append]
  exact rowsL_push _ _ _
theorem gainL_rows (B : Book) (ns : List Int) : gainL B ns = rowsL B.purses.toNat (ns.map fun k => (wAt B k).gs) := by
  unfold gainL rowsL
  rw [List.foldl_map]
/-! ### sums over all ways -/
theorem sum_one (n : Nat) (x : Int) (v : Int → Int) : ((List.range n).map fun i => if ((i : Nat) : Int) = x then v (i : Nat) else 0).sum = if 0 ≤ x ∧ x < n then v x else 0 := by
  induction n with
  | zero => rw [if_neg (by omega)]; rfl
  | succ n ih =>
    rw [List.range_succ, List.map_append, List.sum_append, ih, List.map_singleton, List.sum_singleton]
    by_cases h : ((n : Nat) : Int) = x
    · rw [if_pos h, if_neg (by omega), if_pos (by omega), h, Int.zero_add]
    · rw [if_neg h, Int.add_zero]
      by_cases h2 : 0 ≤ x ∧ x < n
      · rw [if_pos h2, if_pos (by omega)]
      · rw [if_neg h2, if_neg (by omega)]
theorem sum_add {α : Type} (f g : α → Int) : ∀ xs : List α, (xs.map fun x => f x + g x).sum = (xs.map f).sum + (xs.map g).sum
  | [] => rfl
  | x :: xs => by
    rw [List.map_cons, List.map_cons, List.map_cons, List.sum_cons, List.sum_cons, List.sum_cons, sum_add f g xs]; omega
theorem sum_count (n : Nat) (f : Int → Int) : ∀ ns : List Int, (∀ x ∈ ns, 0 ≤ x ∧ x < n) → ((List.range n).map fun i => ((ns.count ((i : Nat) : Int) : Nat) : Int) * f (i : Nat)).sum = (ns.map f).sum
  | [], _ => by
    have : ∀ m : Nat, ((List.range m).map fun i => (((([] : List Int).count ((i : Nat) : Int)) : Nat) : Int) * f (i : Nat)).sum = 0 := fun m => by
      induction m with
      | zero => rfl
      | succ m ih => rw [List.range_succ, List.map_append, List.sum_append, ih]; simp
    exact this n
  | x :: ns, h => by
    have hx := h x List.mem_cons_self
    have ih := sum_count n f ns fun y hy => h y (List.mem_cons_of_mem _ hy)
    have e : ((List.range n).map fun i => (((x :: ns).count ((i : Nat) : Int) : Nat) : Int) * f (i : Nat)) = (List.range n).map fun i => (((ns.count ((i : Nat) : Int) : Nat) : Int) * f (i : Nat)) + (if ((i : Nat) : Int) = x then f (i : Nat) else 0) := by
      apply List.map_congr_left
      intro i _
      rw [List.count_cons]
      by_cases h : ((i : Nat) : Int) = x
      · rw [if_pos h, if_pos (by simp [h])]
        push_cast
        rw [Int.add_mul, Int.one_mul]
      · rw [if_neg h, if_neg (by simp; exact fun e => h e.symm), Int.add_zero]; rfl
    rw [e, sum_add, ih, sum_one, if_pos hx, List.map_cons, List.sum_cons, Int.add_comm]
theorem ways_rng (B : Book) : B.ways = (List.range B.ways.length).map fun i => wAt B (i : Nat) := by
  apply List.ext_getElem?
  intro i
  by_cases h : i < B.ways.length
  · rw [List.getElem?_map, List.getElem?_range h, List.getElem?_eq_getElem h]
    show _ = some (wAt B (i : Nat))
    unfold wAt
    rw [Int.toNat_natCast, List.getD_eq_getElem?_getD, List.getElem?_eq_getElem h]; rfl
  · rw [List.getElem?_eq_none (by omega), List.getElem?_eq_none (by rw [List.length_map, List.length_range]; omega)]
theorem cnt_zip (B : Book) (wk : List (Int × List Int)) : (cntL B.ways.length wk).zip B.ways = (List.range B.ways.length).map fun i => (cntW wk (i : Nat), wAt B (i : Nat)) := by
  have e := ways_rng B
  generalize hn : B.ways.length = n at e ⊢
  rw [e]
  unfold cntL
  rw [List.zip_map']
theorem cntW_one (ns : List Int) (j : Int) : cntW [(1, ns)] j = ((ns.count j : Nat) : Int) := by simp [cntW]
theorem filt_sum {α : Type} (p : α → Bool) (f : α → Int) : ∀ xs : List α, ((xs.filter p).map f).sum = (xs.map fun x => if p x = true then f x else 0).sum
  | [] => rfl
  | x :: xs => by
    rw [List.map_cons, List.sum_cons, ← filt_sum p f xs]
    by_cases h : p x = true
    · rw [List.filter_cons_of_pos h, if_pos h]; rfl
    · rw [List.filter_cons_of_neg h, if_neg h, Int.zero_add]
theorem outS_walk {B : Book} {ns : List Int} (h : ∀ k ∈ ns, inW B k = true) (r : Int) : outS ((cntL B.ways.length [(1, ns)]).zip B.ways) r = (ns.map fun k => if (wAt B k).a = r then 1 else 0).sum := by
  unfold outS
  rw [filt_sum, cnt_zip, List.map_map, ← sum_count B.ways.length _ ns fun x hx => by have := h x hx; simp [inW] at this; omega]
  congr 1
  apply List.map_congr_left
  intro i _
  show (if decide ((wAt B (i : Nat)).a = r) = true then cntW [(1, ns)] (i : Nat) else 0) = _
  rw [cntW_one]
  by_cases e : (wAt B (i : Nat)).a = r
  · rw [if_pos (decide_eq_true e), if_pos e, Int.mul_one]
  · rw [if_neg (by simpa using e), if_neg e, Int.mul_zero]
theorem inS_walk {B : Book} {ns : List Int} (h : ∀ k ∈ ns, inW B k = true) (r : Int) : inS ((cntL B.ways.length [(1, ns)]).zip B.ways) r = (ns.map fun k => if (wAt B k).b = r then 1 else 0).sum := by
  unfold inS
  rw [filt_sum, cnt_zip, List.map_map, ← sum_count B.ways.length _ ns fun x hx => by have := h x hx; simp [inW] at this; omega]
  congr 1
  apply List.map_congr_left
  intro i _
  show (if decide ((wAt B (i : Nat)).b = r) = true then cntW [(1, ns)] (i : Nat) else 0) = _
  rw [cntW_one]
  by_cases e : (wAt B (i : Nat)).b = r
  · rw [if_pos (decide_eq_true e), if_pos e, Int.mul_one]
  · rw [if_neg (by simpa using e), if_neg e, Int.mul_zero]
theorem pth_flow {B : Book} {b : Int} (r : Int) : ∀ {ns : List Int} {a : Int}, Pth B a ns b → (ns.map fun k => if (wAt B k).a = r then (1 : Int) else 0).sum + (if b = r then 1 else 0) = (ns.map fun k => if (wAt B k).b = r then (1 : Int) else 0).sum + (if a = r then 1 else 0)
  | [], a, h => by cases h; rfl
  | k :: ns, a, h => by
    have ih := pth_flow r h.2.2
    rw [List.map_cons, List.map_cons, List.sum_cons, List.sum_cons, h.2.1]
    omega
theorem walk_round {B : Book} {ns : List Int} {a : Int} (h : Pth B a ns a) (hne : ns ≠ []) : isRound B (cntL B.ways.length [(1, ns)]) = true := by
  have hw := h.mem
  unfold isRound
  rw [Bool.and_eq_true, Bool.and_eq_true]
  refine ⟨⟨?_, ?_⟩, ?_⟩
  · rw [Bool.not_eq_true', List.any_eq_false]
    intro c hc
    unfold cntL at hc
    obtain ⟨i, _, rfl⟩ := List.mem_map.mp hc
    rw [cntW_one]
    simp
  · obtain ⟨k, ks, rfl⟩ := List.exists_cons_of_ne_nil hne
    have hk := hw k List.mem_cons_self
    simp [inW] at hk
    refine List.any_eq_true.mpr ⟨cntW [(1, k :: ks)] k, ?_, ?_⟩
    · unfold cntL
      exact List.mem_map.mpr ⟨k.toNat, List.mem_range.mpr (by omega), by rw [Int.toNat_of_nonneg hk.1]⟩
    · rw [cntW_one, List.count_cons_self]
      exact decide_eq_true (by omega)
  · rw [List.all_eq_true]
    intro r _
    rw [outS_walk hw, inS_walk hw]
    have := pth_flow (r : Nat) h
    exact decide_eq_true (by omega)
theorem walk_gain {B : Book} {ns : List Int} (h : ∀ k ∈ ns, inW B k = true) (hg : ∀ w ∈ B.ways, (w.gs.length : Int) = B.purses) : rgainL B ((cntL B.ways.length [(1, ns)]).zip B.ways) = gainL B ns := by
  have hl : ∀ k, inW B k = true → (wAt B k).gs.length = B.purses.toNat := fun k hk => by have := hg _ (wAt_mem hk); omega
  have hl2 : ∀ w ∈ B.ways, w.gs.length = B.purses.toNat := fun w hw => by have := hg w hw; omega
  rw [gainL_rows, rowsL_cols (fun r hr => by
    obtain ⟨k, hk, rfl⟩ := List.mem_map.mp hr
    exact hl k (h k hk))]
  unfold rgainL
  rw [rowsL_cols (fun r hr => by
    obtain ⟨p, hp, rfl⟩ := List.mem_map.mp hr
    unfold rowW
    rw [List.length_map]
    exact hl2 _ (List.of_mem_zip hp).2)]
  apply List.map_congr_left
  intro p _
  rw [cnt_zip, List.map_map, List.map_map, List.map_map]
  have := sum_count B.ways.length (fun k => (wAt B k).gs.getD p 0) ns fun x hx => by have := h x hx; simp [inW] at this; omega
  show _ = (ns.map fun k => (wAt B k).gs.getD p 0).sum
  rw [← this]
  congr 1
  apply List.map_congr_left
  intro i _
  show (((wAt B (i : Nat)).gs.map fun g => cntW [(1, ns)] (i : Nat) * g)).getD p 0 = _
  rw [cntW_one, List.getD_eq_getElem?_getD, List.getD_eq_getElem?_getD, List.getElem?_map]
  cases (wAt B (i : Nat)).gs[p]? with
  | none => simp
  | some v => rfl
theorem rngD_nat (n : Nat) : rngD 0 ((n : Nat) : Int).toNat = (List.range n).map fun i => PyData.int ((i : Nat) : Int) := by
  unfold rngD
  rw [Int.toNat_natCast]
  apply List.map_congr_left
  intro i _
  rw [Int.zero_add]
theorem eqvAll_LD : ∀ as bs : List (List Int), PyData.eqvAll (as.map intsLD) (bs.map intsLD) = decide (as = bs)
  | [], [] => rfl
  | [], _ :: _ => rfl
  | _ :: _, [] => rfl
  | a :: as, b :: bs => by
    show (PyData.eqv (.list (a.map PyData.int)) (.list (b.map PyData.int)) && PyData.eqvAll (as.map intsLD) (bs.map intsLD)) = _
    rw [eqv_lists, eqvAll_LD as bs]
    by_cases h : a = b <;> by_cases k : as = bs <;> simp [h, k]
theorem eqv_LD (as bs : List (List Int)) : PyData.eqv (.list (as.map intsLD)) (.list (bs.map intsLD)) = decide (as = bs) := eqvAll_LD as bs
/-! ### parts -/
def posW (n : Nat) (cs : List Int) : List Int := ((List.range n).filter fun i => decide (cs.getD i 0 > 0)).map fun i => ((i : Nat) : Int)
theorem zip_rng (cs : List Int) : (List.range cs.length).zip cs = (List.range cs.length).map fun i => (i, cs.getD i 0) := by
  apply List.ext_getElem
  · simp
  · intro i h1 h2
    have h3 : i < cs.length := by simp at h1; omega
    simp [List.getD_eq_getElem?_getD, List.getElem?_eq_getElem h3]
theorem posW_zip (cs : List Int) : (((List.range cs.length).zip cs).filter fun p => decide (p.2 > 0)).map (fun p => PyData.int (p.1 : Nat)) = (posW cs.length cs).map PyData.int := by
  rw [zip_rng, List.filter_map, List.map_map]
  unfold posW
  rw [List.map_map]
  rfl
theorem posW_mem {n : Nat} {cs : List Int} {k : Int} (h : k ∈ posW n cs) : 0 ≤ k ∧ k < n := by
  unfold posW at h
  obtain ⟨i, hi, rfl⟩ := List.mem_map.mp h
  have := List.mem_range.mp (List.mem_filter.mp hi).1
  omega
theorem posW_len (n : Nat) (cs : List Int) : (posW n cs).length ≤ n := by
  unfold posW
  rw [List.length_map]
  exact Nat.le_trans (List.length_filter_le _ _) (by simp)
theorem pth_reach {B : Book} {ws : List Int} {b : Int} : ∀ {ns : List Int} {a : Int}, Pth B a ns b → (∀ k ∈ ns, k ∈ ws) → Rch B ws a b ∧ ∀ x ∈ ns, Rch B ws a (wAt B x).a ∧ Rch B ws (wAt B x).b b
  | [], a, h, _ => by cases h; exact ⟨.refl _, fun x hx => by cases hx⟩
  | k :: ns, a, h, hs => by
    obtain ⟨h1, h2⟩ := pth_reach h.2.2 fun x hx => hs x (List.mem_cons_of_mem _ hx)
    have hk : Rch B ws (wAt B k).a (wAt B k).b := .one (hs k List.mem_cons_self)
    rw [h.2.1] at hk
    refine ⟨hk.trans h1, fun x hx => ?_⟩
    rcases List.mem_cons.mp hx with rfl | hx
    · rw [h.2.1]; exact ⟨.refl _, h1⟩
    · exact ⟨hk.trans (h2 x hx).1, (h2 x hx).2⟩
theorem rings_one {B : Book} {ws : List Int} (hne : ws ≠ []) (h : ∀ k ∈ ws, ∀ j ∈ ws, Rch B ws (wAt B k).b (wAt B j).a) : ringsL B ws = [ws] := by
  have e : ∀ k ∈ ws, ringOf B ws k = ws := fun k hk => by
    unfold ringOf
    refine List.filter_eq_self.mpr fun j hj => ?_
    unfold inRg
    rw [rch_iff.mpr (h k hk j hj), rch_iff.mpr (h j hj k hk)]; rfl
  have o : ∀ k ∈ ws, onR B ws k = true := fun k hk => rch_iff.mpr (h k hk k hk)
  have key : ∀ ks : List Int, (∀ k ∈ ks, k ∈ ws) → ks.foldl (ringStep B ws) [ws] = [ws] := by
    intro ks
    induction ks with
    | nil => intro _; rfl
    | cons k r ih =>
      intro hk
      have : ringStep B ws [ws] k = [ws] := by
        unfold ringStep
        rw [e k (hk k List.mem_cons_self), if_neg (by simp)]
      rw [List.foldl_cons, this]
      exact ih fun x hx => hk x (List.mem_cons_of_mem _ hx)
  unfold ringsL
  obtain ⟨k, r, hr⟩ := List.exists_cons_of_ne_nil hne
  have hm : ∀ x ∈ k :: r, x ∈ ws := fun x hx => by rw [hr]; exact hx
  have s : ringStep B ws [] k = [ws] := by
    unfold ringStep
    rw [e k (hm k List.mem_cons_self), if_pos ⟨o k (hm k List.mem_cons_self), by simp⟩]
    rfl
  have : ws.foldl (ringStep B ws) [] = (k :: r).foldl (ringStep B ws) [] := by rw [← hr]
  rw [this, List.foldl_cons, s]
  exact key r fun x hx => hm x (List.mem_cons_of_mem _ hx)
theorem walk_parts {B : Book} {ns : List Int} {a : Int} (h : Pth B a ns a) (hne : ns ≠ []) :
    ringsL B (posW B.ways.length (cntL B.ways.length [(1, ns)])) = [((List.range B.ways.length).filter fun i => decide (((i : Nat) : Int) ∈ ns)).map fun i => ((i : Nat) : Int)] := by
  have hw := h.mem
  have e : posW B.ways.length (cntL B.ways.length [(1, ns)]) = ((List.range B.ways.length).filter fun i => decide (((i : Nat) : Int) ∈ ns)).map fun i => ((i : Nat) : Int) := by
    unfold posW
    congr 1
    apply List.filter_congr
    intro i hi
    have hi := List.mem_range.mp hi
    rw [List.getD_eq_getElem?_getD, cntL_get _ hi]
    show decide (cntW [(1, ns)] (i : Nat) > 0) = _
    rw [cntW_one]
    refine decide_eq_decide.mpr ⟨fun q => ?_, fun q => ?_⟩
    · exact List.count_pos_iff.mp (by omega)
    · have := List.count_pos_iff.mpr q; omega
  rw [e]
  have hm : ∀ x, x ∈ (((List.range B.ways.length).filter fun i => decide (((i : Nat) : Int) ∈ ns)).map fun i => ((i : Nat) : Int)) ↔ x ∈ ns := fun x => by
    rw [List.mem_map]
    constructor
    · rintro ⟨i, hi, rfl⟩
      simpa using (List.mem_filter.mp hi).2
    · intro hx
      have hk := hw x hx
      simp [inW] at hk
      refine ⟨x.toNat, List.mem_filter.mpr ⟨List.mem_range.mpr (by omega), ?_⟩, by omega⟩
      rw [Int.toNat_of_nonneg hk.1]
      exact decide_eq_true hx
  generalize (((List.range B.ways.length).filter fun i => decide (((i : Nat) : Int) ∈ ns)).map fun i => ((i : Nat) : Int)) = ws at hm ⊢
  obtain ⟨h1, h2⟩ := pth_reach (ws := ws) h fun k hk => (hm k).mpr hk
  obtain ⟨k, ks, rfl⟩ := List.exists_cons_of_ne_nil hne
  exact rings_one (fun e => by have := (hm k).mpr List.mem_cons_self; rw [e] at this; cases this) fun x hx y hy => (h2 x ((hm x).mp hx)).2.trans (h2 y ((hm y).mp hy)).1
end L3
end
section
/-! L4a: stands; walks gone along from them: plain mathematics. -/
namespace L3
open PySem L2
/-! ### what can be laid, to a depth -/
def Lay (n : Nat) (d : PyData) : Prop := d.canLay0 = true ∧ d.depth ≤ n
theorem Lay.up {n m : Nat} {d : PyData} (h : Lay n d) (k : n ≤ m) : Lay m d := ⟨h.1, Nat.le_trans h.2 k⟩
theorem lay_int (n : Nat) (i : Int) : Lay n (.int i) := ⟨rfl, Nat.zero_le _⟩
theorem lay_bool (n : Nat) (b : Bool) : Lay n (.bool b) := ⟨rfl, Nat.zero_le _⟩
theorem lay_none (n : Nat) : Lay n .none := ⟨rfl, Nat.zero_le _⟩
theorem lay_tup {n : Nat} {ds : List PyData} (h : ∀ d ∈ ds, Lay n d) : Lay (n + 1) (.tuple ds) :=
  ⟨by rw [PyData.canLay0]; exact canLayAll_of fun d hd => (h d hd).1, by rw [PyData.depth]; exact Nat.succ_le_succ (depthAll_of fun d hd => (h d hd).2)⟩
theorem lay_list {n : Nat} {ds : List PyData} (h : ∀ d ∈ ds, Lay n d) : Lay (n + 1) (.list ds) :=
  ⟨by rw [PyData.canLay0]; exact canLayAll_of fun d hd => (h d hd).1, by rw [PyData.depth]; exact Nat.succ_le_succ (depthAll_of fun d hd => (h d hd).2)⟩
theorem lay_ints {n : Nat} (ns : List Int) : ∀ d ∈ ns.map PyData.int, Lay n d := fun d hd => by
  obtain ⟨x, _, rfl⟩ := List.mem_map.mp hd
  exact lay_int _ _
theorem Lay.shaped {n : Nat} {d : PyData} (h : Lay n d) (k : n ≤ 64 := by decide) : SeqAt.shaped d = true := by
  unfold SeqAt.shaped
  rw [h.1, Bool.true_and]
  exact decide_eq_true (Nat.le_trans h.2 k)
def standD (r : Int) (xs : List Int) : PyData := .tuple [.int r, .tuple (xs.map PyData.int)]
theorem lay_stand (r : Int) (xs : List Int) : Lay 2 (standD r xs) := lay_tup fun d hd => by
  simp at hd
  rcases hd with rfl | rfl
  · exact lay_int _ _
  · exact lay_tup (lay_ints xs)
theorem eqv_stand (r s : Int) (xs ys : List Int) : PyData.eqv (standD r xs) (standD s ys) = decide (r = s ∧ xs = ys) := by
  show (PyData.eqv (.int r) (.int s) && (PyData.eqv (.tuple (xs.map PyData.int)) (.tuple (ys.map PyData.int)) && true)) = _
  rw [eqv_tups, Bool.and_true]
  rw [Bool.decide_and]
  congr 1
def fitsW (w : Way) (r : Int) (xs : List Int) : Bool := decide (w.a = r) && (addL xs w.gs).all fun x => decide (0 ≤ x)
def canL (B : Book) (r : Int) (xs : List Int) : List Int := (((List.range B.ways.length).zip B.ways).filter fun p => fitsW p.2 r xs).map fun p => ((p.1 : Nat) : Int)
def geL (xs ys : List Int) : Bool := (xs.zip ys).all fun p => decide (p.1 ≥ p.2)
theorem all_getD {xs : List Int} {p : Int → Bool} : xs.all p = true ↔ ∀ i, i < xs.length → p (xs.getD i 0) = true := by
  rw [List.all_eq_true]
  constructor
  · intro h i hi
    rw [List.getD_eq_getElem?_getD, List.getElem?_eq_getElem hi]
    exact h _ (List.getElem_mem hi)
  · intro h x hx
    obtain ⟨i, hi, rfl⟩ := List.getElem_of_mem hx
    have := h i hi
    rwa [List.getD_eq_getElem?_getD, List.getElem?_eq_getElem hi] at this
theorem geL_iff {n : Nat} : ∀ {xs ys : List Int}, xs.length = n → ys.length = n → (geL xs ys = true ↔ ∀ p, p < n → ys.getD p 0 ≤ xs.getD p 0) := by
  intro xs ys h k
  unfold geL
  rw [List.all_eq_true]
  constructor
  · intro q p hp
    have hm : (xs.getD p 0, ys.getD p 0) ∈ xs.zip ys := by
      refine List.mem_iff_getElem?.mpr ⟨p, ?_⟩
      rw [List.getElem?_zip_eq_some]
      simp [List.getD_eq_getElem?_getD, List.getElem?_eq_getElem (show p < xs.length by omega), List.getElem?_eq_getElem (show p < ys.length by omega)]
    simpa using q _ hm
  · intro q p hp
    obtain ⟨i, hi⟩ := List.mem_iff_getElem?.mp hp
    rw [List.getElem?_zip_eq_some] at hi
    have h1 : i < n := by
      have := (List.getElem?_eq_some_iff.mp hi.1).1
      omega
    have := q i h1
    rw [List.getD_eq_getElem?_getD, List.getD_eq_getElem?_getD, hi.1, hi.2] at this
    simpa using this
theorem canL_mem {B : Book} {r k : Int} {xs : List Int} : k ∈ canL B r xs ↔ inW B k = true ∧ fitsW (wAt B k) r xs = true := by
  unfold canL
  rw [List.mem_map]
  constructor
  · rintro ⟨⟨i, w⟩, h, rfl⟩
    obtain ⟨h1, h2⟩ := List.mem_filter.mp h
    obtain ⟨j, hj⟩ := List.mem_iff_getElem?.mp h1
    rw [List.getElem?_zip_eq_some] at hj
    obtain ⟨e1, e2⟩ := hj
    obtain ⟨e3, e4⟩ := List.getElem?_eq_some_iff.mp e1
    obtain ⟨e5, e6⟩ := List.getElem?_eq_some_iff.mp e2
    simp at e4
    subst e4
    have e7 : wAt B ((j : Nat) : Int) = w := by
      unfold wAt
      rw [Int.toNat_natCast, List.getD_eq_getElem?_getD, List.getElem?_eq_getElem e5]
      exact e6
    refine ⟨by simp [inW]; omega, ?_⟩
    show fitsW (wAt B ((j : Nat) : Int)) r xs = true
    rw [e7]; exact h2
  · rintro ⟨h1, h2⟩
    simp [inW] at h1
    have h3 : k.toNat < B.ways.length := by omega
    refine ⟨(k.toNat, wAt B k), List.mem_filter.mpr ⟨List.mem_iff_getElem?.mpr ⟨k.toNat, ?_⟩, h2⟩, by show ((k.toNat : Nat) : Int) = k; omega⟩
    rw [List.getElem?_zip_eq_some]
    refine ⟨by simp [h3], ?_⟩
    unfold wAt
    rw [List.getD_eq_getElem?_getD, List.getElem?_eq_getElem h3]; rfl
/-! ### needs of walks that are put together -/
theorem colSum_app (B : Book) (ns ms : List Int) (p : Nat) : colSum B (ns ++ ms) p = colSum B ns p + colSum B ms p := by
  unfold colSum; rw [List.map_append, List.sum_append]
theorem colSum_cons (B : Book) (k : Int) (ns : List Int) (p : Nat) : colSum B (k :: ns) p = gC B p k + colSum B ns p := rfl
def mx2 (a b : Int) : Int := if b > a then b else a
theorem dueC_app (B : Book) (p : Nat) (ms : List Int) : ∀ ns : List Int, dueC B p (ns ++ ms) = mx2 (dueC B p ns) (dueC B p ms - colSum B ns p)
  | [] => by
    have := dueC_nn B p ms
    show dueC B p ms = mx2 0 (dueC B p ms - 0)
    unfold mx2; split <;> omega
  | k :: ns => by
    show mxI (dueC B p (ns ++ ms) - gC B p k) = mx2 (mxI (dueC B p ns - gC B p k)) _
    rw [dueC_app B p ms ns, colSum_cons]
    unfold mx2 mxI
    split <;> split <;> split <;> omega
theorem dueC_sum (B : Book) (p : Nat) : ∀ ns : List Int, 0 ≤ dueC B p ns + colSum B ns p
  | [] => Int.le_refl 0
  | k :: ns => by
    have := dueC_sum B p ns
    rw [colSum_cons]
    show 0 ≤ mxI (dueC B p ns - gC B p k) + _
    unfold mxI; split <;> omega
theorem gainL_getD {B : Book} {ns : List Int} (h : GsOk B ns) {p : Nat} (hp : p < B.purses.toNat) : (gainL B ns).getD p 0 = colSum B ns p := by
  rw [List.getD_eq_getElem?_getD, gainL_col h p hp]; rfl
/-- a way more can be done just where it fits where the walk has come to -/
theorem ge_push {B : Book} {ns ys : List Int} {k : Int} (hl : ys.length = B.purses.toNat) (hg : GsOk B (ns ++ [k])) (h : geL ys (needL B ns) = true) :
    geL ys (needL B (ns ++ [k])) = (addL (addL ys (gainL B ns)) (wAt B k).gs).all fun x => decide (0 ≤ x) := by
  have hg1 : GsOk B ns := fun x hx => hg x (List.mem_append_left _ hx)
  have hk : (wAt B k).gs.length = B.purses.toNat := by have := hg k (by simp); omega
  have l1 : (gainL B ns).length = B.purses.toNat := gainL_len hg1
  have l2 : (addL ys (gainL B ns)).length = B.purses.toNat := addL_len hl l1
  have l3 : (addL (addL ys (gainL B ns)) (wAt B k).gs).length = B.purses.toNat := addL_len l2 hk
  rw [needL_due hg1] at h
  rw [needL_due hg, Bool.eq_iff_iff, geL_iff hl (dueL_len B _), all_getD, l3]
  have h := (geL_iff hl (dueL_len B _)).mp h
  refine forall_congr' fun p => forall_congr' fun hp => ?_
  have h := h p hp
  rw [dueL_getD hp] at h
  rw [dueL_getD hp, dueC_app, addL_getD (by omega) (by omega), addL_getD (by omega) (by omega), gainL_getD hg1 hp]
  have s := dueC_sum B p ns
  have e : dueC B p [k] = mxI (0 - gC B p k) := rfl
  have e2 : (wAt B k).gs.getD p 0 = gC B p k := rfl
  rw [e, e2, decide_eq_true_eq]
  unfold mx2 mxI
  split <;> split <;> omega
theorem gain_push (B : Book) (ns : List Int) (k : Int) (ys : List Int) (hl : ys.length = B.purses.toNat) (hg : GsOk B (ns ++ [k])) : addL ys (gainL B (ns ++ [k])) = addL (addL ys (gainL B ns)) (wAt B k).gs := by
  have hg1 : GsOk B ns := fun x hx => hg x (List.mem_append_left _ hx)
  have hk : (wAt B k).gs.length = B.purses.toNat := by have := hg k (by simp); omega
  have l1 : (gainL B ns).length = B.purses.toNat := gainL_len hg1
  have l2 : (addL ys (gainL B ns)).length = B.purses.toNat := addL_len hl l1
  rw [gainL_push]
  refine ext_getD ?_ fun p hp => ?_
  · rw [addL_len hl (addL_len l1 hk), addL_len l2 hk]
  · rw [addL_len hl (addL_len l1 hk)] at hp
    rw [addL_getD (by omega) (by rw [addL_len l1 hk]; exact hp), addL_getD (by omega) (by omega), addL_getD (by omega) (by omega), addL_getD (by omega) (by omega), Int.add_assoc]
/-- whether a walk can be done -/
def okW (B : Book) (r : Int) (xs ns : List Int) : Bool := match ns with
  | [] => false
  | k :: _ => decide (r = (wAt B k).a) && geL xs (needL B ns)
def endW (B : Book) (ns : List Int) : Int := match ns.getLast? with
  | none => 0
  | some k => (wAt B k).b
theorem endW_eq {B : Book} {ns : List Int} (h : ns ≠ []) : endW B ns = (wAt B (ns.getLast h)).b := by unfold endW; rw [List.getLast?_eq_some_getLast h]
theorem okW_eq {B : Book} {r : Int} {xs ns : List Int} (h : ns ≠ []) : okW B r xs ns = (decide (r = (wAt B (ns.head h)).a) && geL xs (needL B ns)) := by
  cases ns with
  | nil => exact absurd rfl h
  | cons k ks => rfl
theorem pth_ends {B : Book} {b : Int} : ∀ {ns : List Int} {a : Int}, Pth B a ns b → ∀ h : ns ≠ [], chainW B ns = true ∧ (wAt B (ns.head h)).a = a ∧ (wAt B (ns.getLast h)).b = b
  | [k], a, h, _ => ⟨h.1, h.2.1, h.2.2⟩
  | k :: j :: ns, a, h, _ => by
    obtain ⟨h1, h2, h3⟩ := pth_ends h.2.2 (by simp)
    replace h2 : (wAt B j).a = (wAt B k).b := h2
    refine ⟨?_, h.2.1, by simpa using h3⟩
    show (inW B k && decide ((wAt B k).b = (wAt B j).a) && chainW B (j :: ns)) = true
    rw [h.1, h1, h2]
    simp
/-- a walk that was gone along from a stand -/
structure GoneI (B : Book) (f : Int) (ys ns : List Int) (r : Int) (xs : List Int) : Prop where
  p : Pth B f ns r
  l : ys.length = B.purses.toNat
  x : xs = addL ys (gainL B ns)
  n : geL ys (needL B ns) = true
theorem addL_zero {n : Nat} {ys : List Int} (h : ys.length = n) : addL ys (List.replicate n 0) = ys := by
  refine ext_getD (by rw [addL_len h (by simp)]; exact h.symm) fun p hp => ?_
  rw [addL_len h (by simp)] at hp
  rw [addL_getD (by omega) (by simp; exact hp)]
  rw [show (List.replicate n (0 : Int)).getD p 0 = 0 from by simp [List.getD_eq_getElem?_getD, List.getElem?_replicate]; split <;> rfl, Int.add_zero]
theorem GoneI.start {B : Book} {f : Int} {ys : List Int} (l : ys.length = B.purses.toNat) (h : ∀ y ∈ ys, 0 ≤ y) : GoneI B f ys [] f ys :=
  ⟨rfl, l, (addL_zero l).symm, (geL_iff l (by simp [needL, needS, zeros])).mpr fun p hp => by
    rw [needL_due (fun k hk => by cases hk), dueL_getD hp]
    show 0 ≤ ys.getD p 0
    rw [List.getD_eq_getElem?_getD, List.getElem?_eq_getElem (by omega)]
    exact h _ (List.getElem_mem _)⟩
theorem GoneI.gs {B : Book} {f r : Int} {ys ns xs : List Int} (h : GoneI B f ys ns r xs) (hB : ∀ w ∈ B.ways, w.gs.length = B.purses.toNat) (hp : 0 ≤ B.purses) {k : Int} (hk : inW B k = true) : GsOk B (ns ++ [k]) := fun x hx => by
  rcases List.mem_append.mp hx with hx | hx
  · have := hB _ (wAt_mem (h.p.mem x hx)); omega
  · rw [List.mem_singleton.mp hx]; have := hB _ (wAt_mem hk); omega
theorem GoneI.push {B : Book} {f r k : Int} {ys ns xs : List Int} (h : GoneI B f ys ns r xs) (hB : ∀ w ∈ B.ways, w.gs.length = B.purses.toNat) (hp : 0 ≤ B.purses) (hk : inW B k = true) (hf : fitsW (wAt B k) r xs = true) : GoneI B f ys (ns ++ [k]) (wAt B k).b (addL xs (wAt B k).gs) := by
  unfold fitsW at hf
  rw [Bool.and_eq_true, decide_eq_true_eq] at hf
  refine ⟨h.p.snoc hk hf.1, h.l, ?_, ?_⟩
  · rw [gain_push B ns k ys h.l (h.gs hB hp hk), h.x]
  · rw [ge_push h.l (h.gs hB hp hk) h.n, ← h.x]; exact hf.2
theorem GoneI.stuck {B : Book} {f r k : Int} {ys ns xs : List Int} (h : GoneI B f ys ns r xs) (hB : ∀ w ∈ B.ways, w.gs.length = B.purses.toNat) (hp : 0 ≤ B.purses) (hk : inW B k = true) (ha : (wAt B k).a = r) (hf : fitsW (wAt B k) r xs = false) : okW B f ys (ns ++ [k]) = false := by
  rw [okW_eq (by simp), ge_push h.l (h.gs hB hp hk) h.n, ← h.x]
  unfold fitsW at hf
  rw [decide_eq_true ha, Bool.true_and] at hf
  rw [hf, Bool.and_false]
theorem GoneI.len {B : Book} {f r : Int} {ys ns xs : List Int} (h : GoneI B f ys ns r xs) (hB : ∀ w ∈ B.ways, w.gs.length = B.purses.toNat) (hp : 0 ≤ B.purses) : (gainL B ns).length = B.purses.toNat ∧ xs.length = B.purses.toNat := by
  have hg : GsOk B ns := fun x hx => by have := hB _ (wAt_mem (h.p.mem x hx)); omega
  have l1 : (gainL B ns).length = B.purses.toNat := gainL_len hg
  exact ⟨l1, by rw [h.x, addL_len h.l l1]⟩
theorem eqv_filt {α : Type} (p : α → Bool) (f : α → PyData) (xs : List α) : PyData.eqv (.list ((xs.filter p).map f)) (.list []) = !(xs.any p) := by
  rw [eqv_nil, Bool.eq_iff_iff]
  simp
theorem ge_any : ∀ xs ys : List Int, ((ys.zip xs).any fun p => decide (p.1 > p.2)) = !geL xs ys
  | [], ys => by cases ys <;> rfl
  | _ :: _, [] => rfl
  | x :: xs, y :: ys => by
    have ih := ge_any xs ys
    show (decide (y > x) || ((ys.zip xs).any fun p => decide (p.1 > p.2))) = !(decide (x ≥ y) && geL xs ys)
    rw [ih]
    by_cases h : y > x
    · rw [decide_eq_true h, decide_eq_false (by omega)]; rfl
    · rw [decide_eq_false h, decide_eq_true (by omega)]; rfl
theorem sub_add : ∀ {ys gs : List Int}, gs.length = ys.length → ((addL ys gs).zip ys).map (fun p => p.1 - p.2) = gs
  | [], [], _ => rfl
  | [], _ :: _, h => by cases h
  | _ :: _, [], h => by cases h
  | y :: ys, g :: gs, h => by
    show (y + g - y) :: ((addL ys gs).zip ys).map (fun p => p.1 - p.2) = _
    rw [sub_add (by simpa using h)]
    congr 1
    omega
end L3
end
section
/-! L4b: zip of three. -/
namespace L2
open PySem PySem.Spec PyProof.Rows
def ItzB3 (K : PySem.W.Frag) (b1 : Bool) (a1 : Addr) (b2 : Bool) (a2 : Addr) (b3 : Bool) (a3 : Addr) : It :=
  ⟨fun i H => ∃ (xs ys zs : List V) (x y u : V), SqB K H b1 a1 xs ∧ SqB K H b2 a2 ys ∧ SqB K H b3 a3 zs ∧ xs[i]? = some x ∧ ys[i]? = some y ∧ zs[i]? = some u,
    fun i H v H' => ∃ T x y u, v = .ref T ∧ H T = none ∧ H' = upd H T (.tup [x, y, u]) ∧ (∀ xs, SqB K H b1 a1 xs → xs[i]? = some x) ∧ (∀ ys, SqB K H b2 a2 ys → ys[i]? = some y) ∧ ∀ zs, SqB K H b3 a3 zs → zs[i]? = some u,
    fun i H => ∃ xs ys zs : List V, SqB K H b1 a1 xs ∧ SqB K H b2 a2 ys ∧ SqB K H b3 a3 zs ∧ i = min (min xs.length ys.length) zs.length⟩
theorem turn_zipB3 {P : Program} {w : World} {K : PySem.W.Frag} {elts : List Expr} {kk : Nat} {tpos : Pos} {b1 b2 b3 : Bool} {a1 a2 a3 z TI TO i1 i2 i3 : Addr} (D : ZipSep3 z TI TO i1 i2 i3 [i1, a1] [i2, a2] [i3, a3]) :
    Turn P w K (.Tuple elts kk tpos) (ItzB3 K b1 a1 b2 a2 b3 a3) [z, TI, TO, i1, i2, i3] z (fun i h => IsZip h z TI TO .none ∧ IsTupOf3 h TI (.ref i1) (.ref i2) (.ref i3) ∧ (∃ x y u, IsTupOf3 h TO x y u) ∧ IterB h b1 i1 a1 i ∧ IterB h b2 i2 a2 i ∧ IterB h b3 i3 a3 i ∧ a1 ≠ i1 ∧ a2 ≠ i2 ∧ a3 ≠ i3) where
  mem := by simp
  obj := fun i h st c hc => by
    obtain ⟨hz, hTI, ⟨x, y, u, hTO⟩, h1, h2, h3, _⟩ := st
    have e' : c = z ∨ c = TI ∨ c = TO ∨ c = i1 ∨ c = i2 ∨ c = i3 := by simpa using hc
    rcases e' with q | q | q | q | q | q
    · rw [q]; exact ⟨_, hz, fun v q => nomatch q⟩
    · rw [q]; exact ⟨_, hTI, fun v q => nomatch q⟩
    · rw [q]; exact ⟨_, hTO, fun v q => nomatch q⟩
    · rw [q]; exact h1.obj
    · rw [q]; exact h2.obj
    · rw [q]; exact h3.obj
  keep := fun i h h' st k => by
    obtain ⟨hz, hTI, ⟨x, y, u, hTO⟩, h1, h2, h3, ne⟩ := st
    exact ⟨k z (by simp) _ hz, k TI (by simp) _ hTI, ⟨x, y, u, k TO (by simp) _ hTO⟩, h1.at' fun o q => k i1 (by simp) o q, h2.at' fun o q => k i2 (by simp) o q, h3.at' fun o q => k i3 (by simp) o q, ne⟩
  item := by
    intro X hP hw hK hc i pins s σ H E I hf st hg
    subst hP hw hK
    obtain ⟨hz, hTI, ⟨x0, y0, u0, hTO⟩, h1, h2, h3, n1, n2, n3⟩ := st
    obtain ⟨xs, ys, us, x, y, u, hqx, hqy, hqu, hx, hy, hu⟩ := hg
    obtain ⟨its, rv, p, _⟩ := I.seqB hqx
    obtain ⟨its2, rv2, p2, _⟩ := I.seqB hqy
    obtain ⟨its3, rv3, p3, _⟩ := I.seqB hqu
    obtain ⟨w1, hw1, ru1⟩ := rv.get hx
    obtain ⟨w2, hw2, ru2⟩ := rv2.get hy
    obtain ⟨w3, hw3, ru3⟩ := rv3.get hu
    have hzl : z < s.heap.objs.size := Heap.lt_size hz
    have l1 : i < its.toArray.size := by rw [List.size_toArray]; exact (List.getElem?_eq_some_iff.mp hw1).1
    have l2 : i < its2.toArray.size := by rw [List.size_toArray]; exact (List.getElem?_eq_some_iff.mp hw2).1
    have l3 : i < its3.toArray.size := by rw [List.size_toArray]; exact (List.getElem?_eq_some_iff.mp hw3).1
    refine wpAny_pyNext_zipD3_item D (drawsB (show X.A.in1.handled = none from I.ok.hd hc) b1 i1 a1 n1 its.toArray) (drawsB (show X.A.in1.handled = none from I.ok.hd hc) b2 i2 a2 n2 its2.toArray) (drawsB (show X.A.in1.handled = none from I.ok.hd hc) b3 i3 a3 n3 its3.toArray) hz hTI hTO ⟨h1, p⟩ ⟨h2, p2⟩ ⟨h3, p3⟩ l1 l2 l3 fun v1 v2 v3 h' tk e1 e2 e3 z' TO' h1' h2' h3' hT hsz hk => ?_
    have q1 : v1 = w1 := by
      have q : its[i]? = some v1 := by simpa using e1
      rw [hw1] at q; exact (Option.some.inj q).symm
    have q2 : v2 = w2 := by
      have q : its2[i]? = some v2 := by simpa using e2
      rw [hw2] at q; exact (Option.some.inj q).symm
    have q3 : v3 = w3 := by
      have q : its3[i]? = some v3 := by simpa using e3
      rw [hw3] at q; exact (Option.some.inj q).symm
    subst q1 q2 q3
    refine ⟨_, rfl, wpAny_letOwnedTupleGo_zip (s := { s with heap := h', toks := tk }) z' fun h'' z'' sb => ?_⟩
    have hT2 : h''.get? s.heap.objs.size = some { cls := .type "tuple", data := .seq #[v1, v2, v3] } := (sb.2 _ (Nat.ne_of_gt hzl)).trans hT
    have new : ObjOk X.prog X.w (upd H s.heap.objs.size (.tup [x, y, u])) h'' s.heap.objs.size (.tup [x, y, u]) :=
      ⟨by show 3 ≤ sizeLine; decide, [v1, v2, v3], .cons ru1 (.cons ru2 (.cons ru3 .nil)), ⟨_, hT2, rfl, _, rfl⟩⟩
    have I1 : Inv X pins σ (upd H s.heap.objs.size (.tup [x, y, u])) { s with heap := h'', toks := tk } :=
      I.turnedNew (t' := tk) (ch := [z, TI, TO, i1, i2, i3]) (fun c o hb q => (sb.2 c (fun q' => hb (by simp [q']))).trans (hk c o (fun q' => hb (by simp [q'])) (fun q' => hb (by simp [q'])) (fun q' => hb (by simp [q'])) (fun q' => hb (by simp [q'])) (fun q' => hb (by simp [q'])) q)) hf (Nat.le_refl _) new
    refine ⟨.ref s.heap.objs.size, _, I1, rfl, ⟨_, x, y, u, rfl, I.hok.fresh (Nat.le_refl _), rfl, fun l hl => by rw [I.seqB_inj hl hqx]; exact hx, fun l hl => by rw [I.seqB_inj hl hqy]; exact hy, fun l hl => by rw [I.seqB_inj hl hqu]; exact hu⟩, ⟨z'', ?_, ⟨v1, v2, v3, ?_⟩, ?_, ?_, ?_, n1, n2, n3⟩, fun c hcm => ?_⟩
    · exact (sb.2 _ D.TIz).trans (hk _ _ D.TIz D.TITO D.TIi1 D.TIi2 D.TIi3 hTI)
    · exact (sb.2 _ D.TOz).trans TO'
    · exact h1'.1.at' fun o q => (sb.2 _ (Ne.symm D.zi1)).trans q
    · exact h2'.1.at' fun o q => (sb.2 _ (Ne.symm D.zi2)).trans q
    · exact h3'.1.at' fun o q => (sb.2 _ (Ne.symm D.zi3)).trans q
    · have hlt : c < s.heap.objs.size := by
        have e' : c = z ∨ c = TI ∨ c = TO ∨ c = i1 ∨ c = i2 ∨ c = i3 := by simpa using hcm
        rcases e' with q | q | q | q | q | q
        · rw [q]; exact hzl
        · rw [q]; exact Heap.lt_size hTI
        · rw [q]; exact Heap.lt_size hTO
        · rw [q]; obtain ⟨_, e1, _⟩ := h1.obj; exact Heap.lt_size e1
        · rw [q]; obtain ⟨_, e2, _⟩ := h2.obj; exact Heap.lt_size e2
        · rw [q]; obtain ⟨_, e3, _⟩ := h3.obj; exact Heap.lt_size e3
      rw [upd_ne (Nat.ne_of_lt hlt)]
      exact (hf c hcm).1
  done := by
    intro X hP hw hK hc i pins s σ H E I hf st hg
    subst hP hw hK
    obtain ⟨hz, hTI, ⟨x0, y0, u0, hTO⟩, h1, h2, h3, n1, n2, n3⟩ := st
    obtain ⟨xs, ys, us, hqx, hqy, hqu, hend⟩ := hg
    obtain ⟨its, rv, p, _⟩ := I.seqB hqx
    obtain ⟨its2, rv2, p2, _⟩ := I.seqB hqy
    obtain ⟨its3, rv3, p3, _⟩ := I.seqB hqu
    have l1 : xs.length = its.toArray.size := by rw [List.size_toArray, rv.length]
    have l2 : ys.length = its2.toArray.size := by rw [List.size_toArray, rv2.length]
    have l3 : us.length = its3.toArray.size := by rw [List.size_toArray, rv3.length]
    exact wpAny_pyNext_zipD3_end D (drawsB (show X.A.in1.handled = none from I.ok.hd hc) b1 i1 a1 n1 its.toArray) (drawsB (show X.A.in1.handled = none from I.ok.hd hc) b2 i2 a2 n2 its2.toArray) (drawsB (show X.A.in1.handled = none from I.ok.hd hc) b3 i3 a3 n3 its3.toArray) hz hTI hTO ⟨h1, p⟩ ⟨h2, p2⟩ ⟨h3, p3⟩ (by omega) (by omega) (by omega) (by omega) fun h' tk hk => ⟨rfl, I.turnedL (t' := tk) (ch := [z, TI, TO, i1, i2, i3]) (fun c o hb q =>
      hk c o (fun q' => hb (by simp [q'])) (fun q' => hb (by simp [q'])) (fun q' => hb (by simp [q'])) (fun q' => hb (by simp [q'])) (fun q' => hb (by simp [q'])) q) hf⟩
  self := fun A i s Q E st h => wpAny_pyIter_zip st.1 h
def iZipB3 (K : PySem.W.Frag) (ta : TA) : TI := fun σ H R => ta σ H fun vs H1 => ∃ b1 b2 b3 a1 a2 a3 xs ys us, vs = [.ref a1, .ref a2, .ref a3] ∧ SqB K H1 b1 a1 xs ∧ SqB K H1 b2 a2 ys ∧ SqB K H1 b3 a3 us ∧ R (ItzB3 K b1 a1 b2 a2 b3 a3) H1
theorem pi_zipB3 {X : Cx} {e e2 e3 : Expr} {ta : TA} {p pos tpos : Pos} {elts : List Expr} {kk : Nat} (hg : Gl X "zip") (hm : X.mg "zip" = none) (ha : PA X [e, e2, e3] ta)
    (hs : starEach [e, e2, e3] X.env = (false, eval e X.env) :: starEach [e2, e3] X.env := by rfl) (hpl : (backTo pos (starEach [e2, e3] X.env)).any (·.1) = false := by rfl) :
    PI X (.Tuple elts kk tpos) (.Call (.Name "zip" p) [e, e2, e3] [] pos) (iZipB3 X.K ta) := by
  refine ⟨fun pins s σ H R I h => ?_⟩
  refine Call_ (ld_blt I hg hm PyProof.Rows.boot_zip (PyProof.Rows.callWith_type1 (thn (ha.run pos pins s σ H _ I h) fun us s1 ⟨vs, H1, I1, r1, q1⟩ => ?_) hs hpl))
  obtain ⟨b1, b2, b3, a1, a2, a3, xs, ys, us, ex, hqx, hqy, hqu, q⟩ := q1
  subst ex
  cases r1 with
  | cons r rr =>
    cases rr with
    | cons r' rr =>
      cases rr with
      | cons r'' rr =>
        cases rr
        cases r
        cases r'
        cases r''
        obtain ⟨its, rv, p1, la⟩ := I1.seqB hqx
        obtain ⟨its2, rv2, p2, lb⟩ := I1.seqB hqy
        obtain ⟨its3, rv3, p3, lc⟩ := I1.seqB hqu
        refine zip_begins3 (beginsB b1 a1 its.toArray) (beginsB b2 a2 its2.toArray) (beginsB b3 a3 its3.toArray) p1 p2 p3 fun h' hz hTI hTO h1 h2 h3 hsz hk => wpAny_pyIter_zip hz ?_
        have I2 : Inv X pins σ H1 { s1 with heap := h' } := I1.kept (t' := s1.toks) hk
        refine ⟨s1.heap.objs.size + 5, [s1.heap.objs.size + 5, s1.heap.objs.size + 3, s1.heap.objs.size + 4, s1.heap.objs.size, s1.heap.objs.size + 1, s1.heap.objs.size + 2], _, _, H1, rfl, I2, turn_zipB3 (zip_sep3 (fp1 := [a1]) (fp2 := [a2]) (fp3 := [a3]) (lt_one la) (lt_one lb) (lt_one lc)), ⟨hz, hTI, ⟨_, _, _, hTO⟩, .new h1, .new h2, .new h3, Nat.ne_of_lt la, Nat.ne_of_lt (Nat.lt_succ_of_lt lb), Nat.ne_of_lt (Nat.lt_succ_of_lt (Nat.lt_succ_of_lt lc))⟩, fp_of I1 fun c hcm => ?_, q⟩
        have e' : c = s1.heap.objs.size + 5 ∨ c = s1.heap.objs.size + 3 ∨ c = s1.heap.objs.size + 4 ∨ c = s1.heap.objs.size ∨ c = s1.heap.objs.size + 1 ∨ c = s1.heap.objs.size + 2 := by simpa using hcm
        rcases e' with z | z | z | z | z | z <;> rw [z] <;> first | exact Nat.le_add_right _ _ | exact Nat.le_refl _
end L2
namespace L3
open PySem L2
variable {G : Type} {K : PySem.W.Frag} {X : Cx} {Z : Zx K G}
def zipD3 (ds es fs : List PyData) : List PyData := List.zipWith (fun d p => .tuple (d :: p)) ds (List.zipWith (fun e f => [e, f]) es fs)
theorem zipD3_len (ds es fs : List PyData) : (zipD3 ds es fs).length = min (min ds.length es.length) fs.length := by unfold zipD3; rw [List.length_zipWith, List.length_zipWith]; omega
theorem zipD3_get {ds es fs : List PyData} {i : Nat} {d e f : PyData} (h : ds[i]? = some d) (h2 : es[i]? = some e) (h3 : fs[i]? = some f) : (zipD3 ds es fs)[i]? = some (.tuple [d, e, f]) := by
  unfold zipD3
  rw [List.getElem?_zipWith, h, List.getElem?_zipWith, h2, h3]
theorem wk_tri {f1 : Fx} {F1 : Hp} {ad : Nat → Addr} {ρ : En} {g : G} {σ : St} {H : Hp} (R : Rel Z f1 F1 ad ρ g σ H) {T : Addr} {x y u : V} {d e f : PyData} (hT : H T = none) (hx : Da K F1 x d) (hy : Da K F1 y e) (hu : Da K F1 u f) :
    ∃ F2, Ex F1 F2 ∧ Rel Z f1 F2 ad ρ g σ (upd H T (.tup [x, y, u])) ∧ Da K F2 (.ref T) (.tuple [d, e, f]) := by
  obtain ⟨R', n⟩ := R.laid (o := .tup [x, y, u]) hT
  obtain ⟨R2, ee⟩ := R'.froze n upd_same
  exact ⟨_, ee, R2, .tup (.inl (.inl upd_same)) (.cons (da_mono ee hx) (.cons (da_mono ee hy) (.cons (da_mono ee hu) .nil)))⟩
def triD (k : PyData → PyData → PyData → Prop) : List PyData → Prop
  | [a, b, c] => k a b c
  | _ => False
theorem triD_of {k : PyData → PyData → PyData → Prop} {l : List PyData} (h : triD k l) : ∃ a b c, l = [a, b, c] ∧ k a b c := by
  unfold triD at h
  split at h
  · exact ⟨_, _, _, rfl, h⟩
  · cases h
def dZip3 (t : DA G) : DI G := fun ρ g Q => t ρ g fun rs ρ1 g1 => fzK rs ρ1 fun ls ρ2 => triD (fun d e f => seqD (fun ds => seqD (fun es => seqD (fun fs => Q (zipD3 ds es fs) ρ2 g1) (some f)) (some e)) (some d)) ls
theorem i_zip3 {e e2 e3 : Expr} {ta : TA} {t : DA G} {p pos tpos : Pos} {elts : List Expr} {kk : Nat} (hm : X.mg "zip" = none) (ha : DAs X Z [e, e2, e3] ta t) (hg : Gl X "zip" := by rfl) (hs : starEach [e, e2, e3] X.env = (false, eval e X.env) :: starEach [e2, e3] X.env := by rfl)
    (hpl : (backTo pos (starEach [e2, e3] X.env)).any (·.1) = false := by rfl) (hK : K = X.K := by rfl) : DIt X Z (.Tuple elts kk tpos) (.Call (.Name "zip" p) [e, e2, e3] [] pos) (iZipB3 K ta) (dZip3 t) := ⟨by rw [hK]; exact pi_zipB3 hg hm ha.pa hs hpl, fun f F ad ρ g σ H Q R q P hP => by
  refine ha.sim f F ad ρ g σ H _ R q _ fun vs H1 q => ?_
  obtain ⟨F1, ad1, ρ1, g1, rs, e1, eg1, R1, v1, q⟩ := q
  obtain ⟨ls, ρ2, ef, q⟩ := fzK_of q
  obtain ⟨d, e, u, rfl, q⟩ := triD_of q
  obtain ⟨F2, e2, R2, dal⟩ := R1.hfzA v1 ef
  cases dal with
  | cons dv1 t1 =>
    cases t1 with
    | cons dv2 t2 =>
      cases t2 with
      | cons dv3 t3 =>
        cases t3
        obtain ⟨ds, b1, a1, vs1, rfl, hs1, da1, q⟩ := da_seq dv1 q
        obtain ⟨es, b2, a2, vs2, rfl, hs2, da2, q⟩ := da_seq dv2 q
        obtain ⟨us, b3, a3, vs3, rfl, hs3, da3, q⟩ := da_seq dv3 q
        refine ⟨b1, b2, b3, a1, a2, a3, vs1, vs2, vs3, rfl, sqF_B R2.fin.sub hs1, sqF_B R2.fin.sub hs2, sqF_B R2.fin.sub hs3, hP _ _ F2 ad1 ρ2 g1 _ (e1.trans e2) eg1 R2 ?_ q⟩
        intro f3 F3 ad3 ρ3 g3 σ3 H3 e3 R3
        have hs4 : SqB K H3 b1 a1 vs1 := sqF_B (e3.trans R3.fin.sub) hs1
        have hs5 : SqB K H3 b2 a2 vs2 := sqF_B (e3.trans R3.fin.sub) hs2
        have hs6 : SqB K H3 b3 a3 vs3 := sqF_B (e3.trans R3.fin.sub) hs3
        have l1 := da1.length
        have l2 := da2.length
        have l3 := da3.length
        rw [zipD3_len]
        refine ⟨⟨vs1, vs2, vs3, hs4, hs5, hs6, by rw [l1, l2, l3]⟩, fun i hi => ?_⟩
        have hi1 : i < vs1.length := by omega
        have hi2 : i < vs2.length := by omega
        have hi3 : i < vs3.length := by omega
        refine ⟨⟨vs1, vs2, vs3, vs1[i], vs2[i], vs3[i], hs4, hs5, hs6, by simp [hi1], by simp [hi2], by simp [hi3]⟩, fun x H' y => ?_⟩
        obtain ⟨T, x1, x2, x3, rfl, hT, rfl, hx1, hx2, hx3⟩ := y
        obtain ⟨d1, hd1, dw1⟩ := da1.getV (hx1 vs1 hs4)
        obtain ⟨d2, hd2, dw2⟩ := da2.getV (hx2 vs2 hs5)
        obtain ⟨d3, hd3, dw3⟩ := da3.getV (hx3 vs3 hs6)
        obtain ⟨F4, e4, R4, dt⟩ := wk_tri R3 hT (da_mono e3 dw1) (da_mono e3 dw2) (da_mono e3 dw3)
        exact ⟨F4, _, zipD3_get hd1 hd2 hd3, e4, R4, dt⟩⟩
theorem zipD3_map {α β γ : Type} (f : α → PyData) (g : β → PyData) (h : γ → PyData) : ∀ (xs : List α) (ys : List β) (zs : List γ), zipD3 (xs.map f) (ys.map g) (zs.map h) = (xs.zip (ys.zip zs)).map fun p => .tuple [f p.1, g p.2.1, h p.2.2]
  | [], _, _ => rfl
  | _ :: _, [], _ => rfl
  | _ :: _, _ :: _, [] => rfl
  | x :: xs, y :: ys, z :: zs => by
    have := zipD3_map f g h xs ys zs
    show _ :: zipD3 (xs.map f) (ys.map g) (zs.map h) = _
    rw [this]; rfl
end L3
end
section
/-! L4c: a walk in two parts: plain mathematics. -/
namespace L3
open PySem L2
theorem Pth.split {B : Book} {c : Int} : ∀ {ns ms : List Int} {a : Int}, Pth B a (ns ++ ms) c → ∃ b, Pth B a ns b ∧ Pth B b ms c
  | [], _, a, h => ⟨a, rfl, h⟩
  | _ :: _, _, _, h => by
    obtain ⟨b, h1, h2⟩ := Pth.split h.2.2
    exact ⟨b, ⟨h.1, h.2.1, h1⟩, h2⟩
theorem gsOk_l {B : Book} {ns ms : List Int} (h : GsOk B (ns ++ ms)) : GsOk B ns := fun k hk => h k (List.mem_append_left _ hk)
theorem gsOk_r {B : Book} {ns ms : List Int} (h : GsOk B (ns ++ ms)) : GsOk B ms := fun k hk => h k (List.mem_append_right _ hk)
theorem gainL_app {B : Book} {ns ms : List Int} (h : GsOk B (ns ++ ms)) : gainL B (ns ++ ms) = addL (gainL B ns) (gainL B ms) := by
  have l1 : (gainL B ns).length = B.purses.toNat := gainL_len (gsOk_l h)
  have l2 : (gainL B ms).length = B.purses.toNat := gainL_len (gsOk_r h)
  have l3 : (gainL B (ns ++ ms)).length = B.purses.toNat := gainL_len h
  refine ext_getD (by rw [l3, addL_len l1 l2]) fun p hp => ?_
  rw [l3] at hp
  rw [addL_getD (by omega) (by omega), gainL_getD h hp, gainL_getD (gsOk_l h) hp, gainL_getD (gsOk_r h) hp, colSum_app]
theorem needL_len' {B : Book} {ns : List Int} (h : GsOk B ns) : (needL B ns).length = B.purses.toNat := by rw [needL_due h, dueL_len]
theorem needL_getD {B : Book} {ns : List Int} (h : GsOk B ns) {p : Nat} (hp : p < B.purses.toNat) : (needL B ns).getD p 0 = dueC B p ns := by rw [needL_due h, dueL_getD hp]
theorem need_app {B : Book} {ns ms : List Int} (h : GsOk B (ns ++ ms)) : needL B (ns ++ ms) = ((needL B ns).zip ((needL B ms).zip (gainL B ns))).map fun p => if p.2.1 - p.2.2 > p.1 then p.2.1 - p.2.2 else p.1 := by
  have l0 := needL_len' h
  have l1 := needL_len' (gsOk_l h)
  have l2 := needL_len' (gsOk_r h)
  have l3 : (gainL B ns).length = B.purses.toNat := gainL_len (gsOk_l h)
  refine ext_getD (by rw [List.length_map, List.length_zip, List.length_zip]; omega) fun p hp => ?_
  rw [l0] at hp
  rw [needL_getD h hp, dueC_app]
  have e1 := needL_getD (gsOk_l h) hp
  have e2 := needL_getD (gsOk_r h) hp
  have e3 := gainL_getD (gsOk_l h) hp
  have z : ((needL B ns).zip ((needL B ms).zip (gainL B ns)))[p]? = some ((needL B ns).getD p 0, (needL B ms).getD p 0, (gainL B ns).getD p 0) := by
    rw [List.getElem?_zip_eq_some]
    refine ⟨by simp [List.getD_eq_getElem?_getD, List.getElem?_eq_getElem (show p < (needL B ns).length by omega)], ?_⟩
    rw [List.getElem?_zip_eq_some]
    exact ⟨by simp [List.getD_eq_getElem?_getD, List.getElem?_eq_getElem (show p < (needL B ms).length by omega)], by simp [List.getD_eq_getElem?_getD, List.getElem?_eq_getElem (show p < (gainL B ns).length by omega)]⟩
  rw [List.getD_eq_getElem?_getD, List.getElem?_map, z, e1, e2, e3]
  rfl
theorem ge_refl {n : Nat} {xs : List Int} (h : xs.length = n) : geL xs xs = true := (geL_iff h h).mpr fun _ _ => Int.le_refl _
theorem ge_one {B : Book} {ns ms : List Int} (h : GsOk B (ns ++ ms)) : geL (needL B (ns ++ ms)) (needL B ns) = true := (geL_iff (needL_len' h) (needL_len' (gsOk_l h))).mpr fun p hp => by
  rw [needL_getD h hp, needL_getD (gsOk_l h) hp, dueC_app]
  unfold mx2; split <;> omega
theorem ge_other {B : Book} {ns ms : List Int} (h : GsOk B (ns ++ ms)) : geL (addL (needL B (ns ++ ms)) (gainL B ns)) (needL B ms) = true := by
  have l0 := needL_len' h
  have l3 : (gainL B ns).length = B.purses.toNat := gainL_len (gsOk_l h)
  refine (geL_iff (addL_len l0 l3) (needL_len' (gsOk_r h))).mpr fun p hp => ?_
  rw [addL_getD (by omega) (by omega), needL_getD h hp, needL_getD (gsOk_r h) hp, gainL_getD (gsOk_l h) hp, dueC_app]
  unfold mx2; split <;> omega
theorem addL_assoc {n : Nat} {xs ys zs : List Int} (h1 : xs.length = n) (h2 : ys.length = n) (h3 : zs.length = n) : addL (addL xs ys) zs = addL xs (addL ys zs) := by
  have l1 := addL_len h1 h2
  have l2 := addL_len h2 h3
  refine ext_getD (by rw [addL_len l1 h3, addL_len h1 l2]) fun p hp => ?_
  rw [addL_len l1 h3] at hp
  rw [addL_getD (by omega) (by omega), addL_getD (by omega) (by omega), addL_getD (by omega) (by omega), addL_getD (by omega) (by omega), Int.add_assoc]
theorem addL_zip (xs ys : List Int) : (xs.zip ys).map (fun p => PyData.int (p.1 + p.2)) = (addL xs ys).map PyData.int := by
  rw [addL, List.zip, List.map_zipWith, List.map_zipWith]
end L3
end
section
/-! L4d: things of small make: what repr and the looks ask of them. -/
namespace L3
open PySem L2
structure Nice (n w : Nat) (d : PyData) : Prop where
  sh : d.showable = true
  nd : d.hasDict = false
  dp : d.depth ≤ n
  tx : okTx d = true
  wd : wd d ≤ w
  sm : smD d = true
theorem Nice.mono {n m w v : Nat} {d : PyData} (h : Nice n w d) (k : n ≤ m) (l : w ≤ v) : Nice m v d := ⟨h.sh, h.nd, Nat.le_trans h.dp k, h.tx, Nat.le_trans h.wd l, h.sm⟩
theorem nice_none : Nice 0 4 .none := ⟨rfl, rfl, Nat.le_refl _, rfl, Nat.le_refl _, rfl⟩
theorem nice_bool (b : Bool) : Nice 0 5 (.bool b) := ⟨rfl, rfl, Nat.le_refl _, rfl, Nat.le_refl _, rfl⟩
theorem nice_int {i : Int} (h : i.natAbs.log2 ≤ 400) : Nice 0 403 (.int i) := ⟨by simp [PyData.showable]; omega, rfl, Nat.le_refl _, by rw [okTx]; exact decide_eq_true (by omega), by rw [L3.wd]; omega, rfl⟩
theorem nice_small {i : Int} (h1 : -1000000 ≤ i) (h2 : i ≤ 1000000) : Nice 0 403 (.int i) := nice_int (by
  have : i.natAbs < 2 ^ 20 := by omega
  by_cases z : i.natAbs = 0
  · rw [z]; decide
  · have := (Nat.log2_lt z).mpr this; omega)
theorem Nice.ok {n w : Nat} {d : PyData} (h : Nice n w d) (k : n ≤ 150) (l : w ≤ 16777216) : ShOk d := shOk_of h.sh h.nd (Nat.le_trans h.dp k) h.tx (Nat.le_trans h.wd l)
theorem nices_all {n w : Nat} : ∀ {ds : List PyData}, (∀ d ∈ ds, Nice n w d) → PyData.showableAll ds = true ∧ PyData.hasDictAll ds = false ∧ PyData.depthAll ds ≤ n ∧ okTxs ds = true ∧ wdAll ds ≤ ds.length * (w + 2) ∧ smDs ds = true
  | [], _ => ⟨rfl, rfl, Nat.zero_le _, rfl, Nat.zero_le _, rfl⟩
  | d :: ds, h => by
    have h0 := h d List.mem_cons_self
    obtain ⟨a1, a2, a3, a4, a5, a6⟩ := nices_all (ds := ds) fun x hx => h x (List.mem_cons_of_mem _ hx)
    refine ⟨by rw [PyData.showableAll, h0.sh, a1]; rfl, by rw [PyData.hasDictAll, h0.nd, a2]; rfl, by rw [PyData.depthAll]; exact Nat.max_le.mpr ⟨h0.dp, a3⟩, by rw [okTxs, h0.tx, a4]; rfl, ?_, by rw [smDs, h0.sm, a6]; rfl⟩
    have := h0.wd
    rw [wdAll, List.length_cons, Nat.add_mul]
    omega
theorem nice_tup {n w m : Nat} {ds : List PyData} (h : ∀ d ∈ ds, Nice n w d) (l : ds.length ≤ m) (hm : m ≤ 16777216 := by decide) : Nice (n + 1) (m * (w + 2) + 3) (.tuple ds) := by
  obtain ⟨a1, a2, a3, a4, a5, a6⟩ := nices_all h
  have := Nat.mul_le_mul_right (w + 2) l
  exact ⟨by rw [PyData.showable]; exact a1, by rw [PyData.hasDict]; exact a2, by rw [PyData.depth]; exact Nat.succ_le_succ a3, by rw [okTx]; exact a4, by rw [L3.wd]; omega, by rw [smD, a6, decide_eq_true (Nat.le_trans l hm)]; rfl⟩
theorem nice_list {n w m : Nat} {ds : List PyData} (h : ∀ d ∈ ds, Nice n w d) (l : ds.length ≤ m) (hm : m ≤ 16777216 := by decide) : Nice (n + 1) (m * (w + 2) + 3) (.list ds) := by
  obtain ⟨a1, a2, a3, a4, a5, a6⟩ := nices_all h
  have := Nat.mul_le_mul_right (w + 2) l
  exact ⟨by rw [PyData.showable]; exact a1, by rw [PyData.hasDict]; exact a2, by rw [PyData.depth]; exact Nat.succ_le_succ a3, by rw [okTx]; exact a4, by rw [L3.wd]; omega, by rw [smD, a6, decide_eq_true (Nat.le_trans l hm)]; rfl⟩
theorem wdAll_len : ∀ ds : List PyData, 2 * ds.length ≤ wdAll ds
  | [] => Nat.le_refl _
  | d :: ds => by
    have := wdAll_len ds
    rw [wdAll, List.length_cons]; omega
theorem Nice.len1 {n w : Nat} {a : PyData} {ns : List PyData} (h : Nice n w (.tuple [a, .tuple ns])) : 2 * ns.length ≤ w := by
  have h1 := h.wd
  have h2 := wdAll_len ns
  simp only [L3.wd, wdAll] at h1
  omega
/-- how wide a drawn thing may be -/
def wA : Nat → Nat
  | 0 => 500
  | n + 1 => 3 * (wA n + 2) + 3
theorem wA_ge : ∀ n, 500 ≤ wA n
  | 0 => Nat.le_refl _
  | n + 1 => by have := wA_ge n; unfold wA; omega
theorem nice_str (x : Str) (h : okTx (.str x) = true) (l : x.length ≤ 20) : Nice 0 202 (.str x) := ⟨rfl, rfl, Nat.le_refl _, h, by rw [L3.wd]; omega, rfl⟩
theorem bigA_le {i : Int} (h0 : 0 ≤ i) (h : i < 1000000000000000000000000000000000000000000000000000000000000000000000000) : bigA i = true := by
  obtain ⟨n, rfl⟩ := Int.eq_ofNat_of_zero_le h0
  show Nat.ble (n + 1) _ = true
  rw [Nat.ble_eq]
  omega
theorem mul_big {i j : Int} (h0 : 0 ≤ i) (h : i < 1000000000000000000000000000000000000000000000000000000000000000000000000) (k0 : 0 ≤ j) (k : j < 1000000000000000000000000000000000000000000000000000000000000000000000000) : MulOk i j := mulG_of (by
  unfold mulG
  split
  · rfl
  · rw [bigA_le k0 k]
    exact bigA_le h0 h)
theorem log_le {i : Int} (h0 : 0 ≤ i) (h : i < 2 ^ 400) : i.natAbs.log2 ≤ 400 := by
  by_cases z : i.natAbs = 0
  · rw [z]; decide
  · have := (Nat.log2_lt z).mpr (show i.natAbs < 2 ^ 400 by omega); omega
theorem drawn_big {r : Int} (h0 : 0 ≤ r) (h : r < 10 ^ Int.toNat 17) : MulOk r (10 ^ Int.toNat 43) ∧ MulOk (r * 10 ^ Int.toNat 43) (10 ^ Int.toNat 40) ∧ 0 ≤ r * 10 ^ Int.toNat 43 * 10 ^ Int.toNat 40 ∧ (r * 10 ^ Int.toNat 43 * 10 ^ Int.toNat 40).natAbs.log2 ≤ 400 := by
  rw [show (10 : Int) ^ Int.toNat 17 = 100000000000000000 from by decide +kernel] at h
  rw [show (10 : Int) ^ Int.toNat 43 = 10000000000000000000000000000000000000000000 from by decide +kernel, show (10 : Int) ^ Int.toNat 40 = 10000000000000000000000000000000000000000 from by decide +kernel]
  refine ⟨mul_big h0 (by omega) (by decide) (by decide), mul_big (by omega) (by omega) (by decide) (by decide), by omega, log_le (by omega) (by omega)⟩
theorem eqv_st (x : Str) : PyData.eqv (.str x) (.str x) = true := by simp [PyData.eqv]
def putDs (ds : List PyData) (at_ : Int) (w : PyData) : List PyData := L3.cutD ds none (some at_) ++ [w] ++ L3.cutD ds (some (at_ + 1)) none
theorem cutD_sub {ds : List PyData} {lo hi : Option Int} {d : PyData} (h : d ∈ L3.cutD ds lo hi) : d ∈ ds := by
  unfold L3.cutD at h
  exact List.mem_of_mem_drop (List.mem_of_mem_take h)
theorem cutD_le (ds : List PyData) (lo hi : Option Int) : (L3.cutD ds lo hi).length ≤ ds.length := by
  unfold L3.cutD
  rw [List.length_take, List.length_drop]
  omega
theorem putDs_mem {ds : List PyData} {i : Int} {w d : PyData} (h : d ∈ putDs ds i w) : d ∈ ds ∨ d = w := by
  unfold putDs at h
  rcases List.mem_append.mp h with h | h
  · rcases List.mem_append.mp h with h | h
    · exact .inl (cutD_sub h)
    · exact .inr (List.mem_singleton.mp h)
  · exact .inl (cutD_sub h)
theorem putDs_len (ds : List PyData) (i : Int) (w : PyData) : (putDs ds i w).length ≤ 2 * ds.length + 1 := by
  unfold putDs
  have h1 := cutD_le ds none (some i)
  have h2 := cutD_le ds (some (i + 1)) none
  rw [List.length_append, List.length_append, List.length_singleton]
  omega
theorem wdAll_app : ∀ xs ys : List PyData, wdAll (xs ++ ys) = wdAll xs + wdAll ys
  | [], ys => by rw [List.nil_append, wdAll, Nat.zero_add]
  | x :: xs, ys => by rw [List.cons_append, wdAll, wdAll, wdAll_app xs ys]; omega
theorem wdAll_sub {xs ys : List PyData} (h : xs.Sublist ys) : wdAll xs ≤ wdAll ys := by
  induction h with
  | slnil => exact Nat.le_refl _
  | cons a _ ih => rw [wdAll]; omega
  | cons_cons a _ ih => rw [wdAll, wdAll]; omega
theorem cutD_subl (ds : List PyData) (lo hi : Option Int) : (L3.cutD ds lo hi).Sublist ds := by
  unfold L3.cutD
  exact (List.take_sublist _ _).trans (List.drop_sublist _ _)
theorem wdAll_put (ds : List PyData) (i : Int) (w : PyData) : wdAll (putDs ds i w) ≤ 2 * wdAll ds + L3.wd w + 2 := by
  have h1 := wdAll_sub (cutD_subl ds none (some i))
  have h2 := wdAll_sub (cutD_subl ds (some (i + 1)) none)
  unfold putDs
  rw [wdAll_app, wdAll_app]
  simp only [wdAll]
  omega
theorem nice_tupW {n v W : Nat} {ds : List PyData} (h : ∀ d ∈ ds, Nice n v d) (l : ds.length ≤ 16777216) (hW : wdAll ds ≤ W) : Nice (n + 1) (W + 3) (.tuple ds) := by
  have k := nice_tup (m := ds.length) h (Nat.le_refl _) l
  exact ⟨k.sh, k.nd, k.dp, k.tx, by rw [L3.wd]; omega, k.sm⟩
theorem nice_listW {n v W : Nat} {ds : List PyData} (h : ∀ d ∈ ds, Nice n v d) (l : ds.length ≤ 16777216) (hW : wdAll ds ≤ W) : Nice (n + 1) (W + 3) (.list ds) := by
  have k := nice_list (m := ds.length) h (Nat.le_refl _) l
  exact ⟨k.sh, k.nd, k.dp, k.tx, by rw [L3.wd]; omega, k.sm⟩
theorem nice_putW {n v W u : Nat} {ds : List PyData} {w : PyData} (i : Int) (h : ∀ d ∈ ds, Nice n v d) (hw : Nice n u w) (l : ds.length ≤ 1000) (hW : wdAll ds ≤ W) : Nice (n + 1) (2 * W + u + 5) (.tuple (putDs ds i w)) := by
  have h1 := wdAll_put ds i w
  have h2 := hw.wd
  have h3 := putDs_len ds i w
  exact (nice_tupW (n := n) (v := max v u) (W := 2 * W + u + 2) (fun d hd => by
    rcases putDs_mem hd with hd | rfl
    · exact (h d hd).mono (Nat.le_refl _) (Nat.le_max_left _ _)
    · exact hw.mono (Nat.le_refl _) (Nat.le_max_right _ _)) (by omega) (by omega))
theorem nice_tiny {i : Int} (h1 : -127 ≤ i) (h2 : i ≤ 127) : Nice 0 9 (.int i) := by
  have hl : i.natAbs.log2 ≤ 6 := by
    by_cases z : i.natAbs = 0
    · rw [z]; decide
    · have := (Nat.log2_lt z).mpr (show i.natAbs < 2 ^ 7 by omega); omega
  have k := nice_int (i := i) (by omega)
  exact ⟨k.sh, k.nd, k.dp, k.tx, by rw [L3.wd]; omega, k.sm⟩
end L3
end
section
/-! L4e: jar["most"], put and read. -/
namespace L3
open PySem L2
variable {K : PySem.W.Frag} {X : Cx} {W : WXH} {U : UX JG}
abbrev ZJw (K : PySem.W.Frag) (W : WXH) (U : UX JG) : Zx K JG := (ZJ K).wish W U
def dMsPut (i : Nat) (a : DT JG) : DS JG := fun D ρ g => a ρ g fun r1 ρ1 g1 => rsK ρ1[i]? (iiU (fun v => D.nx ρ1 { g1 with most := some v }) (rd r1 ρ1))
def dMsGet (i : Nat) : DT JG := fun ρ g Q => rsK ρ[i]? (match g.most with
  | some v => Q (.dt (.int v)) ρ g
  | none => False)
theorem sim_msput {i : Nat} {ta : TE} {a : DT JG} (ha : Sim (ZJw K W U) ta a) : SimS (ZJw K W U) (sDPut (tVar i) (tC (.str "most")) ta) (dMsPut i a) := fun f F ad ρ g σ H D R h D2 le => by
  refine ha f F ad ρ g σ H _ R h _ fun x H1 q => ?_
  obtain ⟨F1, ad1, ρ1, g1, r1, e1, eg1, R1, v1, q⟩ := q
  obtain ⟨hi, q⟩ := rsK_e q
  obtain ⟨v, ev, q⟩ := iiU_of q
  have hs : σ[i]? = some (some (.ref g1.a)) := R1.slot i _ hi
  cases R1.rInt v1 ev
  have hres : JR g1 H1 := R1.fin.res
  obtain ⟨cells, r, s, t, hJ⟩ := hres
  have hp : DPut H1 g1.a (.str "most") (.int v) (upd H1 g1.a (.dK (jarKv (some v) g1.b r s t))) := by
    have := DPut.k (k := kMs) (v := .int v) hJ.1 (jar_len _)
    have e : putK (jarKv g1.most g1.b r s t) kMs (.int v) = jarKv (some v) g1.b r s t := by cases g1.most <;> rfl
    rw [e] at this
    exact this
  have hR : JR { g1 with most := some v } (upd H1 g1.a (.dK (jarKv (some v) g1.b r s t))) := ⟨cells, r, s, t, upd_same, by rw [upd_ne hJ.2.2.symm]; exact hJ.2.1, hJ.2.2⟩
  refine ⟨_, hs, g1.a, _, rfl, hp, ?_⟩
  exact le.nx F1 ad1 ρ1 { g1 with most := some v } σ _ (show (ZJw K W U).ra _ = _ from eg1) (Rel.upR (Z := ZJw K W U) (g' := ({ g1 with most := some v } : JG)) (o := .dK (jarKv (some v) g1.b r s t)) R1 (a := g1.a) (show g1.a ∈ [g1.a, g1.b] from List.mem_cons_self) rfl rfl (show JR _ _ from hR)) q
theorem sim_msget {i : Nat} : Sim (ZJw K W U) (tDGet (tVar i) (tC (.str "most"))) (dMsGet i) := fun f F ad ρ g σ H Q R q P hP => by
  obtain ⟨hi, q⟩ := rsK_e q
  have hs : σ[i]? = some (some (.ref g.a)) := R.slot i _ hi
  have hres : JR g H := R.fin.res
  obtain ⟨cells, r, s, t, hJ⟩ := hres
  cases em : g.most with
  | none => rw [em] at q; exact q.elim
  | some v =>
    rw [em] at q
    have hg : DGet H g.a (.str "most") (some (.int v)) := by
      have := DGet.k (k := kMs) hJ.1
      rw [em] at this
      exact this
    exact ⟨_, hs, g.a, _, rfl, hg, hP _ _ (R.dat (.int v) q)⟩
section
variable {e : Expr} {te : TE} {a : DT JG} {x : Str} {px ps pk pos : Pos} {jj : Nat}
theorem s_msput (hu : X.A.units + 64 < cLine) (i : Nat) (he : DE X (ZJw K W U) e te a) (hN : X.N[i]? = some x := by rfl)
    (hv : Vis X.env.scope x := by first | exact Or.inl rfl | exact Or.inr (Or.inl rfl) | exact Or.inr (Or.inr rfl)) (hd : (x == ("__debug__" : Str)) = false := by decide) (hcd : (x == ("__classdict__" : Str)) = false := by decide)
    (hs : swapsWith e (some (.Subscript (.Name x px) (.Constant (.str "most") jj pk) ps)) pos.line X.env = pure false := by rfl) :
    DSt X (ZJw K W U) (.Assign [.Subscript (.Name x px) (.Constant (.str "most") jj pk) ps] e pos) (sDPut (tVar i) (tC (.str "most")) te) (dMsPut i a) :=
  ⟨ps_dput (by omega) (pe_var hN hv hd hcd) pe_str he.pe hs, sim_msput he.sim⟩
theorem e_msget (hu : X.A.units + 64 < cLine) (i : Nat) (hN : X.N[i]? = some x := by rfl)
    (hv : Vis X.env.scope x := by first | exact Or.inl rfl | exact Or.inr (Or.inl rfl) | exact Or.inr (Or.inr rfl)) (hd : (x == ("__debug__" : Str)) = false := by decide) (hcd : (x == ("__classdict__" : Str)) = false := by decide) :
    DE X (ZJw K W U) (.Subscript (.Name x px) (.Constant (.str "most") jj pk) pos) (tDGet (tVar i) (tC (.str "most"))) (dMsGet i) :=
  ⟨pe_dget (by omega) (pe_var hN hv hd hcd) pe_str (fun _ _ => rfl), sim_msget⟩
end
end L3
end
section
/-! L4f: gains and needs of a walk gone often: plain mathematics. -/
namespace L3
open PySem L2
/-- gain and need in one purse of two walks, one behind the other -/
def bhP (f g : Int × Int) : Int × Int := (f.1 + g.1, mx2 f.2 (g.2 - f.1))
theorem bhP_assoc (f g h : Int × Int) : bhP (bhP f g) h = bhP f (bhP g h) := by
  unfold bhP mx2
  refine Prod.ext (Int.add_assoc _ _ _) ?_
  dsimp only
  (repeat' split) <;> omega
/-- one walk n times, n at least 1 -/
def clP (f : Int × Int) (n : Int) : Int × Int := (n * f.1, mx2 f.2 (f.2 - (n - 1) * f.1))
theorem clP_one (f : Int × Int) : clP f 1 = f := by
  unfold clP mx2
  refine Prod.ext (Int.one_mul _) ?_
  dsimp only
  rw [Int.sub_self, Int.zero_mul]
  split <;> omega
theorem mul_sign {n G : Int} (h : 1 ≤ n) : (0 ≤ G → G ≤ n * G) ∧ (G ≤ 0 → n * G ≤ G) := by
  obtain ⟨m, rfl⟩ : ∃ m : Nat, n = 1 + m := ⟨(n - 1).toNat, by omega⟩
  rw [Int.add_mul, Int.one_mul]
  refine ⟨fun hg => ?_, fun hg => ?_⟩
  · have := Int.mul_nonneg (Int.natCast_nonneg m) hg; omega
  · have := Int.mul_nonneg (Int.natCast_nonneg m) (show 0 ≤ -G by omega)
    rw [Int.mul_neg] at this; omega
theorem clP_add (f : Int × Int) {m n : Int} (hm : 1 ≤ m) (hn : 1 ≤ n) : bhP (clP f m) (clP f n) = clP f (m + n) := by
  obtain ⟨G, N⟩ := f
  obtain ⟨a1, a2⟩ := mul_sign (G := G) hm
  obtain ⟨b1, b2⟩ := mul_sign (G := G) hn
  have e1 : (m - 1) * G = m * G - G := by rw [Int.sub_mul, Int.one_mul]
  have e2 : (n - 1) * G = n * G - G := by rw [Int.sub_mul, Int.one_mul]
  have e3 : (m + n - 1) * G = m * G + n * G - G := by rw [Int.sub_mul, Int.add_mul, Int.one_mul]
  unfold bhP clP
  refine Prod.ext (by dsimp only; rw [Int.add_mul]) ?_
  dsimp only
  rw [e1, e2, e3]
  generalize m * G = A at *
  generalize n * G = B at *
  unfold mx2
  rcases Int.le_total 0 G with h | h
  · have := a1 h
    have := b1 h
    split <;> split <;> split <;> split <;> omega
  · have := a2 h
    have := b2 h
    split <;> split <;> split <;> split <;> omega
/-- gains and needs in all purses -/
def bhL (f g : List Int × List Int) : List Int × List Int := (addL f.1 g.1, (f.2.zip (g.2.zip f.1)).map fun p => mx2 p.1 (p.2.1 - p.2.2))
def clL (f : List Int × List Int) (n : Int) : List Int × List Int := (f.1.map fun x => n * x, (f.2.zip f.1).map fun p => mx2 p.1 (p.1 - (n - 1) * p.2))
theorem clL_one : ∀ {gs ns : List Int}, gs.length = ns.length → clL (gs, ns) 1 = (gs, ns)
  | [], [], _ => rfl
  | g :: gs, n :: ns, h => by
    have ih := clL_one (gs := gs) (ns := ns) (by simpa using h)
    have e := clP_one (g, n)
    unfold clL at ih ⊢
    simp only [List.map_cons, List.zip_cons_cons] at ih ⊢
    unfold clP at e
    injection ih with i1 i2
    injection e with e1 e2
    rw [i1, i2, e1, e2]
  | [], _ :: _, h => by cases h
  | _ :: _, [], h => by cases h
theorem clL_add {m n : Int} (hm : 1 ≤ m) (hn : 1 ≤ n) : ∀ {gs ns : List Int}, gs.length = ns.length → bhL (clL (gs, ns) m) (clL (gs, ns) n) = clL (gs, ns) (m + n)
  | [], [], _ => rfl
  | g :: gs, x :: ns, h => by
    have ih := clL_add hm hn (gs := gs) (ns := ns) (by simpa using h)
    have e := clP_add (g, x) hm hn
    unfold clL bhL addL at ih ⊢
    simp only [List.map_cons, List.zip_cons_cons, List.zipWith_cons_cons] at ih ⊢
    unfold clP bhP at e
    injection ih with i1 i2
    injection e with e1 e2
    rw [i1, i2]
    dsimp only at e1 e2
    rw [e1, e2]
  | [], _ :: _, h => by cases h
  | _ :: _, [], h => by cases h
end L3
namespace L3
open PySem L2
/-- what a law tells of a told walk: length, first and last room, gain, need -/
structure Fa where
  l : Int
  a : Int
  b : Int
  gs : List Int
  ns : List Int
def Fa.d (f : Fa) : PyData := .tuple [.int f.l, .int f.a, .int f.b, .tuple (f.gs.map PyData.int), .tuple (f.ns.map PyData.int)]
def bhF (f g : Fa) : Fa := ⟨f.l + g.l, f.a, g.b, (bhL (f.gs, f.ns) (g.gs, g.ns)).1, (bhL (f.gs, f.ns) (g.gs, g.ns)).2⟩
def oftF (f : Fa) (n : Int) : Fa := ⟨n * f.l, f.a, f.b, (clL (f.gs, f.ns) n).1, (clL (f.gs, f.ns) n).2⟩
theorem oftF_one {f : Fa} (h : f.gs.length = f.ns.length) : oftF f 1 = f := by
  unfold oftF
  rw [clL_one h, Int.one_mul]
theorem oftF_add {f : Fa} (h : f.gs.length = f.ns.length) {m n : Int} (hm : 1 ≤ m) (hn : 1 ≤ n) : bhF (oftF f m) (oftF f n) = oftF f (m + n) := by
  unfold bhF oftF
  dsimp only
  have e := clL_add hm hn h
  rw [show ((clL (f.gs, f.ns) m).1, (clL (f.gs, f.ns) m).2) = clL (f.gs, f.ns) m from rfl, show ((clL (f.gs, f.ns) n).1, (clL (f.gs, f.ns) n).2) = clL (f.gs, f.ns) n from rfl, e, Int.add_mul]
theorem oftF_len {f : Fa} {n : Int} (h : f.gs.length = f.ns.length) : (oftF f n).gs.length = f.gs.length ∧ (oftF f n).ns.length = f.gs.length := by
  unfold oftF clL
  simp [h]
theorem half_odd {p n : Int} (h : n % 2 = 1) : p * n = (p + p) * (n / 2) + p := by
  have e : n = 2 * (n / 2) + 1 := by omega
  generalize n / 2 = k at e ⊢
  subst e
  rw [Int.mul_add, Int.mul_one, Int.add_mul, ← Int.mul_assoc, Int.mul_comm p 2, Int.mul_assoc]
  omega
theorem half_even {p n : Int} (h : n % 2 = 0) : p * n = (p + p) * (n / 2) := by
  have e : n = 2 * (n / 2) := by omega
  generalize n / 2 = k at e ⊢
  subst e
  rw [Int.add_mul, ← Int.mul_assoc, Int.mul_comm p 2, Int.mul_assoc]
  omega
end L3
end
section
/-! L4g: told walks. -/
namespace L3
open PySem L2
inductive Tw where
  | way (k : Int)
  | row (ps : List Tw)
  | times (n : Int) (t : Tw)
mutual
def Tw.d : Tw → PyData
  | .way k => .tuple [.str "way", .int k]
  | .row ps => .tuple [.str "row", .tuple (Tw.ds ps)]
  | .times n t => .tuple [.str "times", .int n, t.d]
def Tw.ds : List Tw → List PyData
  | [] => []
  | t :: r => t.d :: Tw.ds r
end
theorem Tw.ds_map : ∀ ps : List Tw, Tw.ds ps = ps.map Tw.d
  | [] => rfl
  | t :: r => by rw [Tw.ds, Tw.ds_map r]; rfl
def mx0 (x : Int) : Int := mx2 0 (0 - x)
mutual
def Tw.fa (B : Book) : Tw → Fa
  | .way k => ⟨1, (wAt B k).a, (wAt B k).b, (wAt B k).gs, (wAt B k).gs.map mx0⟩
  | .row ps => Tw.fas B ps
  | .times n t => oftF (t.fa B) n
def Tw.fas (B : Book) : List Tw → Fa
  | [] => ⟨0, 0, 0, [], []⟩
  | t :: r => Tw.fol B (t.fa B) r
def Tw.fol (B : Book) (acc : Fa) : List Tw → Fa
  | [] => acc
  | t :: r => Tw.fol B (bhF acc (t.fa B)) r
end
theorem Tw.fol_fold (B : Book) : ∀ (ps : List Tw) (acc : Fa), Tw.fol B acc ps = ps.foldl (fun f t => bhF f (t.fa B)) acc
  | [], acc => by rw [Tw.fol]; rfl
  | t :: r, acc => by rw [Tw.fol, Tw.fol_fold B r]; rfl
/-- a told walk of a book, to a depth, its counts below a bound -/
def OkT (B : Book) (most : Int) : Nat → Tw → Prop
  | _, .way k => inW B k = true
  | 0, _ => False
  | n + 1, .row ps => ps ≠ [] ∧ ps.length ≤ 10000 ∧ ∀ p ∈ ps, OkT B most n p
  | n + 1, .times c t => (1 ≤ c ∧ c ≤ most) ∧ OkT B most n t
theorem OkT.up {B : Book} {most : Int} : ∀ {n : Nat} {t : Tw}, OkT B most n t → OkT B most (n + 1) t
  | 0, .way k, h => h
  | _ + 1, .way k, h => h
  | 0, .row _, h => h.elim
  | 0, .times _ _, h => h.elim
  | n + 1, .row ps, h => ⟨h.1, h.2.1, fun p hp => (h.2.2 p hp).up⟩
  | n + 1, .times c t, h => ⟨h.1, h.2.up⟩
theorem bits_le {i : Int} {a : Nat} (h : i.natAbs < 2 ^ a) : Builtin.Int.intBits i ≤ a := by
  unfold Builtin.Int.intBits
  split
  · exact Nat.zero_le _
  · rename_i z
    have hz : i.natAbs ≠ 0 := fun e => z (by have : i = 0 := by omega
                                             subst this; rfl)
    have := (Nat.log2_lt hz).mpr h
    omega
theorem mul_bits {i j : Int} {a b : Nat} (hi : i.natAbs < 2 ^ a) (hj : j.natAbs < 2 ^ b) (h : a + b ≤ 134217728) : MulOk i j := .inr (by
  have h1 := bits_le hi
  have h2 := bits_le hj
  unfold CMulX
  omega)
/-- how long the told walk is -/
theorem fas_l (B : Book) : ∀ (ps : List Tw) (acc : Fa), (Tw.fol B acc ps).l = acc.l + (ps.map fun t => (t.fa B).l).sum
  | [], acc => by rw [Tw.fol]; simp
  | t :: r, acc => by
    rw [Tw.fol, fas_l B r, List.map_cons, List.sum_cons]
    show acc.l + (t.fa B).l + _ = _
    omega
theorem row_l (B : Book) (ps : List Tw) : (Tw.fa B (.row ps)).l = (ps.map fun t => (t.fa B).l).sum := by
  rw [Tw.fa]
  cases ps with
  | nil => rfl
  | cons t r => rw [Tw.fas, fas_l, List.map_cons, List.sum_cons]
theorem sum_bound {M : Int} : ∀ xs : List Int, (∀ x ∈ xs, 0 ≤ x ∧ x ≤ M) → 0 ≤ xs.sum ∧ xs.sum ≤ xs.length * M
  | [], _ => ⟨by simp, by simp⟩
  | x :: xs, h => by
    have h0 := h x List.mem_cons_self
    obtain ⟨h1, h2⟩ := sum_bound xs fun y hy => h y (List.mem_cons_of_mem _ hy)
    rw [List.sum_cons, List.length_cons]
    push_cast
    rw [Int.add_mul, Int.one_mul]
    omega
/-- bounds of lengths -/
def lenM (most : Int) : Nat → Int
  | 0 => 1
  | n + 1 => (10000 + most) * lenM most n
theorem lenM_pos {most : Int} (h : 0 ≤ most) : ∀ n, 1 ≤ lenM most n
  | 0 => Int.le_refl _
  | n + 1 => by
    have := lenM_pos h n
    show 1 ≤ (10000 + most) * lenM most n
    have := Int.mul_le_mul (show (1 : Int) ≤ 10000 + most by omega) this (by decide) (by omega)
    omega
theorem len_bound {B : Book} {most : Int} (hm : 0 ≤ most) : ∀ {n : Nat} {t : Tw}, OkT B most n t → 0 ≤ (t.fa B).l ∧ (t.fa B).l ≤ lenM most n
  | n, .way k, _ => by
    have := lenM_pos hm n
    rw [Tw.fa]
    exact ⟨(by decide : (0 : Int) ≤ 1), this⟩
  | 0, .row _, h => h.elim
  | 0, .times _ _, h => h.elim
  | n + 1, .row ps, h => by
    have hp := lenM_pos hm n
    obtain ⟨a, b⟩ := sum_bound (M := lenM most n) (ps.map fun t => (t.fa B).l) fun x hx => by
      obtain ⟨t, ht, rfl⟩ := List.mem_map.mp hx
      exact len_bound hm (h.2.2 t ht)
    rw [row_l]
    refine ⟨a, Int.le_trans b ?_⟩
    rw [List.length_map]
    show _ ≤ (10000 + most) * lenM most n
    exact Int.mul_le_mul_of_nonneg_right (by have := h.2.1; omega) (by omega)
  | n + 1, .times c t, h => by
    obtain ⟨a, b⟩ := len_bound hm h.2
    have hc := h.1
    rw [Tw.fa]
    show 0 ≤ c * (t.fa B).l ∧ c * (t.fa B).l ≤ (10000 + most) * lenM most n
    exact ⟨Int.mul_nonneg (by omega) a, Int.mul_le_mul (by omega) b a (by omega)⟩
theorem lenM_bits : ∀ n : Nat, lenM (2 ^ 400) n < 2 ^ (401 * n + 1)
  | 0 => by decide
  | n + 1 => by
    have h := lenM_bits n
    have p := lenM_pos (most := 2 ^ 400) (by decide) n
    show (10000 + 2 ^ 400) * lenM (2 ^ 400) n < 2 ^ (401 * (n + 1) + 1)
    rw [show 401 * (n + 1) + 1 = 401 + (401 * n + 1) by omega, Int.pow_add]
    exact Int.lt_of_le_of_lt (Int.mul_le_mul_of_nonneg_right (show (10000 + 2 ^ 400 : Int) ≤ 2 ^ 401 by decide +kernel) (by omega)) (Int.mul_lt_mul_of_pos_left h (by decide +kernel))
theorem nat_pow {x : Int} {a : Nat} (h0 : 0 ≤ x) (h : x < 2 ^ a) : x.natAbs < 2 ^ a := by
  have e : ((2 ^ a : Nat) : Int) = (2 : Int) ^ a := by push_cast; rfl
  omega
theorem fol_a (B : Book) : ∀ (ps : List Tw) (acc : Fa), (Tw.fol B acc ps).a = acc.a
  | [], acc => by rw [Tw.fol]
  | t :: r, acc => by rw [Tw.fol, fol_a B r]; rfl
theorem fol_b (B : Book) : ∀ (ps : List Tw) (acc : Fa) (h : ps ≠ []), (Tw.fol B acc ps).b = ((ps.getLast h).fa B).b
  | [t], acc, _ => by rw [Tw.fol, Tw.fol]; rfl
  | t :: u :: r, acc, _ => by
    rw [Tw.fol, fol_b B (u :: r) _ (by simp)]
    rfl
theorem row_ab (B : Book) (ps : List Tw) (h : ps ≠ []) : (Tw.fa B (.row ps)).a = ((ps.head h).fa B).a ∧ (Tw.fa B (.row ps)).b = ((ps.getLast h).fa B).b := by
  rw [Tw.fa]
  cases ps with
  | nil => exact absurd rfl h
  | cons t r =>
    rw [Tw.fas]
    refine ⟨fol_a B r _, ?_⟩
    cases r with
    | nil => rw [Tw.fol]; rfl
    | cons u r =>
      rw [fol_b B (u :: r) _ (by simp)]
      rfl
theorem atI_head {α β : Type} (f : α → β) {xs : List α} (h : xs ≠ []) : atI (xs.map f) 0 = some (f (xs.head h)) := by
  cases xs with
  | nil => exact absurd rfl h
  | cons x r => exact atI_nat (j := 0) rfl
theorem atI_lastM {α β : Type} (f : α → β) {xs : List α} (h : xs ≠ []) : atI (xs.map f) (-1) = some (f (xs.getLast h)) := by
  have e : xs.map f = xs.dropLast.map f ++ [f (xs.getLast h)] := by
    rw [← List.map_singleton, ← List.map_append, List.dropLast_concat_getLast]
  rw [e]
  exact atI_last _ _
/-! ### needs are at least 0; as many gains and needs as purses -/
structure FaOk (n : Nat) (f : Fa) : Prop where
  g : f.gs.length = n
  l : f.ns.length = n
  p : ∀ x ∈ f.ns, 0 ≤ x
theorem mx2_le (a b : Int) : a ≤ mx2 a b := by unfold mx2; split <;> omega
theorem bhF_ok {n : Nat} {e f : Fa} (h : FaOk n e) (k : FaOk n f) : FaOk n (bhF e f) := by
  refine ⟨addL_len h.g k.g, ?_, fun x hx => ?_⟩
  · unfold bhF bhL
    dsimp only
    rw [List.length_map, List.length_zip, List.length_zip, h.l, k.l, h.g]
    omega
  · unfold bhF bhL at hx
    obtain ⟨p, hp, rfl⟩ := List.mem_map.mp hx
    exact Int.le_trans (h.p _ (List.of_mem_zip hp).1) (mx2_le _ _)
theorem oftF_ok {n : Nat} {f : Fa} (h : FaOk n f) (c : Int) : FaOk n (oftF f c) := by
  refine ⟨?_, ?_, fun x hx => ?_⟩
  · unfold oftF clL; dsimp only; rw [List.length_map]; exact h.g
  · unfold oftF clL
    dsimp only
    rw [List.length_map, List.length_zip, h.l, h.g]
    omega
  · unfold oftF clL at hx
    obtain ⟨p, hp, rfl⟩ := List.mem_map.mp hx
    exact Int.le_trans (h.p _ (List.of_mem_zip hp).1) (mx2_le _ _)
theorem fol_ok {n : Nat} (B : Book) : ∀ (ps : List Tw) (acc : Fa), FaOk n acc → (∀ p ∈ ps, FaOk n (p.fa B)) → FaOk n (Tw.fol B acc ps)
  | [], acc, h, _ => by rw [Tw.fol]; exact h
  | t :: r, acc, h, k => by
    rw [Tw.fol]
    exact fol_ok B r _ (bhF_ok h (k t List.mem_cons_self)) fun p hp => k p (List.mem_cons_of_mem _ hp)
theorem fa_ok {B : Book} {most : Int} {k : Nat} (hB : ∀ w ∈ B.ways, w.gs.length = k) : ∀ {n : Nat} {t : Tw}, OkT B most n t → FaOk k (t.fa B)
  | 0, .way j, h => by
    rw [Tw.fa]
    refine ⟨hB _ (wAt_mem h), by rw [List.length_map]; exact hB _ (wAt_mem h), fun x hx => ?_⟩
    obtain ⟨y, _, rfl⟩ := List.mem_map.mp hx
    exact mx2_le 0 _
  | n + 1, .way j, h => by
    rw [Tw.fa]
    refine ⟨hB _ (wAt_mem h), by rw [List.length_map]; exact hB _ (wAt_mem h), fun x hx => ?_⟩
    obtain ⟨y, _, rfl⟩ := List.mem_map.mp hx
    exact mx2_le 0 _
  | 0, .row _, h => h.elim
  | 0, .times _ _, h => h.elim
  | n + 1, .row ps, h => by
    obtain ⟨hne, _, hp⟩ := h
    rw [Tw.fa]
    cases ps with
    | nil => exact absurd rfl hne
    | cons t r =>
      rw [Tw.fas]
      exact fol_ok B r _ (fa_ok hB (hp t List.mem_cons_self)) fun p hq => fa_ok hB (hp p (List.mem_cons_of_mem _ hq))
  | n + 1, .times c t, h => by
    rw [Tw.fa]
    exact oftF_ok (fa_ok hB h.2) c
/-! ### a row's gain and need, from noughts -/
def gnL (B : Book) (n : Nat) (ps : List Tw) : List Int × List Int := ps.foldl (fun s t => bhL s ((t.fa B).gs, (t.fa B).ns)) (List.replicate n 0, List.replicate n 0)
theorem gnL_push (B : Book) (n : Nat) (ps : List Tw) (t : Tw) : gnL B n (ps ++ [t]) = bhL (gnL B n ps) ((t.fa B).gs, (t.fa B).ns) := by
  unfold gnL
  rw [List.foldl_append]; rfl
theorem fol_gn (B : Book) : ∀ (ps : List Tw) (acc : Fa), ((Tw.fol B acc ps).gs, (Tw.fol B acc ps).ns) = ps.foldl (fun s t => bhL s ((t.fa B).gs, (t.fa B).ns)) (acc.gs, acc.ns)
  | [], acc => by rw [Tw.fol]; rfl
  | t :: r, acc => by
    rw [Tw.fol, fol_gn B r, List.foldl_cons]
    rfl
theorem bhL_zero : ∀ {gs ns : List Int}, gs.length = ns.length → (∀ x ∈ ns, 0 ≤ x) → bhL (List.replicate gs.length 0, List.replicate gs.length 0) (gs, ns) = (gs, ns)
  | [], [], _, _ => rfl
  | g :: gs, x :: ns, h, k => by
    have ih := bhL_zero (gs := gs) (ns := ns) (by simpa using h) fun y hy => k y (List.mem_cons_of_mem _ hy)
    have k0 := k x List.mem_cons_self
    unfold bhL addL at ih ⊢
    rw [List.length_cons, List.replicate_succ]
    simp only [List.map_cons, List.zip_cons_cons, List.zipWith_cons_cons] at ih ⊢
    injection ih with i1 i2
    rw [i1, i2, Int.zero_add, show mx2 0 (x - 0) = x from by unfold mx2; split <;> omega]
  | [], _ :: _, h, _ => by cases h
  | _ :: _, [], h, _ => by cases h
theorem gnL_row {B : Book} {n : Nat} {ps : List Tw} (h : ps ≠ []) (k : ∀ p ∈ ps, FaOk n (p.fa B)) : gnL B n ps = ((Tw.fa B (.row ps)).gs, (Tw.fa B (.row ps)).ns) := by
  cases ps with
  | nil => exact absurd rfl h
  | cons t r =>
    have f := k t List.mem_cons_self
    rw [Tw.fa, Tw.fas, fol_gn]
    unfold gnL
    rw [List.foldl_cons]
    have e := bhL_zero (gs := (t.fa B).gs) (ns := (t.fa B).ns) (by rw [f.g, f.l]) f.p
    rw [f.g] at e
    rw [e]
/-- gains are no greater than the length allows -/
theorem gnL_len {B : Book} {n : Nat} : ∀ {ps : List Tw}, (∀ p ∈ ps, FaOk n (p.fa B)) → (gnL B n ps).1.length = n ∧ (gnL B n ps).2.length = n := by
  intro ps h
  cases ps with
  | nil => simp [gnL]
  | cons t r =>
    rw [gnL_row (by simp) h]
    have : FaOk n (Tw.fa B (.row (t :: r))) := by
      rw [Tw.fa, Tw.fas]
      exact fol_ok B r _ (h t List.mem_cons_self) fun p hp => h p (List.mem_cons_of_mem _ hp)
    exact ⟨this.g, this.l⟩
def GB (f : Fa) : Prop := 0 ≤ f.l ∧ ∀ x ∈ f.gs, -(99 * f.l) ≤ x ∧ x ≤ 99 * f.l
theorem addL_mem {xs ys : List Int} {z : Int} (h : z ∈ addL xs ys) : ∃ x ∈ xs, ∃ y ∈ ys, z = x + y := by
  unfold addL at h
  obtain ⟨i, hi, rfl⟩ := List.mem_iff_getElem.mp h
  rw [List.length_zipWith] at hi
  exact ⟨xs[i], List.getElem_mem _, ys[i], List.getElem_mem _, by rw [List.getElem_zipWith]⟩
theorem bhF_gb {e f : Fa} (h : GB e) (k : GB f) : GB (bhF e f) := by
  refine ⟨by show 0 ≤ e.l + f.l; have := h.1; have := k.1; omega, fun x hx => ?_⟩
  obtain ⟨a, ha, b, hb, rfl⟩ := addL_mem hx
  have h1 := h.2 a ha
  have h2 := k.2 b hb
  show -(99 * (e.l + f.l)) ≤ a + b ∧ a + b ≤ 99 * (e.l + f.l)
  omega
theorem oftF_gb {f : Fa} {c : Int} (hc : 0 ≤ c) (h : GB f) : GB (oftF f c) := by
  refine ⟨Int.mul_nonneg hc h.1, fun x hx => ?_⟩
  have hx : x ∈ f.gs.map fun y => c * y := hx
  obtain ⟨y, hy, rfl⟩ := List.mem_map.mp hx
  obtain ⟨h1, h2⟩ := h.2 y hy
  have a := Int.mul_le_mul_of_nonneg_left h1 hc
  have b := Int.mul_le_mul_of_nonneg_left h2 hc
  show -(99 * (c * f.l)) ≤ c * y ∧ c * y ≤ 99 * (c * f.l)
  rw [Int.mul_neg, Int.mul_left_comm] at a
  rw [Int.mul_left_comm] at b
  exact ⟨a, b⟩
theorem fol_gb (B : Book) : ∀ (ps : List Tw) (acc : Fa), GB acc → (∀ p ∈ ps, GB (p.fa B)) → GB (Tw.fol B acc ps)
  | [], acc, h, _ => by rw [Tw.fol]; exact h
  | t :: r, acc, h, k => by
    rw [Tw.fol]
    exact fol_gb B r _ (bhF_gb h (k t List.mem_cons_self)) fun p hp => k p (List.mem_cons_of_mem _ hp)
theorem fa_gb {B : Book} {most : Int} (hB : ∀ w ∈ B.ways, ∀ x ∈ w.gs, -99 ≤ x ∧ x ≤ 99) : ∀ {n : Nat} {t : Tw}, OkT B most n t → GB (t.fa B)
  | 0, .way j, h => by
    rw [Tw.fa]
    exact ⟨(by decide : (0 : Int) ≤ 1), fun x hx => by have := hB _ (wAt_mem h) x hx; show -(99 * 1) ≤ x ∧ x ≤ 99 * 1; omega⟩
  | n + 1, .way j, h => by
    rw [Tw.fa]
    exact ⟨(by decide : (0 : Int) ≤ 1), fun x hx => by have := hB _ (wAt_mem h) x hx; show -(99 * 1) ≤ x ∧ x ≤ 99 * 1; omega⟩
  | 0, .row _, h => h.elim
  | 0, .times _ _, h => h.elim
  | n + 1, .row ps, h => by
    obtain ⟨hne, _, hp⟩ := h
    rw [Tw.fa]
    cases ps with
    | nil => exact absurd rfl hne
    | cons t r =>
      rw [Tw.fas]
      exact fol_gb B r _ (fa_gb hB (hp t List.mem_cons_self)) fun p hq => fa_gb hB (hp p (List.mem_cons_of_mem _ hq))
  | n + 1, .times c t, h => by
    rw [Tw.fa]
    exact oftF_gb (by have := h.1; omega) (fa_gb hB h.2)
/-- a gain's size, for products with a count -/
theorem gain_bits {B : Book} {n : Nat} {t : Tw} (hB : ∀ w ∈ B.ways, ∀ x ∈ w.gs, -99 ≤ x ∧ x ≤ 99) (h : OkT B (2 ^ 400) n t) {x : Int} (hx : x ∈ (t.fa B).gs) : x.natAbs < 2 ^ (401 * n + 8) := by
  obtain ⟨a, b⟩ := (fa_gb hB h).2 x hx
  obtain ⟨c, d⟩ := len_bound (most := 2 ^ 400) (by decide) h
  have e := lenM_bits n
  have f : (2 : Int) ^ (401 * n + 8) = 2 ^ (401 * n + 1) * 128 := by rw [show 401 * n + 8 = (401 * n + 1) + 7 by omega, Int.pow_add]; rfl
  have g : ((2 ^ (401 * n + 8) : Nat) : Int) = (2 : Int) ^ (401 * n + 8) := by push_cast; rfl
  omega
theorem zip_self2 {β γ : Type} (φ : Int × Int → Int) (ψ : Int × Int → γ) : ∀ ns gs : List Int, (ns.zip ((ns.zip gs).map φ)).map ψ = (ns.zip gs).map fun p => ψ (p.1, φ p)
  | [], _ => rfl
  | _ :: _, [] => rfl
  | n :: ns, g :: gs => by
    have := zip_self2 (β := β) φ ψ ns gs
    simp only [List.zip_cons_cons, List.map_cons]
    rw [this]
end L3
end
section
/-! L4h: told walks that lead on. -/
namespace L3
open PySem L2
/-- any number of figures up to nine thousand bits may be drawn from -/
theorem log_pow {m : Int} {a : Nat} (h0 : 0 < m) (h1 : m < 2 ^ a) (ha : a ≤ 9000) : m.natAbs.log2 < 9000 := by
  have h2 : m.natAbs < 2 ^ a := nat_pow (by omega) h1
  have h3 : m.natAbs.log2 < a := by
    rw [Nat.log2_lt (by omega)]
    exact h2
  omega
theorem pk_big {i m : Int} {p : Prop} (h0 : 0 < m) (h1 : m < 2 ^ 400) (hp : p) : dvK i m p := dvK_of ⟨h0, log_pow h0 h1 (by decide)⟩ hp
def WsIn (B : Book) : Prop := ∀ k, inW B k = true → (0 ≤ (wAt B k).a ∧ (wAt B k).a < B.rooms) ∧ 0 ≤ (wAt B k).b ∧ (wAt B k).b < B.rooms
theorem wsIn_ok {B : Book} {mr mw : Int} (h : B.Ok mr mw) : WsIn B := fun k hk => by
  have w := h.w _ (wAt_mem hk)
  exact ⟨⟨w.a0, w.a1⟩, w.b0, w.b1⟩
theorem OkT.mono {B : Book} {most : Int} {t : Tw} {n m : Nat} (h : OkT B most n t) (le : n ≤ m) : OkT B most m t := by
  obtain ⟨d, rfl⟩ := Nat.exists_eq_add_of_le le
  clear le
  induction d with
  | zero => exact h
  | succ d ih => exact ih.up
theorem OkT.more {B : Book} {most mo2 : Int} (le : most ≤ mo2) : ∀ {n : Nat} {t : Tw}, OkT B most n t → OkT B mo2 n t
  | 0, .way k, h => h
  | _ + 1, .way k, h => h
  | 0, .row _, h => h.elim
  | 0, .times _ _, h => h.elim
  | n + 1, .row ps, h => ⟨h.1, h.2.1, fun p hp => (h.2.2 p hp).more le⟩
  | n + 1, .times c t, h => ⟨⟨h.1.1, Int.le_trans h.1.2 le⟩, h.2.more le⟩
mutual
/-- a told walk leads from a room to a room -/
def ChT (B : Book) : Tw → Int → Int → Prop
  | .way k, a, b => inW B k = true ∧ (wAt B k).a = a ∧ (wAt B k).b = b
  | .row ps, a, b => ps ≠ [] ∧ ChTs B ps a b
  | .times n t, a, b => ChT B t a b ∧ (n = 1 ∨ a = b)
def ChTs (B : Book) : List Tw → Int → Int → Prop
  | [], a, b => a = b
  | t :: r, a, b => ∃ c, ChT B t a c ∧ ChTs B r c b
end
theorem ChTs.app {B : Book} {b c : Int} : ∀ {ps qs : List Tw} {a : Int}, ChTs B ps a b → ChTs B qs b c → ChTs B (ps ++ qs) a c
  | [], qs, a, h, k => by rw [ChTs] at h; subst h; exact k
  | t :: r, qs, a, h, k => by
    rw [ChTs] at h
    obtain ⟨d, h1, h2⟩ := h
    rw [List.cons_append, ChTs]
    exact ⟨d, h1, h2.app k⟩
theorem chTs_one {B : Book} {t : Tw} {a b : Int} (h : ChT B t a b) : ChTs B [t] a b := by
  rw [ChTs]
  exact ⟨b, h, by rw [ChTs]⟩
theorem chTs_path {B : Book} {b : Int} : ∀ {ns : List Int} {a : Int}, Pth B a ns b → ChTs B (ns.map Tw.way) a b
  | [], a, h => by rw [List.map_nil, ChTs]; exact h
  | k :: r, a, h => by
    rw [List.map_cons, ChTs]
    exact ⟨(wAt B k).b, by rw [ChT]; exact ⟨h.1, h.2.1, rfl⟩, chTs_path h.2.2⟩
mutual
theorem ChT.ab {B : Book} : ∀ {t : Tw} {a b : Int}, ChT B t a b → (t.fa B).a = a ∧ (t.fa B).b = b
  | .way k, a, b, h => by
    rw [ChT] at h
    rw [Tw.fa]
    exact ⟨h.2.1, h.2.2⟩
  | .row ps, a, b, h => by
    rw [ChT] at h
    rw [Tw.fa]
    obtain ⟨h0, h⟩ := h
    cases ps with
    | nil => exact absurd rfl h0
    | cons t r =>
      rw [ChTs] at h
      obtain ⟨c, h1, h2⟩ := h
      obtain ⟨e1, e2⟩ := h1.ab
      rw [Tw.fas]
      exact ⟨(fol_a B r _).trans e1, h2.fb e2⟩
  | .times n t, a, b, h => by
    rw [ChT] at h
    rw [Tw.fa]
    exact h.1.ab
theorem ChTs.fb {B : Book} : ∀ {ps : List Tw} {a b : Int} {acc : Fa}, ChTs B ps a b → acc.b = a → (Tw.fol B acc ps).b = b
  | [], a, b, acc, h, e => by rw [ChTs] at h; rw [Tw.fol, e, h]
  | t :: r, a, b, acc, h, e => by
    rw [ChTs] at h
    obtain ⟨c, h1, h2⟩ := h
    rw [Tw.fol]
    exact h2.fb (acc := bhF acc (t.fa B)) h1.ab.2
end
/-- how long a drawn told walk can be -/
def tlen (rooms most : Int) : Nat → Int
  | 0 => 1
  | d + 1 => (most + 3) * (tlen rooms most d + rooms)
theorem tlen_pos {rooms most : Int} (hr : 0 ≤ rooms) (hm : 0 ≤ most) : ∀ d, 1 ≤ tlen rooms most d
  | 0 => Int.le_refl _
  | d + 1 => by
    have h := tlen_pos hr hm d
    show 1 ≤ (most + 3) * (tlen rooms most d + rooms)
    have := Int.mul_le_mul (show (1 : Int) ≤ most + 3 by omega) (show (1 : Int) ≤ tlen rooms most d + rooms by omega) (by decide) (by omega)
    omega
theorem tlen_up {rooms most : Int} (hr : 0 ≤ rooms) (hm : 0 ≤ most) (d : Nat) {x : Int} (h : x ≤ tlen rooms most d) : x ≤ tlen rooms most (d + 1) := by
  have h0 := tlen_pos hr hm d
  show x ≤ (most + 3) * (tlen rooms most d + rooms)
  have := Int.mul_le_mul_of_nonneg_right (show (1 : Int) ≤ most + 3 by omega) (show 0 ≤ tlen rooms most d + rooms by omega)
  omega
theorem tlen_row {B : Book} {most : Int} {d : Nat} {ps : List Tw} (hr : 0 ≤ B.rooms) (hm : 1 ≤ most) (h3 : ps.length ≤ 4) (h0 : ∀ p ∈ ps, 0 ≤ (p.fa B).l ∧ (p.fa B).l ≤ tlen B.rooms most d) : (Tw.fa B (.row ps)).l ≤ tlen B.rooms most (d + 1) := by
  have hp := tlen_pos (rooms := B.rooms) (most := most) hr (by omega) d
  rw [row_l]
  obtain ⟨_, s⟩ := sum_bound (M := tlen B.rooms most d) (ps.map fun t => (t.fa B).l) fun x hx => by
    obtain ⟨t, ht, rfl⟩ := List.mem_map.mp hx
    exact h0 t ht
  rw [List.length_map] at s
  refine Int.le_trans s ?_
  show _ ≤ (most + 3) * (tlen B.rooms most d + B.rooms)
  exact Int.mul_le_mul (by omega) (by omega) (by omega) (by omega)
theorem tlen_times {rooms most l c : Int} {d : Nat} (hr : 0 ≤ rooms) (hc : 0 ≤ c) (hcm : c ≤ most) (h0 : 0 ≤ l) (h : l ≤ tlen rooms most d + rooms) : c * l ≤ tlen rooms most (d + 1) := by
  show c * l ≤ (most + 3) * (tlen rooms most d + rooms)
  have hp := tlen_pos (rooms := rooms) (most := most) hr (by omega) d
  exact Int.mul_le_mul (by omega) h h0 (by omega)
theorem ways_l (B : Book) : ∀ ns : List Int, ((ns.map Tw.way).map fun t => (t.fa B).l).sum = (ns.length : Int)
  | [] => rfl
  | k :: r => by
    rw [List.map_cons, List.map_cons, List.sum_cons, ways_l B r, List.length_cons, Tw.fa]
    push_cast
    show 1 + _ = _
    omega
theorem ways_ds (ns : List Int) : ns.map (fun k => PyData.tuple [.str "way", .int k]) = Tw.ds (ns.map Tw.way) := by
  rw [Tw.ds_map, List.map_map]
  rfl
theorem Tw.d_tup : ∀ t : Tw, ∃ ds, t.d = .tuple ds
  | .way k => ⟨_, by rw [Tw.d]⟩
  | .row ps => ⟨_, by rw [Tw.d]⟩
  | .times c t => ⟨_, by rw [Tw.d]⟩
end L3
end
section
/-! L3t: the tape, a list that is drawn from; so many draws may still be made. -/
namespace L3
open PySem L2
structure TPg where
  a : Addr
  b : Addr
  left : Nat
/-- with so many draws left -/
def TPg.w (g : TPg) (n : Nat) : TPg := ⟨g.a, g.b, n⟩
def TAt (ta cl : Addr) (cells : List Int) (at_ rest : Int) (H : Hp) : Prop := H ta = some (.lst [.ref cl, .int at_, .int rest]) ∧ H cl = some (.lst (cells.map V.int)) ∧ ta ≠ cl
def TR (g : TPg) (H : Hp) : Prop := ∃ cells at_ rest, TAt g.a g.b cells at_ rest H ∧ 0 ≤ at_ ∧ at_ + g.left ≤ 2 ^ 60
def ZT (K : PySem.W.Frag) : Zx K TPg where
  fp g := [g.a, g.b]
  ra g _ := g.a
  R g _ H := TR g H
  loc := fun {g F F' H H'} ⟨cells, s, t, ⟨h1, h2, h3⟩, h4⟩ _ e => ⟨cells, s, t, ⟨(e g.a (by simp)).trans h1, (e g.b (by simp)).trans h2, h3⟩, h4⟩
  there := fun {g F H} ⟨cells, s, t, ⟨h1, h2, h3⟩, _⟩ a ha => by
    simp at ha
    rcases ha with rfl | rfl
    · rw [h1]; intro z; cases z
    · rw [h2]; intro z; cases z
section
variable {ta cl : Addr} {cells : List Int} {s t : Int} {H H' : Hp}
theorem TAt.keep (j : TAt ta cl cells s t H) (e : ∀ b o, H b = some o → H' b = some o) : TAt ta cl cells s t H' := ⟨e _ _ j.1, e _ _ j.2.1, j.2.2⟩
theorem TAt.put {s' t' : Int} (j : TAt ta cl cells s t H) : TAt ta cl cells s' t' (upd H ta (.lst [.ref cl, .int s', .int t'])) := ⟨upd_same, by rw [upd_ne j.2.2.symm]; exact j.2.1, j.2.2⟩
end
theorem JF.frmT {K : PySem.W.Frag} {F : Hp} {g : TPg} {n : Nat} {H H' : Hp} (h : JF g.a g.b H H') (e1 : Ex F H) (e2 : ∀ a ∈ (ZT K).fp g, F a = none) (hR : TR (g.w n) H') : Frm (ZT K) F H g F H' (g.w n) := ⟨Evl.Ex.refl F, fun b o e hn => h.keep b o e (fun z => hn (by rw [z]; exact List.mem_cons_self)) (fun z => hn (by rw [z]; exact List.mem_cons_of_mem _ List.mem_cons_self)), h.keepN, fun b o e => .inl e,
  fun b o e => h.keep b o (e1 b o e) (fun z => by rw [z, e2 g.a List.mem_cons_self] at e; cases e) (fun z => by rw [z, e2 g.b (List.mem_cons_of_mem _ List.mem_cons_self)] at e; cases e), hR, e2, fun a ha => .inl ha⟩
/-- a draw: anything below many -/
def S__law_draw : Spec TPg := fun as g T U => match as with
  | [.rs 0, .dt (.int m)] => 1 ≤ g.left ∧ dvK 0 m (∀ r : Int, 0 ≤ r → r < m → T (.dt (.int r)) (g.w (g.left - 1)))
  | _ => False
/-- the tape is made -/
def spTape (K : PySem.W.Frag) : Sp := fun vs H Q _ => ∃ (a : Addr) (ns : List Int), vs = [.ref a] ∧ SqL K H a (ns.map V.int) ∧
  ∀ (H' : Hp) (g : TPg), (∀ b o, H b = some o → H' b = some o) → H g.a = none → H g.b = none → TR g H' → g.left = 1000000000000000 → Q (.ref g.a) H'
theorem law_simT {K : PySem.W.Frag} {ts : TS} {t : DS TPg} {N : List Str} {j : Nat} {a : Addr} {ns : List Int} {H : Hp} {Q : VK} (hd : SimS ((ZT K).wish (fun _ _ _ _ => False) Un) ts t) (hS : SqL K H a (ns.map V.int)) (hq : ∀ H', Q (.bl true) H') (hj : j < N.length)
    (hN : 0 < N.length) (hb : ∀ g : TPg, g.left = 1000000000000000 → t (lawD TPg) (lawE N j) g) : tSeq (tAsg (tCallE (spTape K) [] (fun _ => E0) (tCons (tVar 0) tNil)) (gName j)) ts { nx := fun _ H' => Q .non H', rt := Q } (L2.start N [.ref a]) H := by
  have h0 : (L2.start N [.ref a])[0]? = some (some (.ref a)) := by
    unfold L2.start
    rfl
  have hl : (L2.start N [.ref a]).length = N.length := by
    unfold L2.start
    rw [List.length_append, List.length_map, List.length_replicate]
    show 1 + (N.length - 1) = N.length
    omega
  refine ⟨.ref a, h0, a, ns, rfl, hS, fun H' g e n1 n2 hJ hle => ?_⟩
  refine hd ⟨H', fun _ => none, (ZT K).fp g⟩ (fun _ => none) (fun _ => 0) (lawE N j) g _ H' (lawD TPg) (law_rel (Z := (ZT K).wish (fun _ _ _ _ => False) Un) hJ (by rw [List.length_set, hl]) (by rw [List.getElem?_set_self (by rw [hl]; exact hj)]; rfl) fun _ _ _ _ z => z) (hb g hle) _ ⟨fun _ _ _ _ _ _ _ _ z => z.elim, fun F' g' H2 v r _ _ hv hT => ?_, fun _ _ _ _ _ _ _ _ z => z.elim, fun _ _ _ _ _ _ _ _ z => z.elim⟩
  cases (show r = .dt (.bool true) from hT)
  cases (show Da K F' v (.bool true) from hv)
  exact hq H2
theorem TPg.ww {g : TPg} {n m : Nat} : (g.w n).w m = g.w m := rfl
theorem TPg.self {g : TPg} : g.w g.left = g := rfl
/-- a comprehension whose elements are drawn -/
theorem lc_allG {G : Type} {items : List PyData} {tg : DG G} {c : DB G} {e : DT G} {vs : List Nat} {ρ0 ρ1 : En} {g0 : G} {Q : Rs → En → G → Prop} (p : Nat → PyData → Prop) (J : Nat → G → Prop) (h0 : J 0 g0) (hw : wipeE ρ1 vs = ρ0 := by rfl)
    (hs : ∀ (k : Nat) (d : PyData) (g : G), items[k]? = some d → J k g → ∀ (C1 : PyData → En → G → Prop) (C0 : En → G → Prop), (∀ d' g', p k d' → J (k + 1) g' → C1 d' ρ0 g') →
      tg d ρ0 g fun ρ2 g2 => c ρ2 g2 fun b ρ3 g3 => ifb b (e ρ3 g3 fun r ρ4 g4 => fz1 r ρ4 fun d' ρ5 => C1 d' (wipeE ρ5 vs) g4) (C0 (wipeE ρ3 vs) g3))
    (hQ : ∀ (acc : List PyData) (g : G), acc.length = items.length → (∀ k d', acc[k]? = some d' → p k d') → J items.length g → Q (.nl acc) ρ0 g) (hU : unAll ρ0 vs := by first | exact ⟨rfl, trivial⟩ | exact ⟨rfl, rfl, trivial⟩ | exact ⟨rfl, rfl, rfl, trivial⟩) :
    LcP items tg c e vs ρ1 g0 Q := by
  subst hw
  refine ⟨⟨fun k acc ρ' g' => (acc.length = k ∧ ∀ j d', acc[j]? = some d' → p j d') ∧ ρ' = wipeE ρ1 vs ∧ J k g', ⟨⟨rfl, fun j d' e => by simp at e⟩, rfl, h0⟩, fun k d acc ρ' g' hd hI => ?_, fun acc ρ' g' hI => ?_⟩⟩
  · obtain ⟨⟨hl, hp⟩, rfl, hJ⟩ := hI
    refine hs k d g' hd hJ (fun d' ρ' g'' => ((acc ++ [d']).length = k + 1 ∧ ∀ j x, (acc ++ [d'])[j]? = some x → p j x) ∧ ρ' = wipeE ρ1 vs ∧ J (k + 1) g'') (fun ρ' g'' => (acc.length = k + 1 ∧ ∀ j d', acc[j]? = some d' → p j d') ∧ ρ' = wipeE ρ1 vs ∧ J (k + 1) g'') fun d' g2 hd' hJ2 => ⟨⟨by simp [hl], fun j x e => ?_⟩, rfl, hJ2⟩
    by_cases hj : j < acc.length
    · rw [List.getElem?_append_left hj] at e
      exact hp j x e
    · have hj2 : j = acc.length := by
        have := (List.getElem?_eq_some_iff.mp e).1
        simp at this
        omega
      subst hj2
      simp at e
      subst e
      rw [hl]; exact hd'
  · obtain ⟨⟨hl, hp⟩, rfl, hJ⟩ := hI
    exact ⟨hU, hQ acc g' hl hp (by first | exact hJ | (rw [← hl]; exact hJ))⟩
/-- [h x for x in L if a draw says so] -/
theorem lc_subG {G : Type} {α : Type} {L : List α} {h : α → PyData} {tg : DG G} {c : DB G} {e : DT G} {vs : List Nat} {ρ0 ρ1 : En} {g0 : G} {Q : Rs → En → G → Prop} (φ : α → PyData) (J : Nat → G → Prop) (h0 : J 0 g0) (hw : wipeE ρ1 vs = ρ0 := by rfl)
    (hs : ∀ (k : Nat) (p : α), L[k]? = some p → ∀ g, J k g → ∀ (C1 : PyData → En → G → Prop) (C0 : En → G → Prop), (∀ g', J (k + 1) g' → C1 (φ p) ρ0 g') → (∀ g', J (k + 1) g' → C0 ρ0 g') →
      tg (h p) ρ0 g fun ρ2 g2 => c ρ2 g2 fun b ρ3 g3 => ifb b (e ρ3 g3 fun r ρ4 g4 => fz1 r ρ4 fun d' ρ5 => C1 d' (wipeE ρ5 vs) g4) (C0 (wipeE ρ3 vs) g3))
    (hQ : ∀ (S : List α) (g : G), S.Sublist L → J L.length g → Q (.nl (S.map φ)) ρ0 g) (hU : unAll ρ0 vs := by first | exact ⟨rfl, trivial⟩ | exact ⟨rfl, rfl, trivial⟩ | exact ⟨rfl, rfl, rfl, trivial⟩) : LcP (L.map h) tg c e vs ρ1 g0 Q := by
  subst hw
  refine ⟨⟨fun k acc ρ' g' => (∃ S : List α, S.Sublist (L.take k) ∧ acc = S.map φ) ∧ ρ' = wipeE ρ1 vs ∧ J k g', ⟨⟨[], List.nil_sublist _, rfl⟩, rfl, h0⟩, fun k d acc ρ' g' hd hI => ?_, fun acc ρ' g' hI => ?_⟩⟩
  · obtain ⟨⟨S, hS, rfl⟩, rfl, hJ⟩ := hI
    rw [List.getElem?_map] at hd
    obtain ⟨p, hp, rfl⟩ := Option.map_eq_some_iff.mp hd
    have et : L.take (k + 1) = L.take k ++ [p] := by rw [List.take_add_one, hp]; rfl
    refine hs k p hp g' hJ (fun d' ρ' g'' => (∃ S2 : List α, S2.Sublist (L.take (k + 1)) ∧ S.map φ ++ [d'] = S2.map φ) ∧ ρ' = wipeE ρ1 vs ∧ J (k + 1) g'') (fun ρ' g'' => (∃ S2 : List α, S2.Sublist (L.take (k + 1)) ∧ S.map φ = S2.map φ) ∧ ρ' = wipeE ρ1 vs ∧ J (k + 1) g'') (fun g2 hJ2 => ⟨⟨S ++ [p], ?_, by rw [List.map_append]; rfl⟩, rfl, hJ2⟩) (fun g2 hJ2 => ⟨⟨S, ?_, rfl⟩, rfl, hJ2⟩)
    · rw [et]; exact hS.append (List.Sublist.refl _)
    · rw [et]; exact hS.trans (List.sublist_append_left _ _)
  · obtain ⟨⟨S, hS, rfl⟩, rfl, hJ⟩ := hI
    rw [List.length_map] at hJ
    rw [List.length_map, List.take_length] at hS
    exact ⟨hU, hQ S g' hS hJ⟩
end L3
end
section
/-! L4i: the tape laws' plain mathematics. -/
namespace L3
open PySem L2
/-- the ways out of a room -/
def outW (B : Book) (r : Int) : List Int := ((List.range B.ways.length).filter fun (k : Nat) => decide ((wAt B (k : Int)).a = r)).map fun (k : Nat) => (k : Int)
theorem outW_mem {B : Book} {r k : Int} : k ∈ outW B r ↔ inW B k = true ∧ (wAt B k).a = r := by
  unfold outW
  simp only [List.mem_map, List.mem_filter, List.mem_range, decide_eq_true_eq]
  constructor
  · rintro ⟨n, ⟨h1, h2⟩, rfl⟩
    exact ⟨by simp [inW]; exact h1, h2⟩
  · rintro ⟨h1, h2⟩
    simp [inW] at h1
    obtain ⟨n, rfl⟩ := Int.eq_ofNat_of_zero_le h1.1
    exact ⟨n, ⟨by omega, h2⟩, rfl⟩
theorem outW_len (B : Book) (r : Int) : (outW B r).length ≤ B.ways.length := by
  unfold outW
  rw [List.length_map]
  exact Nat.le_trans (List.length_filter_le _ _) (by simp)
theorem outW_at {B : Book} {r x : Int} (h0 : 0 ≤ x) (h1 : x < (outW B r).length) : ∃ k, atI ((outW B r).map PyData.int) x = some (.int k) ∧ inW B k = true ∧ (wAt B k).a = r := by
  obtain ⟨z, hz, ez⟩ := atI_int (zs := outW B r) h0 h1
  exact ⟨z, ez, outW_mem.mp hz⟩
theorem wAt_nat {B : Book} {k : Nat} (h : k < B.ways.length) : inW B (k : Int) = true := by simp [inW]; exact h
theorem shaped_tw (ns : List Int) : SeqAt.shaped (.list (ns.map fun k => PyData.tuple [.str "way", .int k])) = true := by
  unfold SeqAt.shaped
  rw [Bool.and_eq_true]
  refine ⟨?_, ?_⟩
  · rw [PyData.canLay0]
    refine canLayAll_of fun d hd => ?_
    obtain ⟨w, _, rfl⟩ := List.mem_map.mp hd
    rw [PyData.canLay0]
    simp [PyData.canLayAll0, PyData.canLay0]
    decide +kernel
  · rw [PyData.depth]
    have : PyData.depthAll (ns.map fun k => PyData.tuple [.str "way", .int k]) ≤ 1 := depthAll_of fun d hd => by
      obtain ⟨w, _, rfl⟩ := List.mem_map.mp hd
      rw [PyData.depth]
      simp [PyData.depthAll, PyData.depth]
    exact decide_eq_true (by omega)
theorem nice_way {k : Int} (h0 : 0 ≤ k) (h1 : k < 1000) : Nice 1 813 (.tuple [.str "way", .int k]) := nice_tup (n := 0) (w := 403) (m := 2) (fun d hd => by
  simp at hd
  rcases hd with rfl | rfl
  · exact (nice_str "way" (by decide +kernel) (by decide +kernel)).mono (by decide) (by decide)
  · exact nice_small (by omega) (by omega)) (Nat.le_refl _)
theorem nice_row {n w : Nat} {ds : List PyData} (h : Nice (n + 1) w (.tuple ds)) (hw : 202 ≤ w) : Nice (n + 2) (2 * (w + 2) + 3) (.tuple [.str "row", .tuple ds]) := nice_tup (n := n + 1) (w := w) (m := 2) (fun d hd => by
  simp at hd
  rcases hd with rfl | rfl
  · exact (nice_str "row" (by decide +kernel) (by decide +kernel)).mono (by omega) hw
  · exact h) (Nat.le_refl _)
theorem nice_times {n w : Nat} {c : Int} {d : PyData} (hc : 0 ≤ c) (hc2 : c ≤ 2 ^ 400) (h : Nice n w d) (hw : 403 ≤ w) : Nice (n + 1) (3 * (w + 2) + 3) (.tuple [.str "times", .int c, d]) := nice_tup (n := n) (w := w) (m := 3) (fun x hx => by
  simp at hx
  rcases hx with rfl | rfl | rfl
  · exact (nice_str "times" (by decide +kernel) (by decide +kernel)).mono (by omega) (by omega)
  · exact (nice_int (by
      by_cases z : c.natAbs = 0
      · rw [z]; decide
      · have := (Nat.log2_lt z).mpr (show c.natAbs < 2 ^ 401 by omega); omega)).mono (by omega) (by omega)
  · exact h) (Nat.le_refl _)
theorem nice_ways {ns : List Int} (hl : ns.length ≤ 4) (h : ∀ k ∈ ns, 0 ≤ k ∧ k < 1000) : Nice 3 6533 (.tuple [.str "row", .tuple (ns.map fun k => .tuple [.str "way", .int k])]) :=
  nice_row (n := 1) (w := 3263) (nice_tup (n := 1) (w := 813) (m := 4) (fun d hd => by
    obtain ⟨k, hk, rfl⟩ := List.mem_map.mp hd
    exact nice_way (h k hk).1 (h k hk).2) (by rw [List.length_map]; exact hl)) (by decide)
theorem five_pos : ∀ k : Nat, 1 ≤ 5 ^ k
  | 0 => Nat.le_refl _
  | k + 1 => by have := five_pos k; rw [Nat.pow_succ]; omega
mutual
theorem Tw.lay : ∀ t : Tw, t.d.canLay0 = true
  | .way k => by
    rw [Tw.d, PyData.canLay0]
    simp [PyData.canLayAll0, PyData.canLay0]
    decide +kernel
  | .row ps => by
    rw [Tw.d, PyData.canLay0]
    simp [PyData.canLayAll0, PyData.canLay0]
    exact ⟨by decide +kernel, Tw.lays ps⟩
  | .times c t => by
    rw [Tw.d, PyData.canLay0]
    simp [PyData.canLayAll0, PyData.canLay0]
    exact ⟨by decide +kernel, Tw.lay t⟩
theorem Tw.lays : ∀ ps : List Tw, PyData.canLayAll0 (Tw.ds ps) = true
  | [] => by rw [Tw.ds]; rfl
  | t :: r => by
    rw [Tw.ds, PyData.canLayAll0, Tw.lay t, Tw.lays r]; rfl
end
end L3
namespace L3
open PySem L2
/-- facts that lead on, one behind the other -/
def chB : Int → List Fa → Prop
  | _, [] => True
  | b, g :: r => g.a = b ∧ chB g.b r
theorem chTs_chB {B : Book} {b : Int} : ∀ {ps : List Tw} {a : Int}, ChTs B ps a b → chB a (ps.map fun t => t.fa B)
  | [], _, _ => trivial
  | t :: r, a, h => by
    rw [ChTs] at h
    obtain ⟨c, h1, h2⟩ := h
    obtain ⟨e1, e2⟩ := h1.ab
    have := chTs_chB h2
    rw [← e2] at this
    exact ⟨e1, this⟩
theorem chTs_mem {B : Book} {b : Int} : ∀ {ps : List Tw} {a : Int}, ChTs B ps a b → ∀ p ∈ ps, ∃ x y, ChT B p x y
  | t :: r, a, h, p, hp => by
    rw [ChTs] at h
    obtain ⟨c, h1, h2⟩ := h
    rcases List.mem_cons.mp hp with rfl | hp
    · exact ⟨a, c, h1⟩
    · exact chTs_mem h2 p hp
theorem fas_row (B : Book) (t : Tw) (r : List Tw) : Tw.fa B (.row (t :: r)) = (r.map fun t => t.fa B).foldl bhF (t.fa B) := by
  rw [Tw.fa, Tw.fas, Tw.fol_fold, List.foldl_map]
theorem shaped_fas (fs : List Fa) : SeqAt.shaped (.list (fs.map Fa.d)) = true := by
  unfold SeqAt.shaped
  rw [Bool.and_eq_true]
  refine ⟨?_, ?_⟩
  · rw [PyData.canLay0]
    refine canLayAll_of fun d hd => ?_
    obtain ⟨w, _, rfl⟩ := List.mem_map.mp hd
    unfold Fa.d
    rw [PyData.canLay0]
    simp [PyData.canLayAll0, PyData.canLay0, canLay_ints]
  · rw [PyData.depth]
    have : PyData.depthAll (fs.map Fa.d) ≤ 2 := depthAll_of fun d hd => by
      obtain ⟨w, _, rfl⟩ := List.mem_map.mp hd
      unfold Fa.d
      rw [PyData.depth]
      simp [PyData.depthAll, PyData.depth, depth_ints]
    exact decide_eq_true (by omega)
theorem fas_none (fs : List Fa) : ((fs.map Fa.d).any fun z => PyData.eqv z .none) = false := by
  rw [List.any_eq_false]
  intro x hx
  obtain ⟨w, _, rfl⟩ := List.mem_map.mp hx
  unfold Fa.d
  simp [PyData.eqv]
def whD : PyData → Bool
  | .int _ => true
  | _ => false
end L3
namespace L3
open PySem L2
theorem ds_depth {n : Nat} : ∀ {ps : List Tw}, (∀ p ∈ ps, p.d.depth ≤ n) → PyData.depthAll (Tw.ds ps) ≤ n := by
  intro ps h
  rw [Tw.ds_map]
  exact depthAll_of fun d hd => by
    obtain ⟨p, hp, rfl⟩ := List.mem_map.mp hd
    exact h p hp
theorem OkT.depth {B : Book} {most : Int} : ∀ {n : Nat} {t : Tw}, OkT B most n t → t.d.depth ≤ 2 * n + 1
  | n, .way k, _ => by
    rw [Tw.d, PyData.depth]
    simp [PyData.depthAll, PyData.depth]
  | 0, .row _, h => h.elim
  | 0, .times _ _, h => h.elim
  | n + 1, .row ps, h => by
    have := ds_depth fun p hp => OkT.depth (h.2.2 p hp)
    rw [Tw.d, PyData.depth]
    simp [PyData.depthAll, PyData.depth]
    omega
  | n + 1, .times c t, h => by
    have := OkT.depth h.2
    rw [Tw.d, PyData.depth]
    simp [PyData.depthAll, PyData.depth]
    omega
theorem shaped_ds {B : Book} {most : Int} {n : Nat} {ps : List Tw} (h : ∀ p ∈ ps, OkT B most n p) (hn : n ≤ 10) : SeqAt.shaped (.tuple (Tw.ds ps)) = true := by
  unfold SeqAt.shaped
  rw [Bool.and_eq_true]
  refine ⟨?_, ?_⟩
  · rw [PyData.canLay0]; exact Tw.lays ps
  · have := ds_depth fun p hp => OkT.depth (h p hp)
    rw [PyData.depth]
    exact decide_eq_true (by omega)
theorem ds_nil {ps : List Tw} (h : ps ≠ []) : PyData.eqv (.tuple (Tw.ds ps)) (.tuple []) = false := by
  rw [eqv_tnil, Tw.ds_map]
  cases ps with
  | nil => exact absurd rfl h
  | cons _ _ => rfl
end L3
namespace L3
open PySem L2
theorem lacks_geL {xs ys : List Int} (h : xs.length = ys.length) : ((List.range xs.length).filter fun k : Nat => decide (xs.getD k 0 < ys.getD k 0)).isEmpty = geL xs ys := by
  rw [Bool.eq_iff_iff, List.isEmpty_iff, List.filter_eq_nil_iff]
  unfold geL
  rw [List.all_eq_true]
  constructor
  · intro q p hp
    obtain ⟨i, hi, rfl⟩ := List.mem_iff_getElem.mp hp
    rw [List.length_zip] at hi
    have := q i (List.mem_range.mpr (by omega))
    simp only [List.getElem_zip, decide_eq_true_eq, List.getD_eq_getElem?_getD, List.getElem?_eq_getElem (show i < xs.length by omega), List.getElem?_eq_getElem (show i < ys.length by omega), Option.getD_some] at this ⊢
    omega
  · intro q i hi
    have hi := List.mem_range.mp hi
    have := q (xs[i], ys[i]'(by omega)) (by
      rw [List.mem_iff_getElem]
      exact ⟨i, by rw [List.length_zip]; omega, by rw [List.getElem_zip]⟩)
    simp only [decide_eq_true_eq, List.getD_eq_getElem?_getD, List.getElem?_eq_getElem (show i < xs.length by omega), List.getElem?_eq_getElem (show i < ys.length by omega), Option.getD_some] at this ⊢
    omega
end L3
namespace L3
open PySem L2
theorem shaped_nats (L : List Nat) : SeqAt.shaped (.list (L.map fun k : Nat => PyData.int (k : Int))) = true := by
  have := shaped_ints (L.map fun k : Nat => (k : Int))
  rw [List.map_map] at this
  exact this
end L3
namespace L3
open PySem L2
/-- sums as data -/
def nnI : PyData → Bool
  | .int i => decide (0 ≤ i)
  | _ => false
def areW (n : Int) : PyData → Bool
  | .tuple ds => decide ((ds.length : Int) = n) && ds.all whD
  | _ => false
def nnT : PyData → Bool
  | .tuple ds => ds.all nnI
  | _ => false
def isSumD (p r : Int) : PyData → Bool
  | .tuple [a, b] => areW p a && areW r b && nnT a
  | _ => false
theorem isSumD_no {ds : List PyData} {p r : Int} (h : ¬ (ds.length : Int) = 2) : isSumD p r (.tuple ds) = false := by
  unfold isSumD
  split
  · rename_i e
    cases e
    exact absurd rfl h
  · rfl
theorem len_two {α : Type} {ds : List α} (h : (ds.length : Int) = 2) : ∃ a b, ds = [a, b] := by
  match ds, h with
  | [a, b], _ => exact ⟨a, b, rfl⟩
  | [], h => simp at h
  | [a], h => simp at h
  | _ :: _ :: _ :: r, h => simp only [List.length_cons] at h; omega
def totD (ws hs : List Int) : PyData := .tuple [.tuple (ws.map PyData.int), .tuple (hs.map PyData.int)]
theorem whole_ints : ∀ {ds : List PyData}, ds.all whD = true → ∃ ns : List Int, ds = ns.map PyData.int
  | [], _ => ⟨[], rfl⟩
  | d :: r, h => by
    rw [List.all_cons, Bool.and_eq_true] at h
    obtain ⟨ns, rfl⟩ := whole_ints h.2
    cases d with
    | int i => exact ⟨i :: ns, rfl⟩
    | _ => cases h.1
end L3
namespace L3
open PySem L2
/-- small things in a row -/
def All3 (ds : List PyData) : Prop := ∀ d ∈ ds, Nice 3 2000 d
theorem All3.app {xs ys : List PyData} (h : All3 xs) (k : All3 ys) : All3 (xs ++ ys) := fun d hd => (List.mem_append.mp hd).elim (h d) (k d)
theorem All3.cut {xs : List PyData} (h : All3 xs) (lo hi : Option Int) : All3 (L3.cutD xs lo hi) := fun d hd => h d (cutD_sub hd)
theorem All3.one {d : PyData} (h : Nice 3 2000 d) : All3 [d] := fun x hx => by cases List.mem_singleton.mp hx; exact h
theorem All3.zero : All3 [.int 0] := .one ((nice_small (by decide) (by decide)).mono (by decide) (by decide))
theorem All3.nil : All3 [] := fun _ h => nomatch h
theorem All3.ints {ns : List Int} (h : ∀ x ∈ ns, -1000 ≤ x ∧ x ≤ 1000) : All3 (ns.map PyData.int) := fun d hd => by
  obtain ⟨x, hx, rfl⟩ := List.mem_map.mp hd
  have := h x hx
  exact (nice_small (by omega) (by omega)).mono (by decide) (by decide)
theorem All3.tup {ds : List PyData} (h : All3 ds) (l : ds.length ≤ 30) : Nice 4 60063 (.tuple ds) := nice_tup h l
theorem All3.lst {ds : List PyData} (h : All3 ds) (l : ds.length ≤ 30) : Nice 4 60063 (.list ds) := nice_list h l
theorem nice_of4 {ds : List PyData} (h : ∀ d ∈ ds, Nice 4 60063 d) (l : ds.length ≤ 3) : Nice 6 1000000 (.tuple ds) ∧ Nice 6 1000000 (.list ds) := ⟨(nice_tup h l).mono (by decide) (by decide), (nice_list h l).mono (by decide) (by decide)⟩
theorem nice4_2 {a b : PyData} (h : Nice 4 60063 a) (k : Nice 4 60063 b) : ∀ d ∈ [a, b], Nice 4 60063 d := fun d hd => by
  simp at hd
  rcases hd with rfl | rfl
  · exact h
  · exact k
theorem nice4_3 {a b c : PyData} (h : Nice 4 60063 a) (k : Nice 4 60063 b) (l : Nice 4 60063 c) : ∀ d ∈ [a, b, c], Nice 4 60063 d := fun d hd => by
  simp at hd
  rcases hd with rfl | rfl | rfl
  · exact h
  · exact k
  · exact l
end L3
namespace L3
open PySem L2
/-- numbers of less than a hundred and thirty figures -/
def Big (x : Int) : Prop := x.natAbs < 2 ^ 400
theorem mul_big2 {x y : Int} (h : Big x) (k : Big y) : MulOk x y := mul_bits h k (by decide)
theorem big_lt {x : Int} (h0 : -(2 ^ 399) ≤ x) (h1 : x ≤ 2 ^ 399) : Big x := by
  show x.natAbs < 2 ^ 400
  omega
theorem big_small {x : Int} (h0 : -1000000 ≤ x) (h1 : x ≤ 1000000) : Big x := big_lt (by omega) (by omega)
theorem nice_bigI {i : Int} (h : i.natAbs.log2 ≤ 1000) : Nice 0 1003 (.int i) := ⟨by simp [PyData.showable]; omega, rfl, Nat.le_refl _, by rw [okTx]; exact decide_eq_true (by omega), by rw [L3.wd]; omega, rfl⟩
def dotL (xs ys : List Int) : Int := ((xs.zip ys).map fun p => p.1 * p.2).sum
def fallL (B : Book) (ws hs : List Int) (k : Int) : Int := hs.getD (wAt B k).a.toNat 0 - hs.getD (wAt B k).b.toNat 0 - dotL ws (wAt B k).gs
def worthL (ws hs : List Int) (r : Int) (xs : List Int) : Int := hs.getD r.toNat 0 + dotL ws xs
theorem take_sum {α : Type} (f : α → Int) {L : List α} {k : Nat} {x : α} (h : L[k]? = some x) : ((L.take (k + 1)).map f).sum = ((L.take k).map f).sum + f x := by
  rw [List.take_add_one, h, List.map_append, List.sum_append]
  simp
theorem dot_at {xs ys : List Int} {k : Nat} (h1 : k < xs.length) (h2 : k < ys.length) : (xs.zip ys)[k]? = some (xs.getD k 0, ys.getD k 0) := by
  rw [List.getElem?_eq_getElem (by rw [List.length_zip]; omega), List.getElem_zip]
  simp only [List.getD_eq_getElem?_getD, List.getElem?_eq_getElem h1, List.getElem?_eq_getElem h2, Option.getD_some]
theorem sum_abs {M : Int} : ∀ xs : List Int, (∀ x ∈ xs, -M ≤ x ∧ x ≤ M) → -(xs.length * M) ≤ xs.sum ∧ xs.sum ≤ xs.length * M
  | [], _ => by simp
  | x :: xs, h => by
    have h0 := h x List.mem_cons_self
    obtain ⟨h1, h2⟩ := sum_abs xs fun y hy => h y (List.mem_cons_of_mem _ hy)
    rw [List.sum_cons, List.length_cons]
    push_cast
    rw [Int.add_mul, Int.one_mul]
    omega
theorem mul_abs {x y M N : Int} (h1 : -M ≤ x) (h2 : x ≤ M) (h3 : -N ≤ y) (h4 : y ≤ N) : -(M * N) ≤ x * y ∧ x * y ≤ M * N := by
  have a := Int.natAbs_mul x y
  have hM : 0 ≤ M := by omega
  have hN : 0 ≤ N := by omega
  have b : x.natAbs * y.natAbs ≤ M.natAbs * N.natAbs := Nat.mul_le_mul (by omega) (by omega)
  have c : ((M.natAbs * N.natAbs : Nat) : Int) = M * N := by
    push_cast
    rw [Int.natAbs_of_nonneg hM, Int.natAbs_of_nonneg hN]
  omega
theorem dot_abs {M N : Int} {xs ys : List Int} (h1 : ∀ x ∈ xs, -M ≤ x ∧ x ≤ M) (h2 : ∀ y ∈ ys, -N ≤ y ∧ y ≤ N) (hl : xs.length ≤ 6) (h0 : 0 ≤ M * N) : -(6 * (M * N)) ≤ dotL xs ys ∧ dotL xs ys ≤ 6 * (M * N) := by
  obtain ⟨a, b⟩ := sum_abs (M := M * N) ((xs.zip ys).map fun p => p.1 * p.2) fun z hz => by
    obtain ⟨p, hp, rfl⟩ := List.mem_map.mp hz
    have m := List.of_mem_zip hp
    exact mul_abs (h1 _ m.1).1 (h1 _ m.1).2 (h2 _ m.2).1 (h2 _ m.2).2
  have hl2 : ((xs.zip ys).map fun p => p.1 * p.2).length ≤ 6 := by rw [List.length_map, List.length_zip]; omega
  have c := Int.mul_le_mul_of_nonneg_right (show ((((xs.zip ys).map fun p => p.1 * p.2).length : Nat) : Int) ≤ 6 by omega) h0
  unfold dotL
  omega
theorem log_of {x : Int} {a : Nat} (h : x.natAbs < 2 ^ (a + 1)) : x.natAbs.log2 ≤ a := by
  by_cases z : x.natAbs = 0
  · rw [z]; exact Nat.zero_le _
  · have := (Nat.log2_lt z).mpr h; omega
end L3
namespace L3
open PySem L2
def everyW (n : Nat) : List Int := (List.range n).map fun k : Nat => (k : Int)
theorem everyW_rng (n : Nat) : rngD 0 n = (everyW n).map PyData.int := by
  unfold rngD everyW
  rw [List.map_map]
  apply List.map_congr_left
  intro i _
  show PyData.int (0 + (i : Nat)) = _
  rw [Int.zero_add]; rfl
theorem everyW_mem {B : Book} {k : Int} (h : k ∈ everyW B.ways.length) : inW B k = true := by
  unfold everyW at h
  obtain ⟨i, hi, rfl⟩ := List.mem_map.mp h
  have := List.mem_range.mp hi
  simp [inW]; omega
theorem everyW_up (n : Nat) : (everyW n).Pairwise (· < ·) := by
  unfold everyW
  rw [List.pairwise_map]
  exact List.pairwise_lt_range.imp fun h => by omega
theorem everyW_len (n : Nat) : (everyW n).length = n := by simp [everyW]
theorem addL_zip2 (xs ys : List Int) : ((xs.zip ys).map fun p => PyData.int (p.1 + p.2)) = (addL xs ys).map PyData.int := by
  rw [addL, List.zip, List.map_zipWith, List.map_zipWith]
theorem addL_rep (a b : Int) : ∀ n : Nat, addL (List.replicate n a) (List.replicate n b) = List.replicate n (a + b)
  | 0 => rfl
  | n + 1 => by
    have := addL_rep a b n
    unfold addL at this ⊢
    rw [List.replicate_succ, List.replicate_succ, List.zipWith_cons_cons, this, List.replicate_succ]
end L3
end
section
/-! L4j: defs whose last parameters have defaults, which no call gives. -/
namespace L3
open PySem PySem.Spec PyProof.Rows L2
variable {G : Type} {K : PySem.W.Frag} {X : Cx} {Z : Zx K G}
/-- the def as it stands, whatever its defaults -/
structure FunA (K : PySem.W.Frag) (x : Str) (st : Stmt) (fa : Addr) (fd : FuncData) : Prop where
  ex : ∃ (oc : Value) (od : Option Addr) (dV kV doc pm : Value) (an : Option Addr) (cdv ct : Value) (osl : Array (Option Value)),
    fd = PySem.W.fnOf x x (defArgs st) (defBody st) (defScope st) dV kV doc pm an cdv ct ∧ K.lookup fa = some ⟨oc, od, .func fd, osl⟩ ∧ PySem.W.codeIn K cdv x = true
  kp : PySem.W.keepIn K (.ref fa) = true
def DfnD (K : PySem.W.Frag) (mg : Str → Option Value) (x : Str) (s : Stmt) (ps : List Str) (dvs : List V) : Prop := ∃ fa fd, FunA K x s fa fd ∧ mg x = some (.ref fa) ∧ ∃ ds, Vals dvs ds ∧ Binds K fd ps ds
def OkD (P : Program) (w : World) (K : PySem.W.Frag) (mg : Str → Option Value) (base : Heap) (k : Nat) (x : Str) (ps : List Str) (dvs : List V) (sp : Sp) : Prop :=
  ∃ fa fd, mg x = some (.ref fa) ∧ PySem.W.keepIn K (.ref fa) = true ∧ (∃ ds, Vals dvs ds ∧ Binds K fd ps ds) ∧ FnG P w K mg base (L2.CX P w) k fa fd ps sp
section
variable {P : Program} {w : World} {mg : Str → Option Value} {base : Heap}
theorem OkD.up {j : Nat} {x : Str} {ps : List Str} {dvs : List V} {sp : Sp} (h : OkD P w K mg base j x ps dvs sp) {k : Nat} (hk : j ≤ k) : OkD P w K mg base k x ps dvs sp := by
  obtain ⟨fa, fd, h1, h2, h3, h4⟩ := h
  exact ⟨fa, fd, h1, h2, h3, h4.mono hk⟩
theorem funGD {CC : CXT} {x : Str} {st : Stmt} {fa : Addr} {fd : FuncData} {N qs : List Str} {n : Nat} {sp : Sp} (Fu : FunA K x st fa fd) (Sc : FnScope N qs (defScope st)) (len : ∀ us H Q E, sp us H Q E → us.length = qs.length)
    (body : ∀ (cdv : Value) (B : Around) (oe : List Env) (s : Shared) (H : Hp) (vs : List V) (Q : VK) (E : XK), RoomG n (B.deeper (PyProof.Rows.envOfC x (defScope st) s.heap.objs.size fa cdv)) → sp vs H Q E →
      ∃ t, PSs (cxOf CC P w K mg base N x (defScope st) fa cdv B oe s H E) (defBody st) t ∧ t { nx := fun _ H' => Q .non H', rt := Q } (L2.start N vs) H) : FnG P w K mg base CC (n + 1) fa fd qs sp := by
  obtain ⟨oc, od, dV, kV, doc, pm, an, cdv, ct, osl, rfl, lk, hcd⟩ := Fu.ex
  refine ⟨len, fun B oe s H as us vs Q E hr c0 hb r hsp => ?_⟩
  have vl := len _ _ _ _ hsp
  have kin : K.In s.heap := c0.mod.kin.keeps fun b o q => (c0.bs b o q).1
  have nol : s.heap.NoLimit := c0.mod.nolimit.keeps fun b o q => (c0.bs b o q).1
  have kinds : ∀ y ∈ qs.zip us, (defScope st).names.lookup y.1 = some .local ∨ ((defScope st).names.lookup y.1 = some .cell ∧ ((cellsFrom (s.heap.objs.size + 1) (defScope st).names []).lookup y.1).isSome = true) := fun ⟨m, v⟩ hy => by
    rcases Sc.par m (List.of_mem_zip hy).1 with q | q
    · exact .inl q
    · exact .inr ⟨q, PySem.W.cellsFrom_some _ _ _ (.inl q)⟩
  refine codeAny_call_function hr.rm.depth (kin _ _ lk) rfl Sc.co Sc.gen rfl (PySem.W.codeRec_of kin hcd) (hb _ _ _ _ ?_)
  refine wpAny_newFunctionEnv_cells Sc.kind kinds fun en he s1 y => ?_
  subst he
  refine ⟨nol.keeps y.toInCall.keep, codeAny_func ?_⟩
  obtain ⟨t, ht, hq⟩ := body cdv B oe s H vs Q E (hr.deeper _) hsp
  have J : Inv (cxOf CC P w K mg base N x (defScope st) fa cdv B oe s H E) [] (L2.start N vs) H s1 := inv_start Sc hr.rm.hd c0 vl r y
  refine wpAny_mono (ht.run [] s1 (L2.start N vs) H _ J hq) (fun fl s' hs => ?_) fun e s' hs => hs
  cases fl with
  | ret u => obtain ⟨v, σ', H', I, rv, q⟩ := hs; exact ⟨v, H', I.os, I.bare, I.base, I.hok, rv, q⟩
  | next => obtain ⟨σ', H', I, q⟩ := hs; exact ⟨.non, H', I.os, I.bare, I.base, I.hok, rfl, q⟩
  | brk => obtain ⟨_, _, _, q⟩ := hs; exact q.elim
  | cont => obtain ⟨_, _, _, q⟩ := hs; exact q.elim
theorem DfnD.ok {x : Str} {s : Stmt} {N ps : List Str} {dvs : List V} {k : Nat} {Z : Zx K G} {S : Spec G} (D : DfnD K mg x s ps dvs) (Sc : FnScope N ps (defScope s)) (hS : ∀ as g T U, S as g T U → as.length = ps.length) (hN : ps.length ≤ N.length)
    (body : ∀ (fa : Addr) (cdv : Value) (A : Around) (outer : List Env) (s' : Shared) (H : Hp) (E : XK), RoomG k (A.deeper (PyProof.Rows.envOfC x (defScope s) s'.heap.objs.size fa cdv)) →
      ∃ ts t, DSs (cxOf (L2.CX P w) P w K mg base N x (defScope s) fa cdv A outer s' H E).nox (Z.wish (fun _ _ _ _ => False) Un) (defBody s) ts t ∧ ∀ as g T U, S as g T U → t { nx := fun _ g' => T (.dt .none) g', rt := T } (entry N as) g) : OkD P w K mg base (k + 1) x ps dvs (spZ Z S) := by
  obtain ⟨fa, fd, Fu, hm, hb⟩ := D
  refine ⟨fa, fd, hm, Fu.kp, hb, funGD Fu Sc (fun vs H Q E h => ?_) (fun cdv A outer s H vs Q E hr h => ?_)⟩
  · obtain ⟨F, g, as, T, U, h1, h2, h3, h4, h5, _⟩ := h
    rw [argR_len h4]
    exact hS as g T U h5
  · obtain ⟨F, g, as, T, U, h1, h2, h3, h4, h5, h6, h7⟩ := h
    obtain ⟨ts, t, hd, hb⟩ := body fa cdv A outer s H E hr
    exact ⟨ts, hd.ps.nox, body3 h1 h2 h3 h4 (hS as g T U h5) hN (fun _ _ _ _ _ _ _ _ _ _ _ _ z => z.elim) h6 hd.sim (hb as g T U h5)⟩
end
/-- a default that is a whole number, behind one parameter -/
theorem dfnD_int {mg : Str → Option Value} {x : Str} {st : Stmt} {fa T : Addr} {oc oc2 : Value} {od od2 an : Option Addr} {osl osl2 : Array (Option Value)} {kV doc pm cdv ct : Value} {i : Int} {tk : Tok} {n : Nat} {p q : Str}
    (hm : mg x = some (.ref fa)) (l : K.lookup fa = some ⟨oc, od, .func (PySem.W.fnOf x x (defArgs st) (defBody st) (defScope st) (.ref T) kV doc pm an cdv ct), osl⟩) (lT : K.lookup T = some ⟨oc2, od2, .seq #[.int i tk] n, osl2⟩) (c : PySem.W.codeIn K cdv x = true) (k : PySem.W.keepIn K (.ref fa) = true)
    (h : ∀ (T : Addr) (kV doc pm : Value) (an : Option Addr) (cdv ct : Value) (us its : List Value), us.length = 1 → its.length = 1 →
      ∃ kk, bindArgs (PySem.W.fnOf x x (defArgs st) (defBody st) (defScope st) (.ref T) kV doc pm an cdv ct) ⟨us, []⟩ = seqItems? (.ref T) >>= kk ∧ kk (some its.toArray) = pure ([p, q].zip (us ++ its.drop 0))) : DfnD K mg x st [p, q] [.int i] := by
  have F : FunD K x x (defArgs st) (defBody st) (defScope st) [.int i] [] fa (PySem.W.fnOf x x (defArgs st) (defBody st) (defScope st) (.ref T) kV doc pm an cdv ct) :=
    ⟨⟨oc, od, _, kV, doc, pm, an, cdv, ct, osl, rfl, l, c, .inr ⟨by simp, T, _, [.int i tk], n, rfl, lT, rfl, .cons ⟨tk, rfl⟩ .nil⟩, .inl rfl⟩, k⟩
  obtain ⟨ds, hv, hb⟩ := F.binds1 (ps := [p, q]) 1 0 (by simp) rfl h
  exact ⟨fa, _, ⟨⟨oc, od, _, kV, doc, pm, an, cdv, ct, osl, rfl, l, c⟩, k⟩, hm, ds, hv, hb⟩
section
variable {k : Nat} {ps : List Str} {x : Str} {p pos : Pos} {e : Expr} {es : List Expr} {ta : TA} {a : DA G}
/-- f(..), its last parameter left out -/
theorem e_fn0D {U : UX G} {E : L2.St → XK} (L : Let X Z U E) {i : Int} {S : Spec Unit} (F : OkD X.prog X.w X.K X.mg X.base k x ps [.int i] (spZ (Z0 K) S)) (hr : RoomG k X.A) (ha : DAs X Z (e :: es) ta a) (hg : Gl X x := by rfl) (hdb : (x == ("__debug__" : Str)) = false := by decide)
    (he : starEach (e :: es) X.env = (false, eval e X.env) :: starEach es X.env := by rfl) (hpl : (backTo pos (starEach es X.env)).any (·.1) = false := by rfl) : DE X Z (.Call (.Name x p) (e :: es) [] pos) (tCallE (spZ (Z0 K) S) [.int i] E ta) (dCall0 U S [.dt (.int i)] a) := by
  obtain ⟨fa, fd, hm, hk, ⟨ds, hv, hb⟩, Fk⟩ := F
  exact ⟨pe_callG Fk hr hg hm hk hb hv L.pa ha.pa hdb he hpl, sim_call0 L.lw (fun _ => .cons (.int i) .nil) ha.sim⟩
end
end L3
end
section
/-! L4k: told walks opened. -/
namespace L3
open PySem L2
mutual
def Tw.op : Tw → List Int
  | .way k => [k]
  | .row ps => Tw.ops ps
  | .times n t => (List.replicate n.toNat t.op).flatten
def Tw.ops : List Tw → List Int
  | [] => []
  | t :: r => t.op ++ Tw.ops r
end
theorem flat_len (xs : List Int) : ∀ n : Nat, (List.replicate n xs).flatten.length = n * xs.length
  | 0 => by simp
  | n + 1 => by rw [List.replicate_succ, List.flatten_cons, List.length_append, flat_len xs n, Nat.add_mul, Nat.one_mul, Nat.add_comm]
theorem ops_len {B : Book} : ∀ {ps : List Tw}, (∀ p ∈ ps, (p.op.length : Int) = (p.fa B).l) → ((Tw.ops ps).length : Int) = (ps.map fun t => (t.fa B).l).sum
  | [], _ => by rw [Tw.ops]; rfl
  | t :: r, h => by
    rw [Tw.ops, List.length_append, List.map_cons, List.sum_cons, ← h t List.mem_cons_self, ← ops_len fun p hp => h p (List.mem_cons_of_mem _ hp)]
    push_cast
    rfl
theorem op_len {B : Book} {most : Int} : ∀ {n : Nat} {t : Tw}, OkT B most n t → (t.op.length : Int) = (t.fa B).l
  | 0, .way k, _ => by rw [Tw.op, Tw.fa]; rfl
  | _ + 1, .way k, _ => by rw [Tw.op, Tw.fa]; rfl
  | 0, .row _, h => h.elim
  | 0, .times _ _, h => h.elim
  | n + 1, .row ps, h => by
    rw [Tw.op, row_l]
    exact ops_len fun p hp => op_len (h.2.2 p hp)
  | n + 1, .times c t, h => by
    have hc := h.1.1
    rw [Tw.op, Tw.fa, flat_len]
    show ((c.toNat * t.op.length : Nat) : Int) = c * (t.fa B).l
    rw [← op_len h.2]
    push_cast
    rw [Int.toNat_of_nonneg (by omega)]
theorem ops_in {B : Book} : ∀ {ps : List Tw}, (∀ p ∈ ps, ∀ k ∈ p.op, inW B k = true) → ∀ k ∈ Tw.ops ps, inW B k = true
  | [], _, k, hk => by rw [Tw.ops] at hk; cases hk
  | t :: r, h, k, hk => by
    rw [Tw.ops] at hk
    rcases List.mem_append.mp hk with hk | hk
    · exact h t List.mem_cons_self k hk
    · exact ops_in (fun p hp => h p (List.mem_cons_of_mem _ hp)) k hk
theorem op_in {B : Book} {most : Int} : ∀ {n : Nat} {t : Tw}, OkT B most n t → ∀ k ∈ t.op, inW B k = true
  | 0, .way j, h, k, hk => by rw [Tw.op] at hk; cases List.mem_singleton.mp hk; exact h
  | _ + 1, .way j, h, k, hk => by rw [Tw.op] at hk; cases List.mem_singleton.mp hk; exact h
  | 0, .row _, h, _, _ => h.elim
  | 0, .times _ _, h, _, _ => h.elim
  | n + 1, .row ps, h, k, hk => by
    rw [Tw.op] at hk
    exact ops_in (fun p hp => op_in (h.2.2 p hp)) k hk
  | n + 1, .times c t, h, k, hk => by
    rw [Tw.op] at hk
    obtain ⟨xs, hx, hk⟩ := List.mem_flatten.mp hk
    cases List.eq_of_mem_replicate hx
    exact op_in h.2 k hk
theorem op_ne {B : Book} {most : Int} : ∀ {n : Nat} {t : Tw}, OkT B most n t → t.op ≠ []
  | 0, .way j, h => by rw [Tw.op]; simp
  | _ + 1, .way j, h => by rw [Tw.op]; simp
  | 0, .row _, h => h.elim
  | 0, .times _ _, h => h.elim
  | n + 1, .row ps, h => by
    rw [Tw.op]
    obtain ⟨h0, _, h⟩ := h
    cases ps with
    | nil => exact absurd rfl h0
    | cons t r =>
      rw [Tw.ops]
      intro z
      exact op_ne (h t List.mem_cons_self) (List.append_eq_nil_iff.mp z).1
  | n + 1, .times c t, h => by
    rw [Tw.op]
    have hc := h.1.1
    have := op_ne h.2
    obtain ⟨m, hm⟩ : ∃ m, c.toNat = m + 1 := ⟨c.toNat - 1, by omega⟩
    rw [hm, List.replicate_succ, List.flatten_cons]
    intro z
    exact this (List.append_eq_nil_iff.mp z).1
theorem flat_path {B : Book} {a : Int} {xs : List Int} (h : Pth B a xs a) : ∀ n : Nat, Pth B a (List.replicate n xs).flatten a
  | 0 => rfl
  | n + 1 => by rw [List.replicate_succ, List.flatten_cons]; exact h.app (flat_path h n)
mutual
theorem ChT.path {B : Book} : ∀ {t : Tw} {a b : Int}, ChT B t a b → Pth B a t.op b
  | .way k, a, b, h => by
    rw [ChT] at h
    rw [Tw.op]
    exact ⟨h.1, h.2.1, h.2.2⟩
  | .row ps, a, b, h => by
    rw [ChT] at h
    rw [Tw.op]
    exact h.2.path
  | .times n t, a, b, h => by
    rw [ChT] at h
    rw [Tw.op]
    have ih := h.1.path
    rcases h.2 with rfl | rfl
    · rw [show (1 : Int).toNat = 1 from rfl, List.replicate_one, List.flatten_cons, List.flatten_nil, List.append_nil]; exact ih
    · exact flat_path ih _
theorem ChTs.path {B : Book} : ∀ {ps : List Tw} {a b : Int}, ChTs B ps a b → Pth B a (Tw.ops ps) b
  | [], a, b, h => by rw [ChTs] at h; rw [Tw.ops]; exact h
  | t :: r, a, b, h => by
    rw [ChTs] at h
    obtain ⟨c, h1, h2⟩ := h
    rw [Tw.ops]
    exact h1.path.app h2.path
end
/-! ### from the last way back -/
def stB (B : Book) (acc : List Int × List Int) (k : Int) : List Int × List Int := (addL acc.1 (wAt B k).gs, (acc.2.zip (wAt B k).gs).map fun p => mx2 0 (p.1 - p.2))
def sumB (B : Book) (n : Nat) (ks : List Int) : List Int × List Int := ks.foldr (fun k acc => stB B acc k) (List.replicate n 0, List.replicate n 0)
structure Len2 (n : Nat) (p : List Int × List Int) : Prop where
  g : p.1.length = n
  l : p.2.length = n
  p : ∀ x ∈ p.2, 0 ≤ x
theorem stB_ok {B : Book} {n : Nat} {acc : List Int × List Int} {k : Int} (h : Len2 n acc) (hk : (wAt B k).gs.length = n) : Len2 n (stB B acc k) := by
  refine ⟨addL_len h.g hk, ?_, fun x hx => ?_⟩
  · unfold stB; dsimp only; rw [List.length_map, List.length_zip, h.l, hk]; omega
  · unfold stB at hx
    obtain ⟨p, _, rfl⟩ := List.mem_map.mp hx
    exact mx2_le 0 _
theorem zeros_ok (n : Nat) : Len2 n (List.replicate n 0, List.replicate n 0) := ⟨List.length_replicate .., List.length_replicate .., fun x hx => by rw [List.eq_of_mem_replicate hx]; exact Int.le_refl _⟩
theorem fold_ok {B : Book} {n : Nat} {acc : List Int × List Int} (ha : Len2 n acc) : ∀ {ks : List Int}, (∀ k ∈ ks, (wAt B k).gs.length = n) → Len2 n (ks.foldr (fun k acc => stB B acc k) acc)
  | [], _ => ha
  | k :: r, h => stB_ok (fold_ok ha fun x hx => h x (List.mem_cons_of_mem _ hx)) (h k List.mem_cons_self)
theorem stB_bh : ∀ {gs as ns : List Int}, as.length = gs.length → ns.length = gs.length → (∀ x ∈ ns, 0 ≤ x) → (addL as gs, (ns.zip gs).map fun p => mx2 0 (p.1 - p.2)) = bhL (gs, gs.map mx0) (as, ns)
  | [], [], [], _, _, _ => rfl
  | g :: gs, a :: as, x :: ns, h1, h2, h3 => by
    have ih := stB_bh (gs := gs) (as := as) (ns := ns) (by simpa using h1) (by simpa using h2) fun y hy => h3 y (List.mem_cons_of_mem _ hy)
    have hx := h3 x List.mem_cons_self
    unfold bhL addL at ih ⊢
    simp only [List.map_cons, List.zip_cons_cons, List.zipWith_cons_cons] at ih ⊢
    injection ih with i1 i2
    rw [i1, i2, Int.add_comm a g, show mx2 0 (x - g) = mx2 (mx0 g) (x - g) from by unfold mx0 mx2; split <;> split <;> (try split) <;> omega]
  | [], _ :: _, _, h, _, _ => by cases h
  | [], [], _ :: _, _, h, _ => by cases h
  | _ :: _, [], _, h, _, _ => by cases h
  | _ :: _, _ :: _, [], _, h, _ => by cases h
theorem bhL_assoc : ∀ {a b c d e f : List Int} {n : Nat}, a.length = n → b.length = n → c.length = n → d.length = n → e.length = n → f.length = n → bhL (bhL (a, b) (c, d)) (e, f) = bhL (a, b) (bhL (c, d) (e, f))
  | [], [], [], [], [], [], _, _, _, _, _, _, _ => rfl
  | a :: as, b :: bs, c :: cs, d :: ds, e :: es, f :: fs, n + 1, h1, h2, h3, h4, h5, h6 => by
    have ih := bhL_assoc (a := as) (b := bs) (c := cs) (d := ds) (e := es) (f := fs) (n := n) (by simpa using h1) (by simpa using h2) (by simpa using h3) (by simpa using h4) (by simpa using h5) (by simpa using h6)
    have e1 := bhP_assoc (a, b) (c, d) (e, f)
    unfold bhL addL at ih ⊢
    simp only [List.map_cons, List.zip_cons_cons, List.zipWith_cons_cons] at ih ⊢
    unfold bhP at e1
    injection ih with i1 i2
    injection e1 with j1 j2
    dsimp only at j1 j2
    rw [i1, i2, j1, j2]
  | [], _ :: _, _, _, _, _, 0, _, h, _, _, _, _ => by cases h
  | [], _, _ :: _, _, _, _, 0, _, _, h, _, _, _ => by cases h
  | [], _, _, _ :: _, _, _, 0, _, _, _, h, _, _ => by cases h
  | [], _, _, _, _ :: _, _, 0, _, _, _, _, h, _ => by cases h
  | [], _, _, _, _, _ :: _, 0, _, _, _, _, _, h => by cases h
  | _ :: _, _, _, _, _, _, 0, h, _, _, _, _, _ => by cases h
  | [], _, _, _, _, _, _ + 1, h, _, _, _, _, _ => by cases h
  | _, [], _, _, _, _, _ + 1, _, h, _, _, _, _ => by cases h
  | _, _, [], _, _, _, _ + 1, _, _, h, _, _, _ => by cases h
  | _, _, _, [], _, _, _ + 1, _, _, _, h, _, _ => by cases h
  | _, _, _, _, [], _, _ + 1, _, _, _, _, h, _ => by cases h
  | _, _, _, _, _, [], _ + 1, _, _, _, _, _, h => by cases h
theorem bh_zero {n : Nat} {p : List Int × List Int} (h : Len2 n p) : bhL (List.replicate n 0, List.replicate n 0) p = p := by
  have := bhL_zero (gs := p.1) (ns := p.2) (by rw [h.g, h.l]) h.p
  rw [h.g] at this
  exact this
theorem way_zero : ∀ {gs : List Int} {n : Nat}, gs.length = n → bhL (gs, gs.map mx0) (List.replicate n 0, List.replicate n 0) = (gs, gs.map mx0)
  | [], 0, _ => rfl
  | g :: gs, n + 1, h => by
    have ih := way_zero (gs := gs) (n := n) (by simpa using h)
    unfold bhL addL at ih ⊢
    rw [List.replicate_succ]
    simp only [List.map_cons, List.zip_cons_cons, List.zipWith_cons_cons] at ih ⊢
    injection ih with i1 i2
    rw [i1, i2, Int.add_zero, show mx2 (mx0 g) (0 - g) = mx0 g from by unfold mx0 mx2; split <;> (try split) <;> omega]
  | [], _ + 1, h => by cases h
  | _ :: _, 0, h => by cases h
theorem way_len {B : Book} {n : Nat} {k : Int} (hk : (wAt B k).gs.length = n) : Len2 n ((wAt B k).gs, (wAt B k).gs.map mx0) := ⟨hk, by rw [List.length_map]; exact hk, fun x hx => by
  obtain ⟨y, _, rfl⟩ := List.mem_map.mp hx
  exact mx2_le 0 _⟩
theorem fold_bh {B : Book} {n : Nat} {acc : List Int × List Int} (ha : Len2 n acc) : ∀ {ks : List Int}, (∀ k ∈ ks, (wAt B k).gs.length = n) → ks.foldr (fun k acc => stB B acc k) acc = bhL (sumB B n ks) acc
  | [], _ => (bh_zero ha).symm
  | k :: r, h => by
    have hk := h k List.mem_cons_self
    have hr : ∀ x ∈ r, (wAt B x).gs.length = n := fun x hx => h x (List.mem_cons_of_mem _ hx)
    have ih := fold_bh ha hr
    have o1 := fold_ok (zeros_ok n) hr
    have o2 := fold_ok ha hr
    have e1 : sumB B n (k :: r) = bhL ((wAt B k).gs, (wAt B k).gs.map mx0) (sumB B n r) := stB_bh (by rw [o1.g, hk]) (by rw [o1.l, hk]) o1.p
    have e2 : stB B (r.foldr (fun k acc => stB B acc k) acc) k = bhL ((wAt B k).gs, (wAt B k).gs.map mx0) (r.foldr (fun k acc => stB B acc k) acc) := stB_bh (by rw [o2.g, hk]) (by rw [o2.l, hk]) o2.p
    show stB B (r.foldr (fun k acc => stB B acc k) acc) k = _
    rw [e2, ih, e1]
    exact (bhL_assoc (n := n) hk (by rw [List.length_map]; exact hk) o1.g o1.l ha.g ha.l).symm
theorem sumB_app {B : Book} {n : Nat} {xs ys : List Int} (h1 : ∀ k ∈ xs, (wAt B k).gs.length = n) (h2 : ∀ k ∈ ys, (wAt B k).gs.length = n) : sumB B n (xs ++ ys) = bhL (sumB B n xs) (sumB B n ys) := by
  unfold sumB
  rw [List.foldr_append]
  exact fold_bh (fold_ok (zeros_ok n) h2) h1
theorem sumB_ok {B : Book} {n : Nat} {ks : List Int} (h : ∀ k ∈ ks, (wAt B k).gs.length = n) : Len2 n (sumB B n ks) := fold_ok (zeros_ok n) h
theorem sumB_rep {B : Book} {n : Nat} {xs : List Int} (h : ∀ k ∈ xs, (wAt B k).gs.length = n) : ∀ m : Nat, sumB B n (List.replicate (m + 1) xs).flatten = clL (sumB B n xs) ((m + 1 : Nat) : Int)
  | 0 => by
    have o := sumB_ok h
    rw [List.replicate_one, List.flatten_cons, List.flatten_nil, List.append_nil]
    exact (clL_one (o.g.trans o.l.symm)).symm
  | m + 1 => by
    have o := sumB_ok h
    rw [List.replicate_succ, List.flatten_cons, sumB_app h (fun k hk => by
      obtain ⟨ys, hy, hk⟩ := List.mem_flatten.mp hk
      rw [List.eq_of_mem_replicate hy] at hk
      exact h k hk), sumB_rep h m]
    have e1 : sumB B n xs = clL (sumB B n xs) 1 := (clL_one (o.g.trans o.l.symm)).symm
    have e2 := clL_add (m := 1) (n := ((m + 1 : Nat) : Int)) (by omega) (by omega) (gs := (sumB B n xs).1) (ns := (sumB B n xs).2) (o.g.trans o.l.symm)
    rw [show (1 : Int) + ((m + 1 : Nat) : Int) = ((m + 1 + 1 : Nat) : Int) by omega] at e2
    rw [← e2]
    rw [show clL ((sumB B n xs).1, (sumB B n xs).2) 1 = clL (sumB B n xs) 1 from rfl, ← e1]
theorem ops_lens {B : Book} {n : Nat} {most : Int} {m : Nat} (hB : ∀ w ∈ B.ways, w.gs.length = n) {t : Tw} (h : OkT B most m t) : ∀ k ∈ t.op, (wAt B k).gs.length = n := fun k hk => hB _ (wAt_mem (op_in h k hk))
theorem gnl_sum {B : Book} {n : Nat} : ∀ {ps : List Tw} {xs : List Int}, (∀ k ∈ xs, (wAt B k).gs.length = n) → (∀ p ∈ ps, ((p.fa B).gs, (p.fa B).ns) = sumB B n p.op ∧ ∀ k ∈ p.op, (wAt B k).gs.length = n) →
    ps.foldl (fun s t => bhL s ((t.fa B).gs, (t.fa B).ns)) (sumB B n xs) = sumB B n (xs ++ Tw.ops ps)
  | [], xs, _, _ => by rw [Tw.ops, List.append_nil]; rfl
  | t :: r, xs, hx, h => by
    obtain ⟨e, ht⟩ := h t List.mem_cons_self
    rw [List.foldl_cons, e, ← sumB_app hx ht, gnl_sum (fun k hk => (List.mem_append.mp hk).elim (hx k) (ht k)) fun p hp => h p (List.mem_cons_of_mem _ hp), Tw.ops, List.append_assoc]
theorem fa_sum {B : Book} {most : Int} {k : Nat} (hB : ∀ w ∈ B.ways, w.gs.length = k) : ∀ {n : Nat} {t : Tw}, OkT B most n t → ((t.fa B).gs, (t.fa B).ns) = sumB B k t.op
  | 0, .way j, h => by
    have hl := hB _ (wAt_mem h)
    rw [Tw.op, Tw.fa]
    have o := zeros_ok k
    show _ = stB B (List.replicate k 0, List.replicate k 0) j
    unfold stB
    rw [stB_bh (by rw [o.g, hl]) (by rw [o.l, hl]) o.p]
    exact (way_zero hl).symm
  | n + 1, .way j, h => by
    have hl := hB _ (wAt_mem h)
    rw [Tw.op, Tw.fa]
    have o := zeros_ok k
    show _ = stB B (List.replicate k 0, List.replicate k 0) j
    unfold stB
    rw [stB_bh (by rw [o.g, hl]) (by rw [o.l, hl]) o.p]
    exact (way_zero hl).symm
  | 0, .row _, h => h.elim
  | 0, .times _ _, h => h.elim
  | n + 1, .row ps, h => by
    rw [Tw.op, ← gnL_row h.1 fun p hp => fa_ok hB (h.2.2 p hp)]
    have := gnl_sum (B := B) (n := k) (ps := ps) (xs := []) (fun _ hk => nomatch hk) fun p hp => ⟨fa_sum hB (h.2.2 p hp), ops_lens hB (h.2.2 p hp)⟩
    exact this
  | n + 1, .times c t, h => by
    have hc := h.1.1
    obtain ⟨m, hm⟩ : ∃ m, c.toNat = m + 1 := ⟨c.toNat - 1, by omega⟩
    rw [Tw.op, Tw.fa, hm, sumB_rep (ops_lens hB h.2), ← fa_sum hB h.2, ← hm, Int.toNat_of_nonneg (by omega)]
    rfl
end L3
namespace L3
open PySem L2
theorem nice_rowW {n w : Nat} {ds : List PyData} (h : Nice (n + 1) w (.tuple ds)) : Nice (n + 2) (w + 100) (.tuple [.str "row", .tuple ds]) := (nice_tupW (n := n + 1) (v := max 202 w) (W := w + 60) (ds := [.str "row", .tuple ds]) (fun d hd => by
  simp at hd
  rcases hd with rfl | rfl
  · exact (nice_str "row" (by decide +kernel) (by decide +kernel)).mono (by omega) (Nat.le_max_left _ _)
  · exact h.mono (Nat.le_refl _) (Nat.le_max_right _ _)) (by simp) (by
    have h1 := h.wd
    have h2 := (nice_str "row" (by decide +kernel) (by decide +kernel)).wd
    have h3 : L3.wd (.str "row") = 32 := by decide +kernel
    simp only [wdAll]
    omega)).mono (Nat.le_refl _) (by omega)
theorem nice_timesW {n w : Nat} {c : Int} {d : PyData} (hc : 0 ≤ c) (hc2 : c ≤ 2 ^ 400) (h : Nice n w d) : Nice (n + 1) (w + 600) (.tuple [.str "times", .int c, d]) := by
  have ni : Nice 0 403 (.int c) := nice_int (log_of (a := 400) (by omega))
  have ns := nice_str "times" (by decide +kernel) (by decide +kernel)
  exact (nice_tupW (n := n) (v := max 403 w) (W := w + 590) (ds := [.str "times", .int c, d]) (fun x hx => by
    simp at hx
    rcases hx with rfl | rfl | rfl
    · exact ns.mono (by omega) (by omega)
    · exact ni.mono (by omega) (Nat.le_max_left _ _)
    · exact h.mono (Nat.le_refl _) (Nat.le_max_right _ _)) (by simp) (by
      have h1 := h.wd
      have h2 := ni.wd
      have h3 : L3.wd (.str "times") = 52 := by decide +kernel
      simp only [wdAll]
      omega)).mono (Nat.le_refl _) (by omega)
theorem nice_waysL {ns : List Int} (h : ∀ k ∈ ns, 0 ≤ k ∧ k < 1000) {n w : Nat} {d : PyData} (hn : 1 ≤ n) (hd : Nice n w d) (hl : ns.length ≤ 90) : Nice (n + 1) (w + 73400) (.tuple (d :: ns.map fun k => .tuple [.str "way", .int k])) := by
  have hw : ∀ x ∈ ns.map (fun k => PyData.tuple [.str "way", .int k]), Nice 1 813 x := fun x hx => by
    obtain ⟨k, hk, rfl⟩ := List.mem_map.mp hx
    exact nice_way (h k hk).1 (h k hk).2
  obtain ⟨_, _, _, _, e, _⟩ := nices_all hw
  rw [List.length_map] at e
  exact (nice_tupW (n := n) (v := max 813 w) (W := w + 73390) (fun x hx => by
    rcases List.mem_cons.mp hx with rfl | hx
    · exact hd.mono (Nat.le_refl _) (Nat.le_max_right _ _)
    · exact (hw x hx).mono hn (Nat.le_max_left _ _)) (by rw [List.length_cons, List.length_map]; omega) (by
      have h1 := hd.wd
      simp only [wdAll]
      omega)).mono (Nat.le_refl _) (by omega)
theorem four_pos : ∀ k : Nat, 1 ≤ 4 ^ k
  | 0 => Nat.le_refl _
  | k + 1 => by have := four_pos k; rw [Nat.pow_succ]; omega
end L3
namespace L3
open PySem L2
theorem pth_hd {B : Book} {a b : Int} {ns : List Int} (h : Pth B a ns b) (hn : ns ≠ []) : (wAt B (ns.head hn)).a = a := by
  cases ns with
  | nil => exact absurd rfl hn
  | cons k r => exact h.2.1
theorem pth_lst {B : Book} {b : Int} : ∀ {ns : List Int} {a : Int}, Pth B a ns b → ∀ hn : ns ≠ [], (wAt B (ns.getLast hn)).b = b
  | [k], a, h, _ => h.2.2
  | k :: l :: r, a, h, _ => by
    rw [List.getLast_cons (by simp)]
    exact pth_lst (ns := l :: r) h.2.2 (by simp)
end L3
end
section
/-! L4m: told walks and walks: gains and needs alike. -/
namespace L3
open PySem L2
theorem sum2_step {B : Book} {n : Nat} : ∀ ks : List Int, n = B.purses.toNat → (sumB B n ks).2 = ks.foldr (fun k d => stepD B d k) (zeros B)
  | [], h => by subst h; rfl
  | k :: r, h => by
    have ih := sum2_step r h
    show ((sumB B n r).2.zip (wAt B k).gs).map (fun p => mx2 0 (p.1 - p.2)) = stepD B (r.foldr (fun k d => stepD B d k) (zeros B)) k
    rw [ih, stepD, List.zip, List.map_zipWith]
    rfl
theorem sum1_col {B : Book} {n : Nat} : ∀ {ks : List Int}, (∀ k ∈ ks, (wAt B k).gs.length = n) → ∀ p, p < n → (sumB B n ks).1[p]? = some (colSum B ks p)
  | [], _, p, hp => by
    show (List.replicate n (0 : Int))[p]? = some 0
    rw [List.getElem?_replicate, if_pos hp]
  | k :: r, h, p, hp => by
    have ih := sum1_col (ks := r) (fun x hx => h x (List.mem_cons_of_mem _ hx)) p hp
    have hk := h k List.mem_cons_self
    have hl : p < (wAt B k).gs.length := by omega
    show (addL (sumB B n r).1 (wAt B k).gs)[p]? = _
    unfold addL
    rw [List.getElem?_zipWith, ih, List.getElem?_eq_getElem hl]
    show some (colSum B r p + (wAt B k).gs[p]) = some (colSum B (k :: r) p)
    unfold colSum
    rw [List.map_cons, List.sum_cons, List.getD_eq_getElem?_getD, List.getElem?_eq_getElem hl, Option.getD_some, Int.add_comm]
theorem sum1_gain {B : Book} {ks : List Int} (hP : 0 ≤ B.purses) (h : ∀ k ∈ ks, (wAt B k).gs.length = B.purses.toNat) : (sumB B B.purses.toNat ks).1 = gainL B ks := by
  have hI : ∀ k ∈ ks, ((wAt B k).gs.length : Int) = B.purses := fun k hk => by have := h k hk; omega
  apply List.ext_getElem?
  intro p
  by_cases hp : p < B.purses.toNat
  · rw [sum1_col h p hp, gainL_col hI p hp]
  · rw [List.getElem?_eq_none (by rw [(sumB_ok h).g]; omega), List.getElem?_eq_none (by rw [gainL_len hI]; omega)]
theorem sum2_need {B : Book} {ks : List Int} (hP : 0 ≤ B.purses) (h : ∀ k ∈ ks, (wAt B k).gs.length = B.purses.toNat) : (sumB B B.purses.toNat ks).2 = needL B ks := by
  have hI : GsOk B ks := fun k hk => by have := h k hk; omega
  rw [sum2_step ks rfl, dueL_fold hI, needL_due hI]
/-- whether a told walk can be done -/
def okF (f : Fa) (r : Int) (xs : List Int) : Bool := decide (r = f.a) && geL xs f.ns
theorem geL_same : ∀ xs : List Int, geL xs xs = true
  | [] => rfl
  | x :: r => by
    have ih := geL_same r
    unfold geL at ih ⊢
    rw [List.zip_cons_cons, List.all_cons, ih]
    simp
theorem geL_less {ns : List Int} {p : Nat} (h : p < ns.length) : geL (ns.take p ++ [ns.getD p 0 - 1] ++ ns.drop (p + 1)) ns = false := by
  have hz : ((ns.take p ++ [ns.getD p 0 - 1] ++ ns.drop (p + 1)).zip ns)[p]? = some (ns.getD p 0 - 1, ns.getD p 0) := by
    rw [List.getElem?_zip_eq_some]
    refine ⟨?_, ?_⟩
    · rw [List.append_assoc, List.getElem?_append_right (by rw [List.length_take]; omega), List.length_take, Nat.min_eq_left (by omega), Nat.sub_self]
      rfl
    · rw [List.getD_eq_getElem?_getD, List.getElem?_eq_getElem h]; rfl
  unfold geL
  rw [List.all_eq_false]
  exact ⟨_, List.mem_of_getElem? hz, by simp; omega⟩
end L3
end
section
/-! L4n: what kinds an error is of: a def that is called with it where it is caught. -/
namespace L3
open PySem PySem.Spec PyProof.Rows L2
/-- a def called where an error is at hand, which it is told (p is the error) -/
def FnK (P : Program) (w : World) (K : PySem.W.Frag) (mg : Str → Option Value) (base : Heap) (n : Nat) (fa : Addr) (fd : FuncData) (qs : List Str) (sp : Addr × Obj → Sp) : Prop :=
  ∀ (p : Addr × Obj) (B : Around) (oe : List Env) (s : Shared) (H : Hp) (as : Args) (us : List Value) (vs : List V) (Q : VK), L2H.RoomH n B → L2H.PinOk oe H s p → Env0 P w K mg base B oe s H → BindsTo s fd as (qs.zip us) → Vals vs us → us.length = qs.length → sp p vs H Q E0 →
    codeAny (model P w) B (.call (.ref fa) as) (CR (L2.CX P w) oe P w H s Q E0) s
theorem funK {P : Program} {w : World} {K : PySem.W.Frag} {mg : Str → Option Value} {base : Heap} {x : Str} {st : Stmt} {fa : Addr} {fd : FuncData} {N qs : List Str} {n : Nat} {sp : Addr × Obj → Sp} (Fu : Fun K x x st fa fd) (Sc : FnScope N qs (defScope st))
    (body : ∀ (p : Addr × Obj) (cdv : Value) (B : Around) (oe : List Env) (s : Shared) (H : Hp) (vs : List V) (Q : VK), L2H.RoomH n (B.deeper (PyProof.Rows.envOfC x (defScope st) s.heap.objs.size fa cdv)) → sp p vs H Q E0 →
      ∃ t, PSs (L2H.cxH (L2.CX P w) P w K mg base N x (defScope st) fa cdv B oe s H E0 p) (defBody st) t ∧ t { nx := fun _ H' => Q .non H', rt := Q } (L2.start N vs) H) : FnK P w K mg base (n + 1) fa fd qs sp := by
  obtain ⟨oc, od, kV, doc, pm, an, cdv, ct, osl, rfl, lk, hcd⟩ := Fu.ex
  intro p B oe s H as us vs Q hr hpin c0 hb r hlen hsp
  have vl : vs.length = qs.length := by rw [r.length]; exact hlen
  have kin : K.In s.heap := c0.mod.kin.keeps fun b o q => (c0.bs b o q).1
  have nol : s.heap.NoLimit := c0.mod.nolimit.keeps fun b o q => (c0.bs b o q).1
  have kinds : ∀ y ∈ qs.zip us, (defScope st).names.lookup y.1 = some .local ∨ ((defScope st).names.lookup y.1 = some .cell ∧ ((cellsFrom (s.heap.objs.size + 1) (defScope st).names []).lookup y.1).isSome = true) := fun ⟨m, v⟩ hy => by
    rcases Sc.par m (List.of_mem_zip hy).1 with q | q
    · exact .inl q
    · exact .inr ⟨q, PySem.W.cellsFrom_some _ _ _ (.inl q)⟩
  refine codeAny_call_function hr.depth (kin _ _ lk) rfl Sc.co Sc.gen rfl (PySem.W.codeRec_of kin hcd) (hb _ _ _ _ ?_)
  refine wpAny_newFunctionEnv_cells Sc.kind kinds fun en he s1 y => ?_
  subst he
  refine ⟨nol.keeps y.toInCall.keep, codeAny_func ?_⟩
  obtain ⟨t, ht, hq⟩ := body p cdv B oe s H vs Q (hr.deeper _) hsp
  have J : Inv (L2H.cxH (L2.CX P w) P w K mg base N x (defScope st) fa cdv B oe s H E0 p) [] (L2.start N vs) H s1 := L2H.inv_startH Sc hpin c0 vl r y
  refine wpAny_mono (ht.run [] s1 (L2.start N vs) H _ J hq) (fun fl s' hs => ?_) fun e s' hs => hs
  cases fl with
  | ret u => obtain ⟨v, σ', H', I, rv, q⟩ := hs; exact ⟨v, H', I.os, I.bare, I.base, I.hok, rv, q⟩
  | next => obtain ⟨σ', H', I, q⟩ := hs; exact ⟨.non, H', I.os, I.bare, I.base, I.hok, rfl, q⟩
  | brk => obtain ⟨_, _, _, q⟩ := hs; exact q.elim
  | cont => obtain ⟨_, _, _, q⟩ := hs; exact q.elim
/-- isinstance(e, C), e an error that is pinned -/
theorem call_isP {X : Cx} {p : Addr × Obj} {D : Addr} (C : ExcC X.K D) (hp : p ∈ X.pn) (hz : Zc (.ref D) none p.2) (hf : ∃ vs, p.2.data = .fields vs) : CallR X (.builtin "isinstance") (rIsE X.K D p.1) := fun pins s σ H xs us Q I r h => by
  obtain ⟨c, cv, b, rfl, hcv, e, q⟩ := h
  match us, r with
  | [_, _], .cons rx (.cons rt .nil) =>
    cases rx
    cases hcv _ rt
    have hget := (I.pin p (List.mem_append_left _ hp)).1
    obtain ⟨vs, hv⟩ := hf
    obtain ⟨pa, oc, od, oda, osl⟩ := p
    obtain ⟨h1, h2⟩ := hz
    dsimp only at h1 h2 hv
    subst h1 h2 hv
    have J : PySem.W.InstAt s.heap pa _ D none := ⟨hget, rfl, rfl, trivial⟩
    exact PySem.W.kia_one (PySem.W.handS_kitx_exc C.hg C.hk C.hs C.hd C.ha C.hn C.ht C.hm) I.kIn J e (fun z => nomatch z) fun tk => ⟨.bl b, H, I.kept (t' := tk) fun _ _ z => z, rfl, q⟩
/-- the classes that a law asks for, in their order -/
def kindNs : List Str := ["NoWay", "NoRound", "NoRing", "NoPurse", "NoEnd", "NoStand", "TooMany", "NoLine", "NoRow"]
/-- what isinstance tells of a class's instances -/
structure KindsOf (K : PySem.W.Frag) (mg : Str → Option Value) (D : Addr) (f : Str → Bool) : Prop where
  k : ∀ x ∈ kindNs, PySem.W.kitOne K (.ref D) (cv mg x) = some (f x)
  v : PySem.W.kitOne K (.ref D) (.type "ValueError") = some true
def kindL (f : Str → Bool) : List Bool := kindNs.map f ++ [true]
def spKinds (K : PySem.W.Frag) (mg : Str → Option Value) : Addr × Obj → Sp := fun p vs H Q _ => vs = [.ref p.1] ∧ ∃ (D : Addr) (f : Str → Bool), ExcC K D ∧ Zc (.ref D) none p.2 ∧ (∃ fs, p.2.data = .fields fs) ∧ KindsOf K mg D f ∧
  ∀ (H' : Hp) (l : Addr), (∀ b o, H b = some o → H' b = some o) → H l = none → H' l = some (.lst ((kindL f).map V.bl)) → Q (.ref l) H'
/-- a def that keeps such a promise -/
def OkK (P : Program) (w : World) (K : PySem.W.Frag) (mg : Str → Option Value) (base : Heap) (k : Nat) (x : Str) (ps : List Str) (sp : Addr × Obj → Sp) : Prop :=
  ∃ fa fd, mg x = some (.ref fa) ∧ PySem.W.keepIn K (.ref fa) = true ∧ Binds K fd ps [] ∧ FnK P w K mg base k fa fd ps sp
theorem OkK.up {P : Program} {w : World} {K : PySem.W.Frag} {mg : Str → Option Value} {base : Heap} {j : Nat} {x : Str} {ps : List Str} {sp : Addr × Obj → Sp} (h : OkK P w K mg base j x ps sp) {k : Nat} (hk : j ≤ k) : OkK P w K mg base k x ps sp := by
  obtain ⟨fa, fd, h1, h2, h3, h4⟩ := h
  exact ⟨fa, fd, h1, h2, h3, fun p B oe s H as us vs Q hr => h4 p B oe s H as us vs Q (hr.mono hk)⟩
/-- one question -/
theorem isE_pe {X : Cx} {p : Addr × Obj} {D : Addr} {x : Str} {px pp pos : Pos} {C : Addr} (c : ExcC X.K D) (hp : p ∈ X.pn) (hz : Zc (.ref D) none p.2) (hf : ∃ vs, p.2.data = .fields vs) (z : X.mg "isinstance" = none) (hx : X.mg x = some (.ref C)) {y : Str} {py : Pos} {te : TE} (he : PE X (.Name y py) te)
    (hg : Gl X "isinstance" := by rfl) (hg2 : Gl X x := by rfl) (hd : (x == ("__debug__" : Str)) = false := by decide) :
    PE X (.Call (.Name "isinstance" pp) [.Name y py, .Name x px] [] pos) (tCB (rIsE X.K D p.1) (tCons te (tCons (tC (.ref C)) tNil))) :=
  pe_callB (call_isP c hp hz hf) hg z rfl (pa_cons he (pa_cons (pe_glob hg2 hx rfl hd) pa_nil))
theorem isT_pe {X : Cx} {p : Addr × Obj} {D : Addr} {x : Str} {n : String} {px pp pos : Pos} (c : ExcC X.K D) (hp : p ∈ X.pn) (hz : Zc (.ref D) none p.2) (hf : ∃ vs, p.2.data = .fields vs) (z : X.mg "isinstance" = none) (hx : X.mg x = none) (hb : bootBuiltins x = some (.type n)) {y : Str} {py : Pos} {te : TE} (he : PE X (.Name y py) te)
    (hg : Gl X "isinstance" := by rfl) (hg2 : Gl X x := by rfl) (hn : x ≠ "__name__" := by decide) (hd : (x == ("__debug__" : Str)) = false := by decide) :
    PE X (.Call (.Name "isinstance" pp) [.Name y py, .Name x px] [] pos) (tCB (rIsE X.K D p.1) (tCons te (tCons (tC (.ty n)) tNil))) :=
  pe_callB (call_isP c hp hz hf) hg z rfl (pa_cons he (pa_cons (pe_bltn hg2 hx hb (show Value.type n = Value.type n from rfl) hn hd) pa_nil))
/-- kinds(e), e what is caught -/
def tKinds (K : PySem.W.Frag) (mg : Str → Option Value) (p : Addr × Obj) (te : TE) : TE := fun σ H Q => te σ H fun v H1 => spKinds K mg p [v] H1 Q E0
theorem pe_kinds {X : Cx} {k : Nat} {x q : Str} {pp pos : Pos} {p : Addr × Obj} {y : Str} {py : Pos} {te : TE} (F : OkK X.prog X.w X.K X.mg X.base k x [q] (spKinds X.K X.mg)) (hr : L2H.RoomH k X.A) (hp : p ∈ X.pn) (he : PE X (.Name y py) te) (hg : Gl X x := by rfl) (hdb : (x == ("__debug__" : Str)) = false := by decide) : PE X (.Call (.Name x pp) [.Name y py] [] pos) (tKinds X.K X.mg p te) := by
  obtain ⟨fa, fd, hm, hk, hb, Fk⟩ := F
  refine ⟨fun pins s σ H Q I h => wpAny_Call_Name_kw (ld_glob I hg hm ?_ hdb)⟩
  refine PySem.W.callWith_K (h₀ := X.base) I.ok.mod.kin hk (thn ((pa_cons he pa_nil).run pos pins s σ H (fun vs H1 => spKinds X.K X.mg p vs H1 Q E0) I h) fun us s1 ⟨vs, H1, I1, r, hq⟩ => ⟨I1.kIn, ?_⟩) (by rfl) (by rfl)
  have hl : us.length = [q].length := by
    rw [← r.length]
    obtain ⟨rfl, _⟩ := hq
    rfl
  have b := hb s1 us I1.kIn (by rw [List.append_nil]; exact hl)
  rw [List.append_nil] at b
  have pi := I1.pin p (List.mem_append_left _ hp)
  have hpin : L2H.PinOk X.stack H1 s1 p := ⟨pi.1, pi.2.1, fun hm => (List.mem_cons.mp (I1.stkSub p.1 hm)).elim pi.2.2.1 pi.2.2.2.1, pi.2.2.2.2⟩
  refine wpAny_call (codeAny_mono (Fk p X.A X.stack s1 H1 ⟨us, []⟩ us vs Q hr hpin I1.env0 b r hl hq) fun res s' hh => ?_)
  cases res with
  | error er => exact passN (σ := σ) pins H1 s1 er s' I1 hh
  | ok fl =>
    cases fl with
    | ret u => exact I1.after hh
    | next => exact hh.elim
    | brk => exact hh.elim
    | cont => exact hh.elim
end L3
end
section
/-! L4o: try .. except X as e: kinds = f(e). -/
namespace L3
open PySem L2
variable {G : Type} {K : PySem.W.Frag} {X : Cx} {Z : Zx K G}
/-- what is told of a class -/
def KOk (K : PySem.W.Frag) (mg : Str → Option Value) (c : Value) (k : List Bool → Prop) : Prop := ∃ (D : Addr) (f : Str → Bool), c = .ref D ∧ ExcC K D ∧ KindsOf K mg D f ∧ k (kindL f)
def dTryK (K : PySem.W.Frag) (mg : Str → Option Value) (y : Str) (ie ik : Nat) (U : UX G) (db : UX G → DS G) : DS G := fun D ρ g =>
  db (fun c fs ρ' g' => (fs = [] ∧ Takes1 K mg c y true ∧ KOk K mg c fun bs => ltK ie ρ'.length (ltK ik ρ'.length (D.nx ((ρ'.set ie .un).set ik (.ls (bs.map PyData.bool))) g'))) ∨ (Takes1 K mg c y false ∧ U c fs ρ' g')) D ρ g
/-- the suite: kinds = f(e) -/
def tsK (K : PySem.W.Frag) (mg : Str → Option Value) (ie ik : Nat) (a : Addr) (cls : Value) (d : Option Addr) : TS := fun D σ H => ∃ (Dd : Addr) (f : Str → Bool), cls = .ref Dd ∧ d = none ∧ ExcC K Dd ∧ KindsOf K mg Dd f ∧ σ[ie]? = some (some (.ref a)) ∧
  ∀ (H' : Hp) (l : Addr), (∀ b o, H b = some o → H' b = some o) → H l = none → H' l = some (.lst ((kindL f).map V.bl)) → D.nx (σ.set ik (some (.ref l))) H'
theorem bools_da {K : PySem.W.Frag} {F : Hp} : ∀ bs : List Bool, DaAll K F (bs.map V.bl) (bs.map PyData.bool)
  | [] => .nil
  | b :: r => .cons (.bl b) (bools_da r)
theorem Rel.unset {f : Fx} {F : Hp} {ad : Nat → Addr} {ρ : En} {g : G} {σ : St} {H : Hp} (R : Rel Z f F ad ρ g σ H) (i : Nat) (x : Option V) : Rel Z f F ad (ρ.set i .un) g (σ.set i x) H := by
  refine ⟨⟨R.fin, by rw [List.length_set, List.length_set]; exact R.len, fun j s hj => ?_, fun j k s t hj hk hs ht => ?_⟩, R.lx⟩
  · by_cases e : i = j
    · subst e
      have hl := (List.getElem?_eq_some_iff.mp hj).1
      rw [List.length_set] at hl
      rw [List.getElem?_set_self hl] at hj
      cases hj
      trivial
    · rw [List.getElem?_set_ne e] at hj
      have q := R.slot j s hj
      cases s with
      | un => trivial
      | dt d => obtain ⟨w, q1, q2⟩ := q; exact ⟨w, by rw [List.getElem?_set_ne e]; exact q1, q2⟩
      | ls ds => exact ⟨by rw [List.getElem?_set_ne e]; exact q.1, q.2⟩
      | dk ds => exact ⟨by rw [List.getElem?_set_ne e]; exact q.1, q.2⟩
      | rs n => unfold Slo at q ⊢; rw [List.getElem?_set_ne e]; exact q
      | vv u => unfold Slo at q ⊢; rw [List.getElem?_set_ne e]; exact q
  · have own : ∀ {m : Nat} {x : Sl}, (ρ.set i .un)[m]? = some x → x.own = true → ρ[m]? = some x := fun {m x} hm hx => by
      by_cases e : i = m
      · subst e
        have hl := (List.getElem?_eq_some_iff.mp hm).1
        rw [List.length_set] at hl
        rw [List.getElem?_set_self hl] at hm
        cases hm
        cases hx
      · rw [List.getElem?_set_ne e] at hm; exact hm
    exact R.inj j k s t (own hj hs) (own hk ht) hs ht
/-- an own list that has come to stand at l -/
theorem Rel.come {f : Fx} {F : Hp} {ad : Nat → Addr} {ρ : En} {g : G} {σ : St} {H H' : Hp} (R : Rel Z f F ad ρ g σ H) {i : Nat} (hi : i < σ.length) {l : Addr} {vs : List V} {ds : List PyData} (k : ∀ b o, H b = some o → H' b = some o) (n : H l = none) (h : H' l = some (.lst vs)) (d : DaAll K F vs ds) :
    Rel Z f F (adS ad i l) (ρ.set i (.ls ds)) g (σ.set i (some (.ref l))) H' := by
  have ow := R.fin.own n
  refine (R.grown k).setSl ⟨by rw [List.getElem?_set_self hi, adS_same], by rw [adS_same]; exact ow, vs, by rw [adS_same]; exact h, d⟩ fun _ j t hj ht _ e => ?_
  have q := R.slot j t hj
  cases t with
  | ls ds => obtain ⟨_, _, ws, q3, _⟩ := q; rw [e, n] at q3; cases q3
  | dk ds => obtain ⟨_, _, ws, q3, _⟩ := q; rw [e, n] at q3; cases q3
  | _ => cases ht
theorem s_tryK {W : WXH} {U : UX G} {k : Nat} {y n kn fn q : Str} (ie ik : Nat) {body : List Stmt} {np p1 p2 p3 p4 p5 pos pos2 : Pos} {db : UX G → DS G} (e : ExX X.K X.mg y) (tk : Takes X W) (F : OkK X.prog X.w X.K X.mg X.base k fn [q] (spKinds X.K X.mg)) (hr : RoomG k X.A)
    (hb : ∀ (W' : WXH) (U' : UX G) (pn : List (Addr × Obj)) (xe : Value → Shared → Prop), Takes (X.tr pn xe) W' → PassesOwn (model X.prog X.w) X.A X.env xe → ∃ ts, DSs (X.tr pn xe) (Z.wish W' U') body ts (db U'))
    (hN : X.N.Nodup) (hne : ie ≠ ik := by decide) (hie : X.N[ie]? = some n := by rfl) (hik : X.N[ik]? = some kn := by rfl) (hln : X.env.kindOf n = some .local := by rfl) (hlk : X.env.scope.names.lookup kn = some .local := by rfl) (hgf : Gl X fn := by rfl) (hdf : (fn == ("__debug__" : Str)) = false := by decide)
    (hdn : (n == ("__debug__" : Str)) = false := by decide) (hcn : (n == ("__classdict__" : Str)) = false := by decide) (hv : Vis X.env.scope n := by first | exact Or.inl rfl | exact Or.inr (Or.inl rfl) | exact Or.inr (Or.inr rfl))
    (hK : K = X.K := by rfl) (hs : X.stack = X.env :: X.outer := by rfl) (hf : X.env.frame = some X.env.locals := by rfl) (hg : Gl X y := by rfl) (hdb : (y == ("__debug__" : Str)) = false := by decide)
    (hsw : swapsWith (.Call (.Name fn p2) [.Name n p3] [] p4) (some (.Name kn p1)) p5.line X.env = pure false := by rfl) :
    DSt X (Z.wish W U) (.Try body [.ExceptHandler (some (.Name y np)) (some n) [.Assign [.Name kn p1] (.Call (.Name fn p2) [.Name n p3] [] p4) p5] pos] [] [] pos2)
      (fun D σ H => (fun W' : WXH => fun D σ H => ∃ U', dTS (Z.wish W' U') (db U') D σ H) (wAs X.K (cv X.mg y) ie (tsK X.K X.mg ie ik) W D) D σ H) (dTryK K X.mg y ie ik U db) := by
  subst hK
  obtain ⟨C, h1, _⟩ := e.ex
  refine ⟨ps_try_as (tb := fun W' D σ H => ∃ U', dTS (Z.wish W' U') (db U') D σ H) hs hf hN hie hln ⟨hg, hdb, .inl (by rw [cv_of h1]; exact h1)⟩ tk (fun W' pn xe tk' po => ⟨fun pins s σ H D I q => ?_⟩) (fun a oe cls d pn hz hv2 => ?_), fun f F0 ad ρ g σ H D R h D2 le => ?_⟩
  · obtain ⟨U', q⟩ := q
    obtain ⟨ts, hd⟩ := hb W' U' pn xe tk' po
    exact (DSs.imp hd).run pins s σ H D I q
  · have hrH : L2H.RoomH k (X.suite a ((a, oe) :: pn)).A := ⟨hr.rm.dp, hr.rm.un⟩
    have P1 := pss_one (ps_set (X := X.suite a ((a, oe) :: pn)) (i := ik) hN hik (.inl hlk) (pe_kinds (X := X.suite a ((a, oe) :: pn)) (p := (a, oe)) F hrH List.mem_cons_self (pe_var (X := X.suite a ((a, oe) :: pn)) hie hv hdn hcn) hgf hdf) hsw (.inr hlk))
    refine ⟨fun pins s σ H D I q => P1.run pins s σ H D I ?_⟩
    obtain ⟨Dd, ff, rfl, rfl, c, kk, hσ, hq⟩ := q
    exact ⟨.ref a, hσ, rfl, Dd, ff, c, hz, hv2, kk, hq⟩
  · have lx : LeX (Z.wish (wAs X.K (cv X.mg y) ie (tsK X.K X.mg ie ik) W D2) (fun c fs ρ' g' => (fs = [] ∧ Takes1 X.K X.mg c y true ∧ KOk X.K X.mg c fun bs => ltK ie ρ'.length (ltK ik ρ'.length (D.nx ((ρ'.set ie .un).set ik (.ls (bs.map PyData.bool))) g'))) ∨ (Takes1 X.K X.mg c y false ∧ U c fs ρ' g'))) f (Z.ra g) := fun F' ad' ρ' g' σ' H' c dx fs er R' hx hu => by
      rcases hu with ⟨e0, t1, Dd, ff, rfl, ec, kk, hq⟩ | ⟨t1, h2⟩
      · obtain ⟨l1, hq⟩ := ltK_e hq
        obtain ⟨l2, hq⟩ := ltK_e hq
        have hd : dx = none := by
          rcases hx with ⟨_, z⟩ | ⟨_, _, z, _⟩
          · exact z
          · exact absurd e0 z
        have s1 : ie < σ'.length := by rw [← R'.len]; exact l1
        have s2 : ik < σ'.length := by rw [← R'.len]; exact l2
        refine ⟨true, t1, fun _ a ha => ⟨Dd, ff, rfl, hd, ec, kk, by rw [List.getElem?_set_self s1], fun H2 l k2 n2 h2 => ?_⟩, fun z => by cases z⟩
        have R2 : Rel (Z.wish W U) f F' ad' ρ' g' σ' H' := ⟨R'.wish, by rw [show (Z.wish W U).ra g' = (Z.wish W U).ra g from er]; exact R.lx⟩
        have R3 := (R2.unset ie none).come (i := ik) (by rw [List.length_set]; exact s2) k2 n2 h2 (bools_da (kindL ff))
        have es : ((σ'.set ie (some (.ref a))).set ik (some (.ref l))).set ie none = (σ'.set ie none).set ik (some (.ref l)) := by
          rw [List.set_comm _ _ (Ne.symm hne), List.set_set]
        show D2.nx _ H2
        rw [es]
        exact le.nx F' _ _ g' _ H2 er R3 hq
      · exact ⟨false, t1, fun z => (by cases z), fun _ => R.lx F' ad' ρ' g' σ' H' c dx fs er R'.wish hx h2⟩
    exact ⟨_, f, F0, ad, ρ, g, D, R.wish lx, h, le.wish R.lx⟩
end L3
end
section
/-! L4p: count and index of truths in a list; the kinds of a class. -/
namespace L3
open PySem L2
variable {G : Type} {K : PySem.W.Frag} {X : Cx} {Z : Zx K G}
/-- a class that is of its own kind alone -/
def KX (K : PySem.W.Frag) (mg : Str → Option Value) (x : Str) : Prop := ∃ D, cv mg x = .ref D ∧ ExcC K D ∧ KindsOf K mg D (fun y => y == x)
theorem KX.ok {mg : Str → Option Value} {x : Str} (h : KX K mg x) {k : List Bool → Prop} (q : k (kindL fun y => y == x)) : KOk K mg (cv mg x) k := by
  obtain ⟨D, h1, h2, h3⟩ := h
  exact ⟨D, _, h1, h2, h3, q⟩
theorem holdAll_bools {h : Heap} : ∀ {bs : List Bool} {us : List Value}, Vals (bs.map V.bl) us → PySem.W.HoldAll h us bs
  | [], _, .nil => .nil
  | b :: bs, _, .cons r rs => by
    cases r
    exact .cons (PySem.W.holds_bool b) (holdAll_bools rs)
def bbU (k : Bool → Prop) : Option PyData → Prop
  | some (.bool i) => k i
  | _ => False
theorem bbU_of {k : Bool → Prop} {a : Option PyData} (h : bbU k a) : ∃ i, a = some (.bool i) ∧ k i := by
  unfold bbU at h
  split at h
  · exact ⟨_, rfl, h⟩
  · cases h
def rCntB (K : PySem.W.Frag) : V → List V → Hp → VK → Prop := fun x vs H Q => ∃ (a : Addr) (ns : List Bool) (i : Bool), x = .ref a ∧ vs = [.bl i] ∧ SqL K H a (ns.map V.bl) ∧ Q (.int ((ns.count i : Nat) : Int)) H
def rIdxB (K : PySem.W.Frag) : V → List V → Hp → VK → Prop := fun x vs H Q => ∃ (a : Addr) (ns : List Bool) (i : Bool), x = .ref a ∧ vs = [.bl i] ∧ SqL K H a (ns.map V.bl) ∧ i ∈ ns ∧ ns.length ≤ sizeLine ∧ Q (.int ((ns.idxOf i : Nat) : Int)) H
theorem mt_cntB (hu : X.A.units + 64 < cLine) : MtR X "list.count" (rCntB X.K) := by
  intro pins s σ H x xs v us Q I rx rxs h
  obtain ⟨a, ns, i, rfl, rfl, hs, q⟩ := h
  cases rx
  obtain ⟨u, rfl, ru⟩ := rxs.one
  cases ru
  obtain ⟨its, rv, hl, _⟩ := I.list hs
  refine PySem.W.count_list_datum hl.isList (by simpa using holdAll_bools rv) (PySem.W.holds_bool i) (by show X.A.units + 1 + 0 < _; omega) ?_
  have e : (ns.countP fun y => decide (y = i)) = ns.count i := by
    unfold List.count
    congr 1
  refine ⟨.int _, H, I.tok _, ⟨_, rfl⟩, ?_⟩
  rw [e]
  exact q
theorem mt_idxB (hu : X.A.units + 64 < cLine) : MtR X "list.index" (rIdxB X.K) := by
  intro pins s σ H x xs v us Q I rx rxs h
  obtain ⟨a, ns, i, rfl, rfl, hs, hm, hn, q⟩ := h
  cases rx
  obtain ⟨u, rfl, ru⟩ := rxs.one
  cases ru
  obtain ⟨its, rv, hl, _⟩ := I.list hs
  refine PySem.W.index_list_datum hl.isList (holdAll_bools rv) (PySem.W.holds_bool i) (by show X.A.units + 1 + 0 < _; omega) hn hm ?_
  exact ⟨.int _, H, I.tok _, ⟨_, rfl⟩, q⟩
def dCntB (a b : DT G) : DT G := fun ρ g Q => a ρ g fun r1 ρ1 g1 => lsD (fun _ => b ρ1 g1 fun r2 ρ2 g2 => lsD (fun ds => opK (boolsL ds) fun ns => bbU (fun i => Q (.dt (.int ((ns.count i : Nat) : Int))) ρ2 g2) (rd r2 ρ2)) (rd (st r1) ρ2)) (rd r1 ρ1)
def dIdxB (a b : DT G) : DT G := fun ρ g Q => a ρ g fun r1 ρ1 g1 => lsD (fun _ => b ρ1 g1 fun r2 ρ2 g2 => lsD (fun ds => opK (boolsL ds) fun ns => bbU (fun i => i ∈ ns ∧ ns.length ≤ sizeLine ∧ Q (.dt (.int ((ns.idxOf i : Nat) : Int))) ρ2 g2) (rd r2 ρ2)) (rd (st r1) ρ2)) (rd r1 ρ1)
theorem sim_cntB {ta : TE} {tb : TA} {tb' : TE} {a b : DT G} (ha : Sim Z ta a) (hb : Sim Z tb' b) (e : tb = fun σ H Q => tb' σ H fun x H1 => Q [x] H1) : Sim Z (tBM K "list" (rCntB K) ta tb) (dCntB a b) := fun f F ad ρ g σ H Q R h P hP => by
  subst e
  refine ha f F ad ρ g σ H _ R h _ fun x H1 q => ?_
  obtain ⟨F1, ad1, ρ1, g1, r1, e1, eg1, R1, v1, q⟩ := q
  obtain ⟨ds0, e0, q⟩ := lsD_of q
  obtain ⟨a0, vs0, rfl, ha0, da0⟩ := R1.items v1 e0
  obtain ⟨F1', e1', R1', v1'⟩ := R1.hst v1
  refine ⟨.inl ⟨rfl, _, .inl (.inl ha0)⟩, hb f F1' ad1 ρ1 g1 σ H1 _ R1' q _ fun y H2 q2 => ?_⟩
  obtain ⟨F2, ad2, ρ2, g2, r2, e2, eg2, R2, v2, q⟩ := q2
  obtain ⟨ds, ed, q⟩ := lsD_of q
  obtain ⟨ns, ei, q⟩ := opK_e q
  obtain ⟨i, en, q⟩ := bbU_of q
  obtain ⟨a1, vs1, ea, ha1, da1⟩ := R2.items (v1'.held e2 eg2) ed
  cases ea
  rw [boolsL_of ei] at da1
  have ev := daAll_bools da1
  subst ev
  exact ⟨a0, ns, i, rfl, by rw [R2.rBool v2 en], .inl (.inl ha1), hP _ _ ((R2.dat (.int _) q).mono ((e1.trans e1').trans e2) (eg2.trans eg1))⟩
theorem sim_idxB {ta : TE} {tb : TA} {tb' : TE} {a b : DT G} (ha : Sim Z ta a) (hb : Sim Z tb' b) (e : tb = fun σ H Q => tb' σ H fun x H1 => Q [x] H1) : Sim Z (tBM K "list" (rIdxB K) ta tb) (dIdxB a b) := fun f F ad ρ g σ H Q R h P hP => by
  subst e
  refine ha f F ad ρ g σ H _ R h _ fun x H1 q => ?_
  obtain ⟨F1, ad1, ρ1, g1, r1, e1, eg1, R1, v1, q⟩ := q
  obtain ⟨ds0, e0, q⟩ := lsD_of q
  obtain ⟨a0, vs0, rfl, ha0, da0⟩ := R1.items v1 e0
  obtain ⟨F1', e1', R1', v1'⟩ := R1.hst v1
  refine ⟨.inl ⟨rfl, _, .inl (.inl ha0)⟩, hb f F1' ad1 ρ1 g1 σ H1 _ R1' q _ fun y H2 q2 => ?_⟩
  obtain ⟨F2, ad2, ρ2, g2, r2, e2, eg2, R2, v2, q⟩ := q2
  obtain ⟨ds, ed, q⟩ := lsD_of q
  obtain ⟨ns, ei, q⟩ := opK_e q
  obtain ⟨i, en, qm, qn, q⟩ := bbU_of q
  obtain ⟨a1, vs1, ea, ha1, da1⟩ := R2.items (v1'.held e2 eg2) ed
  cases ea
  rw [boolsL_of ei] at da1
  have ev := daAll_bools da1
  subst ev
  exact ⟨a0, ns, i, rfl, by rw [R2.rBool v2 en], .inl (.inl ha1), qm, qn, hP _ _ ((R2.dat (.int _) q).mono ((e1.trans e1').trans e2) (eg2.trans eg1))⟩
theorem e_cntB (hu : X.A.units + 64 < cLine) {apos cpos : Pos} {o e : Expr} {to te : TE} {a b : DT G} (ho : DE X Z o to a) (he : DE X Z e te b) (hK : K = X.K := by rfl)
    (hbase : attributeBase o "count" X.env (eval o X.env) = eval o X.env := by rfl)
    (hfew : ((backTo cpos (starEach [e] X.env)).all (fun x => !x.1) && (backToKw cpos (keywordEach [] X.env)).all (fun x => x.1.isSome)
      && decide (([e] : List Expr).length + ([] : List Keyword).length + (if ([] : List Keyword).isEmpty then 0 else 1) < 30)) = true := by rfl)
    (hline : (apos.endLine == cpos.line) = true := by rfl) (hst : starEach [e] X.env = (false, eval e X.env) :: starEach [] X.env := by rfl) (hplain : (backTo cpos (starEach [] X.env)).any (·.1) = false := by rfl) :
    DE X Z (.Call (.Attribute o "count" apos) [e] [] cpos) (tBM K "list" (rCntB K) to (tCons te tNil)) (dCntB a b) :=
  ⟨by rw [hK]; exact pe_bm PySem.F.plainAttrs_list PySem.F.slot_list_count PySem.F.type_list_count (mt_cntB hu) ho.pe (pa_cons he.pe pa_nil hst) hbase hfew hline hst hplain, sim_cntB ho.sim he.sim rfl⟩
theorem e_idxB (hu : X.A.units + 64 < cLine) {apos cpos : Pos} {o e : Expr} {to te : TE} {a b : DT G} (ho : DE X Z o to a) (he : DE X Z e te b) (hK : K = X.K := by rfl)
    (hbase : attributeBase o "index" X.env (eval o X.env) = eval o X.env := by rfl)
    (hfew : ((backTo cpos (starEach [e] X.env)).all (fun x => !x.1) && (backToKw cpos (keywordEach [] X.env)).all (fun x => x.1.isSome)
      && decide (([e] : List Expr).length + ([] : List Keyword).length + (if ([] : List Keyword).isEmpty then 0 else 1) < 30)) = true := by rfl)
    (hline : (apos.endLine == cpos.line) = true := by rfl) (hst : starEach [e] X.env = (false, eval e X.env) :: starEach [] X.env := by rfl) (hplain : (backTo cpos (starEach [] X.env)).any (·.1) = false := by rfl) :
    DE X Z (.Call (.Attribute o "index" apos) [e] [] cpos) (tBM K "list" (rIdxB K) to (tCons te tNil)) (dIdxB a b) :=
  ⟨by rw [hK]; exact pe_bm PySem.F.plainAttrs_list PySem.F.slot_list_index PySem.F.type_list_index (mt_idxB hu) ho.pe (pa_cons he.pe pa_nil hst) hbase hfew hline hst hplain, sim_idxB ho.sim he.sim rfl⟩
/-- the words of the classes -/
def kindW : List (Str × Str) := [("NoWay", "way"), ("NoRound", "round"), ("NoRing", "ring"), ("NoPurse", "purse"), ("NoEnd", "end"), ("NoStand", "stand"), ("TooMany", "many"), ("NoLine", "line"), ("NoRow", "row")]
end L3
end
section
/-! L5a: an own store: lists, dicts and instances that the code has made, known by their addresses; they may refer to one another. Slots hold them as .vv (.ref a). -/
namespace L3
open PySem L2
inductive Cell where
  | d (x : PyData) | r (a : Addr)
inductive OO where
  | ls (cs : List Cell) | dk (kvs : List (Key × Cell)) | ins (x : Str) (L : List Str) (cs : List Cell)
abbrev OS := List (Addr × OO)
def OS.look : OS → Addr → Option OO
  | [], _ => none
  | (b, x) :: r, a => if b = a then some x else OS.look r a
def OS.put : OS → Addr → OO → OS
  | [], _, _ => []
  | (b, x) :: r, a, y => if b = a then (b, y) :: r else (b, x) :: OS.put r a y
def OS.ads (o : OS) : List Addr := o.map (·.1)
theorem OS.look_cons {b : Addr} {x : OO} {o : OS} {a : Addr} : OS.look ((b, x) :: o) a = if b = a then some x else OS.look o a := rfl
theorem OS.look_new {b : Addr} {x : OO} {o : OS} : OS.look ((b, x) :: o) b = some x := if_pos rfl
theorem OS.look_old {b a : Addr} {x y : OO} {o : OS} (h : OS.look o b = none) (h2 : OS.look o a = some y) : OS.look ((b, x) :: o) a = some y := by
  rw [OS.look_cons, if_neg (fun e => by rw [e, h2] at h; cases h)]; exact h2
theorem OS.look_put : ∀ {o : OS} {a : Addr} {x y : OO} (b : Addr), OS.look o a = some x → OS.look (OS.put o a y) b = if a = b then some y else OS.look o b
  | [], _, _, _, _, h => by cases h
  | (c, z) :: o, a, x, y, b, h => by
    unfold OS.put
    by_cases e : c = a
    · subst e
      rw [if_pos rfl, OS.look_cons, OS.look_cons]
      by_cases e2 : c = b
      · rw [if_pos e2, if_pos e2]
      · rw [if_neg e2, if_neg e2, if_neg e2]
    · rw [OS.look_cons, if_neg e] at h
      rw [if_neg e, OS.look_cons, OS.look_cons, OS.look_put b h]
      by_cases e2 : c = b
      · rw [if_pos e2, if_pos e2, if_neg (fun z => e (e2.trans z.symm))]
      · rw [if_neg e2, if_neg e2]
theorem OS.put_self {o : OS} {a : Addr} {x y : OO} (h : OS.look o a = some x) : OS.look (OS.put o a y) a = some y := by rw [OS.look_put a h, if_pos rfl]
theorem OS.put_ne {o : OS} {a b : Addr} {x y : OO} (h : OS.look o a = some x) (n : a ≠ b) : OS.look (OS.put o a y) b = OS.look o b := by rw [OS.look_put b h, if_neg n]
theorem OS.put_ads : ∀ (o : OS) (a : Addr) (y : OO), (OS.put o a y).ads = o.ads
  | [], _, _ => rfl
  | (c, z) :: o, a, y => by
    unfold OS.put
    by_cases e : c = a
    · rw [if_pos e]; rfl
    · rw [if_neg e]
      show c :: (OS.put o a y).ads = c :: OS.ads o
      rw [OS.put_ads o a y]
theorem OS.look_mem : ∀ {o : OS} {a : Addr} {x : OO}, OS.look o a = some x → (a, x) ∈ o
  | [], _, _, h => by cases h
  | (c, z) :: o, a, x, h => by
    rw [OS.look_cons] at h
    by_cases e : c = a
    · rw [if_pos e] at h; cases h; rw [e]; exact List.mem_cons_self
    · rw [if_neg e] at h; exact List.mem_cons_of_mem _ (OS.look_mem h)
theorem OS.look_ads {o : OS} {a : Addr} {x : OO} (h : OS.look o a = some x) : a ∈ o.ads := List.mem_map.mpr ⟨_, OS.look_mem h, rfl⟩
theorem OS.look_none : ∀ {o : OS} {a : Addr}, a ∉ o.ads → OS.look o a = none
  | [], _, _ => rfl
  | (c, z) :: o, a, h => by
    rw [OS.look_cons, if_neg (fun e => h (by rw [e]; exact List.mem_cons_self))]
    exact OS.look_none fun m => h (List.mem_cons_of_mem _ m)
theorem OS.mem_look : ∀ {o : OS}, o.ads.Nodup → ∀ p ∈ o, OS.look o p.1 = some p.2
  | [], _, p, h => by cases h
  | (c, z) :: o, nd, p, h => by
    have nd2 : (c :: OS.ads o).Nodup := nd
    rw [List.nodup_cons] at nd2
    rcases List.mem_cons.mp h with rfl | h
    · exact OS.look_new
    · rw [OS.look_cons, if_neg (fun e => nd2.1 (by rw [e]; exact List.mem_map.mpr ⟨p, h, rfl⟩))]
      exact OS.mem_look nd2.2 p h
section
variable (K : PySem.W.Frag) (mg : Str → Option Value)
def CellV (F : Hp) (v : V) : Cell → Prop
  | .d x => Da K F v x
  | .r a => v = .ref a
abbrev CellsV (F : Hp) : List V → List Cell → Prop := Paired (CellV K F)
def OOat (F H : Hp) (a : Addr) : OO → Prop
  | .ls cs => ∃ vs, H a = some (.lst vs) ∧ CellsV K F vs cs
  | .dk kvs => ∃ vs, H a = some (.dK vs) ∧ Paired (fun (p : Key × V) (q : Key × Cell) => p.1 = q.1 ∧ CellV K F p.2 q.2) vs kvs
  | .ins x L cs => ∃ C dx vs, mg x = some (.ref C) ∧ H a = some (.ins C dx ((L.take cs.length).zip vs)) ∧ CellsV K F vs cs ∧ cs.length ≤ L.length
structure OSR (o : OS) (F H : Hp) : Prop where
  at_ : ∀ p ∈ o, OOat K mg F H p.1 p.2
  nd : o.ads.Nodup
end
section
variable {K : PySem.W.Frag} {mg : Str → Option Value} {G : Type} {F F' H H' : Hp}
theorem CellV.mono {v : V} {c : Cell} (e : Ex F F') (h : CellV K F v c) : CellV K F' v c := by
  cases c with
  | d x => exact da_mono e h
  | r a => exact h
theorem CellsV.mono {vs : List V} {cs : List Cell} (e : Ex F F') (h : CellsV K F vs cs) : CellsV K F' vs cs := Paired.mapP h fun _ _ q => q.mono e
theorem OOat.keep {a : Addr} {x : OO} (h : OOat K mg F H a x) (e : Ex F F') (k : H' a = H a) : OOat K mg F' H' a x := by
  cases x with
  | ls cs => obtain ⟨vs, h1, h2⟩ := h; exact ⟨vs, k.trans h1, h2.mono e⟩
  | dk cs => obtain ⟨vs, h1, h2⟩ := h; exact ⟨vs, k.trans h1, Paired.mapP h2 fun _ _ q => ⟨q.1, q.2.mono e⟩⟩
  | ins x L cs => obtain ⟨C, dx, vs, h0, h1, h2, h3⟩ := h; exact ⟨C, dx, vs, h0, k.trans h1, h2.mono e, h3⟩
theorem OOat.there {a : Addr} {x : OO} (h : OOat K mg F H a x) : H a ≠ none := by
  cases x with
  | ls cs => obtain ⟨vs, h1, _⟩ := h; rw [h1]; intro z; cases z
  | dk cs => obtain ⟨vs, h1, _⟩ := h; rw [h1]; intro z; cases z
  | ins x L cs => obtain ⟨C, dx, vs, h0, h1, _⟩ := h; rw [h1]; intro z; cases z
theorem OSR.get {o : OS} (h : OSR K mg o F H) {a : Addr} {x : OO} (l : OS.look o a = some x) : OOat K mg F H a x := h.at_ _ (OS.look_mem l)
theorem OSR.keep {o : OS} (h : OSR K mg o F H) (e : Ex F F') (k : ∀ a ∈ o.ads, H' a = H a) : OSR K mg o F' H' := ⟨fun p hp => (h.at_ p hp).keep e (k _ (List.mem_map.mpr ⟨p, hp, rfl⟩)), h.nd⟩
/-- one of the objects is written -/
theorem OSR.put {o : OS} (h : OSR K mg o F H) {a : Addr} {x y : OO} (l : OS.look o a = some x) (u : HO) (hy : OOat K mg F (L2.upd H a u) a y) : OSR K mg (o.put a y) F (L2.upd H a u) := by
  have nd : (o.put a y).ads.Nodup := by rw [OS.put_ads]; exact h.nd
  refine ⟨fun p hp => ?_, nd⟩
  have q := OS.mem_look nd p hp
  rw [OS.look_put p.1 l] at q
  by_cases e : a = p.1
  · rw [if_pos e] at q
    cases q
    rw [← e]; exact hy
  · rw [if_neg e] at q
    exact (h.get q).keep (Evl.Ex.refl F) (upd_ne fun z => e z.symm)
variable (mg) in
/-- with an own store -/
def ZS (Z : Zx K G) : Zx K (G × OS) where
  fp g := Z.fp g.1 ++ g.2.ads
  ra g := Z.ra g.1
  R g F H := Z.R g.1 F H ∧ OSR K mg g.2 F H ∧ ∀ a ∈ Z.fp g.1, a ∉ g.2.ads
  loc := fun {g F F' H H'} ⟨h1, h2, h3⟩ e k => ⟨Z.loc h1 e fun a ha => k a (List.mem_append_left _ ha), h2.keep e fun a ha => k a (List.mem_append_right _ ha), h3⟩
  there := fun {g F H} ⟨h1, h2, h3⟩ a ha => by
    rcases List.mem_append.mp ha with ha | ha
    · exact Z.there h1 a ha
    · obtain ⟨p, hp, rfl⟩ := List.mem_map.mp ha
      exact (h2.at_ p hp).there
end
abbrev ZSw {K : PySem.W.Frag} (mg : Str → Option Value) {G : Type} (Z : Zx K G) (W : WXH) (U : UX (G × OS)) : Zx K (G × OS) := (ZS mg Z).wish W U
/-- the reading of a cell -/
def cR : Cell → Rs
  | .d x => .dt x
  | .r a => .vv (.ref a)
def vvK (r : Rs) (k : Addr → Prop) : Prop := match r with
  | .vv (.ref a) => k a
  | _ => False
theorem vvK_e {r : Rs} {k : Addr → Prop} (h : vvK r k) : ∃ a, r = .vv (.ref a) ∧ k a := by
  unfold vvK at h
  split at h
  · exact ⟨_, rfl, h⟩
  · cases h
def insK (x : Str) (L : List Str) (o : Option OO) (k : List Cell → Prop) : Prop := match o with
  | some (.ins y M cs) => y = x ∧ M = L ∧ k cs
  | _ => False
theorem insK_e {x : Str} {L : List Str} {o : Option OO} {k : List Cell → Prop} (h : insK x L o k) : ∃ cs, o = some (.ins x L cs) ∧ k cs := by
  unfold insK at h
  split at h
  · obtain ⟨rfl, rfl, h⟩ := h
    exact ⟨_, rfl, h⟩
  · cases h
theorem insK_of {x : Str} {L : List Str} {o : Option OO} {k : List Cell → Prop} {cs : List Cell} (e : o = some (.ins x L cs)) (h : k cs) : insK x L o k := by subst e; exact ⟨rfl, rfl, h⟩
def lsK (o : Option OO) (k : List Cell → Prop) : Prop := match o with
  | some (.ls cs) => k cs
  | _ => False
theorem lsK_e {o : Option OO} {k : List Cell → Prop} (h : lsK o k) : ∃ cs, o = some (.ls cs) ∧ k cs := by
  unfold lsK at h
  split at h
  · exact ⟨_, rfl, h⟩
  · cases h
theorem lsK_of {o : Option OO} {k : List Cell → Prop} {cs : List Cell} (e : o = some (.ls cs)) (h : k cs) : lsK o k := by subst e; exact h
/-! ### fields by place -/
/-- the name stands at place n of the layout, and nowhere ahead -/
def FldAt : List Str → Nat → Str → Prop
  | [], _, _ => False
  | f :: _, 0, g => f = g
  | f :: r, n + 1, g => f ≠ g ∧ FldAt r n g
theorem FldAt.lt : ∀ {L : List Str} {n : Nat} {f : Str}, FldAt L n f → n < L.length
  | _ :: _, 0, _, _ => Nat.succ_pos _
  | _ :: r, n + 1, _, h => Nat.succ_lt_succ (FldAt.lt (L := r) h.2)
theorem fld_look : ∀ {L : List Str} {n m : Nat} {f : Str} {vs : List V}, FldAt L n f → n < m → vs.length = m → m ≤ L.length → ((L.take m).zip vs).lookup f = vs[n]?
  | g :: r, 0, m + 1, f, v :: vs, h, _, _, _ => by
    have e : g = f := h
    subst e
    show List.lookup g ((g, v) :: _) = _
    rw [List.lookup_cons_self]; rfl
  | g :: r, n + 1, m + 1, f, v :: vs, h, l, k, hm => by
    show List.lookup f ((g, v) :: ((r.take m).zip vs)) = _
    rw [List.lookup_cons, show (f == g) = false from by simpa using fun e : f = g => h.1 e.symm]
    exact fld_look h.2 (by omega) (by simpa using k) (by simpa using hm)
  | _ :: _, _, m + 1, _, [], _, _, k, _ => by simp at k
theorem fld_none : ∀ {L : List Str} {m : Nat} {f : Str} {vs : List V}, f ∉ L → ((L.take m).zip vs).lookup f = none
  | [], _, _, _, _ => by simp
  | g :: r, 0, _, _, _ => by simp
  | g :: r, m + 1, f, [], _ => by simp
  | g :: r, m + 1, f, v :: vs, h => by
    show List.lookup f ((g, v) :: ((r.take m).zip vs)) = _
    rw [List.lookup_cons, show (f == g) = false from by simpa using fun e : f = g => h (by rw [e]; exact List.mem_cons_self)]
    exact fld_none fun q => h (List.mem_cons_of_mem _ q)
theorem fld_put : ∀ {L : List Str} {n m : Nat} {f : Str} {vs : List V} (v : V), FldAt L n f → n < m → vs.length = m → m ≤ L.length → putF f v ((L.take m).zip vs) = (L.take m).zip (vs.set n v)
  | g :: r, 0, m + 1, f, w :: vs, v, h, _, _, _ => by
    have e : g = f := h
    subst e
    show putF g v ((g, w) :: _) = _
    unfold putF
    rw [if_pos rfl]; rfl
  | g :: r, n + 1, m + 1, f, w :: vs, v, h, l, k, hm => by
    show putF f v ((g, w) :: ((r.take m).zip vs)) = _
    unfold putF
    rw [if_neg h.1, fld_put v h.2 (by omega) (by simpa using k) (by simpa using hm)]
    rfl
  | _ :: _, _, m + 1, _, [], _, _, _, k, _ => by simp at k
theorem fld_new : ∀ {L : List Str} {n : Nat} {f : Str} {vs : List V} (v : V), FldAt L n f → vs.length = n → putF f v ((L.take n).zip vs) = (L.take (n + 1)).zip (vs ++ [v])
  | g :: r, 0, f, [], v, h, _ => by
    have e : g = f := h
    subst e
    rfl
  | g :: r, n + 1, f, w :: vs, v, h, k => by
    show putF f v ((g, w) :: ((r.take n).zip vs)) = _
    unfold putF
    rw [if_neg h.1, fld_new v h.2 (by simpa using k)]
    rfl
  | _ :: _, 0, _, _ :: _, _, _, k => by simp at k
  | _ :: _, _ + 1, _, [], _, _, k => by simp at k
/-! ### classes by name -/
def ClsX (K : PySem.W.Frag) (mg : Str → Option Value) (x : Str) : Prop := ∃ C, mg x = some (.ref C) ∧ Cls K C
def FldX (K : PySem.W.Frag) (mg : Str → Option Value) (x f : Str) : Prop := ∃ C, mg x = some (.ref C) ∧ NoAttr K C f
/-- a method that stands in its class -/
def DfnM (K : PySem.W.Frag) (mg : Str → Option Value) (x m q : Str) (s : Stmt) (ps : List Str) : Prop := ∃ C fa fd, mg x = some (.ref C) ∧ Fun K m q s fa fd ∧ Meth K C m fa ∧ Binds K fd ps []
def OkM (P : Program) (w : World) (K : PySem.W.Frag) (mg : Str → Option Value) (base : Heap) (k : Nat) (x m : Str) (ps : List Str) (sp : Sp) : Prop :=
  ∃ C fa fd, mg x = some (.ref C) ∧ Meth K C m fa ∧ Binds K fd ps [] ∧ FnG P w K mg base (L2.CX P w) k fa fd ps sp
def MkX (K : PySem.W.Frag) (mg : Str → Option Value) (x : Str) : Prop := ∃ C f, mg x = some (.ref C) ∧ Mk K C f
section
variable {P : Program} {w : World} {K : PySem.W.Frag} {mg : Str → Option Value} {base : Heap} {G : Type}
theorem OkM.up {j : Nat} {x m : Str} {ps : List Str} {sp : Sp} (h : OkM P w K mg base j x m ps sp) {k : Nat} (hk : j ≤ k) : OkM P w K mg base k x m ps sp := by
  obtain ⟨C, fa, fd, h1, h2, h3, h4⟩ := h
  exact ⟨C, fa, fd, h1, h2, h3, h4.mono hk⟩
theorem DfnM.ok {x m q : Str} {s : Stmt} {N ps : List Str} {k : Nat} {Z : Zx K G} {S : Spec G} (D : DfnM K mg x m q s ps) (Sc : FnScope N ps (defScope s)) (hS : ∀ as g T U, S as g T U → as.length = ps.length) (hN : ps.length ≤ N.length)
    (body : ∀ (fa : Addr) (cdv : Value) (A : Around) (outer : List Env) (s' : Shared) (H : Hp) (E : XK), RoomG k (A.deeper (PyProof.Rows.envOfC q (defScope s) s'.heap.objs.size fa cdv)) →
      ∃ ts t, DSs (cxOf (L2.CX P w) P w K mg base N q (defScope s) fa cdv A outer s' H E).nox (Z.wish (fun _ _ _ _ => False) Un) (defBody s) ts t ∧ ∀ as g T U, S as g T U → t { nx := fun _ g' => T (.dt .none) g', rt := T } (entry N as) g) : OkM P w K mg base (k + 1) x m ps (spZ Z S) := by
  obtain ⟨C, fa, fd, hm, Fu, Me, hb⟩ := D
  exact ⟨C, fa, fd, hm, Me, hb, fun3 Fu Sc hS hN (body fa)⟩
theorem DfnM.none {x m q : Str} {s : Stmt} {ps : List Str} {k : Nat} {Z : Zx K G} {S : Spec G} (D : DfnM K mg x m q s ps) (h0 : ∀ as g T U, ¬ S as g T U) : OkM P w K mg base k x m ps (spZ Z S) := by
  obtain ⟨C, fa, fd, hm, Fu, Me, hb⟩ := D
  exact ⟨C, fa, fd, hm, Me, hb, fun vs H Q E h => by obtain ⟨_, _, as, T, U, _, _, _, _, h, _⟩ := h; exact absurd h (h0 as _ T U), fun A outer s' H args us vs Q E _ _ _ _ h => by obtain ⟨_, _, as, T, U, _, _, _, _, h, _⟩ := h; exact absurd h (h0 as _ T U)⟩
end
/-! ### calls of methods, new instances -/
def tMethE (mg : Str → Option Value) (k m : Str) (sp : Sp) (E : L2.St → XK) (ta : TE) (t : TA) : TE := fun σ H Q => ta σ H fun x H1 => ∃ a dx fs C, mg k = some (.ref C) ∧ x = .ref a ∧ H1 a = some (.ins C dx fs) ∧ fs.lookup m = none ∧ t σ H1 fun vs H2 => sp (x :: vs) H2 Q (E σ)
def tMakeE (mg : Str → Option Value) (k : Str) (sp : Sp) (E : L2.St → XK) (t : TA) : TE := fun σ H Q => t σ H fun vs H1 => ∃ C, mg k = some (.ref C) ∧ ∀ x dx, H1 x = none → H1 dx = none → dx ≠ x →
  sp (.ref x :: vs) (upd (upd H1 dx (.own x)) x (.ins C dx [])) (fun v H2 => v = .non ∧ Q (.ref x) H2) (E σ)
section
open PySem.Spec PyProof.Rows
variable {X : Cx} {CC : CXT} {n : Nat} {fa C : Addr} {fd : FuncData} {qs : List Str} {sp : Sp} {x m : Str} {p pos apos : Pos} {e o : Expr} {es : List Expr} {t : TA} {ta : TE}
theorem pe_methG {pl : Sem Bool} {E : L2.St → XK} (he : PE X o ta) (hC : X.mg x = some (.ref C)) (c : Cls X.K C) (hm : Meth X.K C m fa) (F : FnG X.prog X.w X.K X.mg X.base CC n fa fd qs sp) (hr : RoomG n X.A) (hb : Binds X.K fd qs []) (hx : ∀ σ, PassesAt CC X σ (E σ)) (ha : PA X (e :: es) t)
    (hst : starEach (e :: es) X.env = (false, eval e X.env) :: starEach es X.env := by rfl) (hpl : (backTo pos (starEach es X.env)).any (·.1) = false := by rfl)
    (ht : eval (.Call (.Attribute o m apos) (e :: es) [] pos) X.env = (do
      let ov ← eval o X.env
      standAt apos.atName
      let (f, first) ← holding [ov] (getMethod ov m pl)
      callWith pos f first (backTo pos (starEach (e :: es) X.env)) (backToKw pos (keywordEach [] X.env))) := by rfl) :
    PE X (.Call (.Attribute o m apos) (e :: es) [] pos) (tMethE X.mg x m sp E ta t) := by
  refine ⟨fun pins s σ H Q I h => ?_⟩
  refine PySem.W.methodCall_KW (pl := pl) (thn (he.run pins s σ H _ I h) fun u s1 ⟨y, H1, I1, rx, a, dx, fs, C1, hC1, ex, ea, l, q⟩ => ?_) ht
  have eC : C1 = C := by rw [hC] at hC1; cases hC1; rfl
  subst eC
  subst ex
  obtain rfl : u = Value.ref a := rx
  refine getmeth_ok I1 ea c hm l ?_
  refine PySem.W.callWith_K (first := [.ref a]) (h₀ := X.base) I.ok.mod.kin hm.kp (thn (ha.run pos pins s1 σ H1 _ I1 q) fun us s2 ⟨vs, H2, I2, r, q2⟩ => ⟨I2.kIn, ?_⟩) hst hpl
  exact run_fnG (us := .ref a :: us) (vs := .ref a :: vs) (ds := []) (dvs := []) F hr hb .nil (hx σ) I2 (.cons rfl r) (by rw [List.append_nil]; exact q2)
theorem pe_methG0 {pl : Sem Bool} {E : L2.St → XK} (he : PE X o ta) (hC : X.mg x = some (.ref C)) (c : Cls X.K C) (hm : Meth X.K C m fa) (F : FnG X.prog X.w X.K X.mg X.base CC n fa fd qs sp) (hr : RoomG n X.A) (hb : Binds X.K fd qs []) (hx : ∀ σ, PassesAt CC X σ (E σ))
    (ht : eval (.Call (.Attribute o m apos) [] [] pos) X.env = (do
      let ov ← eval o X.env
      standAt apos.atName
      let (f, first) ← holding [ov] (getMethod ov m pl)
      callWith pos f first (backTo pos (starEach [] X.env)) (backToKw pos (keywordEach [] X.env))) := by rfl) :
    PE X (.Call (.Attribute o m apos) [] [] pos) (tMethE X.mg x m sp E ta tNil) := by
  refine ⟨fun pins s σ H Q I h => ?_⟩
  refine PySem.W.methodCall_KW (pl := pl) (thn (he.run pins s σ H _ I h) fun u s1 ⟨y, H1, I1, rx, a, dx, fs, C1, hC1, ex, ea, l, q⟩ => ?_) ht
  have eC : C1 = C := by rw [hC] at hC1; cases hC1; rfl
  subst eC
  subst ex
  obtain rfl : u = Value.ref a := rx
  refine getmeth_ok I1 ea c hm l ?_
  exact PySem.W.callWith_K0 (first := [.ref a]) I1.kIn hm.kp (run_fnG (us := [.ref a]) (vs := [.ref a]) (ds := []) (dvs := []) F hr hb .nil (hx σ) I1 (.cons rfl .nil) q)
theorem run_makeG {pins : List (Addr × Obj)} {σ : L2.St} {H : Hp} {s : Shared} {Q : VK} {E : XK} {us : List Value} {vs : List V} (M : Mk X.K C fa) (F : FnG X.prog X.w X.K X.mg X.base CC n fa fd qs sp) (hr : RoomG (n + 1) X.A) (hb : Binds X.K fd qs [])
    (hx : PassesAt CC X σ E) (I : Inv X pins σ H s) (r : Vals vs us)
    (h : ∀ x dx, H x = none → H dx = none → dx ≠ x → sp (.ref x :: vs) (upd (upd H dx (.own x)) x (.ins C dx [])) (fun v H2 => v = .non ∧ Q (.ref x) H2) E) :
    wpAny (model X.prog X.w) X.A (call (.ref C) us) (EP X pins σ Q) X.xe s := by
  have hq := h (s.heap.objs.size + 1) s.heap.objs.size (I.hok.fresh (Nat.le_succ _)) (I.hok.fresh (Nat.le_refl _)) (Nat.ne_of_lt (Nat.lt_succ_self _))
  have I2 := Inv.made (C := C) I
  have r2 : Vals (V.ref (s.heap.objs.size + 1) :: vs) (Value.ref (s.heap.objs.size + 1) :: us) := .cons rfl r
  have hl : ((Value.ref (s.heap.objs.size + 1) :: us) ++ []).length = qs.length := by
    have e := r2.length
    rw [F.len _ _ _ _ hq] at e
    rw [List.append_nil]
    exact e.symm
  have hb2 := hb _ (Value.ref (s.heap.objs.size + 1) :: us) I2.kIn hl
  rw [List.append_nil] at hb2
  refine wpAny_call (make_map (f := fa) I.kIn M.makes M.init (beq_iff_eq.mp M.fn) (codeAny_mono (F.run _ X.stack _ _ ⟨Value.ref (s.heap.objs.size + 1) :: us, []⟩ (Value.ref (s.heap.objs.size + 1) :: us) _ _ E (hr.make C us [])
    (I2.env0.make C us []) hb2 r2 hq) fun r s' hq' => ?_))
  cases r with
  | error e => exact hx pins _ _ e s' I2 hq'
  | ok fl =>
    cases fl with
    | ret u =>
      obtain ⟨v, H', I3, rv, ev, q3⟩ := I2.after hq'
      subst ev
      exact ⟨rv, ⟨V.ref (s.heap.objs.size + 1), H', I3, rfl, q3⟩⟩
    | next => exact False.elim hq'
    | brk => exact False.elim hq'
    | cont => exact False.elim hq'
theorem pe_makeG {E : L2.St → XK} (M : Mk X.K C fa) (F : FnG X.prog X.w X.K X.mg X.base CC n fa fd qs sp) (hr : RoomG (n + 1) X.A) (hg : Gl X x) (hm : X.mg x = some (.ref C)) (hb : Binds X.K fd qs []) (hx : ∀ σ, PassesAt CC X σ (E σ))
    (ha : PA X (e :: es) t) (hdb : (x == ("__debug__" : Str)) = false := by decide) (he : starEach (e :: es) X.env = (false, eval e X.env) :: starEach es X.env := by rfl) (hpl : (backTo pos (starEach es X.env)).any (·.1) = false := by rfl) :
    PE X (.Call (.Name x p) (e :: es) [] pos) (tMakeE X.mg x sp E t) := by
  refine ⟨fun pins s σ H Q I h => ?_⟩
  refine wpAny_Call_Name_kw (ld_glob I hg hm ?_ hdb)
  refine PySem.W.callWith_K (h₀ := X.base) I.ok.mod.kin M.kp (thn (ha.run pos pins s σ H _ I h) fun us s1 ⟨vs, H1, I1, r, C1, hC1, q⟩ => ⟨I1.kIn, ?_⟩) he hpl
  have eC : C1 = C := by rw [hm] at hC1; cases hC1; rfl
  subst eC
  exact run_makeG M F hr hb (hx σ) I1 r q
theorem pe_makeG0 {E : L2.St → XK} (M : Mk X.K C fa) (F : FnG X.prog X.w X.K X.mg X.base CC n fa fd qs sp) (hr : RoomG (n + 1) X.A) (hg : Gl X x) (hm : X.mg x = some (.ref C)) (hb : Binds X.K fd qs []) (hx : ∀ σ, PassesAt CC X σ (E σ))
    (hdb : (x == ("__debug__" : Str)) = false := by decide) : PE X (.Call (.Name x p) [] [] pos) (tMakeE X.mg x sp E tNil) := by
  refine ⟨fun pins s σ H Q I h => ?_⟩
  refine wpAny_Call_Name_kw (ld_glob I hg hm ?_ hdb)
  obtain ⟨C1, hC1, h⟩ := h
  have eC : C1 = C := by rw [hm] at hC1; cases hC1; rfl
  subst eC
  exact PySem.W.callWith_K0 I.kIn M.kp (run_makeG (us := []) M F hr hb (hx σ) I .nil h)
end
end L3
end
section
/-! L5b: rules over the own store: fields, methods, new instances, lists taken in; a def that has a store of its own. -/
namespace L3
open PySem L2
variable {G : Type} {K : PySem.W.Frag} {mg : Str → Option Value} {X : Cx} {Z : Zx K G} {W : WXH} {U : UX (G × OS)}
theorem paired_get {α β : Type} {R : α → β → Prop} : ∀ {xs : List α} {ys : List β} {n : Nat} {y : β}, Paired R xs ys → ys[n]? = some y → ∃ x, xs[n]? = some x ∧ R x y
  | _, _, _, _, .nil, e => by simp at e
  | _, _, 0, _, .cons h _, e => by simp at e; subst e; exact ⟨_, rfl, h⟩
  | _, _, n + 1, _, .cons _ r, e => by
    obtain ⟨x, h1, h2⟩ := paired_get (n := n) r (by simpa using e)
    exact ⟨x, by simpa using h1, h2⟩
theorem paired_set {α β : Type} {R : α → β → Prop} {x : α} {y : β} (h : R x y) : ∀ {xs : List α} {ys : List β} (n : Nat), Paired R xs ys → Paired R (xs.set n x) (ys.set n y)
  | _, _, _, .nil => .nil
  | _, _, 0, .cons _ r => .cons h r
  | _, _, n + 1, .cons q r => .cons q (paired_set h n r)
theorem paired_app {α β : Type} {R : α → β → Prop} : ∀ {xs xs2 : List α} {ys ys2 : List β}, Paired R xs ys → Paired R xs2 ys2 → Paired R (xs ++ xs2) (ys ++ ys2)
  | _, _, _, _, .nil, r => r
  | _, _, _, _, .cons q s, r => .cons q (paired_app s r)
theorem cells_d {F : Hp} : ∀ {vs : List V} {ds : List PyData}, DaAll K F vs ds → CellsV K F vs (ds.map Cell.d)
  | _, _, .nil => .nil
  | _, _, .cons h r => .cons h (cells_d r)
section
variable {f : Fx} {F F' : Hp} {ad : Nat → Addr} {ρ ρ' : En} {g g' : G × OS} {σ : St} {H H' : Hp}
theorem Rel.osr (R : Rel (ZSw mg Z W U) f F ad ρ g σ H) : OSR K mg g.2 F H := R.fin.res.2.1
theorem cR_vr {v : V} {c : Cell} (h : CellV K F v c) : VR (ZSw mg Z W U) f F ad ρ g σ H v (cR c) := by cases c <;> exact h
/-- an object of the store is written -/
theorem Rel.putS (R : Rel (ZSw mg Z W U) f F ad ρ g σ H) {p : Addr} {x y : OO} {u : HO} (l : OS.look g.2 p = some x) (hy : OOat K mg F (L2.upd H p u) p y) : Rel (ZSw mg Z W U) f F ad ρ (g.1, OS.put g.2 p y) σ (L2.upd H p u) := by
  have hp := OS.look_ads l
  obtain ⟨r1, r2, r3⟩ : Z.R g.1 F H ∧ OSR K mg g.2 F H ∧ ∀ a ∈ Z.fp g.1, a ∉ g.2.ads := R.fin.res
  have e : (OS.put g.2 p y).ads = g.2.ads := OS.put_ads _ _ _
  refine R.upR (g' := (g.1, OS.put g.2 p y)) (a := p) (o := u) (List.mem_append_right _ hp) ?_ rfl ⟨Z.loc r1 (Evl.Ex.refl F) fun a ha => upd_ne fun z => r3 a ha (by rw [z]; exact hp), r2.put l u hy, fun a ha => ?_⟩
  · show Z.fp g.1 ++ (OS.put g.2 p y).ads = Z.fp g.1 ++ g.2.ads
    rw [e]
  · show a ∉ (OS.put g.2 p y).ads
    rw [e]; exact r3 a ha
/-- a new object is taken into the store -/
theorem Rel.newS (R : Rel (ZSw mg Z W U) f F ad ρ g σ H) {p : Addr} (n : NewA (ZSw mg Z W U) f F ad ρ g p) {y : OO} (hy : OOat K mg F H p y) : Rel (ZSw mg Z W U) f F ad ρ (g.1, (p, y) :: g.2) σ H ∧ OS.look g.2 p = none := by
  obtain ⟨r1, r2, r3⟩ : Z.R g.1 F H ∧ OSR K mg g.2 F H ∧ ∀ a ∈ Z.fp g.1, a ∉ g.2.ads := R.fin.res
  have nf : p ∉ Z.fp g.1 ++ g.2.ads := n.1.2.2
  have n1 : p ∉ Z.fp g.1 := fun h => nf (List.mem_append_left _ h)
  have n2 : p ∉ g.2.ads := fun h => nf (List.mem_append_right _ h)
  refine ⟨R.inR (g' := (g.1, (p, y) :: g.2)) n (fun hm => R.fin.fpo p hm n.1.2.1) (fun a => ?_) rfl ⟨r1, ⟨fun q hq => ?_, ?_⟩, fun a ha h => ?_⟩, OS.look_none n2⟩
  · show a ∈ Z.fp g.1 ++ p :: OS.ads g.2 ↔ a ∈ Z.fp g.1 ++ OS.ads g.2 ∨ a = p
    simp only [List.mem_append, List.mem_cons]
    constructor
    · rintro (h | h | h)
      · exact .inl (.inl h)
      · exact .inr h
      · exact .inl (.inr h)
    · rintro ((h | h) | h)
      · exact .inl h
      · exact .inr (.inr h)
      · exact .inr (.inl h)
  · rcases List.mem_cons.mp hq with rfl | hq
    · exact hy
    · exact r2.at_ q hq
  · show (p :: OS.ads g.2).Nodup
    rw [List.nodup_cons]
    exact ⟨n2, r2.nd⟩
  · have h2 : a ∈ p :: OS.ads g.2 := h
    rcases List.mem_cons.mp h2 with e | h2
    · rw [e] at ha; exact n1 ha
    · exact r3 a ha h2
end
/-! ### o.f -/
def dFld (x : Str) (L : List Str) (n : Nat) (a : DT (G × OS)) : DT (G × OS) := fun ρ g Q => a ρ g fun r ρ1 g1 => vvK r fun p => insK x L (OS.look g1.2 p) fun cs => opK cs[n]? fun c => Q (cR c) ρ1 g1
theorem sim_fldO {x f : Str} {L : List Str} {n : Nat} {ta : TE} {a : DT (G × OS)} (hl : FldAt L n f) (hc : ClsX K mg x) (hf : FldX K mg x f) (ha : Sim (ZSw mg Z W U) ta a) : Sim (ZSw mg Z W U) (tFld K ta f) (dFld x L n a) := fun f0 F ad ρ g σ H Q R q P hP => by
  refine ha f0 F ad ρ g σ H _ R q _ fun y H1 q => ?_
  obtain ⟨F1, ad1, ρ1, g1, r1, e1, eg1, R1, v1, q⟩ := q
  obtain ⟨p, rfl, q⟩ := vvK_e q
  obtain ⟨cs, l, q⟩ := insK_e q
  obtain ⟨c, hcn, q⟩ := opK_e q
  obtain rfl : y = .ref p := v1
  obtain ⟨C, dx, vs, hm, hH, hv, hlen⟩ := R1.osr.get l
  obtain ⟨C1, hm1, cl⟩ := hc
  obtain ⟨C2, hm2, na⟩ := hf
  have eC : C1 = C := by rw [hm] at hm1; cases hm1; rfl
  have eC2 : C2 = C := by rw [hm] at hm2; cases hm2; rfl
  subst eC; subst eC2
  obtain ⟨v, hvn, cv⟩ := paired_get hv hcn
  have hlt : n < cs.length := (List.getElem?_eq_some_iff.mp hcn).1
  exact ⟨p, _, dx, _, v, rfl, hH, cl, na, (fld_look hl hlt (Paired.length hv) hlen).trans hvn, hP v H1 ⟨F1, ad1, ρ1, g1, cR c, e1, eg1, R1, cR_vr cv, q⟩⟩
theorem e_fldO (x : Str) (L : List Str) (n : Nat) {f : Str} {e : Expr} {te : TE} {a : DT (G × OS)} {pos : Pos} (hl : FldAt L n f) (hc : ClsX K mg x) (hf : FldX K mg x f) (he : DE X (ZSw mg Z W U) e te a) (hK : K = X.K := by rfl) (hb : attributeBase e f X.env (eval e X.env) = eval e X.env := by rfl) :
    DE X (ZSw mg Z W U) (.Attribute e f pos) (tFld K te f) (dFld x L n a) := ⟨by rw [hK]; exact pe_fld he.pe hb, sim_fldO hl hc hf he.sim⟩
/-! ### o.f = e -/
def cellK (r : Rs) (ρ : En) (k : Cell → En → Prop) : Prop := match r with
  | .vv (.ref a) => k (.r a) ρ
  | .dt d => k (.d d) ρ
  | .nl ds => k (.d (.list ds)) ρ
  | .nd ds => k (.d (.dict ds)) ρ
  | .br i => fz1S ρ i (fun d ρ' => k (.d d) ρ') ρ[i]?
  | _ => False
theorem Rel.cell {G : Type} {Z : Zx K G} {f : Fx} {F : Hp} {ad : Nat → Addr} {ρ : En} {g : G} {σ : St} {H : Hp} {v : V} {r : Rs} {k : Cell → En → Prop} (R : Rel Z f F ad ρ g σ H) (h : VR Z f F ad ρ g σ H v r) (q : cellK r ρ k) :
    ∃ F' c ρ', Ex F F' ∧ Rel Z f F' ad ρ' g σ H ∧ CellV K F' v c ∧ k c ρ' := by
  have go : ∀ r, VR Z f F ad ρ g σ H v r → fz1 r ρ (fun d ρ' => k (.d d) ρ') → ∃ F' c ρ', Ex F F' ∧ Rel Z f F' ad ρ' g σ H ∧ CellV K F' v c ∧ k c ρ' := fun r h q => by
    obtain ⟨d, ρ', ef, q⟩ := fz1_of q
    obtain ⟨F', e, R', dv⟩ := R.hfz h ef
    exact ⟨F', .d d, ρ', e, R', dv, q⟩
  cases r with
  | dt d => exact go _ h q
  | nl d => exact go _ h q
  | nd d => exact go _ h q
  | br i => exact go _ h q
  | rs n => cases q
  | vv u =>
    cases u <;> first | exact ⟨F, .r _, ρ, Evl.Ex.refl F, R, h, q⟩ | cases q
def fldPut : List Cell → Nat → Cell → Option (List Cell)
  | [], 0, c => some [c]
  | _ :: r, 0, c => some (c :: r)
  | x :: r, n + 1, c => (fldPut r n c).map (x :: ·)
  | [], _ + 1, _ => none
theorem fldPut_of : ∀ {cs : List Cell} {n : Nat} {c : Cell} {cs' : List Cell}, fldPut cs n c = some cs' → (n < cs.length ∧ cs' = cs.set n c) ∨ (n = cs.length ∧ cs' = cs ++ [c])
  | [], 0, c, cs', h => by cases h; exact .inr ⟨rfl, rfl⟩
  | x :: r, 0, c, cs', h => by cases h; exact .inl ⟨Nat.succ_pos _, rfl⟩
  | x :: r, n + 1, c, cs', h => by
    unfold fldPut at h
    obtain ⟨r', h1, rfl⟩ := Option.map_eq_some_iff.mp h
    rcases fldPut_of h1 with ⟨h2, rfl⟩ | ⟨h2, rfl⟩
    · exact .inl ⟨Nat.succ_lt_succ h2, rfl⟩
    · exact .inr ⟨congrArg (· + 1) h2, rfl⟩
  | [], _ + 1, _, _, h => by cases h
def dSFld (x : Str) (L : List Str) (n : Nat) (a b : DT (G × OS)) : DS (G × OS) := fun D ρ g => b ρ g fun r1 ρ1 g1 => ifh r1 (a ρ1 g1 fun r2 ρ2 g2 => vvK r2 fun p => insK x L (OS.look g2.2 p) fun cs => cellK (st r1) ρ2 fun c ρ3 => opK (fldPut cs n c) fun cs' => D.nx ρ3 (g2.1, OS.put g2.2 p (.ins x L cs')))
theorem sim_sfldO {x f : Str} {L : List Str} {n : Nat} {ta tb : TE} {a b : DT (G × OS)} (hl : FldAt L n f) (h1000 : L.length < 1000) (hc : ClsX K mg x) (hf : FldX K mg x f) (ha : Sim (ZSw mg Z W U) ta a) (hb : Sim (ZSw mg Z W U) tb b) : SimS (ZSw mg Z W U) (sFld K ta tb f) (dSFld x L n a b) := fun f0 F ad ρ g σ H D R h D2 le => by
  refine hb f0 F ad ρ g σ H _ R h _ fun y H1 q => ?_
  obtain ⟨F1, ad1, ρ1, g1, r1, e1, eg1, R1, v1, q⟩ := q
  replace q := ifh_of q
  obtain ⟨F1', e1', R1', v1'⟩ := R1.hst v1
  refine ha f0 F1' ad1 ρ1 g1 σ H1 _ R1' q _ fun z H2 q2 => ?_
  obtain ⟨F2, ad2, ρ2, g2, r2, e2, eg2, R2, v2, q⟩ := q2
  obtain ⟨p, rfl, q⟩ := vvK_e q
  obtain ⟨cs, l, q⟩ := insK_e q
  obtain ⟨F3, c, ρ3, e3, R3, cv, q⟩ := R2.cell (v1'.held e2 eg2) q
  obtain ⟨cs', hp, q⟩ := opK_e q
  obtain rfl : z = .ref p := v2
  obtain ⟨C, dx, vs, hm, hH, hv, hlen⟩ := R3.osr.get l
  obtain ⟨C1, hm1, cl⟩ := hc
  obtain ⟨C2, hm2, na⟩ := hf
  have eC : C1 = C := by rw [hm] at hm1; cases hm1; rfl
  have eC2 : C2 = C := by rw [hm] at hm2; cases hm2; rfl
  subst eC; subst eC2
  have vl := Paired.length hv
  refine ⟨p, _, dx, _, rfl, hH, cl, na, ?_, ?_⟩
  · rw [List.length_zip, List.length_take]; omega
  · refine le.nx F3 ad2 ρ3 (g2.1, OS.put g2.2 p (.ins x L cs')) σ _ (eg2.trans eg1) (R3.putS (y := .ins x L cs') l ?_) q
    rcases fldPut_of hp with ⟨hlt, rfl⟩ | ⟨hn, rfl⟩
    · refine ⟨_, dx, vs.set n y, hm, ?_, paired_set cv n hv, by rw [List.length_set]; exact hlen⟩
      rw [upd_same, fld_put y hl hlt vl hlen, List.length_set]
    · have hlt := hl.lt
      subst hn
      refine ⟨_, dx, vs ++ [y], hm, ?_, paired_app hv (.cons cv .nil), by rw [List.length_append]; exact hlt⟩
      rw [upd_same, fld_new y hl vl, List.length_append]
      rfl
theorem s_fldO (x : Str) (L : List Str) (n : Nat) {f : Str} {o e : Expr} {ta te : TE} {a b : DT (G × OS)} {pos pos' : Pos} (hl : FldAt L n f) (hc : ClsX K mg x) (hf : FldX K mg x f) (ho : DE X (ZSw mg Z W U) o ta a) (he : DE X (ZSw mg Z W U) e te b) (h1000 : L.length < 1000 := by decide) (hK : K = X.K := by rfl)
    (hs : swapsWith e (some (.Attribute o f pos')) pos.line X.env = pure false := by rfl) : DSt X (ZSw mg Z W U) (.Assign [.Attribute o f pos'] e pos) (sFld K ta te f) (dSFld x L n a b) := ⟨by rw [hK]; exact ps_fld ho.pe he.pe hs, sim_sfldO hl h1000 hc hf ho.sim he.sim⟩
/-! ### a new list is taken into the store -/
def dAdopt (a : DT (G × OS)) : DT (G × OS) := fun ρ g Q => a ρ g fun r ρ1 g1 => nlK r fun ds => ∀ p, OS.look g1.2 p = none → Q (.vv (.ref p)) ρ1 (g1.1, (p, .ls (ds.map Cell.d)) :: g1.2)
theorem sim_adopt {ta : TE} {a : DT (G × OS)} (ha : Sim (ZSw mg Z W U) ta a) : Sim (ZSw mg Z W U) ta (dAdopt a) := fun f0 F ad ρ g σ H Q R q P hP => by
  refine ha f0 F ad ρ g σ H _ R q _ fun y H1 q => ?_
  obtain ⟨F1, ad1, ρ1, g1, r1, e1, eg1, R1, v1, q⟩ := q
  obtain ⟨ds, rfl, q⟩ := nlK_e q
  obtain ⟨p, vs, rfl, np, hp, da⟩ := v1
  obtain ⟨R2, hn⟩ := R1.newS np (y := .ls (ds.map Cell.d)) ⟨vs, hp, cells_d da⟩
  exact hP _ _ ⟨F1, ad1, ρ1, (g1.1, (p, .ls (ds.map Cell.d)) :: g1.2), .vv (.ref p), e1, eg1, R2, rfl, q p hn⟩
theorem e_adopt {e : Expr} {te : TE} {a : DT (G × OS)} (he : DE X (ZSw mg Z W U) e te a) : DE X (ZSw mg Z W U) e te (dAdopt a) := ⟨he.pe, sim_adopt he.sim⟩
/-! ### o.m(..), C(..) -/
def dMeth (U : UX (G × OS)) (S : Spec (G × OS)) (x : Str) (L : List Str) (o : DT (G × OS)) (a : DA (G × OS)) : DT (G × OS) := fun ρ g Q => o ρ g fun r ρ0 g0 => vvK r fun p => insK x L (OS.look g0.2 p) fun _ => a ρ0 g0 fun rs ρ1 g1 => frK rs ρ1 fun qs ρ2 => S (.vv (.ref p) :: qs) g1 (fun r g' => Q r ρ2 g') (fun c fs g' => U c fs ρ2 g')
theorem sim_methO {U' : UX (G × OS)} {E : St → XK} (hU : LeW (ZSw mg Z W U) U' E) {S : Spec (G × OS)} {x m : Str} {L : List Str} (hm : m ∉ L) {to : TE} {ta : TA} {o : DT (G × OS)} {a : DA (G × OS)} (ho : Sim (ZSw mg Z W U) to o) (ha : SimA (ZSw mg Z W U) ta a) :
    Sim (ZSw mg Z W U) (tMethE mg x m (spZ (ZSw mg Z W U) S) E to ta) (dMeth U' S x L o a) := fun f F ad ρ g σ H Q R q P hP => by
  refine ho f F ad ρ g σ H _ R q _ fun y H0 q => ?_
  obtain ⟨F0, ad0, ρ0, g0, r0, e0, eg0, R0, v0, q⟩ := q
  obtain ⟨p, rfl, q⟩ := vvK_e q
  obtain ⟨cs, l, q⟩ := insK_e q
  obtain rfl : y = .ref p := v0
  obtain ⟨C1, dx, vs0, hm1, hH, hv, hlen⟩ := R0.osr.get l
  refine ⟨p, dx, _, C1, hm1, rfl, hH, fld_none hm, ?_⟩
  refine ha f F0 ad0 ρ0 g0 σ H0 _ R0 q _ fun vs H1 q => ?_
  obtain ⟨F1, ad1, ρ1, g1, rs, e1, eg1, R1, v1, q⟩ := q
  obtain ⟨qs, ρ2, ef, q⟩ := frK_of q
  obtain ⟨F2, e2, R2, da⟩ := R1.hfzRA v1 ef
  refine ⟨F2, g1, .vv (.ref p) :: qs, _, _, R2.fin.sub, R2.fin.res, R2.fin.fpF, .cons rfl da, q, fun v r F' g' H' fr er hv hT => ?_, fun c fs dx F' g' H' fr er hx hu => hU _ _ _ _ _ _ _ _ _ _ (R2.called fr er) hx hu⟩
  exact hP v H' ⟨F', ad1, ρ2, g', r, (e0.trans (e1.trans e2)).trans fr.ex, er.trans (eg1.trans eg0), R2.called fr er, R2.ret fr hv, hT⟩
def dMake (U : UX (G × OS)) (S : Spec (G × OS)) (x : Str) (L : List Str) (a : DA (G × OS)) : DT (G × OS) := fun ρ g Q => a ρ g fun rs ρ1 g1 => frK rs ρ1 fun qs ρ2 => ∀ p, OS.look g1.2 p = none → S (.vv (.ref p) :: qs) (g1.1, (p, .ins x L []) :: g1.2) (fun r g' => r = .dt .none ∧ Q (.vv (.ref p)) ρ2 g') (fun c fs g' => U c fs ρ2 g')
theorem sim_makeO {U' : UX (G × OS)} {E : St → XK} (hU : LeW (ZSw mg Z W U) U' E) {S : Spec (G × OS)} {x : Str} {L : List Str} {C : Addr} (hC : mg x = some (.ref C)) {ta : TA} {a : DA (G × OS)} (ha : SimA (ZSw mg Z W U) ta a) :
    Sim (ZSw mg Z W U) (tMakeE mg x (spZ (ZSw mg Z W U) S) E ta) (dMake U' S x L a) := fun f F ad ρ g σ H Q R q P hP => by
  refine ha f F ad ρ g σ H _ R q _ fun vs H1 q => ?_
  obtain ⟨F1, ad1, ρ1, g1, rs, e1, eg1, R1, v1, q⟩ := q
  obtain ⟨qs, ρ2, ef, q⟩ := frK_of q
  obtain ⟨F2, e2, R2, da⟩ := R1.hfzRA v1 ef
  refine ⟨C, hC, fun y dx hy hdx hne => ?_⟩
  have R3 := R2.grown (H' := upd H1 dx (.own y)) fun b o e => by rw [upd_ne (ne_of_none e hdx)]; exact e
  obtain ⟨R4, n4⟩ := R3.laid (p := y) (o := .ins C dx []) (by rw [upd_ne hne.symm]; exact hy)
  obtain ⟨R5, hn⟩ := R4.newS n4 (y := .ins x L []) ⟨C, dx, [], hC, upd_same, .nil, Nat.zero_le _⟩
  refine ⟨F2, _, .vv (.ref y) :: qs, _, _, R5.fin.sub, R5.fin.res, R5.fin.fpF, .cons rfl (Paired.mapP da fun v r h => by cases r <;> exact h), q y hn, fun v r F' g' H' fr er hv hT => ?_, fun c fs dx F' g' H' fr er hx hu => hU _ _ _ _ _ _ _ _ _ _ (R5.called fr er) hx hu⟩
  obtain ⟨rfl, hT⟩ := hT
  obtain rfl : v = .non := by cases (show Da K F' v .none from hv); rfl
  exact ⟨rfl, hP _ H' ⟨F', ad1, ρ2, g', .vv (.ref y), (e1.trans e2).trans fr.ex, er.trans eg1, R5.called fr er, rfl, hT⟩⟩
section
variable {k : Nat} {ps : List Str} {x m : Str} {p pos apos : Pos} {e o : Expr} {es : List Expr} {ta : TA} {to : TE} {a : DA (G × OS)} {b : DT (G × OS)}
theorem e_methO {pl : Sem Bool} {U' : UX (G × OS)} {E : St → XK} (Le : Let X (ZSw mg Z W U) U' E) {S : Spec (G × OS)} {Z' : Zx K (G × OS)} (L : List Str) (F : OkM X.prog X.w X.K X.mg X.base k x m ps (spZ Z' S)) (hr : RoomG k X.A) (hc : ClsX X.K X.mg x) (hn : m ∉ L) (ho : DE X (ZSw mg Z W U) o to b) (ha : DAs X (ZSw mg Z W U) (e :: es) ta a) (hmg : mg = X.mg := by rfl) (hz : spZ Z' S = spZ (ZSw mg Z W U) S := by rfl)
    (hst : starEach (e :: es) X.env = (false, eval e X.env) :: starEach es X.env := by rfl) (hpl : (backTo pos (starEach es X.env)).any (·.1) = false := by rfl)
    (ht : eval (.Call (.Attribute o m apos) (e :: es) [] pos) X.env = (do
      let ov ← eval o X.env
      standAt apos.atName
      let (f, first) ← holding [ov] (getMethod ov m pl)
      callWith pos f first (backTo pos (starEach (e :: es) X.env)) (backToKw pos (keywordEach [] X.env))) := by rfl) :
    DE X (ZSw mg Z W U) (.Call (.Attribute o m apos) (e :: es) [] pos) (tMethE mg x m (spZ Z' S) E to ta) (dMeth U' S x L b a) := by
  obtain ⟨C, fa, fd, hC, Me, hb, Fk⟩ := F
  obtain ⟨C1, hC1, cl⟩ := hc
  have eC : C1 = C := by rw [hC] at hC1; cases hC1; rfl
  subst eC
  subst hmg
  exact ⟨pe_methG (pl := pl) ho.pe hC cl Me Fk hr hb Le.pa ha.pa hst hpl ht, by rw [hz]; exact sim_methO Le.lw hn ho.sim ha.sim⟩
theorem e_methO0 {pl : Sem Bool} {U' : UX (G × OS)} {E : St → XK} (Le : Let X (ZSw mg Z W U) U' E) {S : Spec (G × OS)} {Z' : Zx K (G × OS)} (L : List Str) (F : OkM X.prog X.w X.K X.mg X.base k x m ps (spZ Z' S)) (hr : RoomG k X.A) (hc : ClsX X.K X.mg x) (hn : m ∉ L) (ho : DE X (ZSw mg Z W U) o to b) (hmg : mg = X.mg := by rfl) (hz : spZ Z' S = spZ (ZSw mg Z W U) S := by rfl)
    (ht : eval (.Call (.Attribute o m apos) [] [] pos) X.env = (do
      let ov ← eval o X.env
      standAt apos.atName
      let (f, first) ← holding [ov] (getMethod ov m pl)
      callWith pos f first (backTo pos (starEach [] X.env)) (backToKw pos (keywordEach [] X.env))) := by rfl) :
    DE X (ZSw mg Z W U) (.Call (.Attribute o m apos) [] [] pos) (tMethE mg x m (spZ Z' S) E to tNil) (dMeth U' S x L b dNil) := by
  obtain ⟨C, fa, fd, hC, Me, hb, Fk⟩ := F
  obtain ⟨C1, hC1, cl⟩ := hc
  have eC : C1 = C := by rw [hC] at hC1; cases hC1; rfl
  subst eC
  subst hmg
  exact ⟨pe_methG0 (pl := pl) ho.pe hC cl Me Fk hr hb Le.pa ht, by rw [hz]; exact sim_methO Le.lw hn ho.sim sim_dnil⟩
theorem e_makeO {U' : UX (G × OS)} {E : St → XK} (Le : Let X (ZSw mg Z W U) U' E) {S : Spec (G × OS)} {Z' : Zx K (G × OS)} (L : List Str) (F : OkM X.prog X.w X.K X.mg X.base k x "__init__" ps (spZ Z' S)) (hr : RoomG (k + 1) X.A) (hc : MkX X.K X.mg x) (ha : DAs X (ZSw mg Z W U) (e :: es) ta a) (hmg : mg = X.mg := by rfl) (hz : spZ Z' S = spZ (ZSw mg Z W U) S := by rfl)
    (hg : Gl X x := by rfl) (hdb : (x == ("__debug__" : Str)) = false := by decide) (hst : starEach (e :: es) X.env = (false, eval e X.env) :: starEach es X.env := by rfl) (hpl : (backTo pos (starEach es X.env)).any (·.1) = false := by rfl) :
    DE X (ZSw mg Z W U) (.Call (.Name x p) (e :: es) [] pos) (tMakeE mg x (spZ Z' S) E ta) (dMake U' S x L a) := by
  obtain ⟨C, fa, fd, hC, Me, hb, Fk⟩ := F
  obtain ⟨C1, f1, hC1, mk⟩ := hc
  have eC : C1 = C := by rw [hC] at hC1; cases hC1; rfl
  subst eC
  have ef : f1 = fa := by
    have h1 := mk.init
    have h2 := Me.at_
    rw [h2] at h1; cases h1; rfl
  subst ef
  subst hmg
  exact ⟨pe_makeG mk Fk hr hg hC hb Le.pa ha.pa hdb hst hpl, by rw [hz]; exact sim_makeO Le.lw hC ha.sim⟩
theorem e_makeO0 {U' : UX (G × OS)} {E : St → XK} (Le : Let X (ZSw mg Z W U) U' E) {S : Spec (G × OS)} {Z' : Zx K (G × OS)} (L : List Str) (F : OkM X.prog X.w X.K X.mg X.base k x "__init__" ps (spZ Z' S)) (hr : RoomG (k + 1) X.A) (hc : MkX X.K X.mg x) (hmg : mg = X.mg := by rfl) (hz : spZ Z' S = spZ (ZSw mg Z W U) S := by rfl)
    (hg : Gl X x := by rfl) (hdb : (x == ("__debug__" : Str)) = false := by decide) :
    DE X (ZSw mg Z W U) (.Call (.Name x p) [] [] pos) (tMakeE mg x (spZ Z' S) E tNil) (dMake U' S x L dNil) := by
  obtain ⟨C, fa, fd, hC, Me, hb, Fk⟩ := F
  obtain ⟨C1, f1, hC1, mk⟩ := hc
  have eC : C1 = C := by rw [hC] at hC1; cases hC1; rfl
  subst eC
  have ef : f1 = fa := by
    have h1 := mk.init
    have h2 := Me.at_
    rw [h2] at h1; cases h1; rfl
  subst ef
  subst hmg
  exact ⟨pe_makeG0 mk Fk hr hg hC hb Le.pa hdb, by rw [hz]; exact sim_makeO Le.lw hC sim_dnil⟩
end
/-! ### a def with a store of its own -/
def noVV (r : Rs) (p : Prop) : Prop := match r with
  | .vv _ => False
  | _ => p
def inSt (S : Spec G) : Spec (G × OS) := fun as g T U => g.2 = [] ∧ ∃ T0 U0, S as g.1 T0 U0 ∧ (∀ r g', noVV r (T0 r g'.1) → T r g') ∧ (∀ c fs g', U0 c fs g'.1 → U c fs g')
theorem spS {S : Spec G} {vs : List V} {H : Hp} {Q : VK} {E : XK} (h : spZ Z S vs H Q E) : spZ (ZS mg Z) (inSt S) vs H Q E := by
  obtain ⟨F, g, as, T, U, h1, h2, h3, h4, h5, h6, h7⟩ := h
  have fr : ∀ {F' H' : Hp} {g' : G × OS}, Frm (ZS mg Z) F H (g, []) F' H' g' → Frm Z F H g F' H' g'.1 := fun {F' H' g'} r => ⟨r.ex, fun b o e hn => r.keep b o e (fun hm => hn (by
      have hm2 : b ∈ Z.fp g ++ [] := hm
      rwa [List.append_nil] at hm2)), r.keepN, r.new, r.sub, r.res.1, fun a ha => r.fpF a (List.mem_append_left _ ha), fun a ha => by
      rcases r.fpB a (List.mem_append_left _ ha) with q | q
      · have q2 : a ∈ Z.fp g ++ [] := q
        rw [List.append_nil] at q2
        exact .inl q2
      · exact .inr q⟩
  refine ⟨F, (g, []), as, fun r g' => noVV r (T r g'.1), fun c fs g' => U c fs g'.1, h1, ⟨h2, ⟨fun p hp => (nomatch hp), List.nodup_nil⟩, fun a _ hm => (nomatch hm)⟩, fun a ha => ?_, Paired.mapP h4 fun v r q => by cases r <;> exact q, ⟨rfl, T, U, h5, fun _ _ q => q, fun _ _ _ q => q⟩, fun v r F' g' H' r1 er hv hT => ?_, fun c fs dx F' g' H' r1 er hx hu => ?_⟩
  · have ha2 : a ∈ Z.fp g ++ [] := ha
    rw [List.append_nil] at ha2
    exact h3 a ha2
  · refine h6 v r F' g'.1 H' (fr r1) er ?_ (by cases r <;> first | exact hT | cases hT)
    cases r with
    | dt d => exact hv
    | nl ds => obtain ⟨a, vs, rfl, q1, q2, q3, q4, q5⟩ := hv; exact ⟨a, vs, rfl, q1, q2, fun hm => q3 (List.mem_append_left _ hm), q4, q5⟩
    | nd ds => obtain ⟨a, vs, rfl, q1, q2, q3, q4, q5⟩ := hv; exact ⟨a, vs, rfl, q1, q2, fun hm => q3 (List.mem_append_left _ hm), q4, q5⟩
    | br i => exact hv
    | rs n => exact hv
    | vv u => cases hT
  · exact h7 c fs dx F' g'.1 H' (fr r1) er hx hu
theorem Ok.fromS {P : Program} {w : World} {mm : Str → Option Value} {base : Heap} {k : Nat} {x : Str} {ps : List Str} {S : Spec G} (h : Ok P w K mm base k x ps (spZ (ZS mg Z) (inSt S))) : Ok P w K mm base k x ps (spZ Z S) := by
  obtain ⟨fa, fd, h1, h2, h3, h0, h4⟩ := h
  exact ⟨fa, fd, h1, h2, h3, h0, fun vs H Q E q => h4.len vs H Q E (spS q), fun A outer s H args us vs Q E hr he hb hv hs => h4.run A outer s H args us vs Q E hr he hb hv (spS hs)⟩
end L3
namespace L3
open PySem L2
/-- behind a write: any store in which the object stands so -/
@[elab_as_elim] theorem putGen {G : Type} {motive : G × OS → Prop} {a : G} {o : OS} {p : Addr} {x : OO} (y : OO) (h : OS.look o p = some x) (k : ∀ g1 : G × OS, g1.1 = a → OS.look g1.2 p = some y → (∀ q, p ≠ q → OS.look g1.2 q = OS.look o q) → motive g1) : motive (a, OS.put o p y) :=
  k _ rfl (OS.put_self h) fun _ n => OS.put_ne h n
end L3
end
section
/-! L5c: what the looker tells of a thing. -/
namespace L3
open PySem L2
/-- the ends of what may be a told walk, and how many parts are left -/
def eD : Option (Int × Int) → PyData
  | none => .none
  | some (a, b) => .tuple [.int a, .int b]
def rowS (r : Option (Int × Int) × Int) (acc : Option (Int × Int)) (k : Option (Int × Int) → Int → Option (Int × Int) × Int) : Option (Int × Int) × Int := match r, acc with
    | (none, l'), _ => (none, l')
    | (some (a, b), l'), none => k (some (a, b)) l'
    | (some (a, b), l'), some (x, y) => if y = a then k (some (x, b)) l' else (none, l')
def rowF (G : Int → PyData → Option (Int × Int) × Int) : Option (Int × Int) → Int → List PyData → Option (Int × Int) × Int
  | acc, l, [] => (acc, l)
  | acc, l, q :: qs => rowS (G l q) acc fun acc' l' => rowF G acc' l' qs
def timesE (c : Int) : Option (Int × Int) → Option (Int × Int)
  | none => none
  | some (a, b) => if c = 1 ∨ a = b then some (a, b) else none
def rowG (G : Int → PyData → Option (Int × Int) × Int) (l : Int) : PyData → Option (Int × Int) × Int
  | .tuple (q :: qs) => rowF G none l (q :: qs)
  | _ => (none, l)
def wayE (B : Book) : PyData → Option (Int × Int)
  | .int k => if inW B k = true then some ((wAt B k).a, (wAt B k).b) else none
  | _ => none
def endsT (B : Book) (G : Int → PyData → Option (Int × Int) × Int) (l : Int) : PyData → Option (Int × Int) × Int
  | .tuple [.str s, x] => if s = "way" then (wayE B x, l) else if s = "row" then rowG G l x else (none, l)
  | .tuple [.str s, .int c, y] => if s = "times" ∧ 1 ≤ c then (timesE c (G l y).1, (G l y).2) else (none, l)
  | _ => (none, l)
theorem s_rw : ¬ (("row" : Str) = "way") := by decide +kernel
theorem s_wt : ¬ (("way" : Str) = "times") := by decide +kernel
theorem s_rt : ¬ (("row" : Str) = "times") := by decide +kernel
theorem s_tw : ¬ (("times" : Str) = "way") := by decide +kernel
theorem s_tr : ¬ (("times" : Str) = "row") := by decide +kernel
theorem endsT_other {B : Book} {G : Int → PyData → Option (Int × Int) × Int} {l : Int} {s : Str} {y : PyData} {r : List PyData} (h1 : ¬ s = "way") (h2 : ¬ s = "row") (h3 : ¬ s = "times") : endsT B G l (.tuple (.str s :: y :: r)) = (none, l) := by
  rcases r with _ | ⟨z, _ | ⟨z2, r⟩⟩
  · cases y <;> simp [endsT, h1, h2]
  · cases y <;> simp [endsT, h3]
  · cases y <;> simp [endsT, s_rw, s_wt, s_rt, s_tw, s_tr]
theorem endsT_way {B : Book} {G : Int → PyData → Option (Int × Int) × Int} {l : Int} {y : PyData} {r : List PyData} : endsT B G l (.tuple (.str "way" :: y :: r)) = (match r with | [] => wayE B y | _ => none, l) := by
  rcases r with _ | ⟨z, _ | ⟨z2, r⟩⟩
  · cases y <;> simp [endsT, s_rw, s_wt, s_rt, s_tw, s_tr]
  · cases y <;> simp [endsT, s_rw, s_wt, s_rt, s_tw, s_tr]
  · cases y <;> simp [endsT, s_rw, s_wt, s_rt, s_tw, s_tr]
theorem endsT_row {B : Book} {G : Int → PyData → Option (Int × Int) × Int} {l : Int} {y : PyData} {r : List PyData} : endsT B G l (.tuple (.str "row" :: y :: r)) = (match r with | [] => rowG G l y | _ => (none, l)) := by
  rcases r with _ | ⟨z, _ | ⟨z2, r⟩⟩
  · cases y <;> simp [endsT, s_rw, s_wt, s_rt, s_tw, s_tr]
  · cases y <;> simp [endsT, s_rw, s_wt, s_rt, s_tw, s_tr]
  · cases y <;> simp [endsT, s_rw, s_wt, s_rt, s_tw, s_tr]
theorem endsT_times1 {B : Book} {G : Int → PyData → Option (Int × Int) × Int} {l : Int} {y : PyData} : endsT B G l (.tuple [.str "times", y]) = (none, l) := by
  cases y <;> simp [endsT, s_rw, s_wt, s_rt, s_tw, s_tr]
theorem endsT_times2 {B : Book} {G : Int → PyData → Option (Int × Int) × Int} {l : Int} {y z : PyData} : endsT B G l (.tuple [.str "times", y, z]) = (match y with | .int c => if 1 ≤ c then (timesE c (G l z).1, (G l z).2) else (none, l) | _ => (none, l)) := by
  cases y <;> simp [endsT, s_rw, s_wt, s_rt, s_tw, s_tr]
theorem endsT_times3 {B : Book} {G : Int → PyData → Option (Int × Int) × Int} {l : Int} {y z z2 : PyData} {r : List PyData} : endsT B G l (.tuple (.str "times" :: y :: z :: z2 :: r)) = (none, l) := by
  cases y <;> simp [endsT, s_rw, s_wt, s_rt, s_tw, s_tr]
def endsF (B : Book) : Nat → Int → PyData → Option (Int × Int) × Int
  | 0, l, _ => (none, l - 1)
  | f + 1, l, t => if l - 1 < 0 then (none, l - 1) else endsT B (endsF B f) (l - 1) t

/-! ### told walks: their parts, how deep they are -/
mutual
def Tw.sz : Tw → Nat
  | .way _ => 1
  | .row ps => 1 + Tw.szs ps
  | .times _ t => 1 + t.sz
def Tw.szs : List Tw → Nat
  | [] => 0
  | t :: r => t.sz + Tw.szs r
end
mutual
def Tw.dp : Tw → Nat
  | .way _ => 1
  | .row ps => 1 + Tw.dps ps
  | .times _ t => 1 + t.dp
def Tw.dps : List Tw → Nat
  | [] => 0
  | t :: r => max t.dp (Tw.dps r)
end
mutual
/-- all counts are at least one -/
def CntT : Tw → Prop
  | .way _ => True
  | .row ps => CntTs ps
  | .times n t => 1 ≤ n ∧ CntT t
def CntTs : List Tw → Prop
  | [] => True
  | t :: r => CntT t ∧ CntTs r
end
theorem CntTs.of : ∀ {ps : List Tw}, (∀ p ∈ ps, CntT p) → CntTs ps
  | [], _ => by rw [CntTs]; trivial
  | t :: r, h => by rw [CntTs]; exact ⟨h t List.mem_cons_self, CntTs.of fun p hp => h p (List.mem_cons_of_mem _ hp)⟩
theorem OkT.cnt {B : Book} {most : Int} : ∀ {n : Nat} {t : Tw}, OkT B most n t → CntT t
  | 0, .way k, h => by rw [CntT]; trivial
  | _ + 1, .way k, h => by rw [CntT]; trivial
  | 0, .row _, h => h.elim
  | 0, .times _ _, h => h.elim
  | n + 1, .row ps, h => by rw [CntT]; exact CntTs.of fun p hp => (h.2.2 p hp).cnt
  | n + 1, .times c t, h => by rw [CntT]; exact ⟨h.1.1, h.2.cnt⟩
theorem Tw.sz_pos (t : Tw) : 1 ≤ t.sz := by
  cases t with
  | way k => rw [Tw.sz]; exact Nat.le_refl _
  | row ps => rw [Tw.sz]; omega
  | times n t => rw [Tw.sz]; omega
theorem Tw.dp_pos (t : Tw) : 1 ≤ t.dp := by
  cases t with
  | way k => rw [Tw.dp]; exact Nat.le_refl _
  | row ps => rw [Tw.dp]; omega
  | times n t => rw [Tw.dp]; omega
/-- told of just where there are parts and depth left -/
def Looks (B : Book) (f : Nat) (l : Int) (t : Tw) (a e : Int) : Prop :=
  (endsF B f l t.d = (some (a, e), l - t.sz) ∧ t.dp ≤ f ∧ (t.sz : Int) ≤ l) ∨ ((endsF B f l t.d).1 = none ∧ ¬ (t.dp ≤ f ∧ (t.sz : Int) ≤ l))
theorem rowF_looks {B : Book} {f : Nat} (ih : ∀ (t : Tw) (a e l : Int), ChT B t a e → CntT t → 0 ≤ l → Looks B f l t a e) {x : Int} : ∀ {ps : List Tw} {a e l : Int}, ChTs B ps a e → CntTs ps → 0 ≤ l →
    (rowF (endsF B f) (some (x, a)) l (Tw.ds ps) = (some (x, e), l - Tw.szs ps) ∧ Tw.dps ps ≤ f ∧ (Tw.szs ps : Int) ≤ l) ∨ ((rowF (endsF B f) (some (x, a)) l (Tw.ds ps)).1 = none ∧ ¬ (Tw.dps ps ≤ f ∧ (Tw.szs ps : Int) ≤ l))
  | [], a, e, l, h, _, h0 => by
    rw [ChTs] at h
    subst h
    left
    rw [Tw.ds, Tw.dps, Tw.szs, rowF]
    exact ⟨by simp, Nat.zero_le _, by simpa using h0⟩
  | t :: r, a, e, l, h, hc, h0 => by
    rw [ChTs] at h
    rw [CntTs] at hc
    obtain ⟨c, h1, h2⟩ := h
    rw [Tw.ds, rowF, Tw.dps, Tw.szs]
    rcases ih t a c l h1 hc.1 h0 with ⟨k1, k2, k3⟩ | ⟨k1, k2⟩
    · rw [k1]
      have e1 : rowS (some (a, c), l - (t.sz : Int)) (some (x, a)) (fun acc' l' => rowF (endsF B f) acc' l' (Tw.ds r)) = rowF (endsF B f) (some (x, c)) (l - (t.sz : Int)) (Tw.ds r) := if_pos rfl
      rw [e1]
      rcases rowF_looks ih (x := x) (l := l - (t.sz : Int)) h2 hc.2 (by omega) with ⟨m1, m2, m3⟩ | ⟨m1, m2⟩
      · left
        refine ⟨?_, by omega, by push_cast; omega⟩
        rw [m1]
        congr 1
        push_cast
        omega
      · right
        refine ⟨m1, fun hh => m2 ⟨by omega, ?_⟩⟩
        have := hh.2
        push_cast at this
        omega
    · right
      rcases he : endsF B f l t.d with ⟨r1, l2⟩
      rw [he] at k1
      cases (show r1 = none from k1)
      refine ⟨rfl, fun hh => k2 ⟨by omega, ?_⟩⟩
      have := hh.2
      push_cast at this
      omega
theorem looks {B : Book} : ∀ (f : Nat) (t : Tw) (a e l : Int), ChT B t a e → CntT t → 0 ≤ l → Looks B f l t a e
  | 0, t, a, e, l, h, _, h0 => .inr ⟨rfl, fun q => by have := t.dp_pos; omega⟩
  | f + 1, t, a, e, l, h, hc, h0 => by
    have ih := fun t a e l => looks (B := B) f t a e l
    by_cases hl : l - 1 < 0
    · right
      refine ⟨by rw [endsF, if_pos hl], fun q => by have := t.sz_pos; omega⟩
    · unfold Looks
      rw [endsF, if_neg hl]
      cases t with
      | way k =>
        rw [ChT] at h
        left
        rw [Tw.d, endsT_way, Tw.sz, Tw.dp]
        refine ⟨?_, by omega, by omega⟩
        show (wayE B (.int k), l - 1) = _
        rw [wayE, if_pos h.1, h.2.1, h.2.2]
        rfl
      | row ps =>
        rw [ChT] at h
        rw [CntT] at hc
        obtain ⟨hne, h⟩ := h
        rw [Tw.d, endsT_row, Tw.sz, Tw.dp]
        cases ps with
        | nil => exact absurd rfl hne
        | cons t r =>
          rw [ChTs] at h
          rw [CntTs] at hc
          obtain ⟨c, h1, h2⟩ := h
          have eG : rowG (endsF B f) (l - 1) (.tuple (Tw.ds (t :: r))) = rowF (endsF B f) none (l - 1) (t.d :: Tw.ds r) := by rw [Tw.ds]; rfl
          show ((rowG (endsF B f) (l - 1) (.tuple (Tw.ds (t :: r))) = _) ∧ _) ∨ ((rowG (endsF B f) (l - 1) (.tuple (Tw.ds (t :: r)))).1 = none ∧ _)
          rw [eG, rowF, Tw.dps, Tw.szs]
          rcases ih t a c (l - 1) h1 hc.1 (by omega) with ⟨k1, k2, k3⟩ | ⟨k1, k2⟩
          · rw [k1]
            have e1 : rowS (some (a, c), l - 1 - (t.sz : Int)) none (fun acc' l' => rowF (endsF B f) acc' l' (Tw.ds r)) = rowF (endsF B f) (some (a, c)) (l - 1 - (t.sz : Int)) (Tw.ds r) := rfl
            rw [e1]
            rcases rowF_looks ih (x := a) (l := l - 1 - (t.sz : Int)) h2 hc.2 (by omega) with ⟨m1, m2, m3⟩ | ⟨m1, m2⟩
            · left
              refine ⟨?_, by omega, by push_cast; omega⟩
              rw [m1]
              congr 1
              push_cast
              omega
            · right
              refine ⟨m1, fun hh => m2 ⟨by omega, ?_⟩⟩
              have := hh.2
              push_cast at this
              omega
          · right
            rcases he : endsF B f (l - 1) t.d with ⟨r1, l2⟩
            rw [he] at k1
            cases (show r1 = none from k1)
            refine ⟨rfl, fun hh => k2 ⟨by omega, ?_⟩⟩
            have := hh.2
            push_cast at this
            omega
      | times n t =>
        rw [ChT] at h
        rw [CntT] at hc
        rw [Tw.d, endsT_times2, Tw.sz, Tw.dp]
        have e1 : (match PyData.int n with | .int c => if 1 ≤ c then (timesE c (endsF B f (l - 1) t.d).1, (endsF B f (l - 1) t.d).2) else (none, l - 1) | _ => (none, l - 1)) = (timesE n (endsF B f (l - 1) t.d).1, (endsF B f (l - 1) t.d).2) := if_pos hc.1
        rw [e1]
        rcases ih t a e (l - 1) h.1 hc.2 (by omega) with ⟨k1, k2, k3⟩ | ⟨k1, k2⟩
        · left
          rw [k1]
          refine ⟨?_, by omega, by push_cast; omega⟩
          show (timesE n (some (a, e)), l - 1 - (t.sz : Int)) = _
          rw [timesE, if_pos (by rcases h.2 with z | z; exact .inl z; exact .inr z)]
          congr 1
          push_cast
          omega
        · right
          rw [k1]
          refine ⟨rfl, fun hh => k2 ⟨by omega, ?_⟩⟩
          have := hh.2
          push_cast at this
          omega
def isTold (B : Book) (t : PyData) : Bool := (endsF B 20 2000 t).1.isSome
theorem told_iff {B : Book} {t : Tw} {a e : Int} (h : ChT B t a e) (hc : CntT t) : isTold B t.d = decide (t.dp ≤ 20 ∧ (t.sz : Int) ≤ 2000) := by
  unfold isTold
  rcases looks 20 t a e 2000 h hc (by decide) with ⟨k1, k2, k3⟩ | ⟨k1, k2⟩
  · rw [k1, decide_eq_true ⟨k2, k3⟩]; rfl
  · rw [k1, decide_eq_false k2]; rfl
/-! ### walks by the way 0, round and round -/
mutual
def Zr : Tw → Prop
  | .way k => k = 0
  | .row ps => ps ≠ [] ∧ Zrs ps
  | .times n t => 1 ≤ n ∧ Zr t
def Zrs : List Tw → Prop
  | [] => True
  | t :: r => Zr t ∧ Zrs r
end
theorem Zrs.of : ∀ {ps : List Tw}, (∀ p ∈ ps, Zr p) → Zrs ps
  | [], _ => by rw [Zrs]; trivial
  | t :: r, h => by rw [Zrs]; exact ⟨h t List.mem_cons_self, Zrs.of fun p hp => h p (List.mem_cons_of_mem _ hp)⟩
theorem zr0 : Zr (.way 0) := by rw [Zr]
mutual
theorem Zr.ch {B : Book} (h0 : inW B 0 = true) (ha : (wAt B 0).a = 0) (hb : (wAt B 0).b = 0) : ∀ {t : Tw}, Zr t → ChT B t 0 0
  | .way k, h => by rw [Zr] at h; subst h; rw [ChT]; exact ⟨h0, ha, hb⟩
  | .row ps, h => by rw [Zr] at h; rw [ChT]; exact ⟨h.1, Zrs.ch h0 ha hb h.2⟩
  | .times n t, h => by rw [Zr] at h; rw [ChT]; exact ⟨Zr.ch h0 ha hb h.2, .inr rfl⟩
theorem Zrs.ch {B : Book} (h0 : inW B 0 = true) (ha : (wAt B 0).a = 0) (hb : (wAt B 0).b = 0) : ∀ {ps : List Tw}, Zrs ps → ChTs B ps 0 0
  | [], _ => by rw [ChTs]
  | t :: r, h => by rw [Zrs] at h; rw [ChTs]; exact ⟨0, Zr.ch h0 ha hb h.1, Zrs.ch h0 ha hb h.2⟩
end
mutual
theorem Zr.cnt : ∀ {t : Tw}, Zr t → CntT t
  | .way k, h => by rw [CntT]; trivial
  | .row ps, h => by rw [Zr] at h; rw [CntT]; exact Zrs.cnt h.2
  | .times n t, h => by rw [Zr] at h; rw [CntT]; exact ⟨h.1, Zr.cnt h.2⟩
theorem Zrs.cnt : ∀ {ps : List Tw}, Zrs ps → CntTs ps
  | [], _ => by rw [CntTs]; trivial
  | t :: r, h => by rw [Zrs] at h; rw [CntTs]; exact ⟨Zr.cnt h.1, Zrs.cnt h.2⟩
end
theorem szs_rep (n : Nat) (t : Tw) : Tw.szs (List.replicate n t) = n * t.sz := by
  induction n with
  | zero => rw [List.replicate_zero, Tw.szs]; omega
  | succ n ih => rw [List.replicate_succ, Tw.szs, ih, Nat.succ_mul]; omega
theorem dps_rep (n : Nat) (t : Tw) : Tw.dps (List.replicate n t) ≤ t.dp := by
  induction n with
  | zero => rw [List.replicate_zero, Tw.dps]; omega
  | succ n ih => rw [List.replicate_succ, Tw.dps]; omega
theorem szs_app : ∀ (ps qs : List Tw), Tw.szs (ps ++ qs) = Tw.szs ps + Tw.szs qs
  | [], qs => by rw [List.nil_append, Tw.szs]; omega
  | t :: r, qs => by rw [List.cons_append, Tw.szs, Tw.szs, szs_app r qs]; omega
theorem dps_app : ∀ (ps qs : List Tw), Tw.dps (ps ++ qs) = max (Tw.dps ps) (Tw.dps qs)
  | [], qs => by rw [List.nil_append, Tw.dps]; omega
  | t :: r, qs => by rw [List.cons_append, Tw.dps, Tw.dps, dps_app r qs]; omega
theorem ds_rep (n : Nat) (t : Tw) : Tw.ds (List.replicate n t) = List.replicate n t.d := by
  rw [Tw.ds_map, List.map_replicate]
theorem ds_app (ps qs : List Tw) : Tw.ds (ps ++ qs) = Tw.ds ps ++ Tw.ds qs := by
  rw [Tw.ds_map, Tw.ds_map, Tw.ds_map, List.map_append]
theorem flat_one (n : Nat) (d : PyData) : (List.replicate n [d]).flatten = List.replicate n d := List.flatten_replicate_singleton
theorem endsT_timesY {B : Book} {G : Int → PyData → Option (Int × Int) × Int} {l c : Int} {z : PyData} (h : 1 ≤ c) : endsT B G l (.tuple [.str "times", .int c, z]) = (timesE c (G l z).1, (G l z).2) := by
  rw [endsT_times2]; exact if_pos h
theorem endsT_timesN {B : Book} {G : Int → PyData → Option (Int × Int) × Int} {l c : Int} {z : PyData} (h : ¬ 1 ≤ c) : endsT B G l (.tuple [.str "times", .int c, z]) = (none, l) := by
  rw [endsT_times2]; exact if_neg h
theorem so_way : PyData.strOk "way" = true := by decide +kernel
theorem so_row : PyData.strOk "row" = true := by decide +kernel
theorem so_times : PyData.strOk "times" = true := by decide +kernel
theorem eqv_bb (b : Bool) : PyData.eqv (.bool b) (.bool b) = true := by cases b <;> rfl
theorem neqv_bb {b : Bool} (h : (!PyData.eqv (.bool b) (.bool b)) = true) : False := by rw [eqv_bb] at h; cases h
/-- what a drawn told walk looks like -/
def Prt (R : Int) : Nat → Tw → Prop
  | _, .way _ => True
  | 0, _ => False
  | m + 1, .row ps => ps.length ≤ 3 ∧ ∀ p ∈ ps, Prt R m p
  | m + 1, .times _ t => Prt R m t ∨ ∃ (u : Tw) (ns : List Int), t = .row (u :: ns.map Tw.way) ∧ Prt R m u ∧ (ns.length : Int) ≤ R
theorem prt_way {R : Int} {m : Nat} {k : Int} : Prt R m (.way k) := by cases m <;> trivial
theorem szs_le {M : Nat} : ∀ {ps : List Tw}, (∀ p ∈ ps, p.sz ≤ M) → Tw.szs ps ≤ ps.length * M
  | [], _ => by rw [Tw.szs]; omega
  | t :: r, h => by
    have h1 := h t List.mem_cons_self
    have h2 := szs_le (ps := r) fun p hp => h p (List.mem_cons_of_mem _ hp)
    rw [Tw.szs, List.length_cons, Nat.succ_mul]
    omega
theorem dps_le {M : Nat} : ∀ {ps : List Tw}, (∀ p ∈ ps, p.dp ≤ M) → Tw.dps ps ≤ M
  | [], _ => by rw [Tw.dps]; omega
  | t :: r, h => by
    have h1 := h t List.mem_cons_self
    have h2 := dps_le (ps := r) fun p hp => h p (List.mem_cons_of_mem _ hp)
    rw [Tw.dps]
    omega
end L3
end
section
/-! L5d: one walk told otherwise. -/
namespace L3
open PySem L2
/-- t is another telling of the ways of u, from a to e; to a depth, its parts counted -/
structure Oth (B : Book) (u : List Int) (a e : Int) (n s : Nat) (t : Tw) : Prop where
  op : t.op = u
  ch : ChT B t a e
  ok : OkT B (2 ^ 400) n t
  sz : t.sz ≤ s
  dp : t.dp ≤ n + 1
theorem Oth.mono {B : Book} {u : List Int} {a e : Int} {n s m r : Nat} {t : Tw} (h : Oth B u a e n s t) (hn : n ≤ m) (hs : s ≤ r) : Oth B u a e m r t := ⟨h.op, h.ch, h.ok.mono hn, Nat.le_trans h.sz hs, Nat.le_trans h.dp (by omega)⟩
/-- a row of tellings -/
def OthS (B : Book) (n : Nat) : List Int → Int → Int → Nat → List Tw → Prop
  | u, a, e, s, [] => u = [] ∧ a = e
  | u, a, e, s, t :: r => ∃ u1 u2 c s1 s2, u = u1 ++ u2 ∧ s = s1 + s2 ∧ Oth B u1 a c n s1 t ∧ OthS B n u2 c e s2 r
theorem othS_parts {B : Book} {n : Nat} : ∀ {ts : List Tw} {u : List Int} {a e : Int} {s : Nat}, OthS B n u a e s ts → Tw.ops ts = u ∧ ChTs B ts a e ∧ (∀ p ∈ ts, OkT B (2 ^ 400) n p ∧ p.dp ≤ n + 1) ∧ Tw.szs ts ≤ s
  | [], u, a, e, s, h => ⟨by rw [Tw.ops, h.1], by rw [ChTs]; exact h.2, fun p hp => (nomatch hp), by rw [Tw.szs]; exact Nat.zero_le _⟩
  | t :: r, u, a, e, s, h => by
    obtain ⟨u1, u2, c, s1, s2, rfl, rfl, h1, h2⟩ := h
    obtain ⟨k1, k2, k3, k4⟩ := othS_parts h2
    refine ⟨by rw [Tw.ops, h1.op, k1], by rw [ChTs]; exact ⟨c, h1.ch, k2⟩, fun p hp => ?_, by rw [Tw.szs]; have := h1.sz; omega⟩
    rcases List.mem_cons.mp hp with rfl | hp
    · exact ⟨h1.ok, h1.dp⟩
    · exact k3 p hp
theorem szs_len : ∀ ts : List Tw, ts.length ≤ Tw.szs ts
  | [] => Nat.zero_le _
  | t :: r => by have := szs_len r; have := t.sz_pos; rw [Tw.szs, List.length_cons]; omega
theorem dps_max {M : Nat} : ∀ {ps : List Tw}, (∀ p ∈ ps, p.dp ≤ M) → Tw.dps ps ≤ M := fun h => dps_le h
theorem OthS.row {B : Book} {n : Nat} {ts : List Tw} {u : List Int} {a e : Int} {s : Nat} (h : OthS B n u a e s ts) (hne : ts ≠ []) (hs : s ≤ 10000) : Oth B u a e (n + 1) (1 + s) (.row ts) := by
  obtain ⟨k1, k2, k3, k4⟩ := othS_parts h
  refine ⟨by rw [Tw.op, k1], by rw [ChT]; exact ⟨hne, k2⟩, ⟨hne, by have := szs_len ts; omega, fun p hp => (k3 p hp).1⟩, by rw [Tw.sz]; omega, ?_⟩
  rw [Tw.dp]
  have := dps_max (M := n + 1) fun p hp => (k3 p hp).2
  omega
theorem OthS.app {B : Book} {n : Nat} : ∀ {ts vs : List Tw} {u w : List Int} {a c e : Int} {s r : Nat}, OthS B n u a c s ts → OthS B n w c e r vs → OthS B n (u ++ w) a e (s + r) (ts ++ vs)
  | [], vs, u, w, a, c, e, s, r, h, k => by
    obtain ⟨rfl, rfl⟩ := h
    rw [List.nil_append, List.nil_append]
    cases vs with
    | nil => exact k
    | cons v vs =>
      obtain ⟨u1, u2, c, s1, s2, h1, rfl, h2, h3⟩ := k
      exact ⟨u1, u2, c, s + s1, s2, h1, by omega, h2.mono (Nat.le_refl _) (by omega), h3⟩
  | t :: ts, vs, u, w, a, c, e, s, r, h, k => by
    obtain ⟨u1, u2, c1, s1, s2, rfl, rfl, h1, h2⟩ := h
    exact ⟨u1, u2 ++ w, c1, s1, s2 + r, by rw [List.append_assoc], by omega, h1, h2.app k⟩
theorem othS_one {B : Book} {n s : Nat} {u : List Int} {a e : Int} {t : Tw} (h : Oth B u a e n s t) : OthS B n u a e s [t] := ⟨u, [], e, s, 0, by simp, by omega, h, rfl, rfl⟩
theorem OthS.mono {B : Book} {n m : Nat} (hm : n ≤ m) : ∀ {ts : List Tw} {u : List Int} {a e : Int} {s : Nat}, OthS B n u a e s ts → OthS B m u a e s ts
  | [], _, _, _, _, h => h
  | t :: r, _, _, _, _, h => by
    obtain ⟨u1, u2, c, s1, s2, h0, h1, h2, h3⟩ := h
    exact ⟨u1, u2, c, s1, s2, h0, h1, h2.mono hm (Nat.le_refl _), h3.mono hm⟩
/-- cut in two -/
theorem OthS.cut {B : Book} {n : Nat} : ∀ {ts : List Tw} (i : Nat) {u : List Int} {a e : Int} {s : Nat}, OthS B n u a e s ts → ∃ u1 u2 c s1 s2, u = u1 ++ u2 ∧ s1 + s2 = s ∧ OthS B n u1 a c s1 (ts.take i) ∧ OthS B n u2 c e s2 (ts.drop i)
  | [], i, u, a, e, s, h => by
    obtain ⟨rfl, rfl⟩ := h
    exact ⟨[], [], a, 0, s, rfl, by omega, by rw [List.take_nil]; exact ⟨rfl, rfl⟩, by rw [List.drop_nil]; exact ⟨rfl, rfl⟩⟩
  | t :: ts, 0, u, a, e, s, h => ⟨[], u, a, 0, s, rfl, by omega, ⟨rfl, rfl⟩, h⟩
  | t :: ts, i + 1, u, a, e, s, h => by
    obtain ⟨u1, u2, c, s1, s2, rfl, rfl, h1, h2⟩ := h
    obtain ⟨w1, w2, d, r1, r2, rfl, rfl, k1, k2⟩ := h2.cut i
    exact ⟨u1 ++ w1, w2, d, s1 + r1, r2, by rw [List.append_assoc], by omega, ⟨u1, w1, c, s1, r1, rfl, rfl, h1, k1⟩, k2⟩
/-- the rows within a row are laid flat -/
def flatT : List Tw → List Tw
  | [] => []
  | .row ps :: r => ps ++ flatT r
  | t :: r => t :: flatT r
theorem OthS.rowparts {B : Book} {n : Nat} : ∀ {ts : List Tw} {a e : Int}, ChTs B ts a e → (∀ p ∈ ts, OkT B (2 ^ 400) n p ∧ p.dp ≤ n + 1) → OthS B n (Tw.ops ts) a e (Tw.szs ts) ts
  | [], a, e, h, _ => by rw [ChTs] at h; exact ⟨by rw [Tw.ops], h⟩
  | t :: r, a, e, h, k => by
    rw [ChTs] at h
    obtain ⟨c, h1, h2⟩ := h
    exact ⟨t.op, Tw.ops r, c, t.sz, Tw.szs r, by rw [Tw.ops], by rw [Tw.szs], ⟨rfl, h1, (k t List.mem_cons_self).1, Nat.le_refl _, (k t List.mem_cons_self).2⟩, OthS.rowparts h2 fun p hp => k p (List.mem_cons_of_mem _ hp)⟩
theorem row_up {B : Book} {n : Nat} {ps : List Tw} {p : Tw} (h : OkT B (2 ^ 400) n (.row ps)) (hp : p ∈ ps) : OkT B (2 ^ 400) n p := by
  cases n with
  | zero => exact h.elim
  | succ n => exact (h.2.2 p hp).up
theorem dps_mem {p : Tw} : ∀ {ps : List Tw}, p ∈ ps → p.dp ≤ Tw.dps ps
  | t :: r, h => by
    rw [Tw.dps]
    rcases List.mem_cons.mp h with rfl | h
    · omega
    · have := dps_mem h; omega
theorem OthS.flat {B : Book} {n : Nat} : ∀ {ts : List Tw} {u : List Int} {a e : Int} {s : Nat}, OthS B n u a e s ts → OthS B n u a e s (flatT ts)
  | [], _, _, _, _, h => h
  | .row ps :: r, u, a, e, s, h => by
    obtain ⟨u1, u2, c, s1, s2, rfl, rfl, h1, h2⟩ := h
    show OthS B n (u1 ++ u2) a e (s1 + s2) (ps ++ flatT r)
    have k := h1.ch
    rw [ChT] at k
    have k2 := OthS.rowparts (n := n) k.2 fun p hp => ⟨row_up h1.ok hp, by have := h1.dp; rw [Tw.dp] at this; have := dps_mem hp; omega⟩
    have k3 := h1.op
    rw [Tw.op] at k3
    rw [k3] at k2
    have k4 := h1.sz
    rw [Tw.sz] at k4
    have k5 := k2.app h2.flat
    obtain ⟨q, hq⟩ := Nat.exists_eq_add_of_le (show Tw.szs ps + s2 ≤ s1 + s2 by omega)
    rw [hq]
    -- more room
    have more : ∀ (ts : List Tw) (u : List Int) (a e : Int) (s q : Nat), OthS B n u a e s ts → OthS B n u a e (s + q) ts := fun ts u a e s q h => by
      cases ts with
      | nil => exact h
      | cons t r =>
        obtain ⟨u1, u2, c, s1, s2, h0, h1, h2, h3⟩ := h
        exact ⟨u1, u2, c, s1 + q, s2, h0, by omega, h2.mono (Nat.le_refl _) (by omega), h3⟩
    exact more _ _ _ _ _ _ k5
  | .way k :: r, u, a, e, s, h => by
    obtain ⟨u1, u2, c, s1, s2, h0, h1, h2, h3⟩ := h
    exact ⟨u1, u2, c, s1, s2, h0, h1, h2, h3.flat⟩
  | .times k t :: r, u, a, e, s, h => by
    obtain ⟨u1, u2, c, s1, s2, h0, h1, h2, h3⟩ := h
    exact ⟨u1, u2, c, s1, s2, h0, h1, h2, h3.flat⟩
theorem flatT_ne {B : Book} {n : Nat} : ∀ {ts : List Tw}, ts ≠ [] → (∀ p ∈ ts, OkT B (2 ^ 400) n p) → flatT ts ≠ []
  | .row ps :: r, _, h, e => by
    have e2 : ps ++ flatT r = [] := e
    rw [List.append_eq_nil_iff] at e2
    have := h _ List.mem_cons_self
    cases n with
    | zero => exact this.elim
    | succ n => exact this.1 e2.1
  | .way _ :: r, _, _, e => by cases e
  | .times _ _ :: r, _, _, e => by cases e
  | [], h, _, _ => h rfl
/-! ### counts parted -/
theorem flat_add (xs : List Int) (i j : Nat) : (List.replicate (i + j) xs).flatten = (List.replicate i xs).flatten ++ (List.replicate j xs).flatten := by
  rw [← List.replicate_append_replicate, List.flatten_append]
theorem flat_mul (xs : List Int) (i : Nat) : ∀ j : Nat, (List.replicate j (List.replicate i xs).flatten).flatten = (List.replicate (j * i) xs).flatten
  | 0 => by simp
  | j + 1 => by
    rw [List.replicate_succ, List.flatten_cons, flat_mul xs i j, Nat.succ_mul, Nat.add_comm, flat_add]
/-! how great another telling may be, how deep -/
mutual
def Tw.og : Tw → Nat
  | .way _ => 2
  | .row ps => 3 + Tw.ogs ps
  | .times _ t => 4 + 2 * t.og
def Tw.ogs : List Tw → Nat
  | [] => 0
  | t :: r => t.og + Tw.ogs r
end
mutual
def Tw.od : Tw → Nat
  | .way _ => 1
  | .row ps => 2 + Tw.ods ps
  | .times _ t => 3 + t.od
def Tw.ods : List Tw → Nat
  | [] => 0
  | t :: r => max t.od (Tw.ods r)
end
theorem ogs_le {M : Nat} : ∀ {ps : List Tw}, (∀ p ∈ ps, p.og ≤ M) → Tw.ogs ps ≤ ps.length * M
  | [], _ => by rw [Tw.ogs]; omega
  | t :: r, h => by
    have h1 := h t List.mem_cons_self
    have h2 := ogs_le (ps := r) fun p hp => h p (List.mem_cons_of_mem _ hp)
    rw [Tw.ogs, List.length_cons, Nat.succ_mul]
    omega
theorem ods_le {M : Nat} : ∀ {ps : List Tw}, (∀ p ∈ ps, p.od ≤ M) → Tw.ods ps ≤ M
  | [], _ => by rw [Tw.ods]; omega
  | t :: r, h => by
    have h1 := h t List.mem_cons_self
    have h2 := ods_le (ps := r) fun p hp => h p (List.mem_cons_of_mem _ hp)
    rw [Tw.ods]
    omega
theorem ods_mem {p : Tw} : ∀ {ps : List Tw}, p ∈ ps → p.od ≤ Tw.ods ps ∧ p.og ≤ Tw.ogs ps
  | t :: r, h => by
    rw [Tw.ods, Tw.ogs]
    rcases List.mem_cons.mp h with rfl | h
    · omega
    · have := ods_mem h; omega
def ogM : Nat → Nat
  | 0 => 2
  | m + 1 => max (3 + 3 * ogM m) (10 + 2 * ogM m + 48)
theorem prt_og {R : Int} (hR : R ≤ 12) : ∀ {m : Nat} {t : Tw}, Prt R m t → t.og ≤ ogM m ∧ t.od ≤ 1 + 5 * m
  | m, .way k, _ => by
    rw [Tw.og, Tw.od]
    refine ⟨?_, by omega⟩
    cases m with
    | zero => exact Nat.le_refl _
    | succ m => show 2 ≤ max _ _; omega
  | 0, .row _, h => h.elim
  | 0, .times _ _, h => h.elim
  | m + 1, .row ps, h => by
    have h1 := ogs_le (M := ogM m) fun p hp => (prt_og hR (h.2 p hp)).1
    have h2 := ods_le (M := 1 + 5 * m) fun p hp => (prt_og hR (h.2 p hp)).2
    have h3 : ps.length * ogM m ≤ 3 * ogM m := Nat.mul_le_mul_right _ h.1
    rw [Tw.og, Tw.od]
    refine ⟨?_, by omega⟩
    show _ ≤ max _ _
    omega
  | m + 1, .times c t, h => by
    rw [Tw.og, Tw.od]
    rcases h with h | ⟨u, ns, rfl, h, hn⟩
    · obtain ⟨h1, h2⟩ := prt_og hR h
      refine ⟨?_, by omega⟩
      show _ ≤ max _ _
      omega
    · obtain ⟨h1, h2⟩ := prt_og hR h
      have h3 := ogs_le (M := 2) (ps := ns.map Tw.way) fun p hp => by
        obtain ⟨k, _, rfl⟩ := List.mem_map.mp hp
        rw [Tw.og]; omega
      have h4 := ods_le (M := 1) (ps := ns.map Tw.way) fun p hp => by
        obtain ⟨k, _, rfl⟩ := List.mem_map.mp hp
        rw [Tw.od]; omega
      rw [List.length_map] at h3
      simp only [Tw.og, Tw.ogs, Tw.od, Tw.ods]
      refine ⟨?_, by omega⟩
      show _ ≤ max _ _
      omega
theorem Oth.times {B : Book} {u : List Int} {a e : Int} {n s : Nat} {t : Tw} (h : Oth B u a e n s t) {c : Int} (h1 : 1 ≤ c) (h2 : c ≤ 2 ^ 400) (h3 : c = 1 ∨ a = e) : Oth B (List.replicate c.toNat u).flatten a e (n + 1) (1 + s) (.times c t) :=
  ⟨by rw [Tw.op, h.op], by rw [ChT]; exact ⟨h.ch, h3⟩, ⟨⟨h1, h2⟩, h.ok⟩, by rw [Tw.sz]; have := h.sz; omega, by rw [Tw.dp]; have := h.dp; omega⟩
theorem Oth.cast {B : Book} {u v : List Int} {a e : Int} {n s : Nat} {t : Tw} (h : Oth B u a e n s t) (q : u = v) : Oth B v a e n s t := q ▸ h
/-- parted in two counts -/
theorem Oth.two {B : Book} {u : List Int} {a : Int} {n s : Nat} {t : Tw} (h : Oth B u a a n s t) {c d : Int} (c1 : 1 ≤ c) (d1 : 1 ≤ d) (hc : c + d ≤ 2 ^ 400) (hs : s ≤ 4000) : Oth B (List.replicate (c + d).toNat u).flatten a a (n + 2) (3 + 2 * s) (.row [.times c t, .times d t]) := by
  have k1 := h.times c1 (by omega) (.inr rfl)
  have k2 := h.times d1 (by omega) (.inr rfl)
  have k := ((othS_one k1).app (othS_one k2)).row (by simp) (by omega)
  refine (k.mono (Nat.le_refl _) (by omega)).cast ?_
  rw [← flat_add]
  congr 2
  omega
theorem Oth.mod1 {B : Book} {u : List Int} {a : Int} {n s : Nat} {t : Tw} (h : Oth B u a a n s t) {c m : Int} (c1 : 1 ≤ c) (c2 : c ≤ 1000) (m1 : c < m) (m2 : m ≤ 2 ^ 400) (hs : s ≤ 4000) : Oth B (List.replicate (m / c * c).toNat u).flatten a a (n + 2) (2 + s) (.times (m / c) (.times c t)) := by
  have q0 : 1 ≤ m / c := (Int.le_ediv_iff_mul_le (by omega)).mpr (by omega)
  have q1 : m / c ≤ m := Int.ediv_le_self _ (by omega)
  have o400 : (1000 : Int) ≤ 2 ^ 400 := by decide +kernel
  have k1 := (h.times c1 (by omega) (.inr rfl)).times q0 (by omega) (.inr rfl)
  refine (k1.mono (Nat.le_refl _) (by omega)).cast ?_
  rw [flat_mul]
  congr 2
  rw [Int.toNat_mul (by omega) (by omega)]
theorem Oth.mod2 {B : Book} {u : List Int} {a : Int} {n s : Nat} {t : Tw} (h : Oth B u a a n s t) {c m : Int} (c1 : 1 ≤ c) (c2 : c ≤ 1000) (m1 : c < m) (m2 : m ≤ 2 ^ 400) (hs : s ≤ 4000) (hr : 0 < m % c) : Oth B (List.replicate m.toNat u).flatten a a (n + 3) (4 + 2 * s) (.row [.times (m / c) (.times c t), .times (m % c) t]) := by
  have r1 : m % c < c := Int.emod_lt_of_pos _ (by omega)
  have o400 : (1000 : Int) ≤ 2 ^ 400 := by decide +kernel
  have k1 := h.mod1 c1 c2 m1 m2 hs
  have k2 := (h.times (c := m % c) (by omega) (by omega) (.inr rfl)).mono (Nat.le_succ _) (Nat.le_refl _)
  have k := ((othS_one k1).app (othS_one k2)).row (by simp) (by omega)
  refine (k.mono (Nat.le_refl _) (by omega)).cast ?_
  rw [← flat_add]
  congr 2
  have e := Int.mul_ediv_add_emod m c
  have e2 : 0 ≤ m / c * c := Int.mul_nonneg (Int.ediv_nonneg (by omega) (by omega)) (by omega)
  rw [Int.mul_comm] at e
  omega
theorem Oth.mod3 {B : Book} {u : List Int} {a : Int} {n s : Nat} {t : Tw} (h : Oth B u a a n s t) {c m : Int} (c1 : 1 ≤ c) (c2 : c ≤ 1000) (m1 : c < m) (m2 : m ≤ 2 ^ 400) (hs : s ≤ 4000) (hr : ¬ 0 < m % c) : Oth B (List.replicate m.toNat u).flatten a a (n + 3) (4 + 2 * s) (.row [.times (m / c) (.times c t)]) := by
  have k1 := h.mod1 c1 c2 m1 m2 hs
  have k := (othS_one k1).row (by simp) (by omega)
  refine (k.mono (Nat.le_refl _) (by omega)).cast ?_
  congr 2
  have e := Int.mul_ediv_add_emod m c
  have e3 := Int.emod_nonneg m (show c ≠ 0 by omega)
  rw [Int.mul_comm] at e
  omega
theorem Tw.og_pos (t : Tw) : 1 ≤ t.og := by
  cases t with
  | way k => rw [Tw.og]; omega
  | row ps => rw [Tw.og]; omega
  | times n t => rw [Tw.og]; omega
theorem ogs_ge : ∀ ts : List Tw, ts.length ≤ Tw.ogs ts
  | [] => Nat.zero_le _
  | t :: r => by have := ogs_ge r; have := t.og_pos; rw [Tw.ogs, List.length_cons]; omega
theorem prt_dp {R : Int} : ∀ {m : Nat} {t : Tw}, Prt R m t → t.dp ≤ 1 + 2 * m
  | m, .way k, _ => by rw [Tw.dp]; omega
  | 0, .row _, h => h.elim
  | 0, .times _ _, h => h.elim
  | m + 1, .row ps, h => by
    have h2 := dps_le (M := 1 + 2 * m) fun p hp => prt_dp (h.2 p hp)
    rw [Tw.dp]
    omega
  | m + 1, .times c t, h => by
    rw [Tw.dp]
    rcases h with h | ⟨u, ns, rfl, h, hn⟩
    · have := prt_dp h; omega
    · have h1 := prt_dp h
      have h4 := dps_le (M := 1) (ps := ns.map Tw.way) fun p hp => by
        obtain ⟨k, _, rfl⟩ := List.mem_map.mp hp
        rw [Tw.dp]; omega
      simp only [Tw.dp, Tw.dps]
      omega
mutual
theorem Tw.sz_og : ∀ t : Tw, t.sz ≤ t.og
  | .way k => by rw [Tw.sz, Tw.og]; omega
  | .row ps => by have := Tw.szs_og ps; rw [Tw.sz, Tw.og]; omega
  | .times n t => by have := t.sz_og; rw [Tw.sz, Tw.og]; omega
theorem Tw.szs_og : ∀ ps : List Tw, Tw.szs ps ≤ Tw.ogs ps
  | [] => by rw [Tw.szs, Tw.ogs]; omega
  | t :: r => by have := t.sz_og; have := Tw.szs_og r; rw [Tw.szs, Tw.ogs]; omega
end
end L3
end
section
/-! L5e: xs.extend(t), t a list or a tuple. -/
namespace L2
open PySem PySem.Spec PyProof.Rows
theorem list_extendT (l : Addr) (items : Array Value) (n : Nat) (b : Addr) (items2 : Array Value) (n2 : Nat) (dd : Option Addr) (sl : Array (Option Value)) (hs0 : ¬(!items.isEmpty && Builtin.List.listTooLong (items.size + items2.size)) = true) (hs1 : items.size ≤ sizeLine) (hs2 : items.size + items2.size ≤ sizeLine + 1) :
    Meets (Builtin.«list.extend» ⟨[.ref l, .ref b], []⟩) (fun _ R s => s.heap.get? l = some { cls := .type "list", dict := none, data := .seq items n, slots := #[] } ∧ s.heap.get? b = some { cls := .type "tuple", dict := dd, data := .seq items2 n2, slots := sl } ∧ R (.ok (.ret Value.none)) { s with heap := s.heap.update l (Obj.mapSeq fun x => x ++ items2), toks := s.toks }) :=
  .of_wp fun prog w A R s h => by
    obtain ⟨hp, g, d, tk, os⟩ := s
    obtain ⟨hl, hb, h⟩ := h
    have f1 := AutoSeq1.idx_int
    have f2 := AutoSeq1.sub_tuple_tuple
    have f3 := AutoSeq1.sub_list_list
    have f4 := AutoSeq1.sub_tuple_list
    have f5 := AutoSeq1.sub_list_tuple
    have hz' : (items ++ items2).size ≤ sizeLine + 1 := by rw [Array.size_append]; exact hs2
    wp_walk using (wpAny_updateSeq hl rfl (hz := hs1) (_hz' := hz')), wpAny_loadPart' hl, wpAny_loadPart' hb
    exact ⟨_, rfl, h⟩
def rExtendT (K : PySem.W.Frag) : V → List V → Hp → VK → Prop := fun x vs H Q => ∃ l b xs zs, x = .ref l ∧ vs = [.ref b] ∧ H l = some (.lst xs) ∧ SqT K H b zs ∧ xs.length + zs.length ≤ sizeLine ∧ Q .non (upd H l (.lst (xs ++ zs)))
section
variable {X : Cx}
theorem mt_extendT : MtR X "list.extend" (rExtendT X.K) := by
  intro pins s σ H x vs v us Q I rx rv h
  obtain ⟨l, b, xs, zs, rfl, rfl, hH, hB, hz, q⟩ := h
  cases rx
  obtain ⟨u, rfl, ru⟩ := rv.one
  cases ru
  obtain ⟨z, its, n, r, hl, e⟩ := I.lstM hH
  obtain ⟨its2, r2, ⟨⟨cls, dd, data, sl⟩, ho, hc, n2, hd⟩, hs⟩ := I.tuple hB
  simp only at hc hd
  subst hc hd
  have hl2 : its2.length = zs.length := r2.length.symm
  have hsz : its.toArray.size + its2.toArray.size ≤ sizeLine := by rw [List.size_toArray, List.size_toArray]; omega
  have hlong : ¬ (!its.toArray.isEmpty && Builtin.List.listTooLong (its.toArray.size + its2.toArray.size)) = true := by
    rw [notLongL hsz, Bool.and_false]
    exact Bool.false_ne_true
  refine call_meets F.slot_list_extend ⟨_, e, rfl⟩ F.entry_list_extend (F.args_list_extend_2 _ _)
    (list_extendT l its.toArray n b its2.toArray n2 dd sl hlong (by rw [List.size_toArray]; omega) (by omega)) ⟨e, ho, ?_⟩
  refine ⟨.non, _, I.lset (its' := its ++ its2) hH e (by simp) (r.append r2) ?_, rfl, q⟩
  rw [List.length_append]
  omega
def rExtendX (K : PySem.W.Frag) : V → List V → Hp → VK → Prop := fun x vs H Q => rExtend x vs H Q ∨ rExtendT K x vs H Q
theorem mt_extendX {K : PySem.W.Frag} (hK : K = X.K := by rfl) : MtR X "list.extend" (rExtendX K) := by
  subst hK
  intro pins s σ H x vs v us Q I rx rv h
  rcases h with h | h
  · exact mt_extend pins s σ H x vs v us Q I rx rv h
  · exact mt_extendT pins s σ H x vs v us Q I rx rv h
end
end L2
namespace L3
open PySem L2
variable {G : Type} {K : PySem.W.Frag} {X : Cx} {Z : Zx K G}
def sqD (k : List PyData → Prop) : Option PyData → Prop
  | some (.list es) => k es
  | some (.tuple es) => k es
  | _ => False
def kExtX : KL G := fun i ds rs ρ g Q => one (fun r => fz1 r ρ fun d ρ' => slK ρ'[i]? fun zs => sqD (fun es => leK (zs.length + es.length) 16777216 (Q (.dt .none) (zs ++ es) ρ' g)) (some d)) rs
theorem m_extX : SimL Z (rExtendX K) (kExtX (G := G)) := fun f F ad ρ g σ H i vs ws ds rs Q R hi hH da hv q P hP => by
  obtain ⟨r, rfl, q2⟩ := one_of q
  obtain ⟨d, ρ', ef, q⟩ := fz1_of q2
  obtain ⟨zs, hi', q⟩ := slK_e q
  cases fz_keep ef hi hi'
  obtain ⟨v, rfl, h0⟩ := vrs1 hv
  obtain ⟨F2, e2, R2, dv⟩ := R.hfz h0 ef
  cases d with
  | list es =>
    obtain ⟨hl, q4⟩ := leK_e (show leK _ _ _ from q)
    cases dv with
    | lst h1 h2 =>
      exact .inl ⟨_, _, vs, _, rfl, rfl, hH, R2.fin.sub _ _ h1, by rw [sizeLine_eq, da.length, h2.length]; exact hl, hP F2 ρ' .non _ _ (.dt .none) e2 R2 hi' ((daAll_mono e2 da).append h2) .non ⟨_, rfl⟩ q4⟩
  | tuple es =>
    obtain ⟨hl, q4⟩ := leK_e (show leK _ _ _ from q)
    cases dv with
    | tup h1 h2 =>
      exact .inr ⟨_, _, vs, _, rfl, rfl, hH, Evl.ex_t R2.fin.sub h1, by rw [sizeLine_eq, da.length, h2.length]; exact hl, hP F2 ρ' .non _ _ (.dt .none) e2 R2 hi' ((daAll_mono e2 da).append h2) .non ⟨_, rfl⟩ q4⟩
  | _ => cases q
end L3
end
section
/-! L5f: defs whose last parameter has a default, called in any of three ways; they may raise. -/
namespace L3
open PySem PySem.Spec PyProof.Rows L2
variable {G : Type} {K : PySem.W.Frag} {X : Cx} {Z : Zx K G}
/-- the last parameter given by its name -/
def KwB (K : PySem.W.Frag) (fd : FuncData) (ps : List Str) (q : Str) : Prop := ∀ (s : Shared) (us : List Value) (v : Value), K.In s.heap → us.length + 1 = ps.length → BindsTo s fd ⟨us, [(q, v)]⟩ (ps.zip (us ++ [v]))
def DfnE (K : PySem.W.Frag) (mg : Str → Option Value) (x : Str) (s : Stmt) (ps : List Str) (q : Str) (dvs : List V) : Prop := ∃ fa fd, FunA K x s fa fd ∧ mg x = some (.ref fa) ∧ (∃ ds, Vals dvs ds ∧ Binds K fd ps ds) ∧ Binds K fd ps [] ∧ KwB K fd ps q
def OkE (P : Program) (w : World) (K : PySem.W.Frag) (mg : Str → Option Value) (base : Heap) (k : Nat) (x : Str) (ps : List Str) (q : Str) (dvs : List V) (sp : Sp) : Prop :=
  ∃ fa fd, mg x = some (.ref fa) ∧ PySem.W.keepIn K (.ref fa) = true ∧ (∃ ds, Vals dvs ds ∧ Binds K fd ps ds) ∧ Binds K fd ps [] ∧ KwB K fd ps q ∧ FnG P w K mg base (L2.CX P w) k fa fd ps sp
section
variable {P : Program} {w : World} {mg : Str → Option Value} {base : Heap}
theorem OkE.up {j : Nat} {x q : Str} {ps : List Str} {dvs : List V} {sp : Sp} (h : OkE P w K mg base j x ps q dvs sp) {k : Nat} (hk : j ≤ k) : OkE P w K mg base k x ps q dvs sp := by
  obtain ⟨fa, fd, h1, h2, h3, h5, h6, h4⟩ := h
  exact ⟨fa, fd, h1, h2, h3, h5, h6, h4.mono hk⟩
theorem DfnE.ok {x q : Str} {s : Stmt} {N ps : List Str} {dvs : List V} {k : Nat} {Z : Zx K G} {S : Spec G} (D : DfnE K mg x s ps q dvs) (Sc : FnScope N ps (defScope s)) (hS : ∀ as g T U, S as g T U → as.length = ps.length) (hN : ps.length ≤ N.length)
    (body : ∀ (fa : Addr) (cdv : Value) (A : Around) (outer : List Env) (s' : Shared) (H : Hp) (E : XK), RoomG k (A.deeper (PyProof.Rows.envOfC x (defScope s) s'.heap.objs.size fa cdv)) →
      ∃ ts t, DSs (cxOf (L2.CX P w) P w K mg base N x (defScope s) fa cdv A outer s' H E).nox (Z.wish (fun _ _ _ _ => False) Un) (defBody s) ts t ∧ ∀ as g T U, S as g T U → t { nx := fun _ g' => T (.dt .none) g', rt := T } (entry N as) g) : OkE P w K mg base (k + 1) x ps q dvs (spZ Z S) := by
  obtain ⟨fa, fd, Fu, hm, hb, hb2, hb3⟩ := D
  refine ⟨fa, fd, hm, Fu.kp, hb, hb2, hb3, funGD Fu Sc (fun vs H Q E h => ?_) (fun cdv A outer s H vs Q E hr h => ?_)⟩
  · obtain ⟨F, g, as, T, U, h1, h2, h3, h4, h5, _⟩ := h
    rw [argR_len h4]
    exact hS as g T U h5
  · obtain ⟨F, g, as, T, U, h1, h2, h3, h4, h5, h6, h7⟩ := h
    obtain ⟨ts, t, hd, hb⟩ := body fa cdv A outer s H E hr
    exact ⟨ts, hd.ps.nox, body3 h1 h2 h3 h4 (hS as g T U h5) hN (fun _ _ _ _ _ _ _ _ _ _ _ _ z => z.elim) h6 hd.sim (hb as g T U h5)⟩
theorem DfnE.okX {x q : Str} {s : Stmt} {N ps : List Str} {dvs : List V} {k : Nat} {Z : Zx K G} {S : Spec G} (D : DfnE K mg x s ps q dvs) (Sc : FnScope N ps (defScope s)) (hS : ∀ as g T U, S as g T U → as.length = ps.length) (hN : ps.length ≤ N.length)
    (body : ∀ (fa : Addr) (cdv : Value) (A : Around) (outer : List Env) (s' : Shared) (H : Hp) (E : XK) (U : XU G), RoomG k (A.deeper (PyProof.Rows.envOfC x (defScope s) s'.heap.objs.size fa cdv)) →
      Takes (cxOf (L2.CX P w) P w K mg base N x (defScope s) fa cdv A outer s' H E) (fun c d _ H => E c d H) →
      PassesOwn (model P w) (A.deeper (PyProof.Rows.envOfC x (defScope s) s'.heap.objs.size fa cdv)) (PyProof.Rows.envOfC x (defScope s) s'.heap.objs.size fa cdv) (cxOf (L2.CX P w) P w K mg base N x (defScope s) fa cdv A outer s' H E).xe →
      ∃ ts t, DSs (cxOf (L2.CX P w) P w K mg base N x (defScope s) fa cdv A outer s' H E) (Z.wish (fun c d _ H => E c d H) (fun c fs _ g => U c fs g)) (defBody s) ts t ∧ ∀ as g T, S as g T U → t { nx := fun _ g' => T (.dt .none) g', rt := T } (entry N as) g) : OkE P w K mg base (k + 1) x ps q dvs (spZ Z S) := by
  obtain ⟨fa, fd, Fu, hm, hb, hb2, hb3⟩ := D
  refine ⟨fa, fd, hm, Fu.kp, hb, hb2, hb3, funGD Fu Sc (fun vs H Q E h => ?_) (fun cdv A outer s H vs Q E hr h => ?_)⟩
  · obtain ⟨F, g, as, T, U, h1, h2, h3, h4, h5, _⟩ := h
    rw [argR_len h4]
    exact hS as g T U h5
  · obtain ⟨F, g, as, T, U, h1, h2, h3, h4, h5, h6, h7⟩ := h
    obtain ⟨ts, t, hd, hb⟩ := body fa cdv A outer s H E U hr (takes_of rfl rfl rfl rfl) (passes_of rfl)
    refine ⟨ts, hd.ps, body3 h1 h2 h3 h4 (hS as g T U h5) hN (fun F' ad ρ g' σ H' c dx fs er R hx hu => ?_) h6 hd.sim (hb as g T h5)⟩
    exact h7 c fs dx F' g' H' ⟨R.fin.base, R.fin.keep, R.fin.keepN, R.fin.new, R.fin.sub, R.fin.res, R.fin.fpF, R.fin.fpB⟩ er hx hu
end
/-- a default that is a whole number, behind n parameters -/
theorem dfnE_int {mg : Str → Option Value} {x : Str} {st : Stmt} {fa T : Addr} {oc oc2 : Value} {od od2 an : Option Addr} {osl osl2 : Array (Option Value)} {kV doc pm cdv ct : Value} {i : Int} {tk : Tok} {n : Nat} {ps : List Str} {q : Str} (m : Nat) (hp : ps.length = m + 1)
    (hm : mg x = some (.ref fa)) (l : K.lookup fa = some ⟨oc, od, .func (PySem.W.fnOf x x (defArgs st) (defBody st) (defScope st) (.ref T) kV doc pm an cdv ct), osl⟩) (lT : K.lookup T = some ⟨oc2, od2, .seq #[.int i tk] n, osl2⟩) (c : PySem.W.codeIn K cdv x = true) (k : PySem.W.keepIn K (.ref fa) = true)
    (h : ∀ (T : Addr) (kV doc pm : Value) (an : Option Addr) (cdv ct : Value) (us its : List Value), us.length = m → its.length = 1 →
      ∃ kk, bindArgs (PySem.W.fnOf x x (defArgs st) (defBody st) (defScope st) (.ref T) kV doc pm an cdv ct) ⟨us, []⟩ = seqItems? (.ref T) >>= kk ∧ kk (some its.toArray) = pure (ps.zip (us ++ its.drop 0)))
    (h2 : ∀ (T : Addr) (kV doc pm : Value) (an : Option Addr) (cdv ct : Value) (us its : List Value), us.length = m + 1 → its.length = 1 →
      ∃ kk, bindArgs (PySem.W.fnOf x x (defArgs st) (defBody st) (defScope st) (.ref T) kV doc pm an cdv ct) ⟨us, []⟩ = seqItems? (.ref T) >>= kk ∧ kk (some its.toArray) = pure (ps.zip (us ++ its.drop 1)))
    (h3 : ∀ (T : Addr) (kV doc pm : Value) (an : Option Addr) (cdv ct : Value) (us its : List Value) (v : Value), us.length = m → its.length = 1 →
      ∃ kk, bindArgs (PySem.W.fnOf x x (defArgs st) (defBody st) (defScope st) (.ref T) kV doc pm an cdv ct) ⟨us, [(q, v)]⟩ = seqItems? (.ref T) >>= kk ∧ kk (some its.toArray) = pure (ps.zip (us ++ [v]))) : DfnE K mg x st ps q [.int i] := by
  have F : FunD K x x (defArgs st) (defBody st) (defScope st) [.int i] [] fa (PySem.W.fnOf x x (defArgs st) (defBody st) (defScope st) (.ref T) kV doc pm an cdv ct) :=
    ⟨⟨oc, od, _, kV, doc, pm, an, cdv, ct, osl, rfl, l, c, .inr ⟨by simp, T, _, [.int i tk], n, rfl, lT, rfl, .cons ⟨tk, rfl⟩ .nil⟩, .inl rfl⟩, k⟩
  obtain ⟨ds, hv, hb⟩ := F.binds1 (ps := ps) m 0 (by simp) (by simp [hp]) h
  obtain ⟨ds2, hv2, hb2⟩ := F.binds1 (ps := ps) (m + 1) 1 (by simp) (by simp [hp]) h2
  cases hv2
  refine ⟨fa, _, ⟨⟨oc, od, _, kV, doc, pm, an, cdv, ct, osl, rfl, l, c⟩, k⟩, hm, ⟨ds, hv, hb⟩, hb2, fun s us v X hl => ?_⟩
  obtain ⟨kk, e1, e2⟩ := h3 T kV doc pm an cdv ct us [.int i tk] v (by omega) rfl
  refine BindsTo.of_looks fun M => ?_
  rw [e1]
  exact looks_items X lT rfl (.of_pure e2)
/-! ### f(a, .., q = e) -/
def tApp1 (t : TA) (te : TE) : TA := fun σ H Q => t σ H fun vs H1 => te σ H1 fun z H2 => Q (vs ++ [z]) H2
def dApp1 (a : DA G) (b : DT G) : DA G := fun ρ g Q => a ρ g fun rs ρ1 g1 => b ρ1 g1 fun r ρ2 g2 => Q (rs ++ [st r]) ρ2 g2
theorem sim_app1 {ta : TA} {te : TE} {a : DA G} {b : DT G} (ha : SimA Z ta a) (hb : Sim Z te b) : SimA Z (tApp1 ta te) (dApp1 a b) := fun f F ad ρ g σ H Q R q P hP => by
  refine ha f F ad ρ g σ H _ R q _ fun vs H1 q => ?_
  obtain ⟨F1, ad1, ρ1, g1, rs, e1, eg1, R1, v1, q⟩ := q
  refine hb f F1 ad1 ρ1 g1 σ H1 _ R1 q _ fun x H2 q2 => ?_
  obtain ⟨F2, ad2, ρ2, g2, r, e2, eg2, R2, v2, q⟩ := q2
  obtain ⟨F2', e2', R2', v2'⟩ := R2.hst v2
  refine hP _ _ ⟨F2', ad2, ρ2, g2, _, (e1.trans e2).trans e2', eg2.trans eg1, R2', ?_, q⟩
  exact paired_app (Paired.mapP v1 fun v r0 ⟨r1, er, z⟩ => ⟨r1, er, z.held (e2.trans e2') eg2⟩) (.cons ⟨r, rfl, v2'⟩ .nil)
section
variable {CC : CXT} {n : Nat} {fa : Addr} {fd : FuncData} {qs : List Str} {sp : Sp} {x q : Str} {p pos kpos : Pos} {e e2 : Expr} {es : List Expr} {t : TA} {te : TE}
theorem pe_callGK {E : L2.St → XK} (F : FnG X.prog X.w X.K X.mg X.base CC n fa fd qs sp) (hr : RoomG n X.A) (hg : Gl X x) (hm : X.mg x = some (.ref fa)) (hk : PySem.W.keepIn X.K (.ref fa) = true) (hb : KwB X.K fd qs q) (hx : ∀ σ, PassesAt CC X σ (E σ))
    (ha : PA X (e :: es) t) (he2 : PE X e2 te) (hall : (backToKw pos (keywordEach [⟨some q, e2, kpos⟩] X.env)).all (·.1.isSome) = true := by rfl) (hks : (backToKw pos (keywordEach [⟨some q, e2, kpos⟩] X.env)).filterMap (·.1) = [q] := by rfl)
    (hdb : (x == ("__debug__" : Str)) = false := by decide) (he : starEach (e :: es) X.env = (false, eval e X.env) :: starEach es X.env := by rfl)
    (hpl : ((backTo pos (starEach (e :: es) X.env)).any (·.1) || (backToKw pos (keywordEach [⟨some q, e2, kpos⟩] X.env)).any (·.1.isNone)) = false := by rfl) :
    PE X (.Call (.Name x p) (e :: es) [⟨some q, e2, kpos⟩] pos) (tCallE sp [] E (tApp1 t te)) := by
  refine ⟨fun pins s σ H Q I h => ?_⟩
  refine wpAny_Call_Name_kw (ld_glob I hg hm ?_ hdb)
  refine PySem.W.callWith_KW (h₀ := X.base) I.ok.mod.kin hk hall (thn (ha.run pos pins s σ H _ I h) fun us s1 ⟨vs, H1, I1, r, q1⟩ => ?_) hpl he
  refine thn ((pk_cons (nm := some q) (kpos := kpos) he2 pk_nil).run pos pins s1 σ H1 (fun zs H2 => ∃ z, zs = [z] ∧ sp ((vs ++ [z]) ++ []) H2 Q (E σ)) I1 ?_) fun ws s2 ⟨zs, H2, I2, rz, z, ez, q2⟩ => ⟨I2.kIn, ?_⟩
  · have mono : ∀ z H2, sp ((vs ++ [z]) ++ []) H2 Q (E σ) → ∃ z', [z] = [z'] ∧ sp ((vs ++ [z']) ++ []) H2 Q (E σ) := fun z H2 h => ⟨z, rfl, h⟩
    show te σ H1 fun z H2 => ∃ z', [z] = [z'] ∧ sp ((vs ++ [z']) ++ []) H2 Q (E σ)
    rw [show (fun (z : V) (H2 : Hp) => ∃ z', [z] = [z'] ∧ sp ((vs ++ [z']) ++ []) H2 Q (E σ)) = fun z H2 => sp ((vs ++ [z]) ++ []) H2 Q (E σ) from funext fun z => funext fun H2 => propext ⟨fun ⟨z', e, h⟩ => by cases e; exact h, mono z H2⟩]
    exact q1
  · rw [hks]
    subst ez
    obtain ⟨u, rfl, ru⟩ := rz.one
    rw [List.append_nil] at q2
    have rr : Vals (vs ++ [z]) (us ++ [u]) := r.append (.cons ru .nil)
    have ul : (us ++ [u]).length = qs.length := by rw [← rr.length]; exact F.len _ _ _ _ q2
    rw [List.length_append] at ul
    refine wpAny_call (codeAny_mono (F.run X.A X.stack s2 H2 ⟨us, [(q, u)]⟩ (us ++ [u]) (vs ++ [z]) Q (E σ) hr I2.env0 (hb s2 us u I2.kIn ul) rr q2) fun res s' hq => ?_)
    cases res with
    | error er => exact hx σ pins H2 s2 er s' I2 hq
    | ok fl =>
      cases fl with
      | ret u => exact I2.after hq
      | next => exact hq.elim
      | brk => exact hq.elim
      | cont => exact hq.elim
end
section
variable {k : Nat} {ps : List Str} {x q : Str} {p pos kpos : Pos} {e e2 : Expr} {es : List Expr} {ta : TA} {te : TE} {a : DA G} {b : DT G}
theorem e_fnE0 {U : UX G} {E : L2.St → XK} (L : Let X Z U E) {i : Int} {S : Spec Unit} (F : OkE X.prog X.w X.K X.mg X.base k x ps q [.int i] (spZ (Z0 K) S)) (hr : RoomG k X.A) (ha : DAs X Z (e :: es) ta a) (hg : Gl X x := by rfl) (hdb : (x == ("__debug__" : Str)) = false := by decide)
    (he : starEach (e :: es) X.env = (false, eval e X.env) :: starEach es X.env := by rfl) (hpl : (backTo pos (starEach es X.env)).any (·.1) = false := by rfl) : DE X Z (.Call (.Name x p) (e :: es) [] pos) (tCallE (spZ (Z0 K) S) [.int i] E ta) (dCall0 U S [.dt (.int i)] a) := by
  obtain ⟨fa, fd, hm, hk, ⟨ds, hv, hb⟩, _, _, Fk⟩ := F
  exact ⟨pe_callG Fk hr hg hm hk hb hv L.pa ha.pa hdb he hpl, sim_call0 L.lw (fun _ => .cons (.int i) .nil) ha.sim⟩
theorem e_fnE1 {U : UX G} {E : L2.St → XK} (L : Let X Z U E) {dvs : List V} {S : Spec Unit} (F : OkE X.prog X.w X.K X.mg X.base k x ps q dvs (spZ (Z0 K) S)) (hr : RoomG k X.A) (ha : DAs X Z (e :: es) ta a) (hg : Gl X x := by rfl) (hdb : (x == ("__debug__" : Str)) = false := by decide)
    (he : starEach (e :: es) X.env = (false, eval e X.env) :: starEach es X.env := by rfl) (hpl : (backTo pos (starEach es X.env)).any (·.1) = false := by rfl) : DE X Z (.Call (.Name x p) (e :: es) [] pos) (tCallE (spZ (Z0 K) S) [] E ta) (dCall0 U S [] a) := by
  obtain ⟨fa, fd, hm, hk, _, hb, _, Fk⟩ := F
  exact ⟨pe_callG Fk hr hg hm hk hb .nil L.pa ha.pa hdb he hpl, sim_call0 L.lw (fun _ => .nil) ha.sim⟩
theorem e_fnEK {U : UX G} {E : L2.St → XK} (L : Let X Z U E) {dvs : List V} {S : Spec Unit} (F : OkE X.prog X.w X.K X.mg X.base k x ps q dvs (spZ (Z0 K) S)) (hr : RoomG k X.A) (ha : DAs X Z (e :: es) ta a) (he2 : DE X Z e2 te b) (hg : Gl X x := by rfl) (hdb : (x == ("__debug__" : Str)) = false := by decide)
    (hall : (backToKw pos (keywordEach [⟨some q, e2, kpos⟩] X.env)).all (·.1.isSome) = true := by rfl) (hks : (backToKw pos (keywordEach [⟨some q, e2, kpos⟩] X.env)).filterMap (·.1) = [q] := by rfl)
    (he : starEach (e :: es) X.env = (false, eval e X.env) :: starEach es X.env := by rfl)
    (hpl : ((backTo pos (starEach (e :: es) X.env)).any (·.1) || (backToKw pos (keywordEach [⟨some q, e2, kpos⟩] X.env)).any (·.1.isNone)) = false := by rfl) :
    DE X Z (.Call (.Name x p) (e :: es) [⟨some q, e2, kpos⟩] pos) (tCallE (spZ (Z0 K) S) [] E (tApp1 ta te)) (dCall0 U S [] (dApp1 a b)) := by
  obtain ⟨fa, fd, hm, hk, _, _, hb, Fk⟩ := F
  exact ⟨pe_callGK Fk hr hg hm hk hb L.pa ha.pa he2.pe hall hks hdb he hpl, sim_call0 L.lw (fun _ => .nil) (sim_app1 ha.sim he2.sim)⟩
end
end L3
end
section
/-! L5g: words. -/
namespace L3
open PySem L2
inductive Wo where
  | put (gs : List Int) | again (w : Wo) | row (ws : List Wo) | either (ws : List Wo)
mutual
def Wo.d : Wo → PyData
  | .put gs => .tuple [.str "put", .tuple (gs.map PyData.int)]
  | .again w => .tuple [.str "again", w.d]
  | .row ws => .tuple [.str "row", .tuple (Wo.ds ws)]
  | .either ws => .tuple [.str "either", .tuple (Wo.ds ws)]
def Wo.ds : List Wo → List PyData
  | [] => []
  | w :: r => w.d :: Wo.ds r
end
theorem Wo.ds_map : ∀ ws : List Wo, Wo.ds ws = ws.map Wo.d
  | [] => rfl
  | w :: r => by rw [Wo.ds, Wo.ds_map r]; rfl
mutual
def Wo.puts : Wo → Nat
  | .put _ => 1
  | .again w => w.puts
  | .row ws => Wo.putss ws
  | .either ws => Wo.putss ws
def Wo.putss : List Wo → Nat
  | [] => 0
  | w :: r => w.puts + Wo.putss r
end
mutual
def Wo.dp : Wo → Nat
  | .put _ => 1
  | .again w => 1 + w.dp
  | .row ws => 1 + Wo.dps ws
  | .either ws => 1 + Wo.dps ws
def Wo.dps : List Wo → Nat
  | [] => 0
  | w :: r => max w.dp (Wo.dps r)
end
mutual
def Wo.sz : Wo → Nat
  | .put _ => 1
  | .again w => 1 + w.sz
  | .row ws => 1 + Wo.szs ws
  | .either ws => 1 + Wo.szs ws
def Wo.szs : List Wo → Nat
  | [] => 0
  | w :: r => w.sz + Wo.szs r
end
mutual
def Wo.Ok (P : Nat) : Wo → Prop
  | .put gs => gs.length = P ∧ ∀ x ∈ gs, -99 ≤ x ∧ x ≤ 99
  | .again w => w.Ok P
  | .row ws => ws ≠ [] ∧ Wo.Oks P ws
  | .either ws => ws ≠ [] ∧ Wo.Oks P ws
def Wo.Oks (P : Nat) : List Wo → Prop
  | [] => True
  | w :: r => w.Ok P ∧ Wo.Oks P r
end
theorem Wo.Oks.of {P : Nat} : ∀ {ws : List Wo}, (∀ w ∈ ws, w.Ok P) → Wo.Oks P ws
  | [], _ => by rw [Wo.Oks]; trivial
  | w :: r, h => by rw [Wo.Oks]; exact ⟨h w List.mem_cons_self, Wo.Oks.of fun p hp => h p (List.mem_cons_of_mem _ hp)⟩
theorem Wo.dps_le {M : Nat} : ∀ {ws : List Wo}, (∀ w ∈ ws, w.dp ≤ M) → Wo.dps ws ≤ M
  | [], _ => by rw [Wo.dps]; omega
  | w :: r, h => by
    have h1 := h w List.mem_cons_self
    have h2 := Wo.dps_le (ws := r) fun p hp => h p (List.mem_cons_of_mem _ hp)
    rw [Wo.dps]; omega
theorem Wo.dp_pos (w : Wo) : 1 ≤ w.dp := by
  cases w with
  | put gs => rw [Wo.dp]; exact Nat.le_refl _
  | again w => rw [Wo.dp]; omega
  | row ws => rw [Wo.dp]; omega
  | either ws => rw [Wo.dp]; omega
mutual
theorem Wo.puts_pos {P : Nat} : ∀ {w : Wo}, w.Ok P → 1 ≤ w.puts
  | .put gs, h => by rw [Wo.puts]; exact Nat.le_refl _
  | .again w, h => by rw [Wo.Ok] at h; rw [Wo.puts]; exact Wo.puts_pos h
  | .row ws, h => by rw [Wo.Ok] at h; rw [Wo.puts]; exact Wo.putss_pos h.1 h.2
  | .either ws, h => by rw [Wo.Ok] at h; rw [Wo.puts]; exact Wo.putss_pos h.1 h.2
theorem Wo.putss_pos {P : Nat} : ∀ {ws : List Wo}, ws ≠ [] → Wo.Oks P ws → 1 ≤ Wo.putss ws
  | [], hn, _ => absurd rfl hn
  | w :: r, _, h => by rw [Wo.Oks] at h; rw [Wo.putss]; have := Wo.puts_pos h.1; omega
end
mutual
theorem Wo.sz_le {P : Nat} : ∀ {w : Wo}, w.Ok P → w.sz ≤ w.puts * w.dp
  | .put gs, h => by rw [Wo.sz, Wo.puts, Wo.dp]; exact Nat.le_refl _
  | .again w, h => by
    rw [Wo.Ok] at h
    rw [Wo.sz, Wo.puts, Wo.dp, Nat.mul_add]
    have := Wo.sz_le h
    have := Wo.puts_pos h
    omega
  | .row ws, h => by
    rw [Wo.Ok] at h
    rw [Wo.sz, Wo.puts, Wo.dp, Nat.mul_add]
    have := Wo.szs_le h.2
    have := Wo.putss_pos h.1 h.2
    omega
  | .either ws, h => by
    rw [Wo.Ok] at h
    rw [Wo.sz, Wo.puts, Wo.dp, Nat.mul_add]
    have := Wo.szs_le h.2
    have := Wo.putss_pos h.1 h.2
    omega
theorem Wo.szs_le {P : Nat} : ∀ {ws : List Wo}, Wo.Oks P ws → Wo.szs ws ≤ Wo.putss ws * Wo.dps ws
  | [], _ => by rw [Wo.szs]; omega
  | w :: r, h => by
    rw [Wo.Oks] at h
    rw [Wo.szs, Wo.putss, Wo.dps, Nat.add_mul]
    have h1 := Wo.sz_le h.1
    have h2 := Wo.szs_le h.2
    have h3 : w.puts * w.dp ≤ w.puts * max w.dp (Wo.dps r) := Nat.mul_le_mul_left _ (Nat.le_max_left _ _)
    have h4 : Wo.putss r * Wo.dps r ≤ Wo.putss r * max w.dp (Wo.dps r) := Nat.mul_le_mul_left _ (Nat.le_max_right _ _)
    omega
end
/-! ### what the counter tells -/
def goodL (G : Int → PyData → Bool × Int) : Int → List PyData → Bool × Int
  | c, [] => (true, c)
  | c, q :: qs => match G c q with
    | (true, c') => goodL G c' qs
    | (false, c') => (false, c')
def goodR (G : Int → PyData → Bool × Int) (s : Str) (c : Int) (ps : List PyData) : Bool × Int := if (s = "row" ∨ s = "either") ∧ ps ≠ [] then goodL G c ps else (false, c)
def goodQ (G : Int → PyData → Bool × Int) (s : Str) (c : Int) : PyData → Bool × Int
  | .tuple ps => goodR G s c ps
  | _ => (false, c)
def goodT (ar : PyData → Bool) (G : Int → PyData → Bool × Int) (c : Int) : PyData → Bool × Int
  | .tuple [.str s, x] => if s = "put" then (decide (c + 1 ≤ 7) && ar x, c + 1) else if s = "again" then G c x else goodQ G s c x
  | _ => (false, c)
def goodF (ar : PyData → Bool) : Nat → Int → PyData → Bool × Int
  | 0, c, _ => (false, c)
  | f + 1, c, t => goodT ar (goodF ar f) c t
def putsR (ar : PyData → Bool) (G : PyData → Int) (s : Str) (ps : List PyData) : Int := if s = "put" then (if ar (.tuple ps) = true then 1 else 100) else if (s = "row" ∨ s = "either") ∧ ps ≠ [] then (ps.map G).sum else 100
def putsQ (ar : PyData → Bool) (G : PyData → Int) (s : Str) : PyData → Int
  | .tuple ps => putsR ar G s ps
  | _ => 100
def putsT (ar : PyData → Bool) (G : PyData → Int) : PyData → Int
  | .tuple [.str s, x] => if s = "again" then G x else putsQ ar G s x
  | _ => 100
def putsF (ar : PyData → Bool) : Nat → PyData → Int
  | 0, _ => 100
  | f + 1, t => putsT ar (putsF ar f) t
theorem putsT_2 {ar : PyData → Bool} {G : PyData → Int} {s : Str} {x : PyData} : putsT ar G (.tuple [.str s, x]) = if s = "again" then G x else putsQ ar G s x := rfl
theorem goodT_2 {ar : PyData → Bool} {G : Int → PyData → Bool × Int} {s : Str} {x : PyData} {c : Int} : goodT ar G c (.tuple [.str s, x]) = if s = "put" then (decide (c + 1 ≤ 7) && ar x, c + 1) else if s = "again" then G c x else goodQ G s c x := rfl
theorem s_ap : ¬ (("again" : Str) = "put") := by decide +kernel
theorem s_pa : ¬ (("put" : Str) = "again") := by decide +kernel
theorem s_rp : ¬ (("row" : Str) = "put") := by decide +kernel
theorem s_ra : ¬ (("row" : Str) = "again") := by decide +kernel
theorem s_ep : ¬ (("either" : Str) = "put") := by decide +kernel
theorem s_ea : ¬ (("either" : Str) = "again") := by decide +kernel
/-- as the law counts -/
def Counts (ar : PyData → Bool) (f : Nat) (c : Int) (t : PyData) : Prop := 0 ≤ putsF ar f t ∧ (c + putsF ar f t ≤ 7 → goodF ar f c t = (true, c + putsF ar f t)) ∧ (7 < c + putsF ar f t → (goodF ar f c t).1 = false)
theorem sum_nn : ∀ {xs : List Int}, (∀ x ∈ xs, 0 ≤ x) → 0 ≤ xs.sum
  | [], _ => by simp
  | x :: r, h => by rw [List.sum_cons]; have := h x List.mem_cons_self; have := sum_nn (xs := r) fun y hy => h y (List.mem_cons_of_mem _ hy); omega
theorem counts_l {ar : PyData → Bool} {f : Nat} (ih : ∀ c t, 0 ≤ c → c ≤ 7 → Counts ar f c t) (nn : ∀ t, 0 ≤ putsF ar f t) : ∀ (qs : List PyData) (c : Int), 0 ≤ c → c ≤ 7 →
    (c + (qs.map (putsF ar f)).sum ≤ 7 → goodL (goodF ar f) c qs = (true, c + (qs.map (putsF ar f)).sum)) ∧ (7 < c + (qs.map (putsF ar f)).sum → (goodL (goodF ar f) c qs).1 = false)
  | [], c, h0, h7 => ⟨fun _ => by simp [goodL], fun h => by simp at h; omega⟩
  | q :: qs, c, h0, h7 => by
    obtain ⟨k0, k1, k2⟩ := ih c q h0 h7
    have ns : 0 ≤ (qs.map (putsF ar f)).sum := sum_nn fun x hx => by obtain ⟨y, _, rfl⟩ := List.mem_map.mp hx; exact nn y
    rw [List.map_cons, List.sum_cons, goodL]
    by_cases hc : c + putsF ar f q ≤ 7
    · rw [k1 hc]
      obtain ⟨m1, m2⟩ := counts_l ih nn qs (c + putsF ar f q) (by omega) hc
      refine ⟨fun h => ?_, fun h => ?_⟩
      · show goodL (goodF ar f) (c + putsF ar f q) qs = _
        rw [m1 (by omega)]
        congr 1
        omega
      · show (goodL (goodF ar f) (c + putsF ar f q) qs).1 = false
        exact m2 (by omega)
    · refine ⟨fun h => by omega, fun h => ?_⟩
      have := k2 (by omega)
      rcases he : goodF ar f c q with ⟨b, c'⟩
      rw [he] at this
      cases (show b = false from this)
      rfl
theorem puts_nn (ar : PyData → Bool) : ∀ (f : Nat) (t : PyData), 0 ≤ putsF ar f t
  | 0, _ => by rw [putsF]; decide
  | f + 1, t => by
    rw [putsF]
    unfold putsT
    split
    · split
      · exact puts_nn ar f _
      · unfold putsQ
        split
        · unfold putsR
          split
          · split <;> decide
          · split
            · exact sum_nn fun x hx => by obtain ⟨y, _, rfl⟩ := List.mem_map.mp hx; exact puts_nn ar f y
            · decide
        · decide
    · decide
theorem counts {ar : PyData → Bool} (har : ∀ x, ar x = true → ∃ ds, x = .tuple ds) : ∀ (f : Nat) (c : Int) (t : PyData), 0 ≤ c → c ≤ 7 → Counts ar f c t
  | 0, c, t, h0, h7 => ⟨by rw [putsF]; decide, fun h => by rw [putsF] at h; omega, fun _ => rfl⟩
  | f + 1, c, t, h0, h7 => by
    have ih := fun c t => counts har f c t
    refine ⟨puts_nn ar (f + 1) t, ?_⟩
    rw [goodF, putsF]
    have bad : ∀ {b : Bool × Int} {p : Int}, p = 100 → b.1 = false → (c + p ≤ 7 → b = (true, c + p)) ∧ (7 < c + p → b.1 = false) := fun hp hb => ⟨fun h => by omega, fun _ => hb⟩
    unfold goodT putsT
    split
    · rename_i s x
      by_cases sp : s = "put"
      · subst sp
        rw [if_pos rfl, if_neg s_pa]
        unfold putsQ
        split
        · rename_i ps
          unfold putsR
          rw [if_pos rfl]
          by_cases ha : ar (.tuple ps) = true
          · rw [if_pos ha, ha, Bool.and_true]
            exact ⟨fun h => by rw [decide_eq_true h], fun h => decide_eq_false (by omega)⟩
          · rw [if_neg ha, Bool.eq_false_iff.mpr ha, Bool.and_false]
            exact bad rfl rfl
        · rename_i hx
          have ha : ar x = false := by
            cases e : ar x with
            | false => rfl
            | true => obtain ⟨ds, rfl⟩ := har _ e; exact (hx ds rfl).elim
          rw [ha, Bool.and_false]
          exact bad rfl rfl
      · rw [if_neg sp]
        by_cases sa : s = "again"
        · rw [if_pos sa, if_pos sa]
          exact (ih c x h0 h7).2
        · rw [if_neg sa, if_neg sa]
          unfold goodQ putsQ
          split
          · rename_i ps
            unfold goodR putsR
            rw [if_neg sp]
            by_cases sr : (s = "row" ∨ s = "either") ∧ ps ≠ []
            · rw [if_pos sr, if_pos sr]
              exact counts_l ih (puts_nn ar f) ps c h0 h7
            · rw [if_neg sr, if_neg sr]
              exact bad rfl rfl
          · exact bad rfl rfl
    · exact bad rfl rfl
theorem counts_word {ar : PyData → Bool} (har : ∀ x, ar x = true → ∃ ds, x = .tuple ds) (f : Nat) (t : PyData) : (goodF ar f 0 t).1 = decide (putsF ar f t < 8) := by
  obtain ⟨h0, h1, h2⟩ := counts har f 0 t (by decide) (by decide)
  by_cases h : putsF ar f t < 8
  · rw [h1 (by omega), decide_eq_true h]
  · rw [h2 (by omega), decide_eq_false h]
/-! ### good words are told so -/
mutual
theorem Wo.counted {ar : PyData → Bool} {P : Nat} (har : ∀ gs : List Int, gs.length = P → (∀ x ∈ gs, -99 ≤ x ∧ x ≤ 99) → ar (.tuple (gs.map PyData.int)) = true) : ∀ {w : Wo} {f : Nat}, w.Ok P → w.dp ≤ f → putsF ar f w.d = w.puts
  | .put gs, 0, _, h => by rw [Wo.dp] at h; omega
  | .again w, 0, _, h => by rw [Wo.dp] at h; omega
  | .row ws, 0, _, h => by rw [Wo.dp] at h; omega
  | .either ws, 0, _, h => by rw [Wo.dp] at h; omega
  | .put gs, f + 1, ho, h => by
    rw [Wo.Ok] at ho
    rw [Wo.d, Wo.puts, putsF, putsT_2, if_neg s_pa, putsQ, putsR, if_pos rfl, if_pos (har gs ho.1 ho.2)]
    rfl
  | .again w, f + 1, ho, h => by
    rw [Wo.Ok] at ho
    rw [Wo.dp] at h
    rw [Wo.d, Wo.puts, putsF, putsT_2, if_pos rfl]
    exact Wo.counted har ho (by omega)
  | .row ws, f + 1, ho, h => by
    rw [Wo.Ok] at ho
    rw [Wo.dp] at h
    rw [Wo.d, Wo.puts, putsF, putsT_2, if_neg s_ra, putsQ, putsR, if_neg s_rp, if_pos ⟨.inl rfl, fun e => ho.1 (by rw [Wo.ds_map] at e; exact List.map_eq_nil_iff.mp e)⟩]
    exact Wo.counteds har ho.2 (by omega)
  | .either ws, f + 1, ho, h => by
    rw [Wo.Ok] at ho
    rw [Wo.dp] at h
    rw [Wo.d, Wo.puts, putsF, putsT_2, if_neg s_ea, putsQ, putsR, if_neg s_ep, if_pos ⟨.inr rfl, fun e => ho.1 (by rw [Wo.ds_map] at e; exact List.map_eq_nil_iff.mp e)⟩]
    exact Wo.counteds har ho.2 (by omega)
theorem Wo.counteds {ar : PyData → Bool} {P : Nat} (har : ∀ gs : List Int, gs.length = P → (∀ x ∈ gs, -99 ≤ x ∧ x ≤ 99) → ar (.tuple (gs.map PyData.int)) = true) : ∀ {ws : List Wo} {f : Nat}, Wo.Oks P ws → Wo.dps ws ≤ f → ((Wo.ds ws).map (putsF ar f)).sum = Wo.putss ws
  | [], f, _, _ => by rw [Wo.ds, Wo.putss]; rfl
  | w :: r, f, ho, h => by
    rw [Wo.Oks] at ho
    rw [Wo.dps] at h
    rw [Wo.ds, Wo.putss, List.map_cons, List.sum_cons, Wo.counted har ho.1 (by omega), Wo.counteds har ho.2 (by omega)]
    push_cast
    rfl
end
/-! ### words are nice -/
theorem ok_put : okTx (.str "put") = true := by decide +kernel
theorem ok_again : okTx (.str "again") = true := by decide +kernel
theorem ok_row : okTx (.str "row") = true := by decide +kernel
theorem ok_either : okTx (.str "either") = true := by decide +kernel
theorem nice_head {s : Str} (hs : okTx (.str s) = true) (hl : s.length ≤ 20) {n w : Nat} {d : PyData} (h : Nice n w d) : Nice (n + 1) (w + 209) (.tuple [.str s, d]) := by
  have h1 := nice_str s hs hl
  have k := nice_tupW (n := n) (v := max 202 w) (W := w + 206) (ds := [.str s, d]) (fun x hx => by
    simp only [List.mem_cons, List.not_mem_nil, or_false] at hx
    rcases hx with rfl | rfl
    · exact h1.mono (by omega) (by omega)
    · exact h.mono (Nat.le_refl _) (by omega)) (by simp) (by
    have e1 := h1.wd
    have e2 := h.wd
    simp only [wdAll]
    omega)
  exact k
mutual
theorem Wo.nice {P : Nat} (hP : P ≤ 6) : ∀ {w : Wo}, w.Ok P → w.puts ≤ 1000 → Nice (2 * w.dp) (420 * w.sz - 2) w.d
  | .put gs, h, _ => by
    rw [Wo.Ok] at h
    rw [Wo.d, Wo.dp, Wo.sz]
    have k := nice_tup (n := 0) (w := 9) (m := 6) (ds := gs.map PyData.int) (fun d hd => by
      obtain ⟨x, hx, rfl⟩ := List.mem_map.mp hd
      have := h.2 x hx
      exact nice_tiny (by omega) (by omega)) (by rw [List.length_map]; omega)
    exact (nice_head ok_put (by decide) k).mono (by omega) (by omega)
  | .again w, h, hp => by
    rw [Wo.Ok] at h
    rw [Wo.puts] at hp
    rw [Wo.d, Wo.dp, Wo.sz]
    have k := Wo.nice hP h hp
    have := Wo.sz_pos w
    exact (nice_head ok_again (by decide) k).mono (by omega) (by omega)
  | .row ws, h, hp => by
    rw [Wo.Ok] at h
    rw [Wo.puts] at hp
    rw [Wo.d, Wo.dp, Wo.sz]
    obtain ⟨k1, k2, k3⟩ := Wo.nices hP h.2 hp
    exact (nice_head ok_row (by decide) (nice_tupW k1 (by omega) k2)).mono (by omega) (by omega)
  | .either ws, h, hp => by
    rw [Wo.Ok] at h
    rw [Wo.puts] at hp
    rw [Wo.d, Wo.dp, Wo.sz]
    obtain ⟨k1, k2, k3⟩ := Wo.nices hP h.2 hp
    exact (nice_head ok_either (by decide) (nice_tupW k1 (by omega) k2)).mono (by omega) (by omega)
theorem Wo.sz_pos : ∀ w : Wo, 1 ≤ w.sz
  | .put _ => by rw [Wo.sz]; exact Nat.le_refl _
  | .again _ => by rw [Wo.sz]; omega
  | .row _ => by rw [Wo.sz]; omega
  | .either _ => by rw [Wo.sz]; omega
theorem Wo.nices {P : Nat} (hP : P ≤ 6) : ∀ {ws : List Wo}, Wo.Oks P ws → Wo.putss ws ≤ 1000 → (∀ d ∈ Wo.ds ws, Nice (2 * Wo.dps ws) (420 * Wo.szs ws) d) ∧ wdAll (Wo.ds ws) ≤ 420 * Wo.szs ws ∧ (Wo.ds ws).length ≤ 1000
  | [], _, _ => ⟨fun d hd => (nomatch hd), by rw [Wo.ds, wdAll]; omega, by rw [Wo.ds]; simp⟩
  | w :: r, h, hp => by
    rw [Wo.Oks] at h
    rw [Wo.putss] at hp
    have hpp := Wo.puts_pos h.1
    have k := Wo.nice hP h.1 (by omega)
    obtain ⟨k1, k2, k3⟩ := Wo.nices hP h.2 (by omega)
    have hs := Wo.sz_pos w
    have hw := k.wd
    have hl := Wo.len_le h.2
    rw [Wo.ds, Wo.dps, Wo.szs]
    refine ⟨fun d hd => ?_, by rw [wdAll]; omega, by rw [List.length_cons, Wo.ds_map, List.length_map]; omega⟩
    rcases List.mem_cons.mp hd with rfl | hd
    · exact k.mono (by omega) (by omega)
    · exact (k1 d hd).mono (by omega) (by omega)
theorem Wo.len_le {P : Nat} : ∀ {ws : List Wo}, Wo.Oks P ws → ws.length ≤ Wo.putss ws
  | [], _ => Nat.zero_le _
  | w :: r, h => by
    rw [Wo.Oks] at h
    rw [Wo.putss, List.length_cons]
    have := Wo.puts_pos h.1
    have := Wo.len_le h.2
    omega
end
end L3
end
section
/-! L5h: nice things whose texts are plain, too. -/
namespace L3
open PySem L2
structure NiceC (n w : Nat) (d : PyData) : Prop extends Nice n w d where
  cl : d.canLay0 = true
theorem NiceC.mono {n m w v : Nat} {d : PyData} (h : NiceC n w d) (k : n ≤ m) (l : w ≤ v) : NiceC m v d := ⟨h.toNice.mono k l, h.cl⟩
theorem NiceC.shaped {n w : Nat} {d : PyData} (h : NiceC n w d) (k : n ≤ 64) : SeqAt.shaped d = true := by
  unfold SeqAt.shaped
  rw [h.cl, Bool.true_and]
  exact decide_eq_true (Nat.le_trans h.dp k)
theorem canLayAll_ofC : ∀ {ds : List PyData}, (∀ d ∈ ds, d.canLay0 = true) → PyData.canLayAll0 ds = true
  | [], _ => by rw [PyData.canLayAll0]
  | d :: r, h => by rw [PyData.canLayAll0, h d List.mem_cons_self, canLayAll_ofC fun x hx => h x (List.mem_cons_of_mem _ hx)]; rfl
theorem niceC_none : NiceC 0 4 .none := ⟨nice_none, by rw [PyData.canLay0]⟩
theorem niceC_bool (b : Bool) : NiceC 0 5 (.bool b) := ⟨nice_bool b, by rw [PyData.canLay0]⟩
theorem niceC_int {i : Int} (h : i.natAbs.log2 ≤ 400) : NiceC 0 403 (.int i) := ⟨nice_int h, by rw [PyData.canLay0]⟩
theorem niceC_small {i : Int} (h1 : -1000000 ≤ i) (h2 : i ≤ 1000000) : NiceC 0 403 (.int i) := ⟨nice_small h1 h2, by rw [PyData.canLay0]⟩
theorem niceC_tiny {i : Int} (h1 : -127 ≤ i) (h2 : i ≤ 127) : NiceC 0 9 (.int i) := ⟨nice_tiny h1 h2, by rw [PyData.canLay0]⟩
theorem niceC_str (x : Str) (h : okTx (.str x) = true) (l : x.length ≤ 20) (hs : PyData.strOk x = true := by decide +kernel) : NiceC 0 202 (.str x) := ⟨nice_str x h l, by rw [PyData.canLay0]; exact hs⟩
theorem niceC_tup {n w m : Nat} {ds : List PyData} (h : ∀ d ∈ ds, NiceC n w d) (l : ds.length ≤ m) (hm : m ≤ 16777216 := by decide) : NiceC (n + 1) (m * (w + 2) + 3) (.tuple ds) := ⟨nice_tup (fun d hd => (h d hd).toNice) l hm, by rw [PyData.canLay0]; exact canLayAll_ofC fun d hd => (h d hd).cl⟩
theorem niceC_list {n w m : Nat} {ds : List PyData} (h : ∀ d ∈ ds, NiceC n w d) (l : ds.length ≤ m) (hm : m ≤ 16777216 := by decide) : NiceC (n + 1) (m * (w + 2) + 3) (.list ds) := ⟨nice_list (fun d hd => (h d hd).toNice) l hm, by rw [PyData.canLay0]; exact canLayAll_ofC fun d hd => (h d hd).cl⟩
theorem niceC_tupW {n v W : Nat} {ds : List PyData} (h : ∀ d ∈ ds, NiceC n v d) (l : ds.length ≤ 16777216) (hW : wdAll ds ≤ W) : NiceC (n + 1) (W + 3) (.tuple ds) := ⟨nice_tupW (fun d hd => (h d hd).toNice) l hW, by rw [PyData.canLay0]; exact canLayAll_ofC fun d hd => (h d hd).cl⟩
theorem niceC_putW {n v W u : Nat} {ds : List PyData} {w : PyData} (i : Int) (h : ∀ d ∈ ds, NiceC n v d) (hw : NiceC n u w) (l : ds.length ≤ 1000) (hW : wdAll ds ≤ W) : NiceC (n + 1) (2 * W + u + 5) (.tuple (putDs ds i w)) := ⟨nice_putW i (fun d hd => (h d hd).toNice) hw.toNice l hW, by
  rw [PyData.canLay0]
  exact canLayAll_ofC fun d hd => by
    rcases putDs_mem hd with hd | rfl
    · exact (h d hd).cl
    · exact hw.cl⟩
theorem niceC_head {s : Str} (hs : okTx (.str s) = true) (hl : s.length ≤ 20) {n w : Nat} {d : PyData} (h : NiceC n w d) (ho : PyData.strOk s = true := by decide +kernel) : NiceC (n + 1) (w + 209) (.tuple [.str s, d]) := ⟨nice_head hs hl h.toNice, by
  rw [PyData.canLay0]
  refine canLayAll_ofC fun x hx => ?_
  simp only [List.mem_cons, List.not_mem_nil, or_false] at hx
  rcases hx with rfl | rfl
  · rw [PyData.canLay0]; exact ho
  · exact h.cl⟩
/-- two, three, n things together -/
theorem niceC_two {n w : Nat} {a b : PyData} (ha : NiceC n w a) (hb : NiceC n w b) : NiceC (n + 1) (2 * (w + 2) + 3) (.tuple [a, b]) := niceC_tup (m := 2) (fun x hx => by
  simp only [List.mem_cons, List.not_mem_nil, or_false] at hx
  rcases hx with rfl | rfl
  · exact ha
  · exact hb) (Nat.le_refl _)
mutual
theorem Wo.cl {P : Nat} : ∀ {w : Wo}, w.Ok P → w.d.canLay0 = true
  | .put gs, _ => by
    rw [Wo.d, PyData.canLay0, PyData.canLayAll0, PyData.canLayAll0, PyData.canLay0, PyData.canLay0, canLay_ints, PyData.canLayAll0]
    decide +kernel
  | .again w, h => by
    rw [Wo.Ok] at h
    rw [Wo.d, PyData.canLay0, PyData.canLayAll0, PyData.canLayAll0, PyData.canLay0, Wo.cl h, PyData.canLayAll0]
    decide +kernel
  | .row ws, h => by
    rw [Wo.Ok] at h
    rw [Wo.d, PyData.canLay0, PyData.canLayAll0, PyData.canLayAll0, PyData.canLay0, PyData.canLay0, Wo.cls h.2, PyData.canLayAll0]
    decide +kernel
  | .either ws, h => by
    rw [Wo.Ok] at h
    rw [Wo.d, PyData.canLay0, PyData.canLayAll0, PyData.canLayAll0, PyData.canLay0, PyData.canLay0, Wo.cls h.2, PyData.canLayAll0]
    decide +kernel
theorem Wo.cls {P : Nat} : ∀ {ws : List Wo}, Wo.Oks P ws → PyData.canLayAll0 (Wo.ds ws) = true
  | [], _ => by rw [Wo.ds, PyData.canLayAll0]
  | w :: r, h => by
    rw [Wo.Oks] at h
    rw [Wo.ds, PyData.canLayAll0, Wo.cl h.1, Wo.cls h.2]
    rfl
end
theorem Wo.niceC {P : Nat} (hP : P ≤ 6) {w : Wo} (h : w.Ok P) (hp : w.puts ≤ 100) (hd : w.dp ≤ 12) : NiceC 24 504000 w.d := by
  have h1 := Wo.sz_le h
  have h2 : w.puts * w.dp ≤ 100 * 12 := Nat.mul_le_mul hp hd
  exact ⟨(Wo.nice hP h (by omega)).mono (by omega) (by omega), Wo.cl h⟩
end L3
end
section
/-! L5i: lists of the own store: changed, walked; calls from where a store is. -/
namespace L3
open PySem L2
variable {G : Type} {K : PySem.W.Frag} {mg : Str → Option Value} {X : Cx} {Z : Zx K G} {W : WXH} {U : UX (G × OS)}
/-! ### o.append(e), o.clear() -/
def dAppO (o a : DT (G × OS)) : DT (G × OS) := fun ρ g Q => o ρ g fun r ρ0 g0 => vvK r fun p => lsK (OS.look g0.2 p) fun _ => a ρ0 g0 fun r2 ρ1 g1 => cellK (st r2) ρ1 fun c ρ2 => lsK (OS.look g1.2 p) fun cs => ltK cs.length 16777216 (Q (.dt .none) ρ2 (g1.1, OS.put g1.2 p (.ls (cs ++ [c]))))
theorem sim_appO {to ta : TE} {o a : DT (G × OS)} (ho : Sim (ZSw mg Z W U) to o) (ha : Sim (ZSw mg Z W U) ta a) : Sim (ZSw mg Z W U) (tBM K "list" rAppend to (tCons ta tNil)) (dAppO o a) := fun f F ad ρ g σ H Q R q P hP => by
  refine ho f F ad ρ g σ H _ R q _ fun y H0 q => ?_
  obtain ⟨F0, ad0, ρ0, g0, r0, e0, eg0, R0, v0, q⟩ := q
  obtain ⟨p, rfl, q⟩ := vvK_e q
  obtain ⟨cs0, l0, q⟩ := lsK_e q
  obtain rfl : y = .ref p := v0
  obtain ⟨vs0, hH0, _⟩ := R0.osr.get l0
  refine ⟨.inl ⟨rfl, vs0, .inl (.inl hH0)⟩, ?_⟩
  refine ha f F0 ad0 ρ0 g0 σ H0 _ R0 q _ fun x H1 q => ?_
  obtain ⟨F1, ad1, ρ1, g1, r1, e1, eg1, R1, v1, q⟩ := q
  obtain ⟨F1', e1', R1', v1'⟩ := R1.hst v1
  obtain ⟨F2, c, ρ2, e2, R2, cv, q⟩ := R1'.cell v1' q
  obtain ⟨cs, l, q⟩ := lsK_e q
  obtain ⟨hl, q⟩ := ltK_e q
  obtain ⟨vs, hH, hv⟩ := R2.osr.get l
  refine ⟨p, vs, x, rfl, rfl, hH, by rw [sizeLine_eq, Paired.length hv]; exact hl, ?_⟩
  exact hP _ _ ⟨F2, ad1, ρ2, (g1.1, OS.put g1.2 p (.ls (cs ++ [c]))), .dt .none, (e0.trans e1).trans (e1'.trans e2), eg1.trans eg0, R2.putS (y := .ls (cs ++ [c])) l ⟨_, upd_same, paired_app hv (.cons cv .nil)⟩, Da.non, q⟩
def dClrO (o : DT (G × OS)) : DT (G × OS) := fun ρ g Q => o ρ g fun r ρ0 g0 => vvK r fun p => lsK (OS.look g0.2 p) fun _ => Q (.dt .none) ρ0 (g0.1, OS.put g0.2 p (.ls []))
theorem sim_clrO {to : TE} {o : DT (G × OS)} (ho : Sim (ZSw mg Z W U) to o) : Sim (ZSw mg Z W U) (tBM0 K "list" rClear to) (dClrO o) := fun f F ad ρ g σ H Q R q P hP => by
  refine ho f F ad ρ g σ H _ R q _ fun y H0 q => ?_
  obtain ⟨F0, ad0, ρ0, g0, r0, e0, eg0, R0, v0, q⟩ := q
  obtain ⟨p, rfl, q⟩ := vvK_e q
  obtain ⟨cs0, l0, q⟩ := lsK_e q
  obtain rfl : y = .ref p := v0
  obtain ⟨vs0, hH0, _⟩ := R0.osr.get l0
  refine ⟨.inl ⟨rfl, vs0, .inl (.inl hH0)⟩, p, vs0, rfl, rfl, hH0, ?_⟩
  exact hP _ _ ⟨F0, ad0, ρ0, (g0.1, OS.put g0.2 p (.ls [])), .dt .none, e0, eg0, R0.putS (y := .ls []) l0 ⟨_, upd_same, .nil⟩, Da.non, q⟩
section
variable {apos cpos : Pos} {o e : Expr} {to te : TE} {a b : DT (G × OS)}
theorem e_appO (ho : DE X (ZSw mg Z W U) o to a) (he : DE X (ZSw mg Z W U) e te b) (hK : K = X.K := by rfl)
    (hbase : attributeBase o "append" X.env (eval o X.env) = eval o X.env := by rfl)
    (hfew : ((backTo cpos (starEach [e] X.env)).all (fun x => !x.1) && (backToKw cpos (keywordEach [] X.env)).all (fun x => x.1.isSome)
      && decide (([e] : List Expr).length + ([] : List Keyword).length + (if ([] : List Keyword).isEmpty then 0 else 1) < 30)) = true := by rfl)
    (hline : (apos.endLine == cpos.line) = true := by rfl) (hst : starEach [e] X.env = (false, eval e X.env) :: starEach [] X.env := by rfl) (hplain : (backTo cpos (starEach [] X.env)).any (·.1) = false := by rfl) :
    DE X (ZSw mg Z W U) (.Call (.Attribute o "append" apos) [e] [] cpos) (tBM K "list" rAppend to (tCons te tNil)) (dAppO a b) :=
  ⟨by rw [hK]; exact pe_bm PySem.F.plainAttrs_list PySem.F.slot_list_append PySem.F.type_list_append mt_append ho.pe (pa_cons he.pe pa_nil hst) hbase hfew hline hst hplain, sim_appO ho.sim he.sim⟩
theorem e_clrO (ho : DE X (ZSw mg Z W U) o to a) (hK : K = X.K := by rfl)
    (hbase : attributeBase o "clear" X.env (eval o X.env) = eval o X.env := by rfl) (hline : (apos.endLine == cpos.line) = true := by rfl) :
    DE X (ZSw mg Z W U) (.Call (.Attribute o "clear" apos) [] [] cpos) (tBM0 K "list" rClear to) (dClrO a) :=
  ⟨by rw [hK]; exact pe_bm0 PySem.F.plainAttrs_list PySem.F.slot_list_clear PySem.F.type_list_clear mt_clear ho.pe hbase hline, sim_clrO ho.sim⟩
end
/-! ### for y in o -/
def cSl : Cell → Sl
  | .d x => .dt x
  | .r a => .vv (.ref a)
structure ForOP (p : Addr) (cs : List Cell) (j : Nat) (b : DS (G × OS)) (D : D3 (G × OS)) (ρ1 : En) (g1 : G × OS) : Prop where
  ex : ∃ I : Nat → En → G × OS → Prop, I 0 ρ1 g1 ∧ (∀ k ρ' g', I k ρ' g' → OS.look g'.2 p = some (.ls cs)) ∧
    (∀ k c ρ' g', cs[k]? = some c → I k ρ' g' → ltK j ρ'.length (b { D with nx := I (k + 1), ct := I (k + 1), bk := D.nx } (ρ'.set j (cSl c)) g')) ∧ (∀ ρ' g', I cs.length ρ' g' → D.nx ρ' g')
def dForO (j : Nat) (a : DT (G × OS)) (b : DS (G × OS)) : DS (G × OS) := fun D ρ g => a ρ g fun r ρ1 g1 => vvK r fun p => lsK (OS.look g1.2 p) fun cs => ForOP p cs j b D ρ1 g1
theorem Rel.setCell {f : Fx} {F : Hp} {ad : Nat → Addr} {ρ : En} {g : G} {σ : St} {H : Hp} (R : Rel Z f F ad ρ g σ H) {j : Nat} {v : V} {c : Cell} (hj : j < σ.length) (h : CellV K F v c) : ∃ ad', Rel Z f F ad' (ρ.set j (cSl c)) g (σ.set j (some v)) H := by
  cases c with
  | d x => exact ⟨_, R.setD hj h⟩
  | r a =>
    cases (show v = .ref a from h)
    exact ⟨_, R.setSl (a := 0) (by show _ = _; rw [List.getElem?_set_self hj]) fun ho => by cases ho⟩
theorem s_forO (j : Nat) {x : Str} {iter : Expr} {body : List Stmt} {ti : TE} {tb : TS} {a : DT (G × OS)} {db : DS (G × OS)} {pos px : Pos} (hN : X.N.Nodup) (hi : DE X (ZSw mg Z W U) iter ti a) (hb : DSs X (ZSw mg Z W U) body tb db) (hx : Loc X.env.scope x := by first | exact Or.inl rfl | exact Or.inr rfl) (hj : X.N[j]? = some x := by rfl) (hfn : X.fn x = true ∨ X.env.scope.names.lookup x = some .local := by first | exact .inl rfl | exact .inr rfl | assumption)
    (hK : K = X.K := by rfl) (hc : X.calm = true := by rfl) (hp : PassesOwn (model X.prog X.w) X.A X.env X.xe := by exact PassesOwn.never) (hs : ∀ x, foldedSetIterable iter X.env x = pure x := by intro _; rfl) :
    DSt X (ZSw mg Z W U) (.For (.Name x px) iter body [] pos) (tFor (iSeq K ti) (gName j) tb) (dForO j a db) := ⟨by rw [hK]; exact ps_for hp hc (pi_seq hi.pe) (pg_name hN hj hx hfn) hb.ps hs, fun f F ad ρ g σ H D R h D2 le => by
  refine hi.sim f F ad ρ g σ H _ R h _ fun y H1 q => ?_
  obtain ⟨F1, ad1, ρ1, g1, r1, e1, eg1, R1, v1, q⟩ := q
  obtain ⟨p, rfl, q⟩ := vvK_e q
  obtain ⟨cs, l, q⟩ := lsK_e q
  obtain rfl : y = .ref p := v1
  obtain ⟨vs0, hH0, hv0⟩ := R1.osr.get l
  obtain ⟨⟨I, h0, hkeep, hstep, hd⟩⟩ := q
  refine .inl ⟨p, rfl, ⟨vs0, .inl (.inl hH0)⟩, ?_⟩
  have at_ : ∀ {F2 : Hp} {ad2 : Nat → Addr} {ρ2 : En} {g2 : G × OS} {σ2 : St} {H2 : Hp} {i : Nat}, Rel (ZSw mg Z W U) ⟨f.B, F1, f.fp0⟩ F2 ad2 ρ2 g2 σ2 H2 → I i ρ2 g2 → ∃ vs, H2 p = some (.lst vs) ∧ CellsV K F2 vs cs := fun R2 hI => R2.osr.get (hkeep _ _ _ hI)
  refine ⟨fun i m σ' H' => m = cs.length - i ∧ i ≤ cs.length ∧ ∃ F2 ad2 ρ2 g2, (ZSw mg Z W U).ra g2 = (ZSw mg Z W U).ra g ∧ Rel (ZSw mg Z W U) ⟨f.B, F1, f.fp0⟩ F2 ad2 ρ2 g2 σ' H' ∧ I i ρ2 g2, ⟨cs.length, rfl, Nat.zero_le _, F1, ad1, ρ1, g1, eg1, R1.fwd, h0⟩, fun i m σ2 H2 hW => ?_⟩
  obtain ⟨rfl, hle, F2, ad2, ρ2, g2, eg2, R2, hI⟩ := hW
  obtain ⟨vs, hH2, hv2⟩ := at_ R2 hI
  have hsq : SqL K H2 p vs := .inl (.inl hH2)
  have hvl := Paired.length hv2
  by_cases hlt : i < cs.length
  · have hi2 : i < vs.length := by omega
    refine .inr ⟨⟨vs, vs[i], hsq, by simp [hi2]⟩, fun σ' H' => ∃ F2 ad2 ρ2 g2, (ZSw mg Z W U).ra g2 = (ZSw mg Z W U).ra g ∧ Rel (ZSw mg Z W U) ⟨f.B, F1, f.fp0⟩ F2 ad2 ρ2 g2 σ' H' ∧ I (i + 1) ρ2 g2, fun σ' H' z => ⟨cs.length - (i + 1), by omega, rfl, hlt, z⟩, fun x H' y => ?_⟩
    obtain ⟨rfl, hx⟩ := y
    obtain ⟨x', hx', cv⟩ := paired_get hv2 (List.getElem?_eq_getElem hlt)
    have ex : x = x' := by have := hx vs hsq; rw [hx'] at this; cases this; rfl
    subst ex
    have q2 := hstep i _ ρ2 g2 (List.getElem?_eq_getElem hlt) hI
    obtain ⟨hjl, q2⟩ := ltK_e q2
    obtain ⟨ad4, R4⟩ := R2.setCell (by rw [← R2.len]; exact hjl) cv
    show tb _ (σ2.set j (some x)) H'
    exact hb.sim _ F2 ad4 _ g2 _ H' _ R4 q2 _ ⟨fun F5 ad5 ρ5 g5 σ5 H5 er5 R5 q5 => ⟨F5, ad5, ρ5, g5, er5.trans eg2, R5, q5⟩, fun F5 g5 H5 v r er5 R5 hv q5 => le.rt F5 g5 H5 v r (er5.trans eg2) (R1.fin.back R5) hv.back q5,
      fun F5 ad5 ρ5 g5 σ5 H5 er5 R5 q5 => le.nx F5 ad5 ρ5 g5 σ5 H5 (er5.trans eg2) (Rel.back R1 ((er5.trans eg2).trans eg1.symm) R5) q5, fun F5 ad5 ρ5 g5 σ5 H5 er5 R5 q5 => ⟨F5, ad5, ρ5, g5, er5.trans eg2, R5, q5⟩⟩
  · have e : i = cs.length := by omega
    subst e
    exact .inl ⟨⟨vs, hsq, by omega⟩, le.nx F2 ad2 ρ2 g2 σ2 H2 eg2 (Rel.back R1 (eg2.trans eg1.symm) R2) (hd ρ2 g2 hI)⟩⟩
/-! ### calls of defs that know no store -/
section
variable {f : Fx} {F F' : Hp} {ad : Nat → Addr} {ρ ρ' : En} {σ : St} {H H' : Hp}
/-- a callee over the other resource alone -/
theorem Frm.overZ {g : G × OS} (R : Rel (ZSw mg Z W U) f F ad ρ g σ H) {g' : G} (h : Frm Z F H g.1 F' H' g') : Frm (ZSw mg Z W U) F H g F' H' (g', g.2) := by
  obtain ⟨r1, r2, r3⟩ : Z.R g.1 F H ∧ OSR K mg g.2 F H ∧ ∀ a ∈ Z.fp g.1, a ∉ g.2.ads := R.fin.res
  have there : ∀ a ∈ g.2.ads, H a ≠ none := fun a ha => (ZS mg Z).there (g := g) R.fin.res a (List.mem_append_right _ ha)
  have notF : ∀ a ∈ g.2.ads, F a = none := fun a ha => R.fin.fpF a (List.mem_append_right _ ha)
  have same : ∀ a ∈ g.2.ads, H' a = H a := fun a ha => by
    cases e : H a with
    | none => exact absurd e (there a ha)
    | some o => exact h.keep a o e fun hm => r3 a hm ha
  refine ⟨h.ex, fun b o e hn => h.keep b o e fun hm => hn (List.mem_append_left _ hm), h.keepN, h.new, h.sub, ⟨h.res, r2.keep h.ex same, fun a ha hm => ?_⟩, fun a ha => ?_, fun a ha => ?_⟩
  · rcases h.fpB a ha with q | q
    · exact r3 a q hm
    · exact there a hm q
  · rcases List.mem_append.mp ha with ha | ha
    · exact h.fpF a ha
    · cases e : F' a with
      | none => rfl
      | some o =>
        rcases h.new a o e with q | q
        · rw [notF a ha] at q; cases q
        · exact absurd q (there a ha)
  · rcases List.mem_append.mp ha with ha | ha
    · rcases h.fpB a ha with q | q
      · exact .inl (List.mem_append_left _ q)
      · exact .inr q
    · exact .inl (List.mem_append_right _ ha)
theorem VRet.overZ {g : G × OS} (R : Rel (ZSw mg Z W U) f F ad ρ g σ H) {g' : G} {v : V} {r : Rs} (h : VRet Z F' H H' g' v r) : VRet (ZSw mg Z W U) F' H H' (g', g.2) v r := by
  have there : ∀ a ∈ g.2.ads, H a ≠ none := fun a ha => (ZS mg Z).there (g := g) R.fin.res a (List.mem_append_right _ ha)
  have nin : ∀ a, H a = none → a ∉ Z.fp g' → a ∉ Z.fp g' ++ g.2.ads := fun a h0 h1 hm => by
    rcases List.mem_append.mp hm with hm | hm
    · exact h1 hm
    · exact there a hm h0
  cases r with
  | nl ds => obtain ⟨a, vs, rfl, q1, q2, q3, q4, q5⟩ := h; exact ⟨a, vs, rfl, q1, q2, nin a q1 q3, q4, q5⟩
  | nd ds => obtain ⟨a, vs, rfl, q1, q2, q3, q4, q5⟩ := h; exact ⟨a, vs, rfl, q1, q2, nin a q1 q3, q4, q5⟩
  | _ => exact h
end
def dCallZ (U : UX (G × OS)) (S : Spec G) (das : List Rs) (a : DA (G × OS)) : DT (G × OS) := fun ρ g Q => a ρ g fun rs ρ1 g1 => frK rs ρ1 fun qs ρ2 => S (qs ++ das) g1.1 (fun r g' => Q r ρ2 (g', g1.2)) (fun c fs g' => U c fs ρ2 (g', g1.2))
theorem sim_callZ {U' : UX (G × OS)} {E : St → XK} (hU : LeW (ZSw mg Z W U) U' E) {S : Spec G} {dvs : List V} {das : List Rs} {ta : TA} {a : DA (G × OS)} (hd : ∀ F g, ArgR Z F g dvs das) (ha : SimA (ZSw mg Z W U) ta a) : Sim (ZSw mg Z W U) (tCallE (spZ Z S) dvs E ta) (dCallZ U' S das a) := fun f F ad ρ g σ H Q R q P hP => by
  refine ha f F ad ρ g σ H _ R q _ fun vs H1 q => ?_
  obtain ⟨F1, ad1, ρ1, g1, rs, e1, eg1, R1, v1, q⟩ := q
  obtain ⟨qs, ρ2, ef, q⟩ := frK_of q
  obtain ⟨F2, e2, R2, da⟩ := R1.hfzRA v1 ef
  have da2 : ArgR Z F2 g1.1 vs qs := Paired.mapP da fun v r h => by cases r <;> exact h
  refine ⟨F2, g1.1, qs ++ das, _, _, R2.fin.sub, R2.fin.res.1, fun a ha => R2.fin.fpF a (List.mem_append_left _ ha), argR_append da2 (hd F2 g1.1), q, fun v r F' g' H' fr er hv hT => ?_, fun c fs dx F' g' H' fr er hx hu => ?_⟩
  · have fr2 := Frm.overZ R2 fr
    exact hP v H' ⟨F', ad1, ρ2, (g', g1.2), r, (e1.trans e2).trans fr.ex, er.trans eg1, R2.called fr2 er, R2.ret fr2 (VRet.overZ R2 hv), hT⟩
  · exact hU _ _ _ _ _ _ _ _ _ _ (R2.called (Frm.overZ R2 fr) er) hx hu
theorem OS.look_app {o' o : OS} {a : Addr} {x : OO} (h : OS.look o' a = some x) : OS.look (o' ++ o) a = some x := by
  induction o' with
  | nil => cases h
  | cons q r ih =>
    obtain ⟨b, y⟩ := q
    rw [OS.look_cons] at h
    show OS.look ((b, y) :: (r ++ o)) a = _
    rw [OS.look_cons]
    by_cases e : b = a
    · rw [if_pos e] at h ⊢; exact h
    · rw [if_neg e] at h ⊢; exact ih h
theorem OS.ads_app (o' o : OS) : OS.ads (o' ++ o) = OS.ads o' ++ OS.ads o := List.map_append
/-- a callee that makes own things, and knows no other resource: what it makes comes to the store -/
def dCallN (U : UX (G × OS)) (S : Spec (Unit × OS)) (a : DA (G × OS)) : DT (G × OS) := fun ρ g Q => a ρ g fun rs ρ1 g1 => frK rs ρ1 fun qs ρ2 => tt (noRs qs) (S qs ((), []) (fun r g' => noR r (Q r ρ2 (g1.1, g'.2 ++ g1.2))) (fun c fs g' => U c fs ρ2 (g1.1, g'.2 ++ g1.2)))
section
variable {f : Fx} {F F' : Hp} {ad : Nat → Addr} {ρ ρ' : En} {σ : St} {H H' : Hp}
theorem Frm.overN {g : G × OS} (R : Rel (ZSw mg Z W U) f F ad ρ g σ H) {g' : Unit × OS} (h : Frm (ZS mg (Z0 K)) F H ((), []) F' H' g') : Frm (ZSw mg Z W U) F H g F' H' (g.1, g'.2 ++ g.2) := by
  obtain ⟨r1, r2, r3⟩ : Z.R g.1 F H ∧ OSR K mg g.2 F H ∧ ∀ a ∈ Z.fp g.1, a ∉ g.2.ads := R.fin.res
  have there : ∀ a ∈ Z.fp g.1 ++ g.2.ads, H a ≠ none := fun a ha => (ZS mg Z).there (g := g) R.fin.res a ha
  have notF : ∀ a ∈ Z.fp g.1 ++ g.2.ads, F a = none := fun a ha => R.fin.fpF a ha
  have same : ∀ a ∈ Z.fp g.1 ++ g.2.ads, H' a = H a := fun a ha => by
    cases e : H a with
    | none => exact absurd e (there a ha)
    | some o => exact h.keep a o e fun hm => (by cases (show a ∈ ([] : List Addr) from hm))
  have new : ∀ a ∈ g'.2.ads, H a = none := fun a ha => by
    rcases h.fpB a (show a ∈ [] ++ g'.2.ads from ha) with q | q
    · cases (show a ∈ ([] : List Addr) from q)
    · exact q
  obtain ⟨_, n2, _⟩ : True ∧ OSR K mg g'.2 F' H' ∧ _ := h.res
  refine ⟨h.ex, fun b o e hn => h.keep b o e fun hm => (by cases (show b ∈ ([] : List Addr) from hm)), h.keepN, h.new, h.sub, ⟨Z.loc r1 h.ex fun a ha => same a (List.mem_append_left _ ha), ⟨fun q hq => ?_, ?_⟩, fun a ha hm => ?_⟩, fun a ha => ?_, fun a ha => ?_⟩
  · rcases List.mem_append.mp hq with hq | hq
    · exact n2.at_ q hq
    · exact (r2.at_ q hq).keep h.ex (same _ (List.mem_append_right _ (List.mem_map.mpr ⟨q, hq, rfl⟩)))
  · rw [OS.ads_app, List.nodup_append]
    exact ⟨n2.nd, r2.nd, fun a ha b hb e => there b (List.mem_append_right _ hb) (e ▸ new a ha)⟩
  · rw [OS.ads_app] at hm
    rcases List.mem_append.mp hm with hm | hm
    · exact there a (List.mem_append_left _ ha) (new a hm)
    · exact r3 a ha hm
  · have ha2 : a ∈ Z.fp g.1 ++ OS.ads (g'.2 ++ g.2) := ha
    rw [OS.ads_app, List.mem_append, List.mem_append] at ha2
    have old : a ∈ Z.fp g.1 ++ g.2.ads → F' a = none := fun hm => by
      cases e : F' a with
      | none => rfl
      | some o =>
        rcases h.new a o e with q | q
        · rw [notF a hm] at q; cases q
        · exact absurd q (there a hm)
    rcases ha2 with ha | ha | ha
    · exact old (List.mem_append_left _ ha)
    · exact h.fpF a (show a ∈ [] ++ g'.2.ads from ha)
    · exact old (List.mem_append_right _ ha)
  · have ha2 : a ∈ Z.fp g.1 ++ OS.ads (g'.2 ++ g.2) := ha
    rw [OS.ads_app, List.mem_append, List.mem_append] at ha2
    rcases ha2 with ha | ha | ha
    · exact .inl (List.mem_append_left _ ha)
    · exact .inr (new a ha)
    · exact .inl (List.mem_append_right _ ha)
theorem VRet.overN {g : G × OS} (R : Rel (ZSw mg Z W U) f F ad ρ g σ H) {g' : Unit × OS} (h0 : Frm (ZS mg (Z0 K)) F H ((), []) F' H' g') {v : V} {r : Rs} (hr : ∀ n, r ≠ .rs n) (h : VRet (ZS mg (Z0 K)) F' H H' g' v r) : VRet (ZSw mg Z W U) F' H H' (g.1, g'.2 ++ g.2) v r := by
  have there : ∀ a ∈ Z.fp g.1 ++ g.2.ads, H a ≠ none := fun a ha => (ZS mg Z).there (g := g) R.fin.res a ha
  have nin : ∀ a, H a = none → a ∉ [] ++ g'.2.ads → a ∉ Z.fp g.1 ++ OS.ads (g'.2 ++ g.2) := fun a h0 h1 hm => by
    rw [OS.ads_app, List.mem_append, List.mem_append] at hm
    rcases hm with hm | hm | hm
    · exact there a (List.mem_append_left _ hm) h0
    · exact h1 hm
    · exact there a (List.mem_append_right _ hm) h0
  cases r with
  | nl ds => obtain ⟨a, vs, rfl, q1, q2, q3, q4, q5⟩ := h; exact ⟨a, vs, rfl, q1, q2, nin a q1 q3, q4, q5⟩
  | nd ds => obtain ⟨a, vs, rfl, q1, q2, q3, q4, q5⟩ := h; exact ⟨a, vs, rfl, q1, q2, nin a q1 q3, q4, q5⟩
  | rs n => exact absurd rfl (hr n)
  | _ => exact h
end
theorem sim_callN {U' : UX (G × OS)} {E : St → XK} (hU : LeW (ZSw mg Z W U) U' E) {S : Spec (Unit × OS)} {ta : TA} {a : DA (G × OS)} (ha : SimA (ZSw mg Z W U) ta a) : Sim (ZSw mg Z W U) (tCallE (spZ (ZS mg (Z0 K)) S) [] E ta) (dCallN U' S a) := fun f F ad ρ g σ H Q R q P hP => by
  refine ha f F ad ρ g σ H _ R q _ fun vs H1 q => ?_
  obtain ⟨F1, ad1, ρ1, g1, rs, e1, eg1, R1, v1, q⟩ := q
  obtain ⟨qs, ρ2, ef, q⟩ := frK_of q
  obtain ⟨hq, q⟩ := tt_e q
  replace hq := noRs_of hq
  obtain ⟨F2, e2, R2, da⟩ := R1.hfzRA v1 ef
  have da2 : ArgR (ZS mg (Z0 K)) F2 ((), []) vs qs := Paired.mapP (argR_pure da hq) fun v r h => by cases r <;> exact h
  refine ⟨F2, ((), []), qs, _, _, R2.fin.sub, ⟨trivial, ⟨fun p hp => (nomatch hp), List.nodup_nil⟩, fun a ha => (nomatch ha)⟩, (fun a ha => by cases (show a ∈ ([] : List Addr) from ha)), (by rw [List.append_nil]; exact da2), q, fun v r F' g' H' fr er hv hT => ?_, fun c fs dx F' g' H' fr er hx hu => ?_⟩
  · have fr2 := Frm.overN R2 fr
    have hr : (∀ n, r ≠ .rs n) ∧ Q r ρ2 (g1.1, g'.2 ++ g1.2) := by
      cases r <;> first | exact ⟨(fun n z => by cases z), hT⟩ | exact hT.elim
    exact hP v H' ⟨F', ad1, ρ2, (g1.1, g'.2 ++ g1.2), r, (e1.trans e2).trans fr.ex, eg1, R2.called fr2 rfl, R2.ret fr2 (VRet.overN R2 fr hr.1 hv), hr.2⟩
  · exact hU _ _ _ _ _ _ _ _ _ _ (R2.called (Frm.overN R2 fr) rfl) hx hu
/-! ### own things handed in to a def that tells something flat -/
mutual
inductive ODat (o : OS) : Cell → PyData → Prop
  | d (x : PyData) : ODat o (.d x) x
  | r {a : Addr} {cs : List Cell} {ds : List PyData} : OS.look o a = some (.ls cs) → ODats o cs ds → ODat o (.r a) (.list ds)
inductive ODats (o : OS) : List Cell → List PyData → Prop
  | nil : ODats o [] []
  | cons {c : Cell} {cs : List Cell} {d : PyData} {ds : List PyData} : ODat o c d → ODats o cs ds → ODats o (c :: cs) (d :: ds)
end
def frzS (o : OS) (F H : Hp) : Hp := fun b => if b ∈ OS.ads o then H b else F b
section
variable {o : OS} {F H : Hp}
theorem frzS_ex (h : ∀ a ∈ OS.ads o, F a = none) : Ex F (frzS o F H) := fun b u e => by
  unfold frzS
  rw [if_neg fun hm => by rw [h b hm] at e; cases e]
  exact e
mutual
theorem ODat.da (hF : ∀ a ∈ OS.ads o, F a = none) (hR : OSR K mg o F H) : ∀ {c : Cell} {d : PyData}, ODat o c d → ∀ {v : V}, CellV K F v c → Da K (frzS o F H) v d
  | _, _, .d x, v, h => da_mono (frzS_ex hF) h
  | _, _, .r l hs, v, h => by
    cases (show v = .ref _ from h)
    obtain ⟨vs, hH, hv⟩ := hR.get l
    exact .lst (by unfold frzS; rw [if_pos (OS.look_ads l)]; exact hH) (hs.da hF hR hv)
theorem ODats.da (hF : ∀ a ∈ OS.ads o, F a = none) (hR : OSR K mg o F H) : ∀ {cs : List Cell} {ds : List PyData}, ODats o cs ds → ∀ {vs : List V}, CellsV K F vs cs → DaAll K (frzS o F H) vs ds
  | _, _, .nil, _, .nil => .nil
  | _, _, .cons h r, _, .cons q s => .cons (h.da hF hR q) (r.da hF hR s)
end
end
def argO (o : OS) : List Rs → En → (List Rs → En → Prop) → Prop
  | [], ρ, k => k [] ρ
  | .vv (.ref p) :: rs, ρ, k => ∃ d, ODat o (.r p) d ∧ argO o rs ρ fun ds ρ' => k (.dt d :: ds) ρ'
  | r :: rs, ρ, k => fr1 r ρ fun d ρ1 => argO o rs ρ1 fun ds ρ2 => k (d :: ds) ρ2
def dCallBO (U : UX (G × OS)) (S : Spec Unit) (a : DA (G × OS)) : DT (G × OS) := fun ρ g Q => a ρ g fun rs ρ1 g1 => argO g1.2 rs ρ1 fun qs _ => tt (noRs qs) (S qs () (fun r _ => flR r (Q r ρ1 g1)) (fun c fs _ => fs = [] ∧ U c [] ρ1 g1))
theorem Rel.hargO {f : Fx} {ad : Nat → Addr} {g : G × OS} {σ : St} {H : Hp} : ∀ {vs : List V} {rs : List Rs} {F : Hp} {ρ : En} {k : List Rs → En → Prop}, Rel (ZSw mg Z W U) f F ad ρ g σ H → VRs (ZSw mg Z W U) f F ad ρ g σ H vs rs → argO g.2 rs ρ k →
    ∃ F' qs ρ', Ex F F' ∧ Rel (ZSw mg Z W U) f F' ad ρ' g σ H ∧ k qs ρ' ∧ Paired (fun v q => ArgV (ZSw mg Z W U) F' g v q ∨ ∃ p d, v = .ref p ∧ q = .dt d ∧ ODat g.2 (.r p) d) vs qs
  | _, [], F, ρ, k, R, .nil, h => ⟨F, [], ρ, Evl.Ex.refl F, R, h, .nil⟩
  | _, r :: rs, F, ρ, k, R, .cons hv t, h => by
    obtain ⟨r0, er, hv⟩ := hv
    have plain : fr1 r ρ (fun d ρ1 => argO g.2 rs ρ1 fun ds ρ2 => k (d :: ds) ρ2) → ∃ F' qs ρ', Ex F F' ∧ Rel (ZSw mg Z W U) f F' ad ρ' g σ H ∧ k qs ρ' ∧ Paired (fun v q => ArgV (ZSw mg Z W U) F' g v q ∨ ∃ p d, v = .ref p ∧ q = .dt d ∧ ODat g.2 (.r p) d) _ qs := fun hh => by
      obtain ⟨d, ρ1, e1, h2⟩ := fr1_of hh
      clear hh
      rw [er] at e1
      obtain ⟨F1, x1, R1, d1⟩ := R.hfzR hv e1
      obtain ⟨F2, qs, ρ2, x2, R2, hk, hp⟩ := Rel.hargO R1 (Paired.mapP t fun v r ⟨r0, er, z⟩ => ⟨r0, er, z.held x1 rfl⟩) h2
      exact ⟨F2, d :: qs, ρ2, x1.trans x2, R2, hk, .cons (.inl (d1.mono x2)) hp⟩
    cases r with
    | vv u =>
      cases u with
      | ref p =>
        obtain ⟨d, hd, h⟩ : ∃ d, ODat g.2 (.r p) d ∧ argO g.2 rs ρ fun ds ρ' => k (.dt d :: ds) ρ' := h
        obtain ⟨F2, qs, ρ2, x2, R2, hk, hp⟩ := Rel.hargO R t h
        have hv2 := hv
        rw [← er] at hv2
        exact ⟨F2, .dt d :: qs, ρ2, x2, R2, hk, .cons (.inr ⟨p, d, hv2, rfl, hd⟩) hp⟩
      | _ => exact plain h
    | _ => exact plain h
theorem sim_callBO {U' : UX (G × OS)} {E : St → XK} (hU : LeW (ZSw mg Z W U) U' E) {S : Spec Unit} {ta : TA} {a : DA (G × OS)} (ha : SimA (ZSw mg Z W U) ta a) : Sim (ZSw mg Z W U) (tCallE (spZ (Z0 K) S) [] E ta) (dCallBO U' S a) := fun f F ad ρ g σ H Q R q P hP => by
  refine ha f F ad ρ g σ H _ R q _ fun vs H1 q => ?_
  obtain ⟨F1, ad1, ρ1, g1, rs, e1, eg1, R1, v1, q⟩ := q
  obtain ⟨F2, qs, ρ2, e2, R2, q, hp⟩ := Rel.hargO R1 v1 q
  obtain ⟨hq, q⟩ := tt_e q
  replace hq := noRs_of hq
  have hF : ∀ a ∈ OS.ads g1.2, F2 a = none := fun a ha => R2.fin.fpF a (List.mem_append_right _ ha)
  have e3 : Ex F2 (frzS g1.2 F2 H1) := frzS_ex hF
  have s3 : Ex (frzS g1.2 F2 H1) H1 := fun b u e => by
    unfold frzS at e
    split at e
    · exact e
    · exact R2.fin.sub b u e
  have da : ArgR (ZSw mg Z W U) (frzS g1.2 F2 H1) g1 vs qs := Paired.mapP hp fun v q h => by
    rcases h with h | ⟨p, d, rfl, rfl, hd⟩
    · exact h.mono e3
    · exact hd.da hF R2.osr rfl
  refine ⟨frzS g1.2 F2 H1, (), qs, _, _, s3, trivial, (fun a ha => nomatch ha), (by rw [List.append_nil]; exact argR_pure da hq), q, fun v r F' g' H' fr er hv hT => ?_, fun c fs dx F' g' H' fr er hx hu => ?_⟩
  rotate_left
  · obtain ⟨rfl, hu⟩ := hu
    exact hU _ _ _ _ _ _ _ _ _ _ (R1.grown fun b o e => fr.keep b o e (fun z => nomatch z)) (xr_nil hx) hu
  cases r with
  | dt d =>
    obtain ⟨hf, hT⟩ := tt_e hT
    have hv : Da K F' v d := hv
    have dv : Da K F1 v d := by
      cases hv with
      | non => exact .non
      | bl b => exact .bl b
      | int i => exact .int i
      | str x => exact .str x
      | lst _ _ => cases hf
      | tup _ _ => cases hf
      | dct _ _ => cases hf
    exact hP v H' ⟨F1, ad1, ρ1, g1, .dt d, e1, eg1, R1.grown fun b o e => fr.keep b o e (fun z => nomatch z), dv, hT⟩
  | _ => exact hT.elim
section
variable {k : Nat} {ps : List Str} {x : Str} {p pos : Pos} {e : Expr} {es : List Expr} {ta : TA} {a : DA (G × OS)}
theorem e_fnZ {U' : UX (G × OS)} {E : St → XK} (L : Let X (ZSw mg Z W U) U' E) {S : Spec G} (F : Ok X.prog X.w X.K X.mg X.base k x ps (spZ Z S)) (hr : RoomG k X.A) (ha : DAs X (ZSw mg Z W U) (e :: es) ta a) (hg : Gl X x := by rfl) (hdb : (x == ("__debug__" : Str)) = false := by decide)
    (he : starEach (e :: es) X.env = (false, eval e X.env) :: starEach es X.env := by rfl) (hpl : (backTo pos (starEach es X.env)).any (·.1) = false := by rfl) : DE X (ZSw mg Z W U) (.Call (.Name x p) (e :: es) [] pos) (tCallE (spZ Z S) [] E ta) (dCallZ U' S [] a) := by
  obtain ⟨fa, fd, hm, hk, hb, _, Fk⟩ := F
  exact ⟨pe_callG Fk hr hg hm hk hb .nil L.pa ha.pa hdb he hpl, sim_callZ L.lw (fun _ _ => .nil) ha.sim⟩
theorem e_fnN {U' : UX (G × OS)} {E : St → XK} (L : Let X (ZSw mg Z W U) U' E) {S : Spec (Unit × OS)} (F : Ok X.prog X.w X.K X.mg X.base k x ps (spZ (ZS mg (Z0 K)) S)) (hr : RoomG k X.A) (ha : DAs X (ZSw mg Z W U) (e :: es) ta a) (hg : Gl X x := by rfl) (hdb : (x == ("__debug__" : Str)) = false := by decide)
    (he : starEach (e :: es) X.env = (false, eval e X.env) :: starEach es X.env := by rfl) (hpl : (backTo pos (starEach es X.env)).any (·.1) = false := by rfl) : DE X (ZSw mg Z W U) (.Call (.Name x p) (e :: es) [] pos) (tCallE (spZ (ZS mg (Z0 K)) S) [] E ta) (dCallN U' S a) := by
  obtain ⟨fa, fd, hm, hk, hb, _, Fk⟩ := F
  exact ⟨pe_callG Fk hr hg hm hk hb .nil L.pa ha.pa hdb he hpl, sim_callN L.lw ha.sim⟩
theorem e_fnBO {U' : UX (G × OS)} {E : St → XK} (L : Let X (ZSw mg Z W U) U' E) {S : Spec Unit} (F : Ok X.prog X.w X.K X.mg X.base k x ps (spZ (Z0 K) S)) (hr : RoomG k X.A) (ha : DAs X (ZSw mg Z W U) (e :: es) ta a) (hg : Gl X x := by rfl) (hdb : (x == ("__debug__" : Str)) = false := by decide)
    (he : starEach (e :: es) X.env = (false, eval e X.env) :: starEach es X.env := by rfl) (hpl : (backTo pos (starEach es X.env)).any (·.1) = false := by rfl) : DE X (ZSw mg Z W U) (.Call (.Name x p) (e :: es) [] pos) (tCallE (spZ (Z0 K) S) [] E ta) (dCallBO U' S a) := by
  obtain ⟨fa, fd, hm, hk, hb, _, Fk⟩ := F
  exact ⟨pe_callG Fk hr hg hm hk hb .nil L.pa ha.pa hdb he hpl, sim_callBO L.lw ha.sim⟩
end
/-! ### a law with a jar and a store -/
theorem law_simJS {ts : TS} {t : DS (JG × OS)} {N : List Str} {j : Nat} {a : Addr} {ns : List Int} {H : Hp} {Q : VK} (hd : SimS (ZSw mg (ZJ K) (fun _ _ _ _ => False) Un) ts t) (hS : SqL K H a (ns.map V.int)) (hq : ∀ H', Q (.bl true) H') (hj : j < N.length)
    (hN : 0 < N.length) (hb : ∀ g, t (lawD (JG × OS)) (lawE N j) (g, [])) : tSeq (tAsg (tCallE (spJar K) [] (fun _ => E0) (tCons (tVar 0) tNil)) (gName j)) ts { nx := fun _ H' => Q .non H', rt := Q } (L2.start N [.ref a]) H := by
  have h0 : (L2.start N [.ref a])[0]? = some (some (.ref a)) := by
    unfold L2.start
    rfl
  have hl : (L2.start N [.ref a]).length = N.length := by
    unfold L2.start
    rw [List.length_append, List.length_map, List.length_replicate]
    show 1 + (N.length - 1) = N.length
    omega
  refine ⟨.ref a, h0, a, ns, rfl, hS, fun H' g e n1 n2 hJ => ?_⟩
  refine hd ⟨H', fun _ => none, (ZS mg (ZJ K)).fp (g, [])⟩ (fun _ => none) (fun _ => 0) (lawE N j) (g, []) _ H' (lawD (JG × OS)) (law_rel (Z := ZSw mg (ZJ K) (fun _ _ _ _ => False) Un) ⟨hJ, ⟨fun p hp => (nomatch hp), List.nodup_nil⟩, fun a _ hm => (nomatch hm)⟩ (by rw [List.length_set, hl]) (by rw [List.getElem?_set_self (by rw [hl]; exact hj)]; rfl) fun _ _ _ _ z => z) (hb g) _ ⟨fun _ _ _ _ _ _ _ _ z => z.elim, fun F' g' H2 v r _ _ hv hT => ?_, fun _ _ _ _ _ _ _ _ z => z.elim, fun _ _ _ _ _ _ _ _ z => z.elim⟩
  cases (show r = .dt (.bool true) from hT)
  cases (show Da K F' v (.bool true) from hv)
  exact hq H2
end L3
end
section
/-! L5j: the kinds of an error that is made on the spot: f(X("m")). -/
namespace L3
open PySem PySem.Spec PyProof.Rows L2
def tKindsN (K : PySem.W.Frag) (mg : Str → Option Value) (C : Addr) : TE := fun _ H Q => ∀ (a : Addr) (oe : Obj), Zc (.ref C) none oe → (∃ vs, oe.data = .fields vs) → spKinds K mg (a, oe) [.ref a] H Q E0
theorem pe_kindsN {X : Cx} {C : Addr} {bmB : List Value} {B newId initId : String} {k j : Nat} {fn q x m : Str} {pp p p2 p3 pos : Pos} (F : OkK X.prog X.w X.K X.mg X.base k fn [q] (spKinds X.K X.mg)) (hr : L2H.RoomH k X.A)
    (Fe : ExcBaseFacts B newId initId bmB) (qe : PySem.W.excIn X.K C bmB newId = true) (gC : X.mg x = some (.ref C)) (kC : PySem.W.keepIn X.K (.ref C) = true) (hg : Gl X fn := by rfl) (hdb : (fn == ("__debug__" : Str)) = false := by decide) (hgx : Gl X x := by rfl) (hdx : (x == ("__debug__" : Str)) = false := by decide)
    (hs : starEach [(.Call (.Name x p) [.Constant (.str m) j p2] [] p3 : Expr)] X.env = (false, eval (.Call (.Name x p) [.Constant (.str m) j p2] [] p3) X.env) :: starEach [] X.env := by rfl) :
    PE X (.Call (.Name fn pp) [.Call (.Name x p) [.Constant (.str m) j p2] [] p3] [] pos) (tKindsN X.K X.mg C) := by
  obtain ⟨fa, fd, hm0, hk, hb, Fk⟩ := F
  refine ⟨fun pins s σ H Q I h => wpAny_Call_Name_kw (ld_glob I hg hm0 ?_ hdb)⟩
  refine PySem.W.callWith_K (h₀ := X.base) I.ok.mod.kin hk ?_ hs (by rfl)
  rw [hs]
  show wpAny _ _ (spliced ((false, eval (.Call (.Name x p) [.Constant (.str m) j p2] [] p3) X.env) :: backTo pos (starEach [] X.env))) _ _ s
  refine Calls.spliced_cons ?_
  refine wpAny_Call_Name_kw (ld_glob I hgx gC ?_ hdx)
  have ha : PA X [.Constant (.str m) j p2] (tCons (tC (.str m)) tNil) := pa_cons pe_str pa_nil
  refine PySem.W.callWith_K (h₀ := X.base) I.ok.mod.kin kC (thn (ha.run p3 pins s σ H (fun vs H1 => vs = [V.str m] ∧ H = H1) I ⟨rfl, rfl⟩) fun us s1 hh => ?_) (by rfl) (by rfl)
  obtain ⟨vs, H1, I1, r1, ev, eH⟩ := hh
  subst ev
  rw [← eH] at I1
  refine ⟨I1.kIn, ?_⟩
  cases r1 with
  | cons ru rn =>
    rename_i u us'
    cases rn
    show wpAny _ _ (call (.ref C) [u]) _ _ _
    obtain ⟨bm, N, nm, qn, bs, hdct, sn, sub, ab, col, dd, k0, k1, k2, k3, k5, mN, hC, hN, hni, T⟩ := exc_obj I1.kIn qe
    refine wpAny_call_exc_subT Fe T hC hN hni (fun h' a hm => ?_) (by show 1 ≤ sizeLine; rw [sizeLine_eq]; omega)
    have hn : H a = none := I1.hok.gone hm.new
    obtain ⟨t, he, _, _⟩ := hm.there
    have J := I1.kept (t' := s1.toks) hm.keeps
    refine Calls.spliced_nil ⟨J.kIn, ?_⟩
    obtain ⟨oe, ho, hz, hf⟩ : ∃ oe, h'.get? a = some oe ∧ Zc (.ref C) none oe ∧ ∃ vs, oe.data = .fields vs := ⟨_, he, ⟨rfl, rfl⟩, _, rfl⟩
    have hq := h a oe hz hf
    have hl : [(Value.ref a)].length = [q].length := rfl
    have b := hb _ [.ref a] J.kIn (by rw [List.append_nil]; exact hl)
    rw [List.append_nil] at b
    have nofs : a ∉ frs X.stack := fun hm2 => by
      obtain ⟨_, o, ho2, _⟩ := I1.stack.mem hm2
      rw [hm.new] at ho2
      cases ho2
    have nocell : ∀ v, oe.data ≠ .cell v := fun v hv => by
      obtain ⟨vs, hf⟩ := hf
      rw [hf] at hv
      cases hv
    have hpin : L2H.PinOk X.stack H { s1 with heap := h' } (a, oe) := ⟨ho, hn, nofs, nocell⟩
    refine wpAny_call (codeAny_mono (Fk (a, oe) X.A X.stack _ H ⟨[.ref a], []⟩ [.ref a] [.ref a] Q hr hpin J.env0 b (.cons rfl .nil) hl hq) fun res s' hh => ?_)
    cases res with
    | error er => exact passN (σ := σ) pins H _ er s' J hh
    | ok fl =>
      cases fl with
      | ret u => exact J.after hh
      | next => exact hh.elim
      | brk => exact hh.elim
      | cont => exact hh.elim
variable {G : Type} {K : PySem.W.Frag} {X : Cx} {Z : Zx K G}
def dKindsN (K : PySem.W.Frag) (mg : Str → Option Value) (c : Value) : DT G := fun ρ g Q => KOk K mg c fun bs => Q (.nl (bs.map PyData.bool)) ρ g
theorem e_kindsN {k j : Nat} {fn q x m : Str} {pp p p2 p3 pos : Pos} (e : ExX X.K X.mg x) (F : OkK X.prog X.w X.K X.mg X.base k fn [q] (spKinds X.K X.mg)) (hr : RoomG k X.A) (hK : K = X.K := by rfl)
    (hg : Gl X fn := by rfl) (hdb : (fn == ("__debug__" : Str)) = false := by decide) (hgx : Gl X x := by rfl) (hdx : (x == ("__debug__" : Str)) = false := by decide)
    (hs : starEach [(.Call (.Name x p) [.Constant (.str m) j p2] [] p3 : Expr)] X.env = (false, eval (.Call (.Name x p) [.Constant (.str m) j p2] [] p3) X.env) :: starEach [] X.env := by rfl) :
    DE X Z (.Call (.Name fn pp) [.Call (.Name x p) [.Constant (.str m) j p2] [] p3] [] pos) (fun σ H Q => ∃ C, X.mg x = some (.ref C) ∧ tKindsN X.K X.mg C σ H Q) (dKindsN X.K X.mg (cv X.mg x)) := by
  subst hK
  obtain ⟨C, h1, h2, h3, h4, h5, h6⟩ := e.ex
  have hrH : L2H.RoomH k X.A := ⟨hr.rm.dp, hr.rm.un⟩
  refine ⟨⟨fun pins s σ H Q I hh => ?_⟩, fun f F0 ad ρ g σ H Q R q P hP => ?_⟩
  · obtain ⟨C', e1, hh⟩ := hh
    rw [h1] at e1
    cases e1
    exact (pe_kindsN F hrH PySem.F.excBase_ValueError h2 h1 h3 hg hdb hgx hdx hs).run pins s σ H Q I hh
  · refine ⟨C, h1, fun a oe hz hv => ⟨rfl, ?_⟩⟩
    obtain ⟨D, ff, ec, xc, kk, q⟩ := q
    rw [cv_of h1] at ec
    cases ec
    refine ⟨C, ff, xc, hz, hv, kk, fun H' l k2 n2 hl => ?_⟩
    exact hP _ _ ⟨F0, ad, ρ, g, .nl ((kindL ff).map PyData.bool), Evl.Ex.refl F0, rfl, R.grown k2, ⟨l, _, rfl, (R.laid (o := .lst []) n2).2, hl, bools_da _⟩, q⟩
end L3
end
section
/-! L5k: for .. in reversed(range(n)). -/
namespace L3
open PySem L2
variable {G : Type} {K : PySem.W.Frag} {X : Cx} {Z : Zx K G}
def revD (n : Nat) : List PyData := (List.range n).map fun i => .int ((n : Int) - 1 - (i : Nat))
theorem revD_len (n : Nat) : (revD n).length = n := by unfold revD; rw [List.length_map, List.length_range]
theorem revD_get {n i : Nat} (h : i < n) : (revD n)[i]? = some (.int ((n : Int) - 1 - (i : Nat))) := by
  unfold revD
  rw [List.getElem?_map, List.getElem?_range h]; rfl
theorem revD_inv {n i : Nat} {d : PyData} (h : (revD n)[i]? = some d) : d = .int ((n : Int) - 1 - (i : Nat)) ∧ i < n := by
  have hi : i < n := by have := (List.getElem?_eq_some_iff.mp h).1; rw [revD_len] at this; exact this
  rw [revD_get hi] at h
  cases h
  exact ⟨rfl, hi⟩
theorem wk_rev {f : Fx} {F : Hp} {n : Nat} {lo : Int} (hlo : lo = (n : Int) - 1) : Wk Z f F (Itc lo (-1) n) (revD n) := fun f1 F1 ad ρ g σ H e R => by
  subst hlo
  rw [revD_len]
  refine ⟨Nat.le_refl _, fun i hi => ⟨hi, fun x H' y => ?_⟩⟩
  obtain ⟨rfl, rfl⟩ := y
  refine ⟨F1, _, revD_get hi, Evl.Ex.refl F1, R, ?_⟩
  rw [show (n : Int) - 1 + (i : Nat) * (-1) = (n : Int) - 1 - (i : Nat) from by omega]
  exact .int _
def dRev1 (t : DT G) : DI G := fun ρ g Q => t ρ g fun r ρ1 g1 => iiU (fun n => rgK n (Q (revD n.toNat) ρ1 g1)) (rd r ρ1)
theorem i_rev1 {tg a : Expr} {ta : TE} {t : DT G} {p p2 pos pos2 : Pos} (hm : X.mg "reversed" = none) (hm2 : X.mg "range" = none) (ha : DE X Z a ta t) (hg : Gl X "reversed" := by rfl) (hg2 : Gl X "range" := by rfl)
    (hs : starEach [a] X.env = (false, eval a X.env) :: starEach [] X.env := by rfl) (hs2 : starEach [(.Call (.Name "range" p2) [a] [] pos2 : Expr)] X.env = (false, eval (.Call (.Name "range" p2) [a] [] pos2) X.env) :: starEach [] X.env := by rfl) :
    DIt X Z tg (.Call (.Name "reversed" p) [.Call (.Name "range" p2) [a] [] pos2] [] pos) (iRevR (tRg1 ta)) (dRev1 t) :=
  ⟨pi_revR hg hm (prg_1 hg2 hm2 ha.pe hs) hs2, fun f F ad ρ g σ H Q R q P hP => by
    refine ha.sim f F ad ρ g σ H _ R q _ fun v H1 q => ?_
    obtain ⟨F1, ad1, ρ1, g1, r, e1, eg1, R1, v1, q⟩ := q
    obtain ⟨n, e, q⟩ := iiU_of q
    obtain ⟨⟨b1, b2⟩, q⟩ := rgK_e q
    have ev := R1.rInt v1 e
    refine ⟨n, ev, by decide, by decide, b1, b2, ?_⟩
    rw [Int.sub_zero]
    exact hP _ _ F1 ad1 ρ1 g1 _ e1 eg1 R1 (wk_rev (by omega)) q⟩
end L3
end
section
/-! L5m: small readings that many laws want. -/
namespace L3
open PySem PySem.Spec PyProof.Rows L2
theorem enumD_inv {ds : List PyData} {k : Nat} {d : PyData} (h : (enumD ds)[k]? = some d) : ∃ x, ds[k]? = some x ∧ d = .tuple [.int (k : Nat), x] := by
  have hk : k < ds.length := by
    have := (List.getElem?_eq_some_iff.mp h).1
    rw [enumD_len] at this
    exact this
  have e := enumD_get (List.getElem?_eq_getElem hk)
  rw [e] at h
  exact ⟨_, List.getElem?_eq_getElem hk, (Option.some.inj h).symm⟩
section
variable {G : Type} {K : PySem.W.Frag} {X : Cx} {Z : Zx K G}
/-- a statement behind which the walk halts: what holds there is said once -/
structure CutP (t u : DS G) (D : D3 G) (ρ : En) (g : G) : Prop where
  h : dSeq t u D ρ g
def dCut (t u : DS G) : DS G := fun D ρ g => CutP t u D ρ g
theorem s_cut {s : Stmt} {ss : List Stmt} {t u : TS} {a b : DS G} (h : DSt X Z s t a) (k : DSs X Z ss u b) : DSs X Z (s :: ss) (tSeq t u) (dCut a b) :=
  ⟨pss_cons h.ps k.ps, fun f F ad ρ g σ H D R q D2 le => sim_seq h.sim k.sim f F ad ρ g σ H D R q.h D2 le⟩
theorem dCut_of {t u : DS G} {D : D3 G} {ρ : En} {g : G} (I : En → G → Prop) (h1 : ∀ N : En → G → Prop, (∀ ρ1 g1, I ρ1 g1 → N ρ1 g1) → t { D with nx := N } ρ g) (h2 : ∀ ρ1 g1, I ρ1 g1 → u D ρ1 g1) : CutP t u D ρ g :=
  ⟨h1 _ h2⟩
end
end L3
end
section
/-! L5n: the least of a list of data that have an order. -/
namespace L3
open PySem L2
variable {G : Type} {K : PySem.W.Frag} {X : Cx} {Z : Zx K G}
theorem dpAll_at {K : PySem.W.Frag} {H : Hp} : ∀ {vs : List V} {ds : List PyData} {i : Nat} {v : V}, DpAll K H vs ds → vs[i]? = some v → ∃ d, ds[i]? = some d ∧ Dp K H v d
  | _, _, 0, _, .cons h _, e => by cases e; exact ⟨_, rfl, h⟩
  | _, _, i + 1, _, .cons _ r, e => by
    rw [List.getElem?_cons_succ] at e ⊢
    exact dpAll_at r e
theorem daAll_nat {K : PySem.W.Frag} {H : Hp} : ∀ {vs : List V} {ds : List PyData} {i : Nat} {v : V}, DaAll K H vs ds → vs[i]? = some v → ∃ d, ds[i]? = some d ∧ Da K H v d
  | _, _, 0, _, .cons h _, e => by cases e; exact ⟨_, rfl, h⟩
  | _, _, i + 1, _, .cons _ r, e => by
    rw [List.getElem?_cons_succ] at e ⊢
    exact daAll_nat r e
def rMinQ (K : PySem.W.Frag) : List V → Hp → VK → Prop := fun vs H Q => ∃ (α : Type) (_ : DecidableEq α) (_ : PySem.W.DatumOrd α) (a : Addr) (ws : List V) (x : α) (xs : List α), vs = [V.ref a] ∧ SqL K H a ws ∧ DpAll K H ws (PySem.W.Datum.toD x :: xs.map (PySem.W.Datum.toD (α := α))) ∧ PySem.W.Datum.depth α ≤ 60 ∧
  ∀ (i : Nat) (w : V), ws[i]? = some w → (PySem.W.Datum.toD x :: xs.map (PySem.W.Datum.toD (α := α)))[i]? = some (PySem.W.Datum.toD (PySem.W.minOf x xs)) → Q w H
theorem cr_minQ (hc : X.calm = true) (hu : X.A.units + 64 < cLine) : CallR X (.builtin "min") (rMinQ X.K) := by
  intro pins s σ H vs us Q I r h
  obtain ⟨α, i1, i2, a, ws, x, xs, rfl, hs, hd, hdep, q⟩ := h
  obtain ⟨its, rv, hl, _⟩ := I.list hs
  rw [Vals.ref1 r]
  obtain ⟨as, hr⟩ := Dp.readsAll I _ _ _ hd rv
  refine PySem.W.min_list_datum (I.ok.hd hc) hl.isList (x := x) (xs := xs) ⟨as, by simpa using hr⟩ (by omega) fun i v h' tk hi hv hk => ?_
  obtain ⟨bs, hv⟩ := hv
  have hi2 : its[i]? = some v := by simpa using hi
  have hil : i < ws.length := by
    have := (List.getElem?_eq_some_iff.mp hi2).1
    rw [rv.length]
    exact this
  obtain ⟨v2, hv2, hwv⟩ := rv.get (List.getElem?_eq_getElem hil)
  rw [hi2] at hv2
  cases hv2
  generalize hw0 : ws[i] = w at hwv
  have hw : ws[i]? = some w := by rw [List.getElem?_eq_getElem hil, hw0]
  obtain ⟨d, hd1, hd2⟩ := dpAll_at hd hw
  obtain ⟨cs, hrd⟩ := Dp.reads I _ _ _ hd2 hwv
  have e := (PyProof.Rows.reads_det (fun b o e _ => hk b o e) hrd hv).1
  exact ⟨w, H, I.kept hk, hwv, q i w hw (by rw [hd1, e])⟩
mutual
theorem noDict_of_plain : ∀ d : PyData, d.plain = true → d.hasDict = false
  | .none, _ => rfl
  | .bool _, _ => rfl
  | .int _, _ => rfl
  | .str _, _ => rfl
  | .list xs, h => by
    rw [PyData.plain] at h
    rw [PyData.hasDict]
    exact noDict_of_plainAll xs h
  | .tuple xs, h => by
    rw [PyData.plain] at h
    rw [PyData.hasDict]
    exact noDict_of_plainAll xs h
  | .dict _, h => by rw [PyData.plain] at h; cases h
theorem noDict_of_plainAll : ∀ ds : List PyData, PyData.plainAll ds = true → PyData.hasDictAll ds = false
  | [], _ => rfl
  | x :: xs, h => by
    rw [PyData.plainAll, Bool.and_eq_true] at h
    rw [PyData.hasDictAll, noDict_of_plain x h.1, noDict_of_plainAll xs h.2]
    rfl
end
theorem noDict_datum {α : Type} [DecidableEq α] [PySem.W.Datum α] : ∀ xs : List α, PyData.hasDictAll (xs.map (PySem.W.Datum.toD (α := α))) = false
  | [] => rfl
  | x :: xs => by
    rw [List.map_cons, PyData.hasDictAll, noDict_datum xs, Bool.or_false]
    exact noDict_of_plain _ (PySem.W.Datum.plain x)
/-- min(xs): what its items are as Lean data is named by hand -/
def oMinQ : RA G := fun rs ρ g Q => one (fun r => lsD (fun ds => ∃ (α : Type) (_ : DecidableEq α) (_ : PySem.W.DatumOrd α) (x : α) (xs : List α), ds = PySem.W.Datum.toD x :: xs.map (PySem.W.Datum.toD (α := α)) ∧ PySem.W.Datum.depth α ≤ 60 ∧ Q (.dt (PySem.W.Datum.toD (PySem.W.minOf x xs))) ρ g) (rd r ρ)) rs
theorem k_minQ (hu : X.A.units + 64 < cLine) (hc : X.calm = true := by rfl) (hK : K = X.K := by rfl) : CallR X (.builtin "min") (rMinQ K) ∧ SimC Z (rMinQ K) (oMinQ (G := G)) := ⟨by
  rw [hK]
  exact cr_minQ hc hu, fun f F ad ρ g σ H vs rs Q R h q P hP => by
  obtain ⟨r, rfl, q2⟩ := one_of q
  obtain ⟨v, rfl, h0⟩ := vrs1 h
  obtain ⟨ds, e, q3⟩ := lsD_of q2
  obtain ⟨α, i1, i2, x, xs, rfl, hd, q4⟩ := q3
  obtain ⟨a, vs, rfl, ha, da⟩ := R.items h0 e
  refine ⟨α, i1, i2, a, vs, x, xs, rfl, .inl (.inl ha), daAll_reads (noDict_datum (x :: xs)) (daAll_mono R.fin.sub da), hd, fun i w hw hd => hP _ _ ?_⟩
  obtain ⟨d, h1, h2⟩ := daAll_nat da hw
  rw [hd] at h1
  cases h1
  exact R.dat h2 q4⟩
end L3
end
section
/-! L5p: trees of walks from one stand (what from_stand computes), layer by layer. -/
namespace L3
open PySem PySem.Spec PyProof.Rows L2
abbrev Stn := Int × List Int
def stnD (p : Stn) : PyData := standD p.1 p.2
def againN (st : List Stn) (r : Int) (xs : List Int) : Nat → Option Nat
  | 0 => none
  | n + 1 => if decide ((st.getD n (0, [])).1 = r) && geL xs (st.getD n (0, [])).2 then some n else againN st r xs n
def againF (st : List Stn) : Option Nat := match st.getLast? with
  | none => none
  | some p => againN st p.1 p.2 (st.length - 1)
def optN : Option Nat → PyData
  | none => .none
  | some n => .int n
abbrev Wst := List Int × List Stn
def wstD (p : Wst) : PyData := .tuple [.list (p.1.map PyData.int), .list (p.2.map stnD)]
structure Fs where
  later : List Wst
  many : Int
  again : Option (List Int × List Int)
def agD : Option (List Int × List Int) → PyData
  | none => .none
  | some p => .tuple [.str "again", .list (p.1.map PyData.int), .list (p.2.map PyData.int)]
def lgD : Option (List Int) → PyData
  | none => .none
  | some w => .list (w.map PyData.int)
def lstS (st : List Stn) : Stn := st.getLast?.getD (0, [])
def nxtS (B : Book) (st : List Stn) (k : Int) : List Stn := st ++ [((wAt B k).b, addL (lstS st).2 (wAt B k).gs)]
def stpKid (B : Book) (p : Wst) (s : Fs) (k : Int) : Fs := match againF (nxtS B p.2 k) with
  | none => ⟨s.later ++ [(p.1 ++ [k], nxtS B p.2 k)], s.many + 1, s.again⟩
  | some i => ⟨s.later, s.many + 1, s.again.or (some ((p.1 ++ [k]).take i, (p.1 ++ [k]).drop i))⟩
def stpOf (B : Book) (s : Fs) (p : Wst) : Fs := (canL B (lstS p.2).1 (lstS p.2).2).foldl (stpKid B p) s
def layF (B : Book) (lay : List Wst) (many : Int) (ag : Option (List Int × List Int)) : Fs := lay.foldl (stpOf B) ⟨[], many, ag⟩
def resD (ag : Option (List Int × List Int)) (lg : Option (List Int)) : PyData := match ag with
  | some p => agD (some p)
  | none => .tuple [.str "ends", lgD lg]
/-- none: out of steps; some none: too many -/
def outF (B : Book) (lim : Int) : Nat → List Wst → Int → Option (List Int × List Int) → Option (List Int) → Option (Option PyData)
  | 0, _, _, _, _ => none
  | n + 1, lay, many, ag, lg => match lay with
    | [] => some (some (resD ag lg))
    | p :: r => if (layF B (p :: r) many ag).many > lim then some none
      else outF B lim n (layF B (p :: r) many ag).later (layF B (p :: r) many ag).many (layF B (p :: r) many ag).again (match (layF B (p :: r) many ag).later with | [] => lg | q :: _ => some q.1)
theorem stpKid_many (B : Book) (p : Wst) (s : Fs) (k : Int) : (stpKid B p s k).many = s.many + 1 := by
  unfold stpKid
  split <;> rfl
theorem stpsKid_many (B : Book) (p : Wst) : ∀ (ks : List Int) (s : Fs), (ks.foldl (stpKid B p) s).many = s.many + ks.length
  | [], s => by simp
  | k :: r, s => by
    rw [List.foldl_cons, stpsKid_many B p r, stpKid_many, List.length_cons]
    omega
theorem stpOf_many (B : Book) (s : Fs) (p : Wst) : s.many ≤ (stpOf B s p).many := by
  unfold stpOf
  rw [stpsKid_many]
  omega
theorem lay_many (B : Book) : ∀ (lay : List Wst) (s : Fs), s.many ≤ (lay.foldl (stpOf B) s).many
  | [], s => Int.le_refl _
  | p :: r, s => by
    rw [List.foldl_cons]
    exact Int.le_trans (stpOf_many B s p) (lay_many B r _)
theorem lay_from {B : Book} {L : List Wst} {i : Nat} {p : Wst} {s s0 : Fs} (hp : L[i]? = some p) (hs : s = (L.take i).foldl (stpOf B) s0) : (stpOf B s p).many ≤ (L.foldl (stpOf B) s0).many := by
  have e : L.take (i + 1) ++ L.drop (i + 1) = L := List.take_append_drop _ _
  rw [← e, List.foldl_append]
  refine Int.le_trans ?_ (lay_many B _ _)
  rw [List.take_add_one, hp, List.foldl_append, ← hs]
  exact Int.le_refl _
structure WOk (P : Nat) (M : Int) (p : Wst) : Prop where
  ne : p.2 ≠ []
  le : (p.2.length : Int) ≤ M
  one : p.1.length + 1 = p.2.length
  q : ∀ q ∈ p.2, q.2.length = P
theorem lay_wst (p : Wst) : Lay 4 (wstD p) := lay_tup fun d hd => by
  simp at hd
  rcases hd with rfl | rfl
  · exact (lay_list (lay_ints p.1) : Lay 1 _).up (by decide)
  · exact lay_list fun d hd => by
      obtain ⟨x, _, rfl⟩ := List.mem_map.mp hd
      exact lay_stand _ _
theorem lay_lay (lay : List Wst) : Lay 5 (.list (lay.map wstD)) := lay_list fun d hd => by
  obtain ⟨x, _, rfl⟩ := List.mem_map.mp hd
  exact lay_wst x
theorem outF_many {B : Book} {lim : Int} {m : Nat} {lay : List Wst} {mn : Int} {ag : Option (List Int × List Int)} {lg : Option (List Int)} {o : Option PyData} (ho : outF B lim m lay mn ag lg = some o) (hne : lay ≠ []) (h : lim < (layF B lay mn ag).many) : o = none := by
  cases m with
  | zero => cases ho
  | succ n =>
    cases lay with
    | nil => exact absurd rfl hne
    | cons p r =>
      rw [outF, if_pos h] at ho
      cases ho
      rfl
/-! ### the tree by walks alone -/
def endR (B : Book) (f : Int) (w : List Int) : Int := match w.getLast? with
  | none => f
  | some k => (wAt B k).b
def atS (B : Book) (f : Int) (ys w : List Int) : Stn := (endR B f w, addL ys (gainL B w))
def stW (B : Book) (f : Int) (ys w : List Int) : List Stn := (List.range (w.length + 1)).map fun j => atS B f ys (w.take j)
def nd (B : Book) (f : Int) (ys w : List Int) : Wst := (w, stW B f ys w)
def nnL (zs : List Int) : Bool := zs.all fun z => decide (0 ≤ z)
def agN (B : Book) (f : Int) (w : List Int) : Nat → Option Nat
  | 0 => none
  | n + 1 => if decide (endR B f (w.take n) = endR B f w) && nnL (gainL B (w.drop n)) then some n else agN B f w n
def agW (B : Book) (f : Int) (w : List Int) : Option Nat := agN B f w w.length
structure TB (B : Book) (ys : List Int) : Prop where
  hB : ∀ w ∈ B.ways, w.gs.length = B.purses.toNat
  hp : 0 ≤ B.purses
  l : ys.length = B.purses.toNat
  nn : ∀ y ∈ ys, 0 ≤ y
theorem TB.gs {B : Book} {ys w : List Int} (T : TB B ys) (h : ∀ k ∈ w, inW B k = true) : GsOk B w := fun k hk => by
  have := T.hB _ (wAt_mem (h k hk))
  have := T.hp
  omega
theorem endR_snoc (B : Book) (f : Int) (w : List Int) (k : Int) : endR B f (w ++ [k]) = (wAt B k).b := by
  unfold endR
  rw [List.getLast?_concat]
theorem stW_snoc (B : Book) (f : Int) (ys w : List Int) (k : Int) : stW B f ys (w ++ [k]) = stW B f ys w ++ [atS B f ys (w ++ [k])] := by
  unfold stW
  rw [List.length_append, List.length_singleton, List.range_succ (n := w.length + 1), List.map_append, List.map_singleton]
  congr 1
  · refine List.map_congr_left fun j hj => ?_
    rw [List.mem_range] at hj
    rw [List.take_append_of_le_length (by omega)]
  · rw [List.take_of_length_le (by simp)]
theorem stW_last (B : Book) (f : Int) (ys w : List Int) : (stW B f ys w).getLast? = some (atS B f ys w) := by
  unfold stW
  rw [List.range_succ, List.map_append, List.map_singleton, List.getLast?_concat, List.take_of_length_le (Nat.le_refl _)]
theorem stW_len (B : Book) (f : Int) (ys w : List Int) : (stW B f ys w).length = w.length + 1 := by simp [stW]
theorem lst_stW (B : Book) (f : Int) (ys w : List Int) : lstS (stW B f ys w) = atS B f ys w := by
  unfold lstS
  rw [stW_last]
  rfl
theorem nxt_stW {B : Book} {f : Int} {ys w : List Int} {k : Int} (T : TB B ys) (h : ∀ k ∈ w, inW B k = true) (hk : inW B k = true) : nxtS B (stW B f ys w) k = stW B f ys (w ++ [k]) := by
  unfold nxtS
  rw [lst_stW, stW_snoc]
  have hg : GsOk B (w ++ [k]) := T.gs fun x hx => by
    rcases List.mem_append.mp hx with hx | hx
    · exact h x hx
    · rw [List.mem_singleton.mp hx]; exact hk
  unfold atS
  rw [endR_snoc, gain_push B w k ys T.l hg]
theorem again_stW {B : Book} {f : Int} {ys w : List Int} (T : TB B ys) (h : ∀ k ∈ w, inW B k = true) : againF (stW B f ys w) = agW B f w := by
  have key : ∀ n, n ≤ w.length → againN (stW B f ys w) (atS B f ys w).1 (atS B f ys w).2 n = agN B f w n := by
    intro n
    induction n with
    | zero => intro _; rfl
    | succ n ih =>
      intro hn
      have e1 : (stW B f ys w).getD n (0, []) = atS B f ys (w.take n) := by
        unfold stW
        rw [List.getD_eq_getElem?_getD, List.getElem?_map, List.getElem?_range (by omega)]
        rfl
      have hg := T.gs h
      have hg2 : GsOk B (w.take n ++ w.drop n) := by rw [List.take_append_drop]; exact hg
      have l1 : (gainL B (w.take n)).length = B.purses.toNat := gainL_len (gsOk_l hg2)
      have l2 : (gainL B (w.drop n)).length = B.purses.toNat := gainL_len (gsOk_r hg2)
      have e2 : geL (addL ys (gainL B w)) (addL ys (gainL B (w.take n))) = nnL (gainL B (w.drop n)) := by
        have e3 : gainL B w = addL (gainL B (w.take n)) (gainL B (w.drop n)) := by
          rw [← gainL_app hg2, List.take_append_drop]
        have l3 := addL_len l1 l2
        rw [e3, Bool.eq_iff_iff, geL_iff (addL_len T.l l3) (addL_len T.l l1)]
        unfold nnL
        rw [all_getD, l2]
        refine forall_congr' fun p => forall_congr' fun hp => ?_
        have := T.l
        rw [addL_getD (by omega) (by omega), addL_getD (by omega) (by omega), addL_getD (by omega) (by omega), decide_eq_true_eq]
        constructor <;> intro _ <;> omega
      rw [againN, e1, ih (by omega), agN]
      unfold atS
      simp only
      rw [e2]
  unfold againF
  rw [stW_last]
  show againN (stW B f ys w) (atS B f ys w).1 (atS B f ys w).2 ((stW B f ys w).length - 1) = _
  rw [stW_len]
  exact key w.length (Nat.le_refl _)
def canW (B : Book) (f : Int) (ys w : List Int) : List Int := canL B (endR B f w) (addL ys (gainL B w))
def kidW (B : Book) (f : Int) (ys w : List Int) : List (List Int) := (canW B f ys w).map fun k => w ++ [k]
def LW (B : Book) (f : Int) (ys : List Int) : Nat → List (List Int)
  | 0 => [[]]
  | i + 1 => ((LW B f ys i).flatMap (kidW B f ys)).filter fun w => (agW B f w).isNone
/-- the knots of layer i + 1 -/
def AW (B : Book) (f : Int) (ys : List Int) (i : Nat) : List (List Int) := (LW B f ys i).flatMap (kidW B f ys)
theorem LW_succ (B : Book) (f : Int) (ys : List Int) (i : Nat) : LW B f ys (i + 1) = (AW B f ys i).filter fun w => (agW B f w).isNone := rfl
theorem canW_in {B : Book} {f : Int} {ys w : List Int} {k : Int} (h : k ∈ canW B f ys w) : inW B k = true := (canL_mem.mp h).1
theorem mem_AW {B : Book} {f : Int} {ys : List Int} {i : Nat} {w : List Int} : w ∈ AW B f ys i ↔ ∃ u ∈ LW B f ys i, ∃ k ∈ canW B f ys u, w = u ++ [k] := by
  unfold AW kidW
  rw [List.mem_flatMap]
  constructor
  · rintro ⟨u, hu, h⟩
    obtain ⟨k, hk, rfl⟩ := List.mem_map.mp h
    exact ⟨u, hu, k, hk, rfl⟩
  · rintro ⟨u, hu, k, hk, rfl⟩
    exact ⟨u, hu, List.mem_map.mpr ⟨k, hk, rfl⟩⟩
theorem mem_LW {B : Book} {f : Int} {ys : List Int} {i : Nat} {w : List Int} : w ∈ LW B f ys (i + 1) ↔ w ∈ AW B f ys i ∧ agW B f w = none := by
  rw [LW_succ, List.mem_filter, Option.isNone_iff_eq_none]
theorem LW_in {B : Book} {f : Int} {ys : List Int} : ∀ {i : Nat} {w : List Int}, w ∈ LW B f ys i → ∀ k ∈ w, inW B k = true
  | 0, w, h, k, hk => by
    rw [LW, List.mem_singleton] at h
    subst h
    cases hk
  | i + 1, w, h, k, hk => by
    obtain ⟨u, hu, j, hj, rfl⟩ := mem_AW.mp (mem_LW.mp h).1
    rcases List.mem_append.mp hk with hk | hk
    · exact LW_in hu k hk
    · rw [List.mem_singleton.mp hk]; exact canW_in hj
theorem AW_in {B : Book} {f : Int} {ys : List Int} {i : Nat} {w : List Int} (h : w ∈ AW B f ys i) : ∀ k ∈ w, inW B k = true := by
  obtain ⟨u, hu, j, hj, rfl⟩ := mem_AW.mp h
  intro k hk
  rcases List.mem_append.mp hk with hk | hk
  · exact LW_in hu k hk
  · rw [List.mem_singleton.mp hk]; exact canW_in hj
/-- the first walk of some that comes again, in two parts -/
def fstAg (B : Book) (f : Int) : List (List Int) → Option (List Int × List Int)
  | [] => none
  | w :: ws => match agW B f w with
    | some j => some (w.take j, w.drop j)
    | none => fstAg B f ws
theorem fold_step {B : Book} {f : Int} {ys : List Int} (T : TB B ys) {w : List Int} (hw : ∀ k ∈ w, inW B k = true) : ∀ (ks : List Int) (s : Fs), (∀ k ∈ ks, inW B k = true) →
    ks.foldl (stpKid B (nd B f ys w)) s = ⟨s.later ++ (((ks.map fun k => w ++ [k]).filter fun w => (agW B f w).isNone).map (nd B f ys)), s.many + ks.length, s.again.or (fstAg B f (ks.map fun k => w ++ [k]))⟩
  | [], s, _ => by simp [fstAg]
  | k :: ks, s, h => by
    have hk := h k List.mem_cons_self
    have hwk : ∀ x ∈ w ++ [k], inW B x = true := fun x hx => by
      rcases List.mem_append.mp hx with hx | hx
      · exact hw x hx
      · rw [List.mem_singleton.mp hx]; exact hk
    have e1 : nxtS B (nd B f ys w).2 k = stW B f ys (w ++ [k]) := nxt_stW T hw hk
    rw [List.foldl_cons, fold_step T hw ks _ fun x hx => h x (List.mem_cons_of_mem _ hx)]
    unfold stpKid
    rw [e1, again_stW T hwk]
    cases ha : agW B f (w ++ [k]) with
    | none =>
      simp only [List.map_cons, List.filter_cons, ha, Option.isNone_none, if_true, List.length_cons, fstAg]
      refine Fs.mk.injEq .. |>.mpr ⟨?_, ?_, rfl⟩
      · rw [List.append_assoc]; rfl
      · omega
    | some j =>
      simp only [List.map_cons, List.filter_cons, ha, Option.isNone_some, Bool.false_eq_true, if_false, List.length_cons, fstAg]
      refine Fs.mk.injEq .. |>.mpr ⟨rfl, ?_, ?_⟩
      · omega
      · cases s.again <;> rfl
theorem fstAg_app (B : Book) (f : Int) : ∀ (a b : List (List Int)), fstAg B f (a ++ b) = (fstAg B f a).or (fstAg B f b)
  | [], b => by simp [fstAg]
  | w :: a, b => by
    rw [List.cons_append, fstAg, fstAg]
    cases agW B f w with
    | none => exact fstAg_app B f a b
    | some j => rfl
theorem layF_LW {B : Book} {f : Int} {ys : List Int} (T : TB B ys) (i : Nat) (m : Int) (ag : Option (List Int × List Int)) : layF B ((LW B f ys i).map (nd B f ys)) m ag = ⟨(LW B f ys (i + 1)).map (nd B f ys), m + (AW B f ys i).length, ag.or (fstAg B f (AW B f ys i))⟩ := by
  have key : ∀ (ws : List (List Int)) (s : Fs), (∀ w ∈ ws, ∀ k ∈ w, inW B k = true) → (ws.map (nd B f ys)).foldl (stpOf B) s = ⟨s.later ++ ((ws.flatMap (kidW B f ys)).filter fun w => (agW B f w).isNone).map (nd B f ys), s.many + (ws.flatMap (kidW B f ys)).length, s.again.or (fstAg B f (ws.flatMap (kidW B f ys)))⟩ := by
    intro ws
    induction ws with
    | nil => intro s _; simp [fstAg]
    | cons w ws ih =>
      intro s h
      have e1 : stpOf B s (nd B f ys w) = ⟨s.later ++ ((kidW B f ys w).filter fun w => (agW B f w).isNone).map (nd B f ys), s.many + (kidW B f ys w).length, s.again.or (fstAg B f (kidW B f ys w))⟩ := by
        unfold stpOf
        rw [show lstS (nd B f ys w).2 = atS B f ys w from lst_stW B f ys w]
        rw [fold_step T (h w List.mem_cons_self) _ _ fun k hk => (canL_mem.mp hk).1]
        unfold kidW
        rw [List.length_map]
        rfl
      rw [List.map_cons, List.foldl_cons, e1, ih _ fun x hx => h x (List.mem_cons_of_mem _ hx), List.flatMap_cons]
      refine Fs.mk.injEq .. |>.mpr ⟨?_, ?_, ?_⟩
      · rw [List.filter_append, List.map_append, List.append_assoc]
      · rw [List.length_append]
        show s.many + _ + _ = _
        omega
      · rw [fstAg_app]
        show (s.again.or _).or _ = _
        rw [Option.or_assoc]
  unfold layF
  rw [key _ _ fun w hw => LW_in hw]
  rfl
def knW (B : Book) (f : Int) (ys : List Int) : Nat → Nat
  | 0 => 1
  | i + 1 => knW B f ys i + (AW B f ys i).length
def agnW (B : Book) (f : Int) (ys : List Int) : Nat → Option (List Int × List Int)
  | 0 => none
  | i + 1 => (agnW B f ys i).or (fstAg B f (AW B f ys i))
def lgW (B : Book) (f : Int) (ys : List Int) : Nat → Option (List Int)
  | 0 => none
  | i + 1 => match LW B f ys (i + 1) with
    | [] => lgW B f ys i
    | q :: _ => some q
theorem out_step {B : Book} {f : Int} {ys : List Int} (T : TB B ys) (lim : Int) (n i : Nat) (h : LW B f ys i ≠ []) :
    outF B lim (n + 1) ((LW B f ys i).map (nd B f ys)) (knW B f ys i : Nat) (agnW B f ys i) (lgW B f ys i) =
      if (knW B f ys (i + 1) : Int) > lim then some none else outF B lim n ((LW B f ys (i + 1)).map (nd B f ys)) (knW B f ys (i + 1) : Nat) (agnW B f ys (i + 1)) (lgW B f ys (i + 1)) := by
  have hl := layF_LW (f := f) T i (knW B f ys i : Nat) (agnW B f ys i)
  have e : ((knW B f ys i : Nat) : Int) + ((AW B f ys i).length : Nat) = ((knW B f ys (i + 1) : Nat) : Int) := by rw [knW]; omega
  rw [e] at hl
  cases hL : LW B f ys i with
  | nil => exact absurd hL h
  | cons w ws =>
    rw [hL] at hl
    rw [List.map_cons] at hl ⊢
    rw [outF, hl]
    simp only
    have e2 : (match (LW B f ys (i + 1)).map (nd B f ys) with
      | [] => lgW B f ys i
      | q :: _ => some q.1) = lgW B f ys (i + 1) := by
      rw [lgW]
      cases LW B f ys (i + 1) <;> rfl
    rw [e2]
    rfl
theorem out_told {B : Book} {f : Int} {ys : List Int} (T : TB B ys) (lim : Int) : ∀ (n i : Nat) (o : Option PyData), (knW B f ys i : Int) ≤ lim → outF B lim n ((LW B f ys i).map (nd B f ys)) (knW B f ys i : Nat) (agnW B f ys i) (lgW B f ys i) = some o →
    (o = none → ∃ D, lim < (knW B f ys D : Nat)) ∧ ∀ d, o = some d → ∃ D, i ≤ D ∧ LW B f ys D = [] ∧ (∀ j, i ≤ j → j < D → LW B f ys j ≠ []) ∧ (knW B f ys D : Int) ≤ lim ∧ d = resD (agnW B f ys D) (lgW B f ys D)
  | 0, _, _, _, h => by cases h
  | n + 1, i, o, hc, h => by
    by_cases hL : LW B f ys i = []
    · rw [hL, List.map_nil, outF] at h
      cases h
      exact ⟨fun e => (by cases e), fun d e => by cases e; exact ⟨i, Nat.le_refl _, hL, fun j h1 h2 => by omega, hc, rfl⟩⟩
    · rw [out_step T lim n i hL] at h
      by_cases hm : (knW B f ys (i + 1) : Int) > lim
      · rw [if_pos hm] at h
        cases h
        exact ⟨fun _ => ⟨_, hm⟩, fun d e => by cases e⟩
      · rw [if_neg hm] at h
        obtain ⟨h1, h2⟩ := out_told T lim n (i + 1) o (by omega) h
        refine ⟨h1, fun d e => ?_⟩
        obtain ⟨D, d1, d2, d3, d4, d5⟩ := h2 d e
        refine ⟨D, by omega, d2, fun j j1 j2 => ?_, d4, d5⟩
        by_cases hj : j = i
        · subst hj; exact hL
        · exact d3 j (by omega) j2
theorem out_ends {B : Book} {f : Int} {ys : List Int} (T : TB B ys) (lim : Int) : ∀ (m i : Nat), (lim - knW B f ys i).toNat ≤ m → ∃ n o, outF B lim n ((LW B f ys i).map (nd B f ys)) (knW B f ys i : Nat) (agnW B f ys i) (lgW B f ys i) = some o := by
  intro m
  induction m with
  | zero =>
    intro i hm
    by_cases hL : LW B f ys i = []
    · exact ⟨1, _, by rw [hL]; rfl⟩
    · by_cases hA : AW B f ys i = []
      · refine ⟨2, ?_⟩
        rw [out_step T lim 1 i hL]
        split
        · exact ⟨_, rfl⟩
        · rw [LW_succ, hA]
          exact ⟨_, rfl⟩
      · refine ⟨1, none, ?_⟩
        have := List.length_pos_iff.mpr hA
        rw [out_step T lim 0 i hL, if_pos (by rw [knW]; omega)]
  | succ m ih =>
    intro i hm
    by_cases hL : LW B f ys i = []
    · exact ⟨1, _, by rw [hL]; rfl⟩
    · by_cases hA : AW B f ys i = []
      · refine ⟨2, ?_⟩
        rw [out_step T lim 1 i hL]
        split
        · exact ⟨_, rfl⟩
        · rw [LW_succ, hA]
          exact ⟨_, rfl⟩
      · have := List.length_pos_iff.mpr hA
        obtain ⟨n, o, h⟩ := ih (i + 1) (by rw [knW]; omega)
        by_cases hq : (knW B f ys (i + 1) : Int) > lim
        · exact ⟨n + 1, none, by rw [out_step T lim n i hL, if_pos hq]⟩
        · exact ⟨n + 1, o, by rw [out_step T lim n i hL, if_neg hq]; exact h⟩
theorem root_nd {B : Book} {f : Int} {ys : List Int} (T : TB B ys) : (LW B f ys 0).map (nd B f ys) = [([], [(f, ys)])] := by
  have : addL ys (gainL B []) = ys := addL_zero T.l
  show [([], [(f, addL ys (gainL B []))])] = _
  rw [this]
/-- what from_stand tells, told of the tree -/
theorem out_tree {B : Book} {f : Int} {ys : List Int} (T : TB B ys) (lim : Int) (hl : 1 ≤ lim) : ∃ n o, outF B lim n [([], [(f, ys)])] 1 none none = some o ∧
    (o = none → ∃ D, lim < (knW B f ys D : Nat)) ∧ ∀ d, o = some d → ∃ D, LW B f ys D = [] ∧ (∀ j, j < D → LW B f ys j ≠ []) ∧ (knW B f ys D : Int) ≤ lim ∧ d = resD (agnW B f ys D) (lgW B f ys D) := by
  obtain ⟨n, o, h⟩ := out_ends (f := f) T lim _ 0 (Nat.le_refl _)
  obtain ⟨h1, h2⟩ := out_told T lim n 0 o hl h
  rw [root_nd T] at h
  exact ⟨n, o, h, h1, fun d e => by
    obtain ⟨D, _, d2, d3, d4, d5⟩ := h2 d e
    exact ⟨D, d2, fun j hj => d3 j (Nat.zero_le _) hj, d4, d5⟩⟩
end L3
end
section
/-! L5q: trees compared; what lies in them. -/
namespace L3
open PySem L2
variable {B : Book} {f : Int} {ys : List Int}
theorem LW_len : ∀ {i : Nat} {w : List Int}, w ∈ LW B f ys i → w.length = i
  | 0, w, h => by
    rw [LW, List.mem_singleton] at h
    subst h
    rfl
  | i + 1, w, h => by
    obtain ⟨u, hu, j, hj, rfl⟩ := mem_AW.mp (mem_LW.mp h).1
    rw [List.length_append, LW_len hu]
    rfl
theorem AW_len {i : Nat} {w : List Int} (h : w ∈ AW B f ys i) : w.length = i + 1 := by
  obtain ⟨u, hu, j, hj, rfl⟩ := mem_AW.mp h
  rw [List.length_append, LW_len hu]
  rfl
/-- what the walks of the tree are: gone along from the stand -/
def GnW (B : Book) (f : Int) (ys w : List Int) : Prop := GoneI B f ys w (endR B f w) (addL ys (gainL B w))
theorem GnW.push {w : List Int} {k : Int} (T : TB B ys) (h : GnW B f ys w) (hk : k ∈ canW B f ys w) : GnW B f ys (w ++ [k]) := by
  obtain ⟨h1, h2⟩ := canL_mem.mp hk
  have := GoneI.push h T.hB T.hp h1 h2
  unfold GnW
  rw [endR_snoc, gain_push B w k ys T.l (h.gs T.hB T.hp h1)]
  exact this
theorem GnW.start (T : TB B ys) : GnW B f ys [] := by
  have h := GoneI.start (B := B) (f := f) T.l T.nn
  unfold GnW
  have e : addL ys (gainL B []) = ys := addL_zero T.l
  rw [e]
  exact h
theorem LW_gone (T : TB B ys) : ∀ {i : Nat} {w : List Int}, w ∈ LW B f ys i → GnW B f ys w
  | 0, w, h => by
    rw [LW, List.mem_singleton] at h
    subst h
    exact .start T
  | i + 1, w, h => by
    obtain ⟨u, hu, j, hj, rfl⟩ := mem_AW.mp (mem_LW.mp h).1
    exact (LW_gone T hu).push T hj
theorem AW_gone (T : TB B ys) {i : Nat} {w : List Int} (h : w ∈ AW B f ys i) : GnW B f ys w := by
  obtain ⟨u, hu, j, hj, rfl⟩ := mem_AW.mp h
  exact (LW_gone T hu).push T hj
theorem LW_pre : ∀ {i : Nat} {w : List Int}, w ∈ LW B f ys i → ∀ j, j ≤ i → w.take j ∈ LW B f ys j
  | 0, w, h, j, hj => by
    obtain rfl : j = 0 := by omega
    simp [LW]
  | i + 1, w, h, j, hj => by
    by_cases hji : j = i + 1
    · subst hji
      rw [List.take_of_length_le (by rw [LW_len h]; omega)]
      exact h
    · obtain ⟨u, hu, k, hk, rfl⟩ := mem_AW.mp (mem_LW.mp h).1
      rw [List.take_append_of_le_length (by rw [LW_len hu]; omega)]
      exact LW_pre hu j (by omega)
theorem AW_pre {i : Nat} {w : List Int} (h : w ∈ AW B f ys i) (j : Nat) (hj : j ≤ i) : w.take j ∈ LW B f ys j := by
  obtain ⟨u, hu, k, hk, rfl⟩ := mem_AW.mp h
  rw [List.take_append_of_le_length (by rw [LW_len hu]; omega)]
  exact LW_pre hu j hj
theorem LW_nil {D : Nat} (h : LW B f ys D = []) : ∀ k, LW B f ys (D + k) = [] ∧ AW B f ys (D + k) = []
  | 0 => ⟨h, by unfold AW; rw [Nat.add_zero, h]; rfl⟩
  | k + 1 => by
    obtain ⟨_, h2⟩ := LW_nil h k
    have h3 : LW B f ys (D + (k + 1)) = [] := by
      rw [← Nat.add_assoc, LW_succ, h2]
      rfl
    exact ⟨h3, by unfold AW; rw [h3]; rfl⟩
theorem knW_nil {D : Nat} (h : LW B f ys D = []) : ∀ k, knW B f ys (D + k) = knW B f ys D
  | 0 => rfl
  | k + 1 => by
    rw [← Nat.add_assoc, knW, knW_nil h k, (LW_nil h k).2]
    rfl
theorem knW_up (i : Nat) : ∀ k, knW B f ys i ≤ knW B f ys (i + k)
  | 0 => Nat.le_refl _
  | k + 1 => by
    have := knW_up i k
    rw [← Nat.add_assoc, knW]
    omega
theorem fstAg_none {ws : List (List Int)} : fstAg B f ws = none ↔ ∀ w ∈ ws, agW B f w = none := by
  induction ws with
  | nil => simp [fstAg]
  | cons w ws ih =>
    rw [fstAg, List.forall_mem_cons, ← ih]
    cases h : agW B f w <;> simp
theorem fstAg_some {p : List Int × List Int} : ∀ {ws : List (List Int)}, fstAg B f ws = some p → ∃ w ∈ ws, ∃ j, agW B f w = some j ∧ p = (w.take j, w.drop j)
  | w :: ws, h => by
    rw [fstAg] at h
    cases e : agW B f w with
    | none =>
      rw [e] at h
      obtain ⟨u, hu, j, h1, h2⟩ := fstAg_some h
      exact ⟨u, List.mem_cons_of_mem _ hu, j, h1, h2⟩
    | some j =>
      rw [e] at h
      cases h
      exact ⟨w, List.mem_cons_self, j, e, rfl⟩
theorem agnW_none : ∀ {D : Nat}, agnW B f ys D = none → ∀ i, i < D → ∀ w ∈ AW B f ys i, agW B f w = none
  | D + 1, h, i, hi, w, hw => by
    rw [agnW, Option.or_eq_none_iff] at h
    by_cases hd : i = D
    · subst hd
      exact fstAg_none.mp h.2 w hw
    · exact agnW_none h.1 i (by omega) w hw
theorem agnW_yes {w : List Int} : ∀ {D : Nat} {i : Nat}, i < D → w ∈ AW B f ys i → agW B f w ≠ none → agnW B f ys D ≠ none := fun {D} {i} hi hw ha h => ha (agnW_none h i hi w hw)
theorem agnW_some {p : List Int × List Int} : ∀ {D : Nat}, agnW B f ys D = some p → ∃ i, i < D ∧ ∃ w ∈ AW B f ys i, ∃ j, agW B f w = some j ∧ p = (w.take j, w.drop j)
  | D + 1, h => by
    rw [agnW, Option.or_eq_some_iff] at h
    rcases h with h | ⟨_, h⟩
    · obtain ⟨i, hi, h⟩ := agnW_some h
      exact ⟨i, by omega, h⟩
    · exact ⟨D, by omega, fstAg_some h⟩
theorem agW_some {w : List Int} {j : Nat} (h : agW B f w = some j) : j < w.length ∧ endR B f (w.take j) = endR B f w ∧ nnL (gainL B (w.drop j)) = true := by
  have key : ∀ n, agN B f w n = some j → j < n ∧ endR B f (w.take j) = endR B f w ∧ nnL (gainL B (w.drop j)) = true := by
    intro n
    induction n with
    | zero => intro h; cases h
    | succ n ih =>
      intro h
      rw [agN] at h
      split at h
      · rename_i q
        cases h
        rw [Bool.and_eq_true, decide_eq_true_eq] at q
        exact ⟨by omega, q.1, q.2⟩
      · obtain ⟨h1, h2⟩ := ih h
        exact ⟨by omega, h2⟩
  exact key _ h
/-- the longest, where the tree is done -/
theorem lgW_told {D : Nat} (h : LW B f ys D = []) (hn : ∀ j, j < D → LW B f ys j ≠ []) : 1 ≤ D ∧ (D = 1 → lgW B f ys D = none) ∧ (1 < D → ∃ w ∈ LW B f ys (D - 1), lgW B f ys D = some w) := by
  have h0 : D ≠ 0 := fun e => by subst e; cases h
  refine ⟨by omega, fun e => ?_, fun e => ?_⟩
  · subst e
    rw [lgW, h]
    rfl
  · obtain ⟨d, rfl⟩ : ∃ d, D = d + 2 := ⟨D - 2, by omega⟩
    rw [lgW, h]
    have := hn (d + 1) (by omega)
    show ∃ w ∈ LW B f ys (d + 1), lgW B f ys (d + 1) = some w
    rw [lgW]
    cases e2 : LW B f ys (d + 1) with
    | nil => exact absurd e2 this
    | cons w ws => exact ⟨w, List.mem_cons_self, rfl⟩
/-! ### trees of greater stands -/
theorem filter_sub {α : Type} {p q : α → Bool} : ∀ {xs : List α}, (∀ x ∈ xs, p x = true → q x = true) → (xs.filter p).Sublist (xs.filter q)
  | [], _ => .slnil
  | x :: xs, h => by
    have ih := filter_sub (xs := xs) fun y hy => h y (List.mem_cons_of_mem _ hy)
    rw [List.filter_cons, List.filter_cons]
    cases hp : p x with
    | true =>
      rw [h x List.mem_cons_self hp]
      exact ih.cons_cons x
    | false =>
      simp only [Bool.false_eq_true, if_false]
      split
      · exact ih.cons x
      · exact ih
theorem flatMap_sub {α β : Type} {g h : α → List β} : ∀ {xs ys : List α}, xs.Sublist ys → (∀ x ∈ xs, (g x).Sublist (h x)) → (xs.flatMap g).Sublist (ys.flatMap h)
  | _, _, .slnil, _ => .slnil
  | xs, y :: ys, .cons _ s, k => by
    rw [List.flatMap_cons]
    exact (flatMap_sub s k).trans (List.sublist_append_right _ _)
  | x :: xs, _ :: ys, .cons_cons _ s, k => by
    rw [List.flatMap_cons, List.flatMap_cons]
    exact (k x List.mem_cons_self).append (flatMap_sub s fun y hy => k y (List.mem_cons_of_mem _ hy))
theorem canL_sub {B : Book} {r : Int} {xs zs : List Int} (hg : ∀ w ∈ B.ways, w.gs.length = xs.length) (hl : zs.length = xs.length) (h : geL zs xs = true) : (canL B r xs).Sublist (canL B r zs) := by
  unfold canL
  refine List.Sublist.map _ (filter_sub fun p hp hf => ?_)
  have hw := hg p.2 (List.of_mem_zip hp).2
  unfold fitsW at hf ⊢
  rw [Bool.and_eq_true] at hf ⊢
  refine ⟨hf.1, ?_⟩
  have h2 := hf.2
  rw [all_getD, addL_len (n := xs.length) rfl hw] at h2
  rw [all_getD, addL_len hl hw]
  intro i hi
  have h3 := of_decide_eq_true (h2 i hi)
  have h4 := (geL_iff rfl hl.symm).mp h i (by omega)
  rw [addL_getD (by omega) (by omega)] at h3 ⊢
  exact decide_eq_true (by omega)
theorem ge_add {xs zs gs : List Int} {n : Nat} (h1 : xs.length = n) (h2 : zs.length = n) (h3 : gs.length = n) (h : geL zs xs = true) : geL (addL zs gs) (addL xs gs) = true := by
  refine (geL_iff (addL_len h2 h3) (addL_len h1 h3)).mpr fun p hp => ?_
  have := (geL_iff h2 h1).mp h p hp
  rw [addL_getD (by omega) (by omega), addL_getD (by omega) (by omega)]
  omega
theorem LW_sub {zs : List Int} (T : TB B ys) (S : TB B zs) (h : geL zs ys = true) : ∀ i, (LW B f ys i).Sublist (LW B f zs i) ∧ (AW B f ys i).Sublist (AW B f zs i) := by
  have st : ∀ i, (LW B f ys i).Sublist (LW B f zs i) → (AW B f ys i).Sublist (AW B f zs i) := fun i hi => by
    unfold AW
    refine flatMap_sub hi fun w hw => ?_
    unfold kidW canW
    refine List.Sublist.map _ ?_
    have l1 : (gainL B w).length = B.purses.toNat := gainL_len (T.gs (LW_in hw))
    have l2 := addL_len T.l l1
    have l3 := addL_len S.l l1
    exact canL_sub (fun x hx => by rw [T.hB x hx, l2]) (by omega) (ge_add T.l S.l l1 h)
  intro i
  induction i with
  | zero => exact ⟨List.Sublist.refl _, st 0 (List.Sublist.refl _)⟩
  | succ i ih =>
    have : (LW B f ys (i + 1)).Sublist (LW B f zs (i + 1)) := by
      rw [LW_succ, LW_succ]
      exact ih.2.filter _
    exact ⟨this, st _ this⟩
theorem knW_sub {zs : List Int} (T : TB B ys) (S : TB B zs) (h : geL zs ys = true) : ∀ i, knW B f ys i ≤ knW B f zs i
  | 0 => Nat.le_refl _
  | i + 1 => by
    have h1 := knW_sub T S h i
    have h2 := (LW_sub (f := f) T S h i).2.length_le
    rw [knW, knW]
    omega
/-- a tree that is done without a walk that comes again -/
structure Done (B : Book) (f : Int) (ys : List Int) (D : Nat) : Prop where
  nil : LW B f ys D = []
  no : agnW B f ys D = none
theorem Done.more {D : Nat} (h : Done B f ys D) (i : Nat) {w : List Int} (hw : w ∈ AW B f ys i) : agW B f w = none := by
  by_cases hi : i < D
  · exact agnW_none h.no i hi w hw
  · have := (LW_nil h.nil (i - D)).2
    rw [show D + (i - D) = i from by omega] at this
    rw [this] at hw
    cases hw
/-- walks that are gone along step by step -/
inductive Gon (B : Book) (f : Int) (ys : List Int) : List Int → Prop
  | nil : Gon B f ys []
  | snoc {w : List Int} {k : Int} : Gon B f ys w → k ∈ canW B f ys w → Gon B f ys (w ++ [k])
theorem Done.gone {D : Nat} (h : Done B f ys D) {w : List Int} (hw : Gon B f ys w) : w ∈ LW B f ys w.length := by
  induction hw with
  | nil => simp [LW]
  | snoc h1 h2 ih =>
    rename_i u k
    have hA : u ++ [k] ∈ AW B f ys u.length := mem_AW.mpr ⟨u, ih, k, h2, rfl⟩
    rw [List.length_append, List.length_singleton]
    exact mem_LW.mpr ⟨hA, h.more _ hA⟩
theorem Done.short {D : Nat} (h : Done B f ys D) {w : List Int} (hw : w ∈ LW B f ys w.length) : w.length < D := by
  by_cases hi : w.length < D
  · exact hi
  · have := (LW_nil h.nil (w.length - D)).1
    rw [show D + (w.length - D) = w.length from by omega] at this
    rw [this] at hw
    cases hw
theorem Done.stuck {D : Nat} (h : Done B f ys D) {w : List Int} (hw : w ∈ LW B f ys (D - 1)) (hD : 1 ≤ D) : canW B f ys w = [] := by
  cases e : canW B f ys w with
  | nil => rfl
  | cons k ks =>
    have hA : w ++ [k] ∈ AW B f ys (D - 1) := mem_AW.mpr ⟨w, hw, k, by rw [e]; exact List.mem_cons_self, rfl⟩
    have h2 : w ++ [k] ∈ LW B f ys (D - 1 + 1) := mem_LW.mpr ⟨hA, h.more _ hA⟩
    rw [show D - 1 + 1 = D from by omega, h.nil] at h2
    cases h2
/-- from a stand with no number greater: done, too, no sooner too many, no longer walk -/
theorem Done.less {zs : List Int} {D : Nat} (T : TB B ys) (S : TB B zs) (h : geL ys zs = true) (hd : Done B f ys D) : Done B f zs D := by
  refine ⟨?_, ?_⟩
  · have := (LW_sub (f := f) S T h D).1
    rw [hd.nil] at this
    exact List.sublist_nil.mp this
  · cases e : agnW B f zs D with
    | none => rfl
    | some p =>
      obtain ⟨i, hi, w, hw, j, ha, _⟩ := agnW_some e
      have := hd.more i ((LW_sub (f := f) S T h i).2.subset hw)
      rw [this] at ha
      cases ha
/-- parts of a walk that was gone along -/
theorem GnW.ok {w : List Int} (h : GnW B f ys w) (hw : w ≠ []) : chainW B w = true ∧ okW B f ys w = true ∧ endW B w = endR B f w := by
  obtain ⟨h1, h2, h3⟩ := pth_ends h.p hw
  refine ⟨h1, ?_, ?_⟩
  · rw [okW_eq hw, h2, decide_eq_true rfl, h.n]
    rfl
  · unfold endW endR
    rw [List.getLast?_eq_some_getLast hw]
theorem pth_end {B : Book} {a b : Int} {w : List Int} (h : Pth B a w b) : b = endR B a w := by
  cases w with
  | nil => exact h.symm
  | cons k ks =>
    obtain ⟨_, _, h3⟩ := pth_ends h (by simp)
    unfold endR
    rw [List.getLast?_eq_some_getLast (by simp : k :: ks ≠ [])]
    exact h3.symm
theorem GnW.tail {u v : List Int} (T : TB B ys) (h : GnW B f ys (u ++ v)) : Pth B (endR B f u) v (endR B f (u ++ v)) ∧ geL (addL ys (gainL B u)) (needL B v) = true := by
  obtain ⟨b, h1, h2⟩ := h.p.split
  rw [← pth_end h1]
  refine ⟨h2, ?_⟩
  have hg : GsOk B (u ++ v) := T.gs h.p.mem
  have l1 : (gainL B u).length = B.purses.toNat := gainL_len (gsOk_l hg)
  have hn := (geL_iff T.l (needL_len' hg)).mp h.n
  refine (geL_iff (addL_len T.l l1) (needL_len' (gsOk_r hg))).mpr fun p hp => ?_
  have h5 := hn p hp
  have := T.l
  rw [needL_getD hg hp, dueC_app] at h5
  rw [addL_getD (by omega) (by omega), needL_getD (gsOk_r hg) hp, gainL_getD (gsOk_l hg) hp]
  unfold mx2 at h5
  split at h5 <;> omega
theorem gon_in {w : List Int} (h : Gon B f ys w) : ∀ k ∈ w, inW B k = true := by
  induction h with
  | nil => intro k hk; cases hk
  | snoc h1 h2 ih =>
    intro k hk
    rcases List.mem_append.mp hk with hk | hk
    · exact ih k hk
    · rw [List.mem_singleton.mp hk]; exact canW_in h2
theorem canL_len (B : Book) (r : Int) (xs : List Int) : (canL B r xs).length ≤ B.ways.length := by
  unfold canL
  rw [List.length_map]
  refine Nat.le_trans (List.length_filter_le _ _) ?_
  rw [List.length_zip, List.length_range]
  omega
/-- a tree of so many knots is no deeper -/
theorem done_le {D M : Nat} (h : ∀ j, j < D → LW B f ys j ≠ []) (hk : (knW B f ys D : Int) ≤ M) : D ≤ M + 1 := by
  have key : ∀ i, i < D → i + 1 ≤ knW B f ys i := by
    intro i
    induction i with
    | zero => intro _; exact Nat.le_refl _
    | succ i ih =>
      intro hi
      have h1 := ih (by omega)
      have h4 := h (i + 1) hi
      rw [LW_succ] at h4
      have h5 : AW B f ys i ≠ [] := fun e => h4 (by rw [e]; rfl)
      have := List.length_pos_iff.mpr h5
      rw [knW]
      omega
  cases D with
  | zero => omega
  | succ D =>
    have h1 := key D (by omega)
    have h2 := knW_up (B := B) (f := f) (ys := ys) D 1
    omega
end L3
end
section
/-! L5r: what a thing is as a told walk, looked at without bounds. -/
namespace L3
open PySem L2
def andThen (acc : Option (Int × Int)) (r : Option (Int × Int)) : Option (Int × Int) := match r, acc with
  | none, _ => none
  | some p, none => some p
  | some (a, b), some (x, y) => if y = a then some (x, b) else none
def lookR (G : PyData → Option (Int × Int)) : Option (Int × Int) → List PyData → Option (Int × Int)
  | acc, [] => acc
  | acc, q :: qs => match andThen acc (G q) with
    | none => none
    | some p => lookR G (some p) qs
def lookG (G : PyData → Option (Int × Int)) : PyData → Option (Int × Int)
  | .tuple (q :: qs) => lookR G none (q :: qs)
  | _ => none
def lookT (B : Book) (G : PyData → Option (Int × Int)) : PyData → Option (Int × Int)
  | .tuple [.str s, x] => if s = "way" then wayE B x else if s = "row" then lookG G x else none
  | .tuple [.str s, .int c, y] => if s = "times" ∧ 1 ≤ c then timesE c (G y) else none
  | _ => none
def lookE (B : Book) : Nat → PyData → Option (Int × Int)
  | 0, _ => none
  | n + 1, t => lookT B (lookE B n) t
def fitL (F : Nat → PyData → Prop) : Nat → List PyData → Prop
  | _, [] => True
  | v, p :: ps => ∃ m r, m + r ≤ v ∧ F m p ∧ fitL F r ps
/-- at most so deep, at most so many parts -/
def Fits : Nat → Nat → PyData → Prop
  | 0, _, _ => False
  | k + 1, v, d => 1 ≤ v ∧ match d with
    | .tuple [_, .tuple ps] => fitL (Fits k) (v - 1) ps
    | .tuple [_, _, z] => Fits k (v - 1) z
    | _ => True
theorem fitL_mono {F G : Nat → PyData → Prop} : ∀ {ps : List PyData} {v w : Nat}, v ≤ w → (∀ m p, p ∈ ps → F m p → G m p) → fitL F v ps → fitL G w ps
  | [], _, _, _, _, _ => trivial
  | p :: ps, v, w, h, hm, ⟨m, r, h1, h2, h3⟩ => ⟨m, r, by omega, hm m p List.mem_cons_self h2, fitL_mono (Nat.le_refl r) (fun m q hq => hm m q (List.mem_cons_of_mem _ hq)) h3⟩
theorem Fits.mono : ∀ {k j v w : Nat} {d : PyData}, k ≤ j → v ≤ w → Fits k v d → Fits j w d
  | 0, _, _, _, _, _, _, h => h.elim
  | k + 1, 0, _, _, _, hk, _, _ => by omega
  | k + 1, j + 1, v, w, d, hk, hv, h => by
    unfold Fits at h ⊢
    obtain ⟨h1, h2⟩ := h
    refine ⟨by omega, ?_⟩
    split at h2
    · exact fitL_mono (by omega) (fun m p _ hf => Fits.mono (by omega) (Nat.le_refl _) hf) h2
    · exact Fits.mono (j := j) (w := w - 1) (by omega) (by omega) h2
    · trivial
theorem fitL_app {F : Nat → PyData → Prop} : ∀ {a b : Nat} {xs ys : List PyData}, fitL F a xs → fitL F b ys → fitL F (a + b) (xs ++ ys)
  | a, b, [], ys, _, h => fitL_mono (by omega) (fun _ _ _ h => h) h
  | a, b, x :: xs, ys, ⟨m, r, h1, h2, h3⟩, h => ⟨m, r + b, by omega, h2, fitL_app h3 h⟩
theorem fitL_split {F : Nat → PyData → Prop} : ∀ {v : Nat} {xs ys : List PyData}, fitL F v (xs ++ ys) → ∃ a b, a + b ≤ v ∧ fitL F a xs ∧ fitL F b ys
  | v, [], ys, h => ⟨0, v, by omega, trivial, h⟩
  | v, x :: xs, ys, ⟨m, r, h1, h2, h3⟩ => by
    obtain ⟨a, b, e, ha, hb⟩ := fitL_split h3
    exact ⟨m + a, b, by omega, ⟨m, a, Nat.le_refl _, h2, ha⟩, hb⟩
theorem fitL_rev {F : Nat → PyData → Prop} : ∀ {v : Nat} {xs : List PyData}, fitL F v xs → fitL F v xs.reverse
  | v, [], h => h
  | v, x :: xs, ⟨m, r, h1, h2, h3⟩ => by
    rw [List.reverse_cons]
    exact fitL_mono (v := r + m) (by omega) (fun _ _ _ h => h) (fitL_app (fitL_rev h3) (⟨m, 0, by omega, h2, trivial⟩ : fitL F m [x]))
theorem row_look {B : Book} {f k : Nat} (ih : ∀ (v : Nat) (d : PyData) (l : Int), Fits k v d → (v : Int) ≤ l → (endsF B f l d).1 = lookE B k d ∧ l - v ≤ (endsF B f l d).2) :
    ∀ (ps : List PyData) (acc : Option (Int × Int)) (r : Nat) (l : Int), fitL (Fits k) r ps → (r : Int) ≤ l → (rowF (endsF B f) acc l ps).1 = lookR (lookE B k) acc ps ∧ l - r ≤ (rowF (endsF B f) acc l ps).2
  | [], acc, r, l, _, hl => ⟨rfl, by show l - r ≤ l; omega⟩
  | q :: qs, acc, r, l, ⟨m, r', h1, h2, h3⟩, hl => by
    obtain ⟨e1, e2⟩ := ih m q l h2 (by omega)
    rw [rowF, lookR, ← e1]
    rcases he : endsF B f l q with ⟨_ | ⟨a, b⟩, l'⟩
    · rw [he] at e2
      simp only [rowS, andThen]
      exact ⟨trivial, by simp only at e2; omega⟩
    · rw [he] at e2
      simp only at e2
      rcases acc with _ | ⟨x, y⟩
      · simp only [rowS, andThen]
        obtain ⟨k1, k2⟩ := row_look ih qs (some (a, b)) r' l' h3 (by omega)
        exact ⟨k1, by omega⟩
      · simp only [rowS, andThen]
        by_cases hy : y = a
        · rw [if_pos hy, if_pos hy]
          obtain ⟨k1, k2⟩ := row_look ih qs (some (x, b)) r' l' h3 (by omega)
          exact ⟨k1, by omega⟩
        · rw [if_neg hy, if_neg hy]
          exact ⟨rfl, by simp only; omega⟩
theorem ends_look {B : Book} : ∀ (k : Nat) (v : Nat) (d : PyData) (f : Nat) (l : Int), Fits k v d → k ≤ f → (v : Int) ≤ l → (endsF B f l d).1 = lookE B k d ∧ l - v ≤ (endsF B f l d).2
  | 0, _, _, _, _, h, _, _ => h.elim
  | k + 1, v, d, 0, l, _, hf, _ => by omega
  | k + 1, v, d, f + 1, l, h, hf, hl => by
    have h1 := h.1
    have h2 := h.2
    have hv : ((v - 1 : Nat) : Int) = v - 1 := by omega
    rw [endsF, if_neg (by omega), lookE]
    have no : l - (v : Int) ≤ l - 1 := by omega
    cases d
    case tuple ds =>
      rcases ds with _ | ⟨x, _ | ⟨y, _ | ⟨z, _ | ⟨z2, r⟩⟩⟩⟩
      · exact ⟨rfl, no⟩
      · cases x <;> exact ⟨rfl, no⟩
      · cases x
        case str s =>
          by_cases e1 : s = "way"
          · subst e1
            rw [endsT_way]
            simp only [lookT, if_true]
            exact ⟨trivial, no⟩
          · by_cases e2 : s = "row"
            · subst e2
              rw [endsT_row]
              have e0 : lookT B (lookE B k) (.tuple [.str "row", y]) = lookG (lookE B k) y := by simp [lookT, e1]
              rw [e0]
              cases y
              case tuple ps =>
                cases ps with
                | nil => exact ⟨rfl, no⟩
                | cons q qs =>
                  replace h2 : fitL (Fits k) (v - 1) (q :: qs) := h2
                  obtain ⟨k1, k2⟩ := row_look (fun v d l hd hl => ends_look k v d f l hd (by omega) hl) (q :: qs) none (v - 1) (l - 1) h2 (by omega)
                  exact ⟨k1, by show l - v ≤ (rowF (endsF B f) none (l - 1) (q :: qs)).2; omega⟩
              all_goals exact ⟨rfl, no⟩
            · have e0 : lookT B (lookE B k) (.tuple [.str s, y]) = none := by simp [lookT, e1, e2]
              rw [e0]
              by_cases e3 : s = "times"
              · subst e3
                rw [endsT_times1]
                exact ⟨rfl, no⟩
              · rw [endsT_other e1 e2 e3]
                exact ⟨rfl, no⟩
        all_goals (cases y <;> exact ⟨rfl, no⟩)
      · have h3 : Fits k (v - 1) z := by
          have h2 := h2
          simp only at h2
          exact h2
        cases x
        case str s =>
          by_cases e3 : s = "times"
          · subst e3
            rw [endsT_times2]
            cases y
            case int c =>
              have e0 : lookT B (lookE B k) (.tuple [.str "times", .int c, z]) = if 1 ≤ c then timesE c (lookE B k z) else none := by simp [lookT]
              rw [e0]
              by_cases hc : 1 ≤ c
              · obtain ⟨k1, k2⟩ := ends_look (B := B) k (v - 1) z f (l - 1) h3 (by omega) (by omega)
                simp only [if_pos hc]
                exact ⟨by rw [k1], by omega⟩
              · simp only [if_neg hc]
                exact ⟨trivial, no⟩
            all_goals exact ⟨rfl, no⟩
          · have e0 : lookT B (lookE B k) (.tuple [.str s, y, z]) = none := by
              cases y <;> simp [lookT, e3]
            rw [e0]
            by_cases e1 : s = "way"
            · subst e1
              rw [endsT_way]
              exact ⟨rfl, no⟩
            · by_cases e2 : s = "row"
              · subst e2
                rw [endsT_row]
                exact ⟨rfl, no⟩
              · rw [endsT_other e1 e2 e3]
                exact ⟨rfl, no⟩
        all_goals (cases y <;> exact ⟨rfl, no⟩)
      · cases x
        case str s =>
          have e0 : lookT B (lookE B k) (.tuple (.str s :: y :: z :: z2 :: r)) = none := by cases y <;> rfl
          rw [e0]
          by_cases e1 : s = "way"
          · subst e1
            rw [endsT_way]
            exact ⟨rfl, no⟩
          · by_cases e2 : s = "row"
            · subst e2
              rw [endsT_row]
              exact ⟨rfl, no⟩
            · by_cases e3 : s = "times"
              · subst e3
                rw [endsT_times3]
                exact ⟨rfl, no⟩
              · rw [endsT_other e1 e2 e3]
                exact ⟨rfl, no⟩
        all_goals (cases y <;> exact ⟨rfl, no⟩)
    all_goals exact ⟨rfl, no⟩
theorem told_look {B : Book} {d : PyData} {k v : Nat} (h : Fits k v d) (hk : k ≤ 20) (hv : v ≤ 2000) : isTold B d = (lookE B k d).isSome := by
  unfold isTold
  rw [(ends_look k v d 20 2000 h hk (by omega)).1]
mutual
theorem Tw.fits : ∀ t : Tw, Fits t.dp t.sz t.d
  | .way k => by
    rw [Tw.dp, Tw.sz, Tw.d]
    exact ⟨Nat.le_refl _, trivial⟩
  | .row ps => by
    rw [Tw.dp, Tw.sz, Tw.d, Nat.add_comm]
    refine ⟨by omega, ?_⟩
    show fitL (Fits (Tw.dps ps)) _ (Tw.ds ps)
    exact fitL_mono (by omega) (fun _ _ _ h => h) (Tw.fitss ps (Tw.dps ps) (Nat.le_refl _))
  | .times n t => by
    rw [Tw.dp, Tw.sz, Tw.d, Nat.add_comm]
    refine ⟨by omega, ?_⟩
    show Fits t.dp _ t.d
    exact Fits.mono (Nat.le_refl _) (by omega) t.fits
theorem Tw.fitss : ∀ (ps : List Tw) (k : Nat), Tw.dps ps ≤ k → fitL (Fits k) (Tw.szs ps) (Tw.ds ps)
  | [], _, _ => trivial
  | t :: r, k, h => by
    rw [Tw.dps] at h
    rw [Tw.szs, Tw.ds]
    exact ⟨t.sz, Tw.szs r, Nat.le_refl _, Fits.mono (by omega) (Nat.le_refl _) t.fits, Tw.fitss r k (by omega)⟩
end
end L3
end
section
/-! L5s: t[::-1] of a tuple. -/
namespace HT
open PySem PySem.Spec PyProof.Rows
section
variable {prog : Program} {w : World} {A : Around} {E : Value → Shared → Prop} {s : Shared}
theorem adjust_rev (n : Nat) : Builtin.Slice.sliceAdjust none none (-1) (n : Int) = ((n : Int) - 1, -1) := by
  unfold Builtin.Slice.sliceAdjust
  simp
theorem places_rev (n : Nat) : Builtin.Slice.slicePlaces ((n : Int) - 1) (-1) (-1) = n := by
  unfold Builtin.Slice.slicePlaces
  rw [if_neg (by decide)]
  by_cases h : (n : Int) - 1 > -1
  · rw [if_pos h]
    simp
  · rw [if_neg h]
    omega
theorem sliceApplied_rev {sl : Addr} {vl vu vs : Value} {n : Nat} {Q : Int × Int × Nat → Shared → Prop} (hs : s.heap.IsSliceOf sl vl vu vs) (pl : IsPart vl none) (pu : IsPart vu none) (ps : IsPart vs (some (-1)))
    (h : Q ((n : Int) - 1, -1, n) s) : wpAny (model prog w) A (Builtin.Slice.sliceApplied (.ref sl) (pure (n : Int))) Q E s := by
  obtain ⟨os, hos, hcs, hds⟩ := id hs
  unfold Builtin.Slice.sliceApplied Builtin.Slice.sliceFields
  refine wpAny_bind (wpAny_bind (wpAny_field hos hds (x := vl) rfl (wpAny_bind (wpAny_field hos hds (x := vu) rfl (wpAny_bind (wpAny_field hos hds (x := vs) rfl (wpAny_pure ?_)))))))
  refine wpAny_bind (slicePart_ ps ?_)
  show wpAny _ _ (if ((-1 : Int) == 0) = true then _ else _) _ _ s
  rw [if_neg (by decide)]
  refine wpAny_bind (slicePart_ pl (wpAny_bind (slicePart_ pu (wpAny_bind (wpAny_pure ?_)))))
  show wpAny _ _ (match Builtin.Slice.sliceAdjust none none (-1) (n : Int) with | (lo, hi) => pure (lo, (-1 : Int), Builtin.Slice.slicePlaces lo hi (-1))) _ _ s
  rw [adjust_rev n]
  show wpAny _ _ (pure ((n : Int) - 1, (-1 : Int), Builtin.Slice.slicePlaces ((n : Int) - 1) (-1) (-1))) _ _ s
  rw [places_rev]
  exact wpAny_pure h
theorem filterMap_at {α β : Type} {f : α → Option β} {g : α → β} : ∀ {xs : List α}, (∀ x ∈ xs, f x = some (g x)) → xs.filterMap f = xs.map g
  | [], _ => rfl
  | x :: xs, h => by
    rw [List.filterMap_cons, h x List.mem_cons_self, List.map_cons, filterMap_at fun y hy => h y (List.mem_cons_of_mem _ hy)]
theorem pick_rev (xs : Array Value) : ((List.range xs.size).filterMap fun (m : Nat) => xs[(((xs.size : Int) - 1) + (m : Int) * (-1)).toNat]?).toArray = xs.toList.reverse.toArray := by
  congr 1
  have e : ∀ m ∈ List.range xs.size, (fun (m : Nat) => xs[(((xs.size : Int) - 1) + (m : Int) * (-1)).toNat]?) m = some ((fun m => xs.toList.reverse.getD m .none) m) := fun m hm => by
    rw [List.mem_range] at hm
    have h1 : ((((xs.size : Int) - 1) + (m : Int) * (-1)).toNat) = xs.size - 1 - m := by omega
    show xs[((((xs.size : Int) - 1) + (m : Int) * (-1)).toNat)]? = some (xs.toList.reverse.getD m .none)
    rw [h1, List.getD_eq_getElem?_getD, List.getElem?_reverse (by simpa using hm)]
    rw [Array.getElem?_eq_getElem (by omega), List.getElem?_eq_getElem (by simp; omega)]
    simp
  rw [filterMap_at e]
  apply List.ext_getElem?
  intro i
  rw [List.getElem?_map]
  by_cases hi : i < xs.size
  · rw [List.getElem?_range hi, Option.map_some, List.getD_eq_getElem?_getD, List.getElem?_eq_getElem (by simpa using hi)]
    rfl
  · rw [List.getElem?_eq_none (by simpa using hi), List.getElem?_eq_none (by simp; omega)]
    rfl
theorem getItem_tuple_rev {t sl : Addr} {items : Array Value} {vl vu vs : Value} {Q : Value → Shared → Prop} (ht : IsTup s.heap t items) (hs : s.heap.IsSliceOf sl vl vu vs) (pl : IsPart vl none) (pu : IsPart vu none) (ps : IsPart vs (some (-1)))
    (h : Q (.ref s.heap.objs.size) { s with heap := s.heap.push { cls := .type "tuple", data := .seq items.toList.reverse.toArray } })
    (hsz : items.size ≤ sizeLine) : wpAny (model prog w) A (getItem (.ref t) (.ref sl)) Q E s := by
  have htake : sizeOk (.seq items.toList.reverse.toArray) := by
    show items.toList.reverse.toArray.size ≤ sizeLine
    rw [List.size_toArray, List.length_reverse, Array.length_toList]
    exact hsz
  obtain ⟨os, hos, hcs, hds⟩ := id hs
  have hTs : s.TypeIs (.ref sl) "slice" := ⟨os, hos, hcs⟩
  unfold getItem
  try with_reducible refine wpAny_holding ?_
  first | refine wpAny_bind (wpAny_pure ?_) | skip
  refine wpAny_bind (wpAny_sequenceKey ht.typeIs (by decide) ?_)
  refine wpAny_bind (wpAny_callSpecial?_slot (name := Str.ofString "__getitem__") ht.typeIs PyProof.Rows.slot_tuple_getitem
    (wpAny_call_entry PyProof.Rows.slot_tuple_getitem ht.typeIs entry_tuple_getitem ?_ (args_tuple_getitem _ _)))
  show wpAny _ _ (Builtin.Tuple.tupleItemsOf (.ref t) >>= _) _ _ s
  refine wpAny_bind (tupleItemsOf_ ht ?_)
  refine wpAny_bind (wpAny_typeOf hTs ?_)
  rw [if_pos (by decide)]
  refine wpAny_bind (sliceApplied_rev hs pl pu ps ?_)
  have hno : ¬ ((((items.size : Int) - 1) == 0 && (-1 : Int) == 1 && items.size == items.size) = true) := by
    intro q
    rw [Bool.and_eq_true, Bool.and_eq_true] at q
    exact absurd q.1.2 (by decide)
  show wpAny _ _ (if (((items.size : Int) - 1) == 0 && (-1 : Int) == 1 && items.size == items.size) = true then _ else _) _ _ s
  rw [if_neg hno, pick_rev]
  first
    | exact wpAny_bind (m := Builtin.Tuple.tupleExact _) (wpAny_newObj_type (wpAny_pure ⟨_, rfl, wpAny_pure h⟩) htake)
    | exact wpAny_bind (m := Builtin.Tuple.tupleExact _) (wpAny_newObj_type (wpAny_bind (wpAny_pure (wpAny_pure ⟨_, rfl, wpAny_pure h⟩))) htake)
    | exact wpAny_bind (wpAny_bind (m := Builtin.Tuple.tupleExact _) (wpAny_newObj_type (wpAny_pure (wpAny_pure ⟨_, rfl, wpAny_pure h⟩)) htake))
    | exact wpAny_bind (wpAny_bind (m := Builtin.Tuple.tupleExact _) (wpAny_newObj_type (wpAny_pure ⟨_, rfl, wpAny_pure h⟩) htake))
end
end HT
namespace L3
open PySem PySem.Spec PyProof.Rows L2
variable {G : Type} {K : PySem.W.Frag} {X : Cx} {Z : Zx K G}
def tRevT (K : PySem.W.Frag) (te : TE) : TE := fun σ H Q => te σ H fun x H1 => ∃ a xs, x = .ref a ∧ SqT K H1 a xs ∧ ∀ p, H1 p = none → Q (.ref p) (upd H1 p (.tup xs.reverse))
theorem pe_revT {e : Expr} {te : TE} {k : Nat} {p1 p2 p3 pos : Pos} (he : PE X e te) : PE X (.Subscript e (.Slice none none (some (.UnaryOp .USub (.Constant (.int 1) k p1) p2)) p3) pos) (tRevT X.K te) := by
  refine ⟨fun pins s σ H Q I h => ?_⟩
  refine Subscript_ (thn (he.run pins s σ H _ I h) fun v s1 ⟨x, H1, I1, r1, q1⟩ => ?_)
  obtain ⟨a, xs, ex, hx, q⟩ := q1
  subst ex
  cases r1
  have hst : PO X (some (.UnaryOp .USub (.Constant (.int 1) k p1) p2)) (tPart (tUn (rU fun i => .int (-i)) (tC (.int 1)))) := po_some (pe_un un_neg pe_int)
  refine wpAny_Slice (thn (po_none.run pins s1 σ H1 (fun o H2 => o = none ∧ H2 = H1) I1 ⟨rfl, rfl⟩) fun vl s2 ⟨l, H2, I2, pl, el, e2⟩ => ?_)
  subst el e2
  refine thn (po_none.run pins s2 σ H2 (fun o H3 => o = none ∧ H3 = H2) I2 ⟨rfl, rfl⟩) fun vu s3 ⟨u, H3, I3, pu, eu, e3⟩ => ?_
  subst eu e3
  refine thn (hst.run pins s3 σ H3 (fun o H4 => o = some (-1) ∧ H4 = H3) I3 ⟨1, rfl, -1, rfl, rfl, rfl⟩) fun vs s4 ⟨o, H4, I4, ps, eo, e4⟩ => ?_
  subst eo e4
  have I5 : Inv X pins σ H4 { s4 with heap := s4.heap.push { cls := .type "slice", data := .fields #[vl, vu, vs] } } := I4.kept (t' := s4.toks) fun b ob q => Heap.get?_push_of_some _ q
  obtain ⟨its, r, ht, hz⟩ := I5.tuple hx
  have hlen := r.length
  show wpAny (model X.prog X.w) X.A (subscriptTail e (.Slice none none (some (.UnaryOp .USub (.Constant (.int 1) k p1) p2)) p3) (.ref a) (.ref s4.heap.objs.size)) (EP X pins σ Q) X.xe { s4 with heap := s4.heap.push { cls := .type "slice", data := .fields #[vl, vu, vs] } }
  refine tail_any (ops := [.ref a, .ref s4.heap.objs.size]) ht.typeIs (PyProof.Rows.slot_tuple_getitem.lookup) ?_ (by with_unfolding_all rfl)
  refine HT.getItem_tuple_rev ht (Heap.IsSliceOf.new _ vl vu vs) pl pu ps ?_ (by rw [List.size_toArray]; omega)
  refine ⟨.ref _, _, I5.laid (t' := s4.toks) (o := .tup xs.reverse) (fun b ob q => Heap.get?_push_of_some _ q) (Nat.le_refl _) ?_, rfl, q _ (I5.hok.fresh (Nat.le_refl _))⟩
  exact ⟨by rw [List.length_reverse]; exact hz, _, r.reverse, _, Heap.get?_push_size _ rfl, rfl, _, rfl⟩
def tpD (k : List PyData → Prop) : Option PyData → Prop
  | some (.tuple ds) => k ds
  | _ => False
theorem tpD_of {k : List PyData → Prop} {a : Option PyData} (h : tpD k a) : ∃ ds, a = some (.tuple ds) ∧ k ds := by
  unfold tpD at h
  split at h
  · exact ⟨_, rfl, h⟩
  · cases h
/-- xs[::-1] of a tuple -/
def dRevT (a : DT G) : DT G := fun ρ g Q => a ρ g fun r ρ1 g1 => tpD (fun ds => Q (.dt (.tuple ds.reverse)) ρ1 g1) (rd r ρ1)
theorem e_revT {e : Expr} {te : TE} {a : DT G} {k : Nat} {p1 p2 p3 pos : Pos} (h : DE X Z e te a) (hK : K = X.K := by rfl) : DE X Z (.Subscript e (.Slice none none (some (.UnaryOp .USub (.Constant (.int 1) k p1) p2)) p3) pos) (tRevT K te) (dRevT a) :=
  ⟨by rw [hK]; exact pe_revT h.pe, fun f F ad ρ g σ H Q R q P hP => by
    refine h.sim f F ad ρ g σ H _ R q _ fun x H1 q => ?_
    obtain ⟨F1, ad1, ρ1, g1, r1, e1, eg1, R1, v1, q⟩ := q
    obtain ⟨ds, e, q⟩ := tpD_of q
    obtain ⟨a, vs, rfl, ha, da⟩ := R1.titems v1 e
    exact ⟨a, vs, rfl, Evl.ex_t R1.fin.sub ha, fun p hp => hP _ _ ((R1.newT hp da.reverse q).mono e1 eg1)⟩⟩
end L3
end
section
/-! L5t: sorted(xs) of data that have an order. -/
namespace L3
open PySem PySem.Spec PyProof.Rows L2
variable {G : Type} {K : PySem.W.Frag} {X : Cx} {Z : Zx K G}
theorem each_idx {α β : Type} {R : α → β → Prop} : ∀ {xs : List α} {bs : List β}, xs.length = bs.length → (∀ (i : Nat) (x : α) (b : β), xs[i]? = some x → bs[i]? = some b → R x b) → PySem.W.EachIs R xs bs
  | [], [], _, _ => .nil
  | x :: xs, b :: bs, h, k => .cons (k 0 x b rfl rfl) (each_idx (by simpa using h) fun i y c h1 h2 => k (i + 1) y c (by simpa using h1) (by simpa using h2))
def At2 {β : Type} (ws : List V) (bs : List β) (w : V) (b : β) : Prop := ∃ i : Nat, ws[i]? = some w ∧ bs[i]? = some b
theorem each_lift {β : Type} {ws : List V} {bs : List β} : ∀ {out : List Value} {cs : List β}, PySem.W.EachIs (fun v b => ∃ w, RelV w v ∧ At2 ws bs w b) out cs → ∃ ws', Vals ws' out ∧ Paired (At2 ws bs) ws' cs
  | _, _, .nil => ⟨[], .nil, .nil⟩
  | _, _, .cons h t => by
    obtain ⟨w, h1, h2⟩ := h
    obtain ⟨ws', t1, t2⟩ := each_lift t
    exact ⟨w :: ws', .cons h1 t1, .cons h2 t2⟩
def rSortQ (K : PySem.W.Frag) : List V → Hp → VK → Prop := fun vs H Q => ∃ (β : Type) (enc : β → PyData) (a : Addr) (ws : List V) (bs : List β), vs = [V.ref a] ∧ SqL K H a ws ∧ DpAll K H ws (bs.map enc) ∧ PySem.W.AllAlike (bs.map enc) ∧ PySem.W.Sortable (bs.map enc) ∧ bs.length ≤ 16777216 ∧ (∀ b ∈ bs, (enc b).depth ≤ 60) ∧
  ∀ (ws' : List V) (p : Addr), Paired (At2 ws bs) ws' (bs.mergeSort (PySem.W.dataLe false enc)) → H p = none → Q (.ref p) (upd H p (.lst ws'))
theorem cr_sortQ (hu : X.A.units + 64 < cLine) : CallR X (.builtin "sorted") (rSortQ X.K) := by
  intro pins s σ H vs us Q I r h
  obtain ⟨β, enc, a, ws, bs, rfl, hs, hd, hal, hso, hlen, hdep, q⟩ := h
  obtain ⟨its, rv, hl, hz⟩ := I.list hs
  rw [Vals.ref1 r]
  obtain ⟨as, hr⟩ := Dp.readsAll I _ _ _ hd rv
  have er := PySem.W.readsAll_each enc hr
  have hll : its.length = bs.length := er.length
  have e1 : PySem.W.EachIs (fun v b => ∃ w, RelV w v ∧ At2 ws bs w b) its bs := each_idx hll fun i v b h1 h2 => by
    have hi : i < ws.length := by
      have := (List.getElem?_eq_some_iff.mp h1).1
      rw [rv.length]
      exact this
    obtain ⟨v2, hv2, hwv⟩ := rv.get (List.getElem?_eq_getElem hi)
    rw [h1] at hv2
    cases hv2
    exact ⟨ws[i], hwv, i, List.getElem?_eq_getElem hi, h2⟩
  refine PySem.W.sorted_data hl.isList e1 er hal hso (by rw [sizeLine_eq]; omega) (fun b hb => by have := hdep b hb; omega) fun out ho eo => ?_
  obtain ⟨ws', t1, t2⟩ := each_lift eo
  obtain ⟨ep, he'⟩ := PyProof.Rows.sortedAll_at s.heap its out.toArray
  have hlen2 : ws'.length ≤ sizeLine := by
    rw [t1.length, ho, sizeLine_eq]
    omega
  exact ⟨.ref _, upd H (s.heap.objs.size + 1) (.lst ws'), I.laid (t' := s.toks) (fun _ _ => PyProof.Rows.sortedAll_old) (Nat.le_succ _) ⟨hlen2, out, ep, t1, he'⟩, rfl, q ws' _ t2 (I.hok.fresh (Nat.le_succ _))⟩
/-- sorted(xs): what the items are as Lean data is named by hand -/
def oSortQ : RA G := fun rs ρ g Q => one (fun r => lsD (fun ds => ∃ (β : Type) (enc : β → PyData) (bs : List β), ds = bs.map enc ∧ PySem.W.AllAlike (bs.map enc) ∧ PySem.W.Sortable (bs.map enc) ∧ bs.length ≤ 16777216 ∧ (∀ b ∈ bs, (enc b).depth ≤ 60) ∧ PyData.hasDictAll (bs.map enc) = false ∧
  Q (.nl ((bs.mergeSort (PySem.W.dataLe false enc)).map enc)) ρ g) (rd r ρ)) rs
theorem daAll_pair {β : Type} {enc : β → PyData} {K : PySem.W.Frag} {F : Hp} {ws : List V} {bs : List β} (h : DaAll K F ws (bs.map enc)) : ∀ {ws' : List V} {cs : List β}, Paired (At2 ws bs) ws' cs → DaAll K F ws' (cs.map enc)
  | _, _, .nil => .nil
  | _, _, .cons ⟨i, h1, h2⟩ t => by
    obtain ⟨d, e1, e2⟩ := daAll_nat h h1
    rw [List.getElem?_map, h2] at e1
    cases e1
    exact .cons e2 (daAll_pair h t)
theorem k_sortQ (hu : X.A.units + 64 < cLine) (hK : K = X.K := by rfl) : CallR X (.builtin "sorted") (rSortQ K) ∧ SimC Z (rSortQ K) (oSortQ (G := G)) := ⟨by
  rw [hK]
  exact cr_sortQ hu, fun f F ad ρ g σ H vs rs Q R h q P hP => by
  obtain ⟨r, rfl, q2⟩ := one_of q
  obtain ⟨v, rfl, h0⟩ := vrs1 h
  obtain ⟨ds, e, q3⟩ := lsD_of q2
  obtain ⟨β, enc, bs, rfl, hal, hso, hl, hd, hn, q4⟩ := q3
  obtain ⟨a, vs, rfl, ha, da⟩ := R.items h0 e
  exact ⟨β, enc, a, vs, bs, rfl, .inl (.inl ha), daAll_reads hn (daAll_mono R.fin.sub da), hal, hso, hl, hd, fun ws' p hp hf => hP _ _ (R.newL hf (daAll_pair da hp) q4)⟩⟩
end L3
end
section
/-! L5u: rings looked at again, and less a way: plain mathematics. -/
namespace L3
open PySem L2
variable {B : Book} {ws : List Int}
theorem rings_iff {r : List Int} : r ∈ ringsL B ws ↔ ∃ k ∈ ws, onR B ws k = true ∧ r = ringOf B ws k := by
  have h := ringInv_take (B := B) (ws := ws) ws.length
  rw [List.take_length] at h
  constructor
  · exact h.sub r
  · rintro ⟨k, hk, ho, rfl⟩
    exact h.all k hk ho
theorem rings_nd : (ringsL B ws).Nodup := by
  have key : ∀ (ns : List Int) (acc : List (List Int)), acc.Nodup → (ns.foldl (ringStep B ws) acc).Nodup := by
    intro ns
    induction ns with
    | nil => exact fun acc h => h
    | cons k ns ih =>
      intro acc h
      refine ih _ ?_
      unfold ringStep
      split
      · rename_i q
        rw [List.nodup_append]
        exact ⟨h, by simp, fun a ha b hb e => q.2 (by rw [List.mem_singleton.mp hb] at e; rw [← e]; exact ha)⟩
      · exact h
  exact key ws [] List.nodup_nil
theorem rch_ring {k x y : Int} (hk : k ∈ ws) (hx : Rch B ws (wAt B k).b x) (h : Rch B ws x y) : Rch B ws y (wAt B k).a → Rch B (ringOf B ws k) x y := by
  induction h with
  | refl => exact fun _ => .refl _
  | step h1 m ih =>
    rename_i i
    intro hy
    refine .step (ih ((Rch.one m).trans hy)) (ring_mem.mpr ⟨m, rch_iff.mpr (hx.trans h1), rch_iff.mpr hy⟩)
theorem ring_in {k j : Int} (h : j ∈ ringOf B ws k) : j ∈ ws ∧ Rch B ws (wAt B k).b (wAt B j).a ∧ Rch B ws (wAt B j).b (wAt B k).a := by
  obtain ⟨h1, h2, h3⟩ := ring_mem.mp h
  exact ⟨h1, rch_iff.mp h2, rch_iff.mp h3⟩
theorem all_same {α : Type} {r : α} : ∀ {xs : List α}, xs.Nodup → r ∈ xs → (∀ x ∈ xs, x = r) → xs = [r]
  | [x], _, _, h => by rw [h x List.mem_cons_self]
  | x :: y :: xs, hn, _, h => by
    have h1 := h x List.mem_cons_self
    have h2 := h y (by simp)
    rw [List.nodup_cons] at hn
    exact absurd (by rw [h1, ← h2]; exact List.mem_cons_self) hn.1
/-- a ring's only ring is itself -/
theorem rings_self {r : List Int} (h : r ∈ ringsL B ws) : ringsL B r = [r] := by
  obtain ⟨k, hk, ho, rfl⟩ := rings_iff.mp h
  have hr : ∀ i ∈ ringOf B ws k, ∀ j ∈ ringOf B ws k, Rch B (ringOf B ws k) (wAt B j).b (wAt B i).a := fun i hi j hj => by
    obtain ⟨i1, i2, i3⟩ := ring_in hi
    obtain ⟨j1, j2, j3⟩ := ring_in hj
    exact rch_ring hk (j2.trans (.one j1)) ((j3.trans (.one hk)).trans i2) ((Rch.one i1).trans i3)
  have hself : ∀ j ∈ ringOf B ws k, ringOf B (ringOf B ws k) j = ringOf B ws k := fun j hj => by
    show (ringOf B ws k).filter (inRg B (ringOf B ws k) j) = ringOf B ws k
    rw [List.filter_eq_self]
    intro i hi
    unfold inRg
    rw [rch_iff.mpr (hr i hi j hj), rch_iff.mpr (hr j hj i hi)]
    rfl
  have hkk := onR_mem hk ho
  refine all_same rings_nd (rings_iff.mpr ⟨k, hkk, rch_iff.mpr (hr k hkk k hkk), (hself k hkk).symm⟩) fun q hq => ?_
  obtain ⟨j, hj, _, rfl⟩ := rings_iff.mp hq
  exact hself j hj
/-- a ring has all ways between its rooms -/
theorem ring_rooms {r : List Int} (h : r ∈ ringsL B ws) : (ws.filter fun j => decide ((wAt B j).a ∈ r.map fun i => (wAt B i).a) && decide ((wAt B j).b ∈ r.map fun i => (wAt B i).a)) = r := by
  obtain ⟨k, hk, ho, rfl⟩ := rings_iff.mp h
  have hkk := onR_mem hk ho
  generalize hR : ringOf B ws k = R at hkk ⊢
  conv => rhs; rw [← hR]; unfold ringOf
  apply List.filter_congr
  intro j hj
  rw [Bool.eq_iff_iff, Bool.and_eq_true, decide_eq_true_eq, decide_eq_true_eq]
  have hin : inRg B ws k j = true ↔ j ∈ R := by
    rw [← hR]
    unfold ringOf
    rw [List.mem_filter]
    exact ⟨fun h => ⟨hj, h⟩, fun h => h.2⟩
  rw [hin]
  constructor
  · rintro ⟨h1, h2⟩
    obtain ⟨i, hi, e1⟩ := List.mem_map.mp h1
    obtain ⟨l, hl, e2⟩ := List.mem_map.mp h2
    rw [← hR] at hi hl ⊢
    obtain ⟨i1, i2, i3⟩ := ring_in hi
    obtain ⟨l1, l2, l3⟩ := ring_in hl
    refine ring_mem.mpr ⟨hj, rch_iff.mpr ?_, rch_iff.mpr ?_⟩
    · rw [← e1]; exact i2
    · rw [← e2]; exact (Rch.one l1).trans l3
  · intro h
    refine ⟨List.mem_map.mpr ⟨j, h, rfl⟩, ?_⟩
    -- the way behind j on the way back
    rw [← hR] at h hkk ⊢
    obtain ⟨j1, j2, j3⟩ := ring_in h
    -- walk from b_j to a_k: its first way leads from b_j
    have fst : ∀ {x y : Int}, Rch B (ringOf B ws k) x y → x = y ∨ ∃ i ∈ ringOf B ws k, (wAt B i).a = x := fun {x y} h => by
      induction h with
      | refl => exact .inl rfl
      | step h1 m ih =>
        rename_i i
        rcases ih with e | e
        · exact .inr ⟨i, m, e.symm⟩
        · exact .inr e
    have hw : Rch B (ringOf B ws k) (wAt B j).b (wAt B k).a := rch_ring hk (j2.trans (.one j1)) j3 (.refl _)
    rcases fst hw with e | ⟨i, hi, e⟩
    · exact List.mem_map.mpr ⟨k, hkk, e.symm⟩
    · exact List.mem_map.mpr ⟨i, hi, e⟩
/-! ### less a way -/
theorem rch_avoid {k x y : Int} (h : Rch B ws x y) : Rch B (ws.filter fun j => decide (j ≠ k)) x y ∨ (Rch B ws x (wAt B k).a ∧ Rch B ws (wAt B k).b y) := by
  induction h with
  | refl => exact .inl (.refl _)
  | step h1 m ih =>
    rename_i i
    rcases ih with e | ⟨e1, e2⟩
    · by_cases hi : i = k
      · subst hi
        exact .inr ⟨h1, .refl _⟩
      · exact .inl (.step e (List.mem_filter.mpr ⟨m, by simpa using hi⟩))
    · exact .inr ⟨e1, .step e2 m⟩
theorem less_mono {k x y : Int} (h : Rch B (ws.filter fun j => decide (j ≠ k)) x y) : Rch B ws x y := h.mono fun _ hj => (List.mem_filter.mp hj).1
theorem ring_other {k j : Int} (hj : j ∈ ws) (hn : ¬ (Rch B ws (wAt B k).b (wAt B j).a ∧ Rch B ws (wAt B j).b (wAt B k).a)) (ho : onR B ws j = true) :
    onR B (ws.filter fun i => decide (i ≠ k)) j = true ∧ ringOf B (ws.filter fun i => decide (i ≠ k)) j = ringOf B ws j := by
  have av : ∀ {i : Int}, i ∈ ws → Rch B ws (wAt B j).b (wAt B i).a → Rch B ws (wAt B i).b (wAt B j).a → i ≠ k ∧ Rch B (ws.filter fun i => decide (i ≠ k)) (wAt B j).b (wAt B i).a ∧ Rch B (ws.filter fun i => decide (i ≠ k)) (wAt B i).b (wAt B j).a := fun {i} hi h1 h2 => by
    refine ⟨fun e => hn (by subst e; exact ⟨h2, h1⟩), ?_, ?_⟩
    · rcases rch_avoid (k := k) h1 with e | ⟨e1, e2⟩
      · exact e
      · exact absurd ⟨(e2.trans (.one hi)).trans h2, e1⟩ hn
    · rcases rch_avoid (k := k) h2 with e | ⟨e1, e2⟩
      · exact e
      · exact absurd ⟨e2, (h1.trans (.one hi)).trans e1⟩ hn
  refine ⟨rch_iff.mpr ?_, ?_⟩
  · have ho2 := rch_iff.mp ho
    exact (av hj ho2 ho2).2.1
  · unfold ringOf
    rw [List.filter_filter]
    apply List.filter_congr
    intro i hi
    unfold inRg
    rw [Bool.eq_iff_iff]
    simp only [Bool.and_eq_true, rch_iff, decide_eq_true_eq]
    constructor
    · rintro ⟨⟨h1, h2⟩, _⟩
      exact ⟨less_mono h1, less_mono h2⟩
    · rintro ⟨h1, h2⟩
      obtain ⟨a1, a2, a3⟩ := av hi h1 h2
      exact ⟨⟨a2, a3⟩, a1⟩
theorem ring_same {k j : Int} (hk : k ∈ ws) (hj : j ∈ ringOf B ws k) (hjk : j ≠ k) :
    onR B (ws.filter fun i => decide (i ≠ k)) j = onR B ((ringOf B ws k).filter fun i => decide (i ≠ k)) j ∧ ringOf B (ws.filter fun i => decide (i ≠ k)) j = ringOf B ((ringOf B ws k).filter fun i => decide (i ≠ k)) j := by
  generalize hS : (ws.filter fun i => decide (i ≠ k)) = S
  generalize hP : ((ringOf B ws k).filter fun i => decide (i ≠ k)) = P
  obtain ⟨j1, j2, j3⟩ := ring_in hj
  have hjS : j ∈ S := by rw [← hS]; exact List.mem_filter.mpr ⟨j1, by simpa using hjk⟩
  have PS : ∀ i ∈ P, i ∈ S := fun i hi => by
    rw [← hP] at hi
    obtain ⟨h1, h2⟩ := List.mem_filter.mp hi
    rw [← hS]
    exact List.mem_filter.mpr ⟨(ring_in h1).1, h2⟩
  have RP : ∀ i ∈ ringOf B S j, i ∈ P := fun i hi => by
    obtain ⟨i1, i2, i3⟩ := ring_in hi
    rw [← hS] at i1 i2 i3
    obtain ⟨i4, i5⟩ := List.mem_filter.mp i1
    rw [← hP]
    refine List.mem_filter.mpr ⟨ring_mem.mpr ⟨i4, rch_iff.mpr ?_, rch_iff.mpr ?_⟩, i5⟩
    · exact (j2.trans (.one j1)).trans (less_mono i2)
    · exact ((less_mono i3).trans (.one j1)).trans j3
  have go : ∀ {i : Int}, i ∈ S → Rch B S (wAt B j).b (wAt B i).a → Rch B S (wAt B i).b (wAt B j).a → Rch B P (wAt B j).b (wAt B i).a ∧ Rch B P (wAt B i).b (wAt B j).a := fun {i} hi h1 h2 =>
    ⟨(rch_ring hjS (.refl _) h1 ((Rch.one hi).trans h2)).mono RP, (rch_ring hjS (h1.trans (.one hi)) h2 (.refl _)).mono RP⟩
  refine ⟨?_, ?_⟩
  · rw [Bool.eq_iff_iff]
    unfold onR
    rw [rch_iff, rch_iff]
    exact ⟨fun h => (go hjS h h).1, fun h => h.mono PS⟩
  · have e1 : ringOf B S j = ws.filter fun i => inRg B S j i && decide (i ≠ k) := by
      unfold ringOf
      rw [← hS, List.filter_filter]
    have e2 : ringOf B P j = ws.filter fun i => (inRg B P j i && decide (i ≠ k)) && inRg B ws k i := by
      conv => lhs; unfold ringOf; rw [← hP]
      rw [List.filter_filter]
      conv => lhs; arg 2; unfold ringOf
      rw [List.filter_filter]
      rw [hP]
    rw [e1, e2]
    apply List.filter_congr
    intro i hi
    rw [Bool.eq_iff_iff]
    unfold inRg
    simp only [Bool.and_eq_true, rch_iff, decide_eq_true_eq]
    constructor
    · rintro ⟨⟨h1, h2⟩, h3⟩
      have hiS : i ∈ S := by rw [← hS]; exact List.mem_filter.mpr ⟨hi, by simpa using h3⟩
      have hiR : i ∈ ringOf B S j := ring_mem.mpr ⟨hiS, rch_iff.mpr h1, rch_iff.mpr h2⟩
      have hiP := RP i hiR
      rw [← hP] at hiP
      obtain ⟨_, q2, q3⟩ := ring_in (List.mem_filter.mp hiP).1
      exact ⟨⟨go hiS h1 h2, h3⟩, q2, q3⟩
    · rintro ⟨⟨⟨h1, h2⟩, h3⟩, _⟩
      exact ⟨⟨h1.mono PS, h2.mono PS⟩, h3⟩
/-- the rings of all ways but one -/
theorem rings_less {k : Int} (hk : k ∈ ws) {r : List Int} : r ∈ ringsL B (ws.filter fun i => decide (i ≠ k)) ↔ (r ∈ ringsL B ws ∧ k ∉ r) ∨ (onR B ws k = true ∧ r ∈ ringsL B ((ringOf B ws k).filter fun i => decide (i ≠ k))) := by
  constructor
  · intro h
    obtain ⟨j, hj, ho, rfl⟩ := rings_iff.mp h
    obtain ⟨hj1, hj2⟩ := List.mem_filter.mp hj
    have hjk : j ≠ k := by simpa using hj2
    by_cases hin : j ∈ ringOf B ws k
    · obtain ⟨e1, e2⟩ := ring_same hk hin hjk
      refine .inr ⟨(ring_eq hk hin).2.2, rings_iff.mpr ⟨j, List.mem_filter.mpr ⟨hin, hj2⟩, by rw [← e1]; exact ho, e2⟩⟩
    · have hn : ¬ (Rch B ws (wAt B k).b (wAt B j).a ∧ Rch B ws (wAt B j).b (wAt B k).a) := fun ⟨a, b⟩ => hin (ring_mem.mpr ⟨hj1, rch_iff.mpr a, rch_iff.mpr b⟩)
      have ho2 : onR B ws j = true := rch_iff.mpr (less_mono (rch_iff.mp ho))
      obtain ⟨_, e2⟩ := ring_other hj1 hn ho2
      rw [e2]
      refine .inl ⟨rings_iff.mpr ⟨j, hj1, ho2, rfl⟩, fun hkr => ?_⟩
      obtain ⟨_, q2, q3⟩ := ring_in hkr
      exact hn ⟨q3, q2⟩
  · rintro (⟨h, hkr⟩ | ⟨ho, h⟩)
    · obtain ⟨j, hj, hoj, rfl⟩ := rings_iff.mp h
      have hjk : j ≠ k := fun e => hkr (by subst e; exact onR_mem hj hoj)
      have hn : ¬ (Rch B ws (wAt B k).b (wAt B j).a ∧ Rch B ws (wAt B j).b (wAt B k).a) := fun ⟨a, b⟩ => hkr (ring_mem.mpr ⟨hk, rch_iff.mpr b, rch_iff.mpr a⟩)
      obtain ⟨e1, e2⟩ := ring_other hj hn hoj
      exact rings_iff.mpr ⟨j, List.mem_filter.mpr ⟨hj, by simpa using hjk⟩, e1, e2.symm⟩
    · obtain ⟨j, hj, hoj, rfl⟩ := rings_iff.mp h
      obtain ⟨hj1, hj2⟩ := List.mem_filter.mp hj
      have hjk : j ≠ k := by simpa using hj2
      obtain ⟨e1, e2⟩ := ring_same hk hj1 hjk
      exact rings_iff.mpr ⟨j, List.mem_filter.mpr ⟨(ring_in hj1).1, hj2⟩, by rw [e1]; exact hoj, e2.symm⟩
theorem ring_uniq {k : Int} (hk : k ∈ ws) {r : List Int} (hr : r ∈ ringsL B ws) (h : k ∈ r) : onR B ws k = true ∧ r = ringOf B ws k := by
  obtain ⟨j, hj, hoj, rfl⟩ := rings_iff.mp hr
  obtain ⟨e1, e2, _⟩ := ring_eq hj h
  exact ⟨e2, e1.symm⟩
theorem perm_nd {α : Type} [DecidableEq α] : ∀ {a b : List α}, a.Nodup → b.Nodup → (∀ x, x ∈ a ↔ x ∈ b) → a.Perm b
  | [], b, _, _, h => by
    cases b with
    | nil => exact .refl _
    | cons y b => exact absurd ((h y).mpr List.mem_cons_self) (by simp)
  | x :: a, b, ha, hb, h => by
    have hx : x ∈ b := (h x).mp List.mem_cons_self
    rw [List.nodup_cons] at ha
    refine .trans (.cons x (perm_nd ha.2 (hb.erase x) fun y => ?_)) (List.perm_cons_erase hx).symm
    rw [hb.mem_erase_iff]
    constructor
    · intro hy
      exact ⟨fun e => ha.1 (by subst e; exact hy), (h y).mp (List.mem_cons_of_mem _ hy)⟩
    · rintro ⟨h1, h2⟩
      rcases List.mem_cons.mp ((h y).mpr h2) with e | e
      · exact absurd e h1
      · exact e
noncomputable def dueR (B : Book) (ws : List Int) (k : Int) (n : Nat) : List (List Int) := ((ringsL B ws).filter fun r => !decide (k ∈ r)) ++ ((ringsL B ws).take n).flatMap fun r => if k ∈ r then ringsL B (r.filter fun i => decide (i ≠ k)) else []
theorem due_perm {k : Int} (hk : k ∈ ws) : (dueR B ws k (ringsL B ws).length).Perm (ringsL B (ws.filter fun i => decide (i ≠ k))) := by
  unfold dueR
  rw [List.take_length]
  have hfl : (ringsL B ws).flatMap (fun r => if k ∈ r then ringsL B (r.filter fun i => decide (i ≠ k)) else []) = if onR B ws k = true then ringsL B ((ringOf B ws k).filter fun i => decide (i ≠ k)) else [] := by
    have emp : ∀ xs : List (List Int), (∀ r ∈ xs, k ∉ r) → xs.flatMap (fun r => if k ∈ r then ringsL B (r.filter fun i => decide (i ≠ k)) else []) = [] := fun xs h => by
      rw [List.flatMap_eq_nil_iff]
      intro r hr
      rw [if_neg (h r hr)]
    by_cases ho : onR B ws k = true
    · rw [if_pos ho]
      have hm : ringOf B ws k ∈ ringsL B ws := rings_iff.mpr ⟨k, hk, ho, rfl⟩
      obtain ⟨A, C, e⟩ := List.append_of_mem hm
      have hnd := rings_nd (B := B) (ws := ws)
      have huq : ∀ r ∈ ringsL B ws, k ∈ r → r = ringOf B ws k := fun r hr h => (ring_uniq hk hr h).2
      have hkm := onR_mem hk ho
      generalize ringsL B ws = L at *
      subst e
      rw [List.nodup_append, List.nodup_cons] at hnd
      obtain ⟨_, ⟨n1, _⟩, n3⟩ := hnd
      rw [List.flatMap_append, List.flatMap_cons, if_pos hkm, emp A, emp C, List.nil_append, List.append_nil]
      · intro r hr h
        exact n1 (by rw [← huq r (by simp [hr]) h]; exact hr)
      · intro r hr h
        exact n3 r hr _ List.mem_cons_self (huq r (by simp [hr]) h)
    · rw [if_neg ho]
      exact emp _ fun r hr h => ho (ring_uniq hk hr h).1
  rw [hfl]
  refine perm_nd ?_ rings_nd fun r => ?_
  · rw [List.nodup_append]
    refine ⟨rings_nd.filter _, ?_, fun a ha b hb e => ?_⟩
    · split
      · exact rings_nd
      · exact List.nodup_nil
    · subst e
      split at hb
      · rename_i ho
        obtain ⟨h1, h2⟩ := List.mem_filter.mp ha
        obtain ⟨j, hj, hoj, rfl⟩ := rings_iff.mp hb
        have hjr := onR_mem hj hoj
        have hjR := (List.mem_filter.mp hj).1
        obtain ⟨i, hi, hoi, e⟩ := rings_iff.mp h1
        rw [e] at hjr h2
        have e2 := (ring_eq hi hjr).1
        have e3 := (ring_eq hk hjR).1
        have : k ∈ ringOf B ws i := by rw [← e2, e3]; exact onR_mem hk ho
        simp [this] at h2
      · cases hb
  · rw [List.mem_append, List.mem_filter, rings_less hk]
    constructor
    · rintro (⟨h1, h2⟩ | h)
      · exact .inl ⟨h1, by simpa using h2⟩
      · split at h
        · rename_i ho
          exact .inr ⟨ho, h⟩
        · cases h
    · rintro (⟨h1, h2⟩ | ⟨ho, h⟩)
      · exact .inl ⟨h1, by simpa using h2⟩
      · exact .inr (by rw [if_pos ho]; exact h)
/-- what is sorted of the same things is the same -/
theorem sorted_perm {a b : List (List Int)} (h : a.Perm b) : a.mergeSort (PySem.W.dataLe false intsLD) = b.mergeSort (PySem.W.dataLe false intsLD) := by
  have e : PySem.W.dataLe false intsLD = fun p q => decide (p ≤ q) := PySem.W.dataLe_rows (fun p : List Int => p)
  rw [e]
  have tr : ∀ x y z : List Int, decide (x ≤ y) = true → decide (y ≤ z) = true → decide (x ≤ z) = true := fun x y z h1 h2 => by
    rw [decide_eq_true_eq] at *
    exact List.le_trans h1 h2
  have tot : ∀ x y : List Int, (decide (x ≤ y) || decide (y ≤ x)) = true := fun x y => by
    rcases List.le_total x y with h | h <;> simp [h]
  have p1 := List.pairwise_mergeSort tr tot a
  have p2 := List.pairwise_mergeSort tr tot b
  have pp : (a.mergeSort fun p q => decide (p ≤ q)).Perm (b.mergeSort fun p q => decide (p ≤ q)) := ((List.mergeSort_perm a _).trans h).trans (List.mergeSort_perm b _).symm
  have one : ∀ {xs ys : List (List Int)}, xs.Perm ys → xs.Pairwise (fun p q => decide (p ≤ q) = true) → ys.Pairwise (fun p q => decide (p ≤ q) = true) → xs = ys := fun {xs} => by
    induction xs with
    | nil => intro ys hp _ _; exact (List.nil_perm.mp hp).symm
    | cons x xs ih =>
      intro ys hp h1 h2
      cases ys with
      | nil => exact absurd hp.length_eq (by simp)
      | cons y ys =>
        rw [List.pairwise_cons] at h1 h2
        have hxy : x = y := by
          rcases List.mem_cons.mp (hp.mem_iff.mp List.mem_cons_self) with e | e
          · exact e
          · rcases List.mem_cons.mp (hp.mem_iff.mpr List.mem_cons_self) with e2 | e2
            · exact e2.symm
            · have a1 := h1.1 y e2
              have a2 := h2.1 x e
              rw [decide_eq_true_eq] at a1 a2
              exact List.le_antisymm a1 a2
        subst hxy
        rw [ih hp.cons_inv h1.2 h2.2]
  exact one pp p1 p2
end L3
end
section
/-! L5v: dict(xs) of a list of pairs with keys of their own. -/
namespace L3
open PySem L2
variable {G : Type} {K : PySem.W.Frag} {X : Cx} {Z : Zx K G}
theorem putK_new {k : Key} {v : V} {kvs : List (Key × V)} (h : k ∉ kvs.map Prod.fst) : putK kvs k v = kvs ++ [(k, v)] := by
  unfold putK
  rw [if_neg]
  intro e
  obtain ⟨p, hp, e2⟩ := List.any_eq_true.mp e
  exact h (List.mem_map.mpr ⟨p, hp, of_decide_eq_true e2⟩)
theorem merge_new : ∀ {kvs acc : List (Key × V)}, (acc.map Prod.fst ++ kvs.map Prod.fst).Nodup → mergeK acc kvs = acc ++ kvs
  | [], acc, _ => by rw [List.append_nil]; rfl
  | (k, v) :: kvs, acc, h => by
    have h1 : k ∉ acc.map Prod.fst := fun hk => by
      rw [List.nodup_append] at h
      exact h.2.2 k hk k (by simp) rfl
    have e : mergeK acc ((k, v) :: kvs) = mergeK (putK acc k v) kvs := rfl
    rw [e, putK_new h1, merge_new (kvs := kvs) (by rw [List.map_append, List.append_assoc]; exact h), List.append_assoc]
    rfl
def rDictP (K : PySem.W.Frag) : List V → Hp → VK → Prop := fun xs H Q => ∃ (a : Addr) (ps : List Addr) (kvs : List (Key × V)), xs = [.ref a] ∧ SqL K H a (ps.map V.ref) ∧ Paired (fun p kv => SqT K H p [kV kv.1, kv.2]) ps kvs ∧
    ∀ p, H p = none → Q (.ref p) (upd H p (.dK (mergeK [] kvs)))
def oDictP : RA G := fun rs ρ g Q => one (fun r => lsD (fun ds => ∃ kvs : List (Key × PyData), ds = kvs.map (fun p => .tuple [kD p.1, p.2]) ∧ (kvs.map Prod.fst).Nodup ∧ Q (.nd (kvs.map fun p => (kD p.1, p.2))) ρ g) (rd r ρ)) rs
theorem pairs_da {K : PySem.W.Frag} {F : Hp} : ∀ {kvs : List (Key × PyData)} {vs : List V}, DaAll K F vs (kvs.map fun p => .tuple [kD p.1, p.2]) →
    ∃ (ps : List Addr) (ws : List (Key × V)), vs = ps.map V.ref ∧ Paired (fun p kv => SqT K F p [kV kv.1, kv.2]) ps ws ∧ DaKv K F ws (kvs.map fun p => (kD p.1, p.2)) ∧ ws.map Prod.fst = kvs.map Prod.fst
  | [], _, .nil => ⟨[], [], rfl, .nil, .nil, rfl⟩
  | (k, d) :: kvs, _, .cons h t => by
    obtain ⟨ps, ws, e1, e2, e3, e4⟩ := pairs_da t
    cases h
    rename_i a xs hs hd
    cases hd with
    | cons hk hd =>
      cases hd with
      | cons hv hn =>
        cases hn
        rename_i kv vv
        have ek : kv = kV k := by
          cases k with
          | inl i => cases hk; rfl
          | inr x => cases hk; rfl
        subst ek
        exact ⟨a :: ps, (k, vv) :: ws, by rw [e1]; rfl, .cons hs e2, .cons hv e3, by rw [List.map_cons, List.map_cons, e4]⟩
theorem k_dictP (hc : X.calm = true := by rfl) (hK : K = X.K := by rfl) : CallR X (.type "dict") (rDictP K) ∧ SimC Z (rDictP K) (oDictP (G := G)) := ⟨by rw [hK]; exact call_dictP hc, fun f F ad ρ g σ H vs rs Q R h q P hP => by
  obtain ⟨r, rfl, q⟩ := one_of q
  obtain ⟨v, rfl, h0⟩ := vrs1 h
  obtain ⟨ds, e, q⟩ := lsD_of q
  obtain ⟨kvs, rfl, hnd, q⟩ := q
  obtain ⟨a, vs, rfl, ha, da⟩ := R.items h0 e
  obtain ⟨ps, ws, e1, e2, e3, e4⟩ := pairs_da da
  subst e1
  refine ⟨a, ps, ws, rfl, .inl (.inl ha), ?_, fun l hl => hP _ _ ?_⟩
  · clear e3 e4 da ha
    induction e2 with
    | nil => exact .nil
    | cons h _ ih => exact .cons (Evl.ex_t R.fin.sub h) ih
  · rw [merge_new (acc := []) (by rw [e4]; exact hnd), List.nil_append]
    exact R.newD hl e3 q⟩
end L3
end
section
/-! L5w: sum of a list or a tuple of whole numbers. -/
namespace L3
open PySem PySem.Spec PyProof.Rows L2
variable {G : Type} {K : PySem.W.Frag} {X : Cx} {Z : Zx K G}
def rSumT (K : PySem.W.Frag) : List V → Hp → VK → Prop := fun vs H Q => ∃ (a : Addr) (ns : List Int), vs = [V.ref a] ∧ SqT K H a (ns.map V.int) ∧ Q (.int ns.sum) H
theorem cr_sumT (hc : X.calm = true) : CallR X (.builtin "sum") (rSumT X.K) := by
  intro pins s σ H vs us Q I r h
  obtain ⟨a, ns, rfl, hs, q⟩ := h
  obtain ⟨its, rv, hl, _⟩ := I.tuple hs
  rw [Vals.ref1 r]
  have hi := rv.ints
  obtain ⟨xs, e⟩ := hi.allInts.items
  have hn : numsOf (intItems xs).toList = ns := by rw [← e]; exact hi.numsOf
  rw [nums_intItems] at hn
  rw [e] at hl
  refine PySem.W.ktm_sumG (I.ok.hd hc) hl fun h' tk t' hk => ?_
  rw [preSum_eq, List.take_of_length_le (by simp), hn]
  exact ⟨.int ns.sum, H, I.kept hk, ⟨t', rfl⟩, q⟩
def rSumX (K : PySem.W.Frag) : List V → Hp → VK → Prop := fun vs H Q => rSum K vs H Q ∨ rSumT K vs H Q
def oSumX : RA G := fun rs ρ g Q => one (fun r => seqD (fun ds => opK (intsL ds) fun ns => Q (.dt (.int ns.sum)) ρ g) (rd r ρ)) rs
theorem k_sumX (hc : X.calm = true := by rfl) (hK : K = X.K := by rfl) : CallR X (.builtin "sum") (rSumX K) ∧ SimC Z (rSumX K) (oSumX (G := G)) := ⟨by
  rw [hK]
  intro pins s σ H vs us Q I r h
  rcases h with h | h
  · exact cr_sum hc pins s σ H vs us Q I r h
  · exact cr_sumT hc pins s σ H vs us Q I r h, fun f F ad ρ g σ H vs rs Q R h q P hP => by
  obtain ⟨r, rfl, q2⟩ := one_of q
  obtain ⟨v, rfl, h0⟩ := vrs1 h
  obtain ⟨ds, e, q3⟩ := seqD_of q2
  obtain ⟨ns, ei, q4⟩ := opK_e q3
  rcases e with e | e
  · obtain ⟨a, vs, rfl, ha, da⟩ := R.items h0 e
    rw [intsL_of ei] at da
    have ev := daAll_ints da
    subst ev
    exact .inl ⟨a, ns, rfl, .inl (.inl ha), hP _ _ (R.dat (.int _) q4)⟩
  · obtain ⟨a, vs, rfl, ha, da⟩ := R.titems h0 e
    rw [intsL_of ei] at da
    have ev := daAll_ints da
    subst ev
    exact .inr ⟨a, ns, rfl, Evl.ex_t R.fin.sub ha, hP _ _ (R.dat (.int _) q4)⟩⟩
end L3
end
section
/-! L5x: xs.remove(x) of data in a list. -/
namespace L3
open PySem PySem.Spec PyProof.Rows L2
variable {G : Type} {K : PySem.W.Frag} {X : Cx} {Z : Zx K G}
def rRemQ (K : PySem.W.Frag) : V → List V → Hp → VK → Prop := fun x vs H Q => ∃ (α : Type) (_ : DecidableEq α) (_ : PySem.W.Datum α) (l : Addr) (ws : List V) (v : V) (xs : List α) (x0 : α) (j : Nat), x = .ref l ∧ vs = [v] ∧ H l = some (.lst ws) ∧ DpAll K H ws (xs.map (PySem.W.Datum.toD (α := α))) ∧ Dp K H v (PySem.W.Datum.toD x0) ∧ PySem.W.Datum.depth α ≤ 60 ∧
  xs[j]? = some x0 ∧ (∀ m, m < j → xs[m]? ≠ some x0) ∧ Q .non (upd H l (.lst (ws.eraseIdx j)))
theorem mt_remQ (hu : X.A.units + 64 < cLine) : MtM X "list.remove" (rRemQ X.K) := by
  intro pins s σ H x vs v us Q I rx rv h
  obtain ⟨α, i1, i2, l, ws, w, xs, x0, j, rfl, rfl, hH, hd, hx, hdep, hj, hno, q⟩ := h
  cases rx
  obtain ⟨u, rfl, ru⟩ := rv.one
  obtain ⟨z, its, n, r, hl, e⟩ := I.lstM hH
  obtain ⟨as, hr⟩ := Dp.readsAll I _ _ _ hd r
  obtain ⟨bs, hrx⟩ := Dp.reads I _ _ _ hx ru
  refine PySem.W.remove_list_datum (vs := its.toArray) ⟨_, e, rfl, n, rfl⟩ ⟨as, by simpa using hr⟩ ⟨bs, hrx⟩ (by omega) hj hno (by rw [List.size_toArray]; omega) ?_
  refine ⟨.non, _, I.lset (its' := its.eraseIdx j) hH e ?_ (r.eraseIdx j) ?_, rfl, q⟩
  · show its.toArray.eraseIdxIfInBounds j = (its.eraseIdx j).toArray
    rw [List.eraseIdxIfInBounds_toArray]
  · have := len_erase ws j
    omega
/-- xs.remove(x): what the items are as Lean data is named by hand -/
def kRemQ : KL G := fun i ds rs ρ g Q => one (fun r => opK (rd r ρ) fun d => ∃ (α : Type) (_ : DecidableEq α) (_ : PySem.W.Datum α) (xs : List α) (x0 : α) (j : Nat), ds = xs.map (PySem.W.Datum.toD (α := α)) ∧ d = PySem.W.Datum.toD x0 ∧ PySem.W.Datum.depth α ≤ 60 ∧ xs[j]? = some x0 ∧ (∀ m, m < j → xs[m]? ≠ some x0) ∧ Q (.dt .none) (ds.eraseIdx j) ρ g) rs
theorem m_remQ : SimL Z (rRemQ K) (kRemQ (G := G)) := fun f F ad ρ g σ H i vs ws ds rs Q R hi hH da hv q P hP => by
  obtain ⟨r, rfl, q2⟩ := one_of q
  obtain ⟨v, rfl, h0⟩ := vrs1 hv
  obtain ⟨d, e, q⟩ := opK_e q2
  obtain ⟨α, i1, i2, xs, x0, j, rfl, rfl, hdep, hj, hno, q⟩ := q
  exact ⟨α, i1, i2, _, vs, v, xs, x0, j, rfl, rfl, hH, daAll_reads (noDict_datum xs) (daAll_mono R.fin.sub da), da_reads (noDict_of_plain _ (PySem.W.Datum.plain x0)) (R.hrd h0 e), hdep, hj, hno, hP F ρ .non _ _ (.dt .none) (Evl.Ex.refl F) R hi (da.erase j) .non ⟨_, rfl⟩ q⟩
end L3
end
section
/-! L5y: rings in order: being met is an order on different rings. -/
namespace L3
open PySem PySem.Spec PyProof.Rows L2
variable {B : Book} {ws : List Int}
/-- the room a ring is known by: that its first way leads from -/
def fstR (B : Book) (r : List Int) : Int := (wAt B (r.headD 0)).a
theorem ring_hd {r : List Int} (h : r ∈ ringsL B ws) : ∃ k t, r = k :: t ∧ k ∈ ws ∧ onR B ws k = true ∧ r = ringOf B ws k := by
  obtain ⟨j, hj, hoj, e⟩ := rings_iff.mp h
  have hm : j ∈ r := by rw [e]; exact onR_mem hj hoj
  cases r with
  | nil => cases hm
  | cons k t =>
    have hk : k ∈ ringOf B ws j := by rw [← e]; exact List.mem_cons_self
    have hkw := (ring_in hk).1
    obtain ⟨u1, u2⟩ := ring_uniq hkw h List.mem_cons_self
    exact ⟨k, t, rfl, hkw, u1, u2⟩
theorem ring_anti {r s : List Int} (hr : r ∈ ringsL B ws) (hs : s ∈ ringsL B ws) (h1 : Rch B ws (fstR B r) (fstR B s)) (h2 : Rch B ws (fstR B s) (fstR B r)) : r = s := by
  obtain ⟨k, t, rfl, hk, ok, ek⟩ := ring_hd hr
  obtain ⟨j, u, rfl, hj, oj, ej⟩ := ring_hd hs
  have hk1 := (ring_in (onR_mem hk ok)).2.1
  have hj1 := (ring_in (onR_mem hj oj)).2.1
  have hm : j ∈ ringOf B ws k := ring_mem.mpr ⟨hj, rch_iff.mpr (hk1.trans h1), rch_iff.mpr (hj1.trans h2)⟩
  rw [ek, ej]
  exact (ring_eq hk hm).1.symm
/-- among rings there is one that no other meets -/
theorem ring_first : ∀ (L : List (List Int)), L ≠ [] → (∀ r ∈ L, r ∈ ringsL B ws) → ∃ r ∈ L, ∀ o ∈ L, o ≠ r → ¬ Rch B ws (fstR B o) (fstR B r)
  | [], h, _ => absurd rfl h
  | [r], _, _ => ⟨r, List.mem_cons_self, fun o ho hne => absurd (by simpa using ho) hne⟩
  | x :: y :: L, _, h => by
    obtain ⟨r, hr, hm⟩ := ring_first (y :: L) (by simp) fun r hr => h r (List.mem_cons_of_mem _ hr)
    by_cases q : x ≠ r ∧ Rch B ws (fstR B x) (fstR B r)
    · refine ⟨x, List.mem_cons_self, fun o ho hne hR => ?_⟩
      rcases List.mem_cons.mp ho with e | ho
      · exact hne e
      · by_cases e : o = r
        · subst e
          exact q.1 (ring_anti (h x List.mem_cons_self) (h o (List.mem_cons_of_mem _ hr)) q.2 hR)
        · exact hm o ho e (hR.trans q.2)
    · refine ⟨r, List.mem_cons_of_mem _ hr, fun o ho hne hR => ?_⟩
      rcases List.mem_cons.mp ho with e | ho
      · subst e
        exact q ⟨hne, hR⟩
      · exact hm o ho hne hR
end L3
end
section
/-! L5z: a comprehension over an own list that stays an own list. -/
namespace L3
open PySem PySem.Spec PyProof.Rows L2
variable {G : Type} {K : PySem.W.Frag} {X : Cx} {Z : Zx K G}
def eKp (j : Nat) (items : List PyData) (e : DT G) : DT G := fun ρ g Q => e ρ g fun r ρ4 g4 => fz1 r ρ4 fun d ρ5 => ρ5[j]? = some (.ls items) ∧ Q (.dt d) ρ5 g4
def cKp (j : Nat) (items : List PyData) (c : DB G) : DB G := fun ρ g Q => c ρ g fun b ρ3 g3 => ρ3[j]? = some (.ls items) ∧ Q b ρ3 g3
def dLcKS (j : Nat) (tg : DG G) (c : DB G) (e : DT G) (vs : List Nat) (ρ : En) (g : G) (Q : Rs → En → G → Prop) : Option Sl → Prop
  | some (.ls items) => leK items.length 16777216 (LcP items tg (cKp j items c) (eKp j items e) vs ρ g Q)
  | _ => False
def dLcK (j : Nat) (tg : DG G) (c : DB G) (e : DT G) (vs : List Nat) : DT G := fun ρ g Q => dLcKS j tg c e vs ρ g Q ρ[j]?
theorem keep_of {s : Option Sl} {ds : List PyData} {p : Prop} (h : s = some (.ls ds)) (hp : p) : s = some (.ls ds) ∧ p := ⟨h, hp⟩
theorem own_walk {f : Fx} {F : Hp} {ad : Nat → Addr} {ρ : En} {g : G} {σ : L2.St} {H : Hp} (R : Rel Z f F ad ρ g σ H) {j : Nat} {items : List PyData} {a : Addr} (hj : ρ[j]? = some (.ls items)) (ha : σ[j]? = some (some (.ref a))) :
    (Itl K a).stop items.length H ∧ ∀ i, i < items.length → (Itl K a).go i H ∧ ∀ x H', (Itl K a).yld i H x H' → H' = H ∧ ∃ d, items[i]? = some d ∧ Da K F x d := by
  obtain ⟨q1, q2, vs, q3, q4⟩ := R.slot j _ hj
  have e : a = ad j := by
    have z : some (some (V.ref (ad j))) = some (some (V.ref a)) := q1.symm.trans ha
    cases z; rfl
  subst e
  have hs : SqL K H (ad j) vs := .inl (.inl q3)
  refine ⟨⟨vs, hs, by rw [q4.length]; exact Nat.le_refl _⟩, fun i hi => ?_⟩
  have hi2 : i < vs.length := by rw [q4.length]; exact hi
  refine ⟨⟨vs, vs[i], hs, by simp [hi2]⟩, fun x H' y => ?_⟩
  obtain ⟨rfl, hx⟩ := y
  obtain ⟨d, hd, dv⟩ := q4.getV (hx vs hs)
  exact ⟨rfl, d, hd, dv⟩
theorem sim_lcK {gt : TG} {tt : TT} {te : TE} {tg : DG G} {c : DB G} {e : DT G} {vs : List Nat} {j : Nat} (hjv : j ∉ vs) (hg : SimG Z gt tg) (ho : GOwn gt vs) (hc : SimT Z tt c) (he : Sim Z te e) : Sim Z (tLc (iSeq K (tVar j)) gt tt te vs) (dLcK j tg c e vs) := fun f F ad ρ g σ H Q R h P hP => by
  have h : dLcKS j tg c e vs ρ g Q ρ[j]? := h
  cases hj : ρ[j]? with
  | none => rw [hj] at h; exact h.elim
  | some s =>
  rw [hj] at h
  cases s with
  | ls items =>
    obtain ⟨hlen, ⟨I, h0, hs, hd⟩⟩ := leK_e h
    obtain ⟨q1, q2, vs0, q3, q4⟩ := R.slot j _ hj
    refine ⟨.ref (ad j), q1, .inl ⟨ad j, rfl, ⟨vs0, .inl (.inl q3)⟩, ?_⟩⟩
    intro D hD
    have hD0 : D ∉ f.fp0 := fun hm => R.fin.keepN D (R.fin.fpo D hm) hD
    obtain ⟨R1', n1⟩ := R.laid (o := .lst []) hD
    have wj : ∀ {ρ2 : En} {x : Option Sl}, ρ2[j]? = x → (wipeE ρ2 vs)[j]? = x := fun {ρ2 x} h => by rw [wipeE_out hjv]; exact h
    have sj : (wipe σ vs)[j]? = some (some (.ref (ad j))) := by rw [wipe_out hjv]; exact q1
    have nw : ∀ {F2 : Hp} {ad2 : Nat → Addr} {ρ2 : En} {g2 : G}, NewA Z f F2 ad2 ρ2 g2 D → NewA Z f F2 ad2 (wipeE ρ2 vs) g2 D := fun {F2 ad2 ρ2 g2} n => ⟨n.1, fun j s hj hs => by
      by_cases hm : j ∈ vs
      · have hl : j < ρ2.length := by
          have := (List.getElem?_eq_some_iff.mp hj).1
          rwa [wipeE_len] at this
        rw [wipeE_in hm hl] at hj; cases hj; cases hs
      · rw [wipeE_out hm] at hj; exact n.2 j s hj hs⟩
    refine ⟨fun k m H' => m = items.length - k ∧ k ≤ items.length ∧ ∃ F2 ad2 ρ2 g2 av acc, Ex F F2 ∧ Z.ra g2 = Z.ra g ∧ Rel Z f F2 ad2 ρ2 g2 (wipe σ vs) H' ∧ NewA Z f F2 ad2 ρ2 g2 D ∧ H' D = some (.lst av) ∧ DaAll K F2 av acc ∧ acc.length ≤ k ∧ ρ2[j]? = some (.ls items) ∧ I k acc ρ2 g2,
      ⟨items.length, rfl, Nat.zero_le _, F, ad, wipeE ρ vs, g, [], [], Evl.Ex.refl F, rfl, R1'.wipe vs, nw n1, upd_same, .nil, Nat.le_refl _, wj hj, h0⟩, fun k m H2 hW => ?_⟩
    obtain ⟨rfl, hle, F2, ad2, ρ2, g2, av, acc, e2, eg2, R2, n2, hD2, da2, hal, hk2, hI⟩ := hW
    obtain ⟨stop, go⟩ := own_walk R2 hk2 sj
    by_cases hlt : k < items.length
    · obtain ⟨hgo, -⟩ := go k hlt
      have Rh := R2.hide n2 hD0 hD2
      obtain ⟨-, hy⟩ := (own_walk Rh hk2 sj).2 k hlt
      refine .inr ⟨hgo, fun H' => ∃ F2 ad2 ρ2 g2 av acc, Ex F F2 ∧ Z.ra g2 = Z.ra g ∧ Rel Z f F2 ad2 ρ2 g2 (wipe σ vs) H' ∧ NewA Z f F2 ad2 ρ2 g2 D ∧ H' D = some (.lst av) ∧ DaAll K F2 av acc ∧ acc.length ≤ k + 1 ∧ ρ2[j]? = some (.ls items) ∧ I (k + 1) acc ρ2 g2,
        fun H' z => ⟨items.length - (k + 1), by omega, rfl, hlt, z⟩, fun x H3 y => ?_⟩
      obtain ⟨rfl, d, hd3, dv⟩ := hy x H3 y
      refine ho x (wipe σ vs) _ (fun σ4 H4 => wipe σ4 vs = wipe σ vs → _) _ (fun σ4 H4 hw hp => ⟨hw.trans (wipe_wipe σ vs), hp (hw.trans (wipe_wipe σ vs))⟩) (hg _ F2 ad2 ρ2 g2 (wipe σ vs) _ x d _ Rh dv (hs k d acc ρ2 g2 hd3 hI) _ fun F4 ad4 ρ4 g4 σ4 H4 e4 er4 R4 q4 hw => ?_)
      refine hc _ F4 ad4 ρ4 g4 σ4 H4 _ R4 q4 _ fun b H5 q5 => ?_
      obtain ⟨F5, ad5, ρ5, g5, e5, er5, R5, k5, q5⟩ := q5
      have eA : Ex F F5 := e2.trans (e4.trans e5)
      cases b with
      | false =>
        rw [if_neg Bool.false_ne_true]
        replace q5 := ifb_f q5
        obtain ⟨R6, n6, hD6⟩ := Rel.unhide R2 (er5.trans er4) n2.1 hD0 R5
        have R7 := R6.wipe vs
        rw [hw] at R7
        exact ⟨F5, ad5, _, g5, av, acc, eA, er5.trans (er4.trans eg2), R7, nw n6, hD6, daAll_mono (e4.trans e5) da2, by omega, wj k5, q5⟩
      | true =>
        rw [if_pos rfl]
        replace q5 := ifb_t q5
        refine he _ F5 ad5 ρ5 g5 σ4 H5 _ R5 q5 _ fun v H6 q6 => ?_
        obtain ⟨F6, ad6, ρ6, g6, r6, e6, er6, R6, v6, q6⟩ := q6
        obtain ⟨d', ρ7, ef, k7, q6⟩ := fz1_of q6
        obtain ⟨F7, e7, R7, dv7⟩ := R6.hfz v6 ef
        obtain ⟨R8, n8, hD8⟩ := Rel.unhide R2 (er6.trans (er5.trans er4)) n2.1 hD0 R7
        have eB : Ex F2 F7 := (e4.trans e5).trans (e6.trans e7)
        refine ⟨av, hD8, by rw [sizeLine_eq, da2.length]; omega, ?_⟩
        have hw9 : OwnA Z f F7 g6 D := n8.1
        have R9 : Rel Z f F7 ad6 ρ7 g6 σ4 (upd H6 D (.lst (av ++ [v]))) := by
          refine ⟨⟨R8.fin.upd hw9, R8.len, fun j s hj => ?_, R8.inj⟩, R8.lx⟩
          have q := R8.slot j s hj
          cases s with
          | ls ds => obtain ⟨q1, q2, vs', q3, q4⟩ := q; exact ⟨q1, q2, vs', by rw [upd_ne (n8.2 j _ hj rfl)]; exact q3, q4⟩
          | dk ds => obtain ⟨q1, q2, vs', q3, q4⟩ := q; exact ⟨q1, q2, vs', by rw [upd_ne (n8.2 j _ hj rfl)]; exact q3, q4⟩
          | _ => exact q
        have R10 := R9.wipe vs
        rw [hw] at R10
        exact ⟨F7, ad6, _, g6, av ++ [v], acc ++ [d'], (e2.trans eB), er6.trans (er5.trans (er4.trans eg2)), R10, nw n8, upd_same, (daAll_mono eB da2).append (.cons dv7 .nil), by rw [List.length_append]; show acc.length + 1 ≤ k + 1; omega, wj k7, q6⟩
    · have e : k = items.length := by omega
      subst e
      obtain ⟨hun, q⟩ := hd acc ρ2 g2 hI
      replace hun := unAll_of hun
      refine .inl ⟨stop, hP _ H2 ⟨F2, ad2, ρ2, g2, .nl acc, e2, eg2, R2.slots (by rw [R2.len, wipe_length]) fun j s hj => ?_, ⟨D, av, rfl, n2, hD2, da2⟩, q⟩⟩
      by_cases hm : j ∈ vs
      · rw [hun j hm] at hj; cases hj; exact .inl rfl
      · exact .inr ⟨hj, (wipe_out hm).symm⟩
  | _ => exact h.elim
/-- [elt for target in NAME if ..]: NAME an own list that stays one -/
theorem e_lcK (j : Nat) {x : Str} {elt tg : Expr} {ifs : List Expr} {scope : Scope} (own : List (Str × Nat)) {pos px : Pos} {gt : TG} {tt : TT} {te : TE} {dg : DG G} {c : DB G} {e : DT G} (hN : X.N.Nodup)
    (hg : ∀ (s : Shared) (H : Hp) (C : Addr) (cl : List (Str × Addr)) (fp : List Addr), DGt (X.blk s H scope (compEnvC scope cl C X.env) fp) Z tg gt dg) (ho : GOwn gt (own.map (·.2)))
    (ht : ∀ (s : Shared) (H : Hp) (C : Addr) (cl : List (Str × Addr)) (fp : List Addr), DTs (X.blk s H scope (compEnvC scope cl C X.env) fp) Z ifs tt c)
    (he : ∀ (s : Shared) (H : Hp) (C : Addr) (cl : List (Str × Addr)) (fp : List Addr), DE (X.blk s H scope (compEnvC scope cl C X.env) fp) Z elt te e)
    (hj : X.N[j]? = some x := by rfl) (hv : Vis X.env.scope x := by first | exact Or.inl rfl | exact Or.inr (Or.inl rfl) | exact Or.inr (Or.inr rfl)) (hdb : (x == ("__debug__" : Str)) = false := by decide) (hcd : (x == ("__classdict__" : Str)) = false := by decide)
    (hjv : j ∉ own.map (·.2) := by decide) (hK : K = X.K := by rfl)
    (ok : BlkOk X.N X.env.scope scope own := by exact blkOk_by (by kernel_rfl)) (hc : X.calm = true := by rfl) (hs : ∀ y, foldedSetIterable (.Name x px) X.env y = pure y := by intro _; rfl) :
    DE X Z (.ListComp elt [⟨tg, .Name x px, ifs, 0⟩] scope pos) (tLc (iSeq K (tVar j)) gt tt te (own.map (·.2))) (dLcK j dg c e (own.map (·.2))) :=
  have s0 : Shared := {}
  ⟨by
    subst hK
    exact pe_lc hc hN (pi_seq (pv j hj hv hdb hcd)) ok (fun s H C cl fp => (hg s H C cl fp).pg) (fun s H C cl fp => (ht s H C cl fp).pts) (fun s H C cl fp => (he s H C cl fp).pe) hs,
    sim_lcK hjv (hg s0 (fun _ => none) 0 [] []).sim ho (ht s0 (fun _ => none) 0 [] []).sim (he s0 (fun _ => none) 0 [] []).sim⟩
/-- y = [elt for target in NAME if ..], NAME an own list that stays one -/
theorem s_setLcK (k j : Nat) {x y : Str} {py px : Pos} {elt tg : Expr} {ifs : List Expr} {scope : Scope} (own : List (Str × Nat)) {pos spos : Pos} {gt : TG} {tt : TT} {te : TE} {dg : DG G} {c : DB G} {e : DT G} (hN : X.N.Nodup)
    (hg : ∀ (s : Shared) (H : Hp) (C : Addr) (cl : List (Str × Addr)) (fp : List Addr), DGt (X.blk s H scope (compEnvC scope cl C X.env) fp) Z tg gt dg) (ho : GOwn gt (own.map (·.2)))
    (ht : ∀ (s : Shared) (H : Hp) (C : Addr) (cl : List (Str × Addr)) (fp : List Addr), DTs (X.blk s H scope (compEnvC scope cl C X.env) fp) Z ifs tt c)
    (he : ∀ (s : Shared) (H : Hp) (C : Addr) (cl : List (Str × Addr)) (fp : List Addr), DE (X.blk s H scope (compEnvC scope cl C X.env) fp) Z elt te e)
    (hy : X.N[k]? = some y := by rfl) (hyl : X.env.scope.names.lookup y = some .local := by rfl) (hsw : swapsWith (.ListComp elt [⟨tg, .Name x px, ifs, 0⟩] scope pos) (some (.Name y py)) spos.line X.env = pure true := by exact sw_true rfl rfl rfl (by decide +kernel))
    (hj : X.N[j]? = some x := by rfl) (hv : Vis X.env.scope x := by first | exact Or.inl rfl | exact Or.inr (Or.inl rfl) | exact Or.inr (Or.inr rfl)) (hdb : (x == ("__debug__" : Str)) = false := by decide) (hcd : (x == ("__classdict__" : Str)) = false := by decide)
    (hjv : j ∉ own.map (·.2) := by decide) (hK : K = X.K := by rfl)
    (ok : BlkOk X.N X.env.scope scope own := by exact blkOk_by (by kernel_rfl)) (hc : X.calm = true := by rfl) (hs : ∀ y, foldedSetIterable (.Name x px) X.env y = pure y := by intro _; rfl) :
    DSt X Z (.Assign [.Name y py] (.ListComp elt [⟨tg, .Name x px, ifs, 0⟩] scope pos) spos) (tAsg (tLc (iSeq K (tVar j)) gt tt te (own.map (·.2))) (gName k)) (dAsg (dLcK j dg c e (own.map (·.2))) k) :=
  have s0 : Shared := {}
  ⟨by
    subst hK
    exact ps_setLc hc hN hy hyl hsw (pi_seq (pv j hj hv hdb hcd)) ok (fun s H C cl fp => (hg s H C cl fp).pg) (fun s H C cl fp => (ht s H C cl fp).pts) (fun s H C cl fp => (he s H C cl fp).pe) hs,
    sim_asg (sim_lcK hjv (hg s0 (fun _ => none) 0 [] []).sim ho (ht s0 (fun _ => none) 0 [] []).sim (he s0 (fun _ => none) 0 [] []).sim)⟩
end L3
end
section
/-! L6a: things alike to themselves; layouts. -/
namespace L3
open PySem PySem.Spec PyProof.Rows L2
theorem eqv_shd {d : PyData} (h : SeqAt.shaped d = true) : PyData.eqv d d = true := by
  unfold SeqAt.shaped at h
  rw [Bool.and_eq_true] at h
  first
    | exact PySem.SeqAt.eqv_refl_plain d (PyData.plain_of_canLay0 d h.1)
theorem lay_listM {α : Type} {n : Nat} {f : α → PyData} {xs : List α} (h : ∀ x ∈ xs, Lay n (f x)) : Lay (n + 1) (.list (xs.map f)) := lay_list fun d hd => by
  obtain ⟨x, hx, rfl⟩ := List.mem_map.mp hd
  exact h x hx
theorem lay_tupM {α : Type} {n : Nat} {f : α → PyData} {xs : List α} (h : ∀ x ∈ xs, Lay n (f x)) : Lay (n + 1) (.tuple (xs.map f)) := lay_tup fun d hd => by
  obtain ⟨x, hx, rfl⟩ := List.mem_map.mp hd
  exact h x hx
theorem lay_lints (n : Nat) (ns : List Int) : Lay (n + 1) (.list (ns.map PyData.int)) := lay_listM fun x _ => lay_int n x
theorem lay_tints (n : Nat) (ns : List Int) : Lay (n + 1) (.tuple (ns.map PyData.int)) := lay_tupM fun x _ => lay_int n x
theorem lay_pair {n : Nat} {a b : PyData} (h1 : Lay n a) (h2 : Lay n b) : Lay (n + 1) (.tuple [a, b]) := lay_tup fun d hd => by
  simp only [List.mem_cons, List.not_mem_nil, or_false] at hd
  rcases hd with rfl | rfl
  · exact h1
  · exact h2
end L3
end
local macro_rules | `(tactic| walk_at "w") => `(tactic| ((conv => whnf); repeat ((first | (refine L3.insK_of (by (apply Eq.trans; (first | assumption | exact L3.OS.put_self (by assumption) | exact L3.OS.look_new)); rfl) ?_) | (refine L3.keep_of rfl ?_) | (refine L3.opK_of (L3.intsL_map _) ?_) | (refine L3.opK_of (L3.boolsF _ _) ?_) | (refine L3.opK_of (L3.intsF _ _) ?_) | (refine L3.sh_of (by first | rfl | exact L3.shaped_ints _ | exact L3.shaped_tints _ | exact L3.shaped_ways _) (by first | rfl | exact L3.shaped_ints _ | exact L3.shaped_tints _ | exact L3.shaped_ways _) ?_)); (conv => whnf))))
local macro_rules | `(tactic| walk_at "lcw") => `(tactic| ((try simp only [L3.wipeE, L3.entry, L3.slOf, List.map_cons, List.map_nil, List.set_cons_zero, List.set_cons_succ, List.length_cons, List.length_nil, List.cons_append, List.nil_append, List.replicate, Nat.add_sub_cancel, Nat.reduceAdd, Nat.reduceSub]); rfl))
namespace Lw
open PySem PySem.Spec PyProof.Rows L2 L3
def topS (i : Nat) : Stmt := PySem.Challenge.pw_fallsum_k47_steps_by_a_line.main.body.getD i (.Pass ⟨0, 0, 0, 0⟩)
abbrev s__law_tape : Stmt := topS 3
theorem c__law_tape : FnScope ["_law_script"] ["_law_script"] (defScope s__law_tape) := ⟨rfl, rfl, rfl, by decide +kernel, rfl, by decide +kernel, by decide +kernel⟩
theorem ok__law_tape {P : Program} {w : World} {K : PySem.W.Frag} {mg : Str → Option Value} {base : Heap} {k : Nat} (D : Dfn K mg "_law_tape" s__law_tape ["_law_script"]) (z_list : mg "list" = none) : Ok P w K mg base (k + 1) "_law_tape" ["_law_script"] (spTape K) := by
  refine D.raw c__law_tape (fun vs H Q E h => ?_) fun fa cdv A outer s' H vs Q E hr h => ?_
  · obtain ⟨a, ns, rfl, _⟩ := h
    rfl
  · refine ⟨_, pss_one (ps_ret (pe_lst (pa_cons (pe_callTy call_list_of (by rfl) z_list rfl (pa_cons (pe_slice sl_list (pv 0) po_none (po_some pe_int)) pa_nil)) (pa_cons pe_int (pa_cons pe_int pa_nil))))), ?_⟩
    clear hr
    obtain ⟨a, ns, rfl, hS, hq⟩ := h
    show tRet _ _ [some (.ref a)] H
    refine ⟨.ref a, rfl, 63, rfl, a, ns.map V.int, rfl, hS, fun d nd => ?_⟩
    obtain ⟨ms, hms⟩ := cut_ints ns none (some 63)
    rw [hms]
    refine ⟨d, ms.map V.int, rfl, .inl (.inl (.inl upd_same)), fun l nl => ?_⟩
    have nld : l ≠ d := fun e => by rw [e, upd_same] at nl; cases nl
    rw [upd_ne nld] at nl
    have e1 : ∀ b o, H b = some o → (upd H d (.lst (ms.map V.int))) b = some o := fun b o e => by rw [upd_ne (ne_of_none e nd)]; exact e
    have e2 : ∀ b o, H b = some o → (upd (upd H d (.lst (ms.map V.int))) l (.lst (ms.map V.int))) b = some o := fun b o e => by rw [upd_ne (ne_of_none e nl)]; exact e1 b o e
    refine ⟨(by show 3 ≤ sizeLine; decide), fun p hp => ?_⟩
    have npl : p ≠ l := fun e => by rw [e, upd_same] at hp; cases hp
    have np : H p = none := by
      cases q : H p with
      | none => rfl
      | some o => rw [e2 p o q] at hp; cases hp
    refine hq _ ⟨p, l, 1000000000000000⟩ (fun b o e => ?_) np nl ⟨ms, 0, 0, ⟨upd_same, ?_, npl⟩, Int.le_refl _, (by show (0 : Int) + (1000000000000000 : Nat) ≤ 2 ^ 60; decide)⟩ rfl
    · rw [upd_ne (ne_of_none (e2 b o e) hp)]
      exact e2 b o e
    · rw [upd_ne npl.symm, upd_same]
abbrev s__law_draw : Stmt := topS 4
theorem c__law_draw : FnScope ["_law_tape_here", "_law_many", "_law_digit", "_law_at", "_law_cell", "_law_mixed"] ["_law_tape_here", "_law_many"] (defScope s__law_draw) := ⟨rfl, rfl, rfl, by decide +kernel, rfl, by decide +kernel, by decide +kernel⟩
theorem ok__law_draw {P : Program} {w : World} {K : PySem.W.Frag} {mg : Str → Option Value} {base : Heap} {k : Nat} (D : Dfn K mg "_law_draw" s__law_draw ["_law_tape_here", "_law_many"]) (z_len : mg "len" = none) : Ok P w K mg base (k + 1) "_law_draw" ["_law_tape_here", "_law_many"] (spZ (ZT K) S__law_draw) := by
  refine D.raw c__law_draw (fun vs H Q E h => ?_) fun fa cdv A outer s' H vs Q E hr h => ?_
  · obtain ⟨F, g, as, T, U, _, _, _, h4, h5, _⟩ := h
    rw [argR_len h4]
    unfold S__law_draw at h5
    split at h5 <;> first | rfl | cases h5
  · have hu := hu_of hr.rm
    have ix : ∀ {j : Int}, True := trivial
    refine ⟨_, pss_cons (ps_if (pt_cmpR op_gt (pe_ix ix_list (pv 0) pe_int (fun _ _ => rfl)) pe_int (nomark _))
        (pss_cons (ps_set (i := 2) c__law_draw.nd rfl (.inl rfl) (pe_op op_mod (pe_ix ix_list (pv 0) pe_int (fun _ _ => rfl)) (pv 1)))
        (pss_cons (ps_asg (pe_op op_fdivW (pe_ix ix_list (pv 0) pe_int (fun _ _ => rfl)) (pv 1)) (pg_sub (pv 0) pe_int set_list (fun _ => rfl)) (by rfl) (by rfl) (by rfl))
        (pss_one (ps_ret (pv 2))))) pss_nil)
      (pss_cons (ps_set (i := 3) c__law_draw.nd rfl (.inl rfl) (pe_ix ix_list (pv 0) pe_int (fun _ _ => rfl)))
      (pss_cons (ps_asg (pe_op op_add (pv 3) pe_int) (pg_sub (pv 0) pe_int set_list (fun _ => rfl)) (by rfl) (by rfl) (by rfl))
      (pss_cons (ps_set (i := 4) c__law_draw.nd rfl (.inl rfl) pe_int)
      (pss_cons (ps_if (pt_cmpR op_gt (pe_callB call_len (by rfl) z_len rfl (pa_cons (pe_ix ix_list (pv 0) pe_int (fun _ _ => rfl)) pa_nil)) pe_int (nomark _))
        (pss_one (ps_set (i := 4) c__law_draw.nd rfl (.inl rfl) (pe_ix ix_list (pe_ix ix_list (pv 0) pe_int (fun _ _ => rfl)) (pe_op op_mod (pv 3) (pe_callB call_len (by rfl) z_len rfl (pa_cons (pe_ix ix_list (pv 0) pe_int (fun _ _ => rfl)) pa_nil))) (fun _ _ => rfl)))) pss_nil)
      (pss_cons (ps_if (pw_and (pt_cmpR op_lt (pv 3) (pe_callB call_len (by rfl) z_len rfl (pa_cons (pe_ix ix_list (pv 0) pe_int (fun _ _ => rfl)) pa_nil)) (nomark _)) (pw_and1 (pt_cmpR op_ge (pv 4) (pe_op op_pow pe_int pe_int) (nomark _)))).pt
        (pss_cons (ps_asg (pe_op op_fdivW (pv 4) (pv 1)) (pg_sub (pv 0) pe_int set_list (fun _ => rfl)) (by rfl) (by rfl) (by rfl))
        (pss_one (ps_ret (pe_op op_mod (pv 4) (pv 1))))) pss_nil)
      (pss_cons (ps_set (i := 5) c__law_draw.nd rfl (.inl rfl) (pe_op op_mod (pe_op op_mul (pe_op op_add (pe_op op_mod (pv 4) pe_int) pe_int) (pe_op op_add (pe_op op_add (pe_op op_mul (pe_op op_mul pe_int (pv 3)) (pv 3)) (pe_op op_mul pe_int (pv 3))) pe_int)) pe_int))
      (pss_cons (ps_set (i := 5) c__law_draw.nd rfl (.inl rfl) (pe_op op_mod (pe_op op_add (pe_op op_add (pe_op op_mul (pv 5) (pv 5)) (pe_op op_mul pe_int (pv 3))) (pe_op op_mod (pv 4) pe_int)) pe_int))
      (pss_one (ps_ret (pe_op op_mod (pe_op op_fdivW (pv 5) pe_int) (pv 1))))))))))), ?_⟩
    clear hr
    obtain ⟨F, g, as, T, U, h1, h2, h3, h4, h5, h6, _⟩ := h
    unfold S__law_draw at h5
    split at h5
    · rename_i m
      obtain ⟨hle, h5⟩ := h5
      obtain ⟨⟨hm, hm2⟩, hT⟩ := dvK_e h5
      obtain ⟨ta, cl, lf⟩ := g
      replace hle : 1 ≤ lf := hle
      cases h4 with
      | cons a1 t1 =>
        cases t1 with
        | cons a2 t2 =>
          cases t2
          cases (show _ = V.ref ta from a1)
          cases (show Da K F _ (.int m) from a2)
          obtain ⟨cells, s, t, hJ, hs0, hs1⟩ := h2
          replace hJ : TAt ta cl cells s t H := hJ
          replace hs1 : s + (lf : Int) ≤ 2 ^ 60 := hs1
          have sq : ∀ {s t : Int} {H : Hp}, TAt ta cl cells s t H → SqL K H ta [.ref cl, .int s, .int t] := fun j => .inl (.inl j.1)
          have sc : ∀ {s t : Int} {H : Hp}, TAt ta cl cells s t H → SqL K H cl (cells.map V.int) := fun j => .inl (.inl j.2.1)
          have hlen : ∀ {s t : Int} {H : Hp}, TAt ta cl cells s t H → LenV K (.ref cl) H cells.length := fun j => .inl ⟨_, sc j, by rw [List.length_map]⟩
          have fin : ∀ (H' : Hp) (r s' t' : Int), JF ta cl H H' → TAt ta cl cells s' t' H' → 0 ≤ s' → s' + ((lf - 1 : Nat) : Int) ≤ 2 ^ 60 → 0 ≤ r → r < m → Q (.int r) H' := fun H' r s' t' jf j q1 q2 r1 r2 =>
            h6 _ (.dt (.int r)) F (TPg.w ⟨ta, cl, lf⟩ (lf - 1)) _ (JF.frmT (g := ⟨ta, cl, lf⟩) (n := lf - 1) jf h1 h3 ⟨cells, s', t', j, q1, q2⟩) rfl (.int _) (hT r r1 r2)
          show tSeq _ _ _ [some (.ref ta), some (.int m), none, none, none, none] H
          refine ⟨_, rfl, ta, _, 2, _, rfl, rfl, sq hJ, rfl, t, 0, rfl, rfl, _, rfl, ite2 (fun _ => ?_) (fun _ => ?_)⟩
          · refine ⟨_, rfl, ta, _, 2, _, rfl, rfl, sq hJ, rfl, _, rfl, t, m, rfl, rfl, hm, ?_⟩
            refine ⟨_, rfl, ta, _, 2, _, rfl, rfl, sq hJ, rfl, _, rfl, t, m, rfl, rfl, ⟨hm, hm2⟩, _, rfl, ta, _, 2, 2, rfl, rfl, hJ.1, rfl, ?_⟩
            refine ⟨_, rfl, ?_⟩
            exact fin _ _ _ _ .dict hJ.put hs0 (by omega) (Int.emod_nonneg _ (by omega)) (Int.emod_lt_of_pos _ hm)
          · refine ⟨_, rfl, ta, _, 1, _, rfl, rfl, sq hJ, rfl, ?_⟩
            refine ⟨_, rfl, s, 1, rfl, rfl, _, rfl, ta, _, 1, 1, rfl, rfl, hJ.1, rfl, ?_⟩
            have j1 : TAt ta cl cells (s + 1) t _ := hJ.put
            have f1 : JF ta cl H _ := JF.dict (o := .lst [.ref cl, .int (s + 1), .int t])
            refine ⟨_, rfl, ta, _, 0, .ref cl, rfl, rfl, sq j1, rfl, .ref cl, cells.length, rfl, hlen j1, _, 0, rfl, rfl, _, rfl, ite2 (fun hb => ?_) (fun hb => ?_)⟩
            · have hb : (0 : Int) < (cells.length : Int) := of_decide_eq_true hb
              have hq0 := Int.emod_nonneg s (show (cells.length : Int) ≠ 0 by omega)
              have hq1 := Int.emod_lt_of_pos s hb
              have hi : atI (cells.map V.int) (s % (cells.length : Int)) = some (.int (cells.getD (s % (cells.length : Int)).toNat 0)) := by
                obtain ⟨hl, e⟩ := atI_at (xs := cells) hq0 hq1
                rw [atI_map V.int e, List.getD_eq_getElem?_getD, List.getElem?_eq_getElem hl]; rfl
              refine ⟨_, rfl, ta, _, 0, .ref cl, rfl, rfl, sq j1, rfl, _, rfl, _, rfl, ta, _, 0, .ref cl, rfl, rfl, sq j1, rfl, .ref cl, cells.length, rfl, hlen j1, s, _, rfl, rfl, hb, cl, _, _, _, rfl, rfl, sc j1, hi, ?_⟩
              generalize cells.getD (s % (cells.length : Int)).toNat 0 = c
              refine ⟨_, rfl, _, rfl, ta, _, 0, .ref cl, rfl, rfl, sq j1, rfl, .ref cl, cells.length, rfl, hlen j1, s, _, rfl, rfl, _, rfl, ite2 (fun hx => ?_) (fun hx => ?_)⟩
              · refine ⟨_, rfl, 10, 18, rfl, rfl, ⟨by decide, by decide, by decide⟩, _, _, rfl, rfl, _, rfl, ite2 (fun hy => ?_) (fun hy => ?_)⟩
                · refine ⟨_, rfl, _, rfl, c, m, rfl, rfl, ⟨hm, hm2⟩, _, rfl, ta, _, 2, 2, rfl, rfl, j1.1, rfl, ?_⟩
                  refine ⟨_, rfl, _, rfl, c, m, rfl, rfl, hm, ?_⟩
                  exact fin _ _ _ _ (f1.trans .dict) j1.put (by omega) (by omega) (Int.emod_nonneg _ (by omega)) (Int.emod_lt_of_pos _ hm)
                · refine ⟨_, rfl, c, 1000003, rfl, rfl, (by decide : (0 : Int) < 1000003), _, 1, rfl, rfl, _, rfl, 7919, s, rfl, rfl, .inl (by decide), _, rfl, _, s, rfl, rfl, .inr ⟨by omega, by omega⟩, _, rfl, 104729, s, rfl, rfl, .inl (by decide), _, _, rfl, rfl, _, 12345, rfl, rfl, _, _, rfl, rfl, .inl ⟨by have := Int.emod_nonneg (c) (show (1000003 : Int) ≠ 0 by decide); omega, by have := Int.emod_lt_of_pos (c) (show (0 : Int) < 1000003 by decide); omega⟩, _, 2147483647, rfl, rfl, (by decide : (0 : Int) < 2147483647), ?_⟩
                  have y1 := Int.emod_nonneg ((c % 1000003 + 1) * (7919 * s * s + 104729 * s + 12345)) (show (2147483647 : Int) ≠ 0 by decide)
                  have y2 := Int.emod_lt_of_pos ((c % 1000003 + 1) * (7919 * s * s + 104729 * s + 12345)) (show (0 : Int) < 2147483647 by decide)
                  refine ⟨_, rfl, _, rfl, _, _, rfl, rfl, .inl ⟨Int.lt_of_lt_of_le (by decide) y1, Int.lt_trans y2 (by decide)⟩, _, rfl, 48271, s, rfl, rfl, .inl (by decide), _, _, rfl, rfl, _, rfl, c, 65537, rfl, rfl, (by decide : (0 : Int) < 65537), _, _, rfl, rfl, _, 2147483629, rfl, rfl, (by decide : (0 : Int) < 2147483629), ?_⟩
                  refine ⟨_, rfl, _, 8, rfl, rfl, ⟨by decide, by decide +kernel⟩, _, rfl, _, m, rfl, rfl, hm, ?_⟩
                  exact fin _ _ _ _ f1 j1 (by omega) (by omega) (Int.emod_nonneg _ (by omega)) (Int.emod_lt_of_pos _ hm)
              · refine ⟨_, rfl, c, 1000003, rfl, rfl, (by decide : (0 : Int) < 1000003), _, 1, rfl, rfl, _, rfl, 7919, s, rfl, rfl, .inl (by decide), _, rfl, _, s, rfl, rfl, .inr ⟨by omega, by omega⟩, _, rfl, 104729, s, rfl, rfl, .inl (by decide), _, _, rfl, rfl, _, 12345, rfl, rfl, _, _, rfl, rfl, .inl ⟨by have := Int.emod_nonneg (c) (show (1000003 : Int) ≠ 0 by decide); omega, by have := Int.emod_lt_of_pos (c) (show (0 : Int) < 1000003 by decide); omega⟩, _, 2147483647, rfl, rfl, (by decide : (0 : Int) < 2147483647), ?_⟩
                have y1 := Int.emod_nonneg ((c % 1000003 + 1) * (7919 * s * s + 104729 * s + 12345)) (show (2147483647 : Int) ≠ 0 by decide)
                have y2 := Int.emod_lt_of_pos ((c % 1000003 + 1) * (7919 * s * s + 104729 * s + 12345)) (show (0 : Int) < 2147483647 by decide)
                refine ⟨_, rfl, _, rfl, _, _, rfl, rfl, .inl ⟨Int.lt_of_lt_of_le (by decide) y1, Int.lt_trans y2 (by decide)⟩, _, rfl, 48271, s, rfl, rfl, .inl (by decide), _, _, rfl, rfl, _, rfl, c, 65537, rfl, rfl, (by decide : (0 : Int) < 65537), _, _, rfl, rfl, _, 2147483629, rfl, rfl, (by decide : (0 : Int) < 2147483629), ?_⟩
                refine ⟨_, rfl, _, 8, rfl, rfl, ⟨by decide, by decide +kernel⟩, _, rfl, _, m, rfl, rfl, hm, ?_⟩
                exact fin _ _ _ _ f1 j1 (by omega) (by omega) (Int.emod_nonneg _ (by omega)) (Int.emod_lt_of_pos _ hm)
            · refine ⟨_, rfl, _, rfl, ta, _, 0, .ref cl, rfl, rfl, sq j1, rfl, .ref cl, cells.length, rfl, hlen j1, s, _, rfl, rfl, _, rfl, ite2 (fun hx => ?_) (fun hx => ?_)⟩
              · refine ⟨_, rfl, 10, 18, rfl, rfl, ⟨by decide, by decide, by decide⟩, _, _, rfl, rfl, _, rfl, ite2 (fun hy => ?_) (fun hy => ?_)⟩
                · refine ⟨_, rfl, _, rfl, 0, m, rfl, rfl, ⟨hm, hm2⟩, _, rfl, ta, _, 2, 2, rfl, rfl, j1.1, rfl, ?_⟩
                  refine ⟨_, rfl, _, rfl, 0, m, rfl, rfl, hm, ?_⟩
                  exact fin _ _ _ _ (f1.trans .dict) j1.put (by omega) (by omega) (Int.emod_nonneg _ (by omega)) (Int.emod_lt_of_pos _ hm)
                · refine ⟨_, rfl, 0, 1000003, rfl, rfl, (by decide : (0 : Int) < 1000003), _, 1, rfl, rfl, _, rfl, 7919, s, rfl, rfl, .inl (by decide), _, rfl, _, s, rfl, rfl, .inr ⟨by omega, by omega⟩, _, rfl, 104729, s, rfl, rfl, .inl (by decide), _, _, rfl, rfl, _, 12345, rfl, rfl, _, _, rfl, rfl, .inl ⟨by have := Int.emod_nonneg (0) (show (1000003 : Int) ≠ 0 by decide); omega, by have := Int.emod_lt_of_pos (0) (show (0 : Int) < 1000003 by decide); omega⟩, _, 2147483647, rfl, rfl, (by decide : (0 : Int) < 2147483647), ?_⟩
                  have y1 := Int.emod_nonneg ((0 % 1000003 + 1) * (7919 * s * s + 104729 * s + 12345)) (show (2147483647 : Int) ≠ 0 by decide)
                  have y2 := Int.emod_lt_of_pos ((0 % 1000003 + 1) * (7919 * s * s + 104729 * s + 12345)) (show (0 : Int) < 2147483647 by decide)
                  refine ⟨_, rfl, _, rfl, _, _, rfl, rfl, .inl ⟨Int.lt_of_lt_of_le (by decide) y1, Int.lt_trans y2 (by decide)⟩, _, rfl, 48271, s, rfl, rfl, .inl (by decide), _, _, rfl, rfl, _, rfl, 0, 65537, rfl, rfl, (by decide : (0 : Int) < 65537), _, _, rfl, rfl, _, 2147483629, rfl, rfl, (by decide : (0 : Int) < 2147483629), ?_⟩
                  refine ⟨_, rfl, _, 8, rfl, rfl, ⟨by decide, by decide +kernel⟩, _, rfl, _, m, rfl, rfl, hm, ?_⟩
                  exact fin _ _ _ _ f1 j1 (by omega) (by omega) (Int.emod_nonneg _ (by omega)) (Int.emod_lt_of_pos _ hm)
              · refine ⟨_, rfl, 0, 1000003, rfl, rfl, (by decide : (0 : Int) < 1000003), _, 1, rfl, rfl, _, rfl, 7919, s, rfl, rfl, .inl (by decide), _, rfl, _, s, rfl, rfl, .inr ⟨by omega, by omega⟩, _, rfl, 104729, s, rfl, rfl, .inl (by decide), _, _, rfl, rfl, _, 12345, rfl, rfl, _, _, rfl, rfl, .inl ⟨by have := Int.emod_nonneg (0) (show (1000003 : Int) ≠ 0 by decide); omega, by have := Int.emod_lt_of_pos (0) (show (0 : Int) < 1000003 by decide); omega⟩, _, 2147483647, rfl, rfl, (by decide : (0 : Int) < 2147483647), ?_⟩
                have y1 := Int.emod_nonneg ((0 % 1000003 + 1) * (7919 * s * s + 104729 * s + 12345)) (show (2147483647 : Int) ≠ 0 by decide)
                have y2 := Int.emod_lt_of_pos ((0 % 1000003 + 1) * (7919 * s * s + 104729 * s + 12345)) (show (0 : Int) < 2147483647 by decide)
                refine ⟨_, rfl, _, rfl, _, _, rfl, rfl, .inl ⟨Int.lt_of_lt_of_le (by decide) y1, Int.lt_trans y2 (by decide)⟩, _, rfl, 48271, s, rfl, rfl, .inl (by decide), _, _, rfl, rfl, _, rfl, 0, 65537, rfl, rfl, (by decide : (0 : Int) < 65537), _, _, rfl, rfl, _, 2147483629, rfl, rfl, (by decide : (0 : Int) < 2147483629), ?_⟩
                refine ⟨_, rfl, _, 8, rfl, rfl, ⟨by decide, by decide +kernel⟩, _, rfl, _, m, rfl, rfl, hm, ?_⟩
                exact fin _ _ _ _ f1 j1 (by omega) (by omega) (Int.emod_nonneg _ (by omega)) (Int.emod_lt_of_pos _ hm)
    · cases h5
abbrev s__law_gain : Stmt := topS 5
theorem c__law_gain : FnScope ["_law_tape_here", "_law_way"] ["_law_tape_here"] (defScope s__law_gain) := ⟨rfl, rfl, rfl, by decide +kernel, rfl, by decide +kernel, by decide +kernel⟩
def S__law_gain : Spec TPg := fun as g T U => match as with
  | [.rs 0] => 4 ≤ g.left ∧ ∀ (z : Int) (n : Nat), -98 ≤ z → z ≤ 98 → g.left ≤ n + 4 → T (.dt (.int z)) (g.w n)
  | _ => False
theorem ok__law_gain {P : Program} {w : World} {K : PySem.W.Frag} {mg : Str → Option Value} {base : Heap} {k : Nat} (D : Dfn K mg "_law_gain" s__law_gain ["_law_tape_here"]) (f__law_draw : Ok P w K mg base k "_law_draw" ["_law_tape_here", "_law_many"] (spZ (ZT K) S__law_draw)) : Ok P w K mg base (k + 1) "_law_gain" ["_law_tape_here"] (spZ (ZT K) S__law_gain) := by
  refine D.ok c__law_gain (fun as g T U h => by unfold S__law_gain at h; split at h <;> first | rfl | cases h) (by decide) fun fa cdv A outer s' H E hr => ⟨_, _, (s_cons (s_set 1 c__law_gain.nd (e_fnU let_n f__law_draw hr (a_cons (e_v 0) (a_cons e_int a_nil))))
      (s_cons (s_if (t_cmp (c_eq hr.units) (e_v 1) e_int) (s_one (s_ret (e_op b_sub (e_fnU let_n f__law_draw hr (a_cons (e_v 0) (a_cons e_int a_nil))) e_int))) s_nil)
      (s_one (s_ret (e_ixX hr.units (e_lst (a_cons e_int (a_cons e_int (a_cons (e_un u_neg e_int) (a_cons (e_un u_neg e_int) (a_cons (e_un u_neg e_int) (a_cons e_int (a_cons e_int (a_cons e_int (a_cons (e_un u_neg e_int) a_nil)))))))))) (e_v 1)))))), ?_⟩
  intro as g T U h
  unfold S__law_gain at h
  clear hr f__law_draw
  split at h
  · obtain ⟨hl, h⟩ := h
    walk_at "w"
    refine ⟨by omega, ?_⟩
    walk_at "w"
    intro a a1 a2
    walk_at "w"
    refine ifb_of (fun q1 => ?_) (fun q1 => ?_) <;> simp at q1 <;> walk_at "w"
    · refine ⟨by show 1 ≤ g.left - 1; omega, ?_⟩
      walk_at "w"
      intro b b1 b2
      walk_at "w"
      exact h _ (g.left - 1 - 1) (by omega) (by omega) (by omega)
    · obtain ⟨z, hz, ez⟩ := atI_int (zs := [0, 0, -1, -1, -1, 1, 1, 2, -2]) a1 (by simp; omega)
      refine opK_of ez ?_
      walk_at "w"
      simp at hz
      exact h z (g.left - 1) (by omega) (by omega) (by omega)
  · cases h
abbrev s__law_gains : Stmt := topS 6
theorem c__law_gains : FnScope ["_law_tape_here", "_law_purses", "_law_p"] ["_law_tape_here", "_law_purses"] (defScope s__law_gains) := ⟨rfl, rfl, rfl, by decide +kernel, rfl, by decide +kernel, by decide +kernel⟩
def S__law_gains : Spec TPg := fun as g T U => match as with
  | [.rs 0, .dt (.int p)] => (0 ≤ p ∧ p ≤ 6) ∧ 30 ≤ g.left ∧ ∀ (gs : List Int) (n : Nat), (gs.length : Int) = p → (∀ x ∈ gs, -98 ≤ x ∧ x ≤ 98) → g.left ≤ n + 30 → T (.dt (.tuple (gs.map PyData.int))) (g.w n)
  | _ => False
theorem ok__law_gains {P : Program} {w : World} {K : PySem.W.Frag} {mg : Str → Option Value} {base : Heap} {k : Nat} (D : Dfn K mg "_law_gains" s__law_gains ["_law_tape_here", "_law_purses"]) (f__law_gain : Ok P w K mg base k "_law_gain" ["_law_tape_here"] (spZ (ZT K) S__law_gain)) (z_range : mg "range" = none) (z_tuple : mg "tuple" = none) : Ok P w K mg base (k + 1) "_law_gains" ["_law_tape_here", "_law_purses"] (spZ (ZT K) S__law_gains) := by
  refine D.ok c__law_gains (fun as g T U h => by unfold S__law_gains at h; split at h <;> first | rfl | cases h) (by decide) fun fa cdv A outer s' H E hr => ⟨_, _, (s_one (s_ret (e_callTy k_tuple (a_cons (e_lc [("_law_p", 2)] c__law_gains.nd (i_rng1 z_range (a_cons (e_v 1) a_nil)) (fun _ _ _ _ _ => (g_name 2 c__law_gains.nd)) (own_name (by decide)) (fun _ _ _ _ _ => ts_nil) (fun _ _ _ _ _ => (e_fnU let_n f__law_gain hr (a_cons (e_v 0) a_nil)))) a_nil) z_tuple rfl))), ?_⟩
  intro as g T U h
  unfold S__law_gains at h
  clear hr f__law_gain
  split at h
  · rename_i p
    obtain ⟨hp, hl, h⟩ := h
    walk_at "w"
    refine rgK_of (by omega) (by omega) ?_
    walk_at "w"
    refine leK_of (by rw [rngD_len]; omega) (lc_allG (fun _ d => ∃ z, d = .int z ∧ -98 ≤ z ∧ z ≤ 98) (fun k g' => ∃ n, g' = g.w n ∧ g.left ≤ n + 4 * k) ⟨g.left, rfl, by omega⟩ (by walk_at "lcw") (fun k d g' hk hJ C1 C0 q => ?_) (fun acc g' hl2 hp2 hJ => ?_))
    · obtain ⟨rfl, hk⟩ := rngD_inv hk
      obtain ⟨n, rfl, hn⟩ := hJ
      walk_at "w"
      refine ⟨by show 4 ≤ n; omega, fun z m z1 z2 hm => ?_⟩
      replace hm : n ≤ m + 4 := hm
      walk_at "w"
      exact q _ _ ⟨z, rfl, z1, z2⟩ ⟨m, rfl, by omega⟩
    · obtain ⟨n, rfl, hn⟩ := hJ
      rw [rngD_len] at hl2 hn
      obtain ⟨gs, rfl, hgs⟩ := ints_of_get hp2
      rw [List.length_map] at hl2
      walk_at "w"
      exact h gs n (by omega) hgs (by omega)
  · cases h
abbrev s__law_falling_book : Stmt := topS 7
theorem c__law_falling_book : FnScope ["_law_tape_here", "_law_most", "_law_rooms", "_law_purses", "_law_weights", "_law_at", "_law_heights", "_law_ways", "_law_k", "_law_a", "_law_b", "_law_one", "_law_fall_here", "_law_p", "_law_room", "_law_end"] ["_law_tape_here", "_law_most"] (defScope s__law_falling_book) := ⟨rfl, rfl, rfl, by decide +kernel, rfl, by decide +kernel, by decide +kernel⟩
structure FbOk (B : Book) (wt ht : List Int) (a b c : Int) : Prop where
  r : 1 ≤ B.rooms ∧ B.rooms ≤ a
  p : 1 ≤ B.purses ∧ B.purses ≤ b
  n : (B.ways.length : Int) ≤ c
  w : ∀ w ∈ B.ways, (0 ≤ w.a ∧ w.a < B.rooms) ∧ (0 ≤ w.b ∧ w.b < B.rooms) ∧ w.gs.length = B.purses.toNat ∧ ∀ x ∈ w.gs, -100000 ≤ x ∧ x ≤ 100000
  wl : wt.length = B.purses.toNat
  wb : ∀ x ∈ wt, 0 ≤ x ∧ x ≤ 2
  hl : ht.length = B.rooms.toNat
  hb : ∀ x ∈ ht, -2 ≤ x ∧ x ≤ 2
theorem sum_abs {M : Int} : ∀ {xs : List Int}, (∀ x ∈ xs, -M ≤ x ∧ x ≤ M) → -(M * (xs.length : Int)) ≤ xs.sum ∧ xs.sum ≤ M * (xs.length : Int)
  | [], _ => by simp
  | x :: xs, h => by
    have h1 := h x List.mem_cons_self
    have h2 := sum_abs (xs := xs) fun y hy => h y (List.mem_cons_of_mem _ hy)
    have e : M * ((x :: xs).length : Int) = M * (xs.length : Int) + M := by rw [List.length_cons]; push_cast; rw [Int.mul_add, Int.mul_one]
    rw [List.sum_cons, e]
    omega
def fbD (B : Book) (wt ht : List Int) : PyData := .tuple [B.d, .tuple [.tuple (wt.map PyData.int), .tuple (ht.map PyData.int)]]
def S__law_falling_book : Spec TPg := fun as g T U => match as with
  | [.rs 0, .dt x] => ∃ a b c : Int, x = .tuple [.int a, .int b, .int c] ∧ (1 ≤ a ∧ a ≤ 12) ∧ (1 ≤ b ∧ b ≤ 6) ∧ (0 ≤ c ∧ c ≤ 60) ∧ 5000 ≤ g.left ∧ ∀ (B : Book) (wt ht : List Int) (n : Nat), FbOk B wt ht a b c → g.left ≤ n + 5000 → T (.dt (fbD B wt ht)) (g.w n)
  | _ => False
theorem ok__law_falling_book {P : Program} {w : World} {K : PySem.W.Frag} {mg : Str → Option Value} {base : Heap} {k : Nat} (D : Dfn K mg "_law_falling_book" s__law_falling_book ["_law_tape_here", "_law_most"]) (f__law_draw : Ok P w K mg base k "_law_draw" ["_law_tape_here", "_law_many"] (spZ (ZT K) S__law_draw)) (f__law_gains : Ok P w K mg base k "_law_gains" ["_law_tape_here", "_law_purses"] (spZ (ZT K) S__law_gains)) (z_range : mg "range" = none) (z_list : mg "list" = none) (z_sum : mg "sum" = none) (z_min : mg "min" = none) (z_tuple : mg "tuple" = none) : Ok P w K mg base (k + 1) "_law_falling_book" ["_law_tape_here", "_law_most"] (spZ (ZT K) S__law_falling_book) := by
  refine D.ok c__law_falling_book (fun as g T U h => by unfold S__law_falling_book at h; split at h <;> first | rfl | cases h) (by decide) fun fa cdv A outer s' H E hr => ⟨_, _, (s_cons (s_set 2 c__law_falling_book.nd (e_op b_add e_int (e_fnU let_n f__law_draw hr (a_cons (e_v 0) (a_cons (e_ixX hr.units (e_v 1) e_int) a_nil)))))
      (s_cons (s_set 3 c__law_falling_book.nd (e_op b_add e_int (e_fnU let_n f__law_draw hr (a_cons (e_v 0) (a_cons (e_ixX hr.units (e_v 1) e_int) a_nil)))))
      (s_cons (s_set 4 c__law_falling_book.nd (e_lc [("_law_p", 13)] c__law_falling_book.nd (i_rng1 z_range (a_cons (e_v 3) a_nil)) (fun _ _ _ _ _ => (g_name 13 c__law_falling_book.nd)) (own_name (by decide)) (fun _ _ _ _ _ => ts_nil) (fun _ _ _ _ _ => (e_fnU let_n f__law_draw hr (a_cons (e_v 0) (a_cons e_int a_nil))))))
      (s_cons (s_set 5 c__law_falling_book.nd (e_fnU let_n f__law_draw hr (a_cons (e_v 0) (a_cons (e_v 3) a_nil))))
      (s_cons (s_setIx 4 e_int (e_v 5))
      (s_cons (s_setLc 6 [("_law_room", 14)] c__law_falling_book.nd (i_rng1 z_range (a_cons (e_v 2) a_nil)) (fun _ _ _ _ _ => (g_name 14 c__law_falling_book.nd)) (own_name (by decide)) (fun _ _ _ _ _ => ts_nil) (fun _ _ _ _ _ => (e_op b_sub (e_fnU let_n f__law_draw hr (a_cons (e_v 0) (a_cons e_int a_nil))) e_int)))
      (s_cons (s_set 7 c__law_falling_book.nd (e_lst a_nil))
      (s_cons (s_for (i_rng1 z_range (a_cons (e_fnU let_n f__law_draw hr (a_cons (e_v 0) (a_cons (e_op b_add (e_ixX hr.units (e_v 1) e_int) e_int) a_nil))) a_nil)) (g_name 8 c__law_falling_book.nd) (s_cons (s_asg (e_lc [("_law_end", 15)] c__law_falling_book.nd (i_rng1 z_range (a_cons e_int a_nil)) (fun _ _ _ _ _ => (g_name 15 c__law_falling_book.nd)) (own_name (by decide)) (fun _ _ _ _ _ => ts_nil) (fun _ _ _ _ _ => (e_fnU let_n f__law_draw hr (a_cons (e_v 0) (a_cons (e_v 2) a_nil))))) (g_tup (n := 2) (gs_cons (g_name 9 c__law_falling_book.nd) (gs_cons (g_name 10 c__law_falling_book.nd) gs_nil))))
      (s_cons (s_set 11 c__law_falling_book.nd (e_callTy k_list (a_cons (e_fnU let_n f__law_gains hr (a_cons (e_v 0) (a_cons (e_v 3) a_nil))) a_nil) z_list rfl))
      (s_cons (s_set 12 c__law_falling_book.nd (e_op b_sub (e_op b_sub (e_ixX hr.units (e_v 6) (e_v 9)) (e_ixX hr.units (e_v 6) (e_v 10))) (e_callB k_sum (a_cons (e_lc [("_law_p", 13)] c__law_falling_book.nd (i_rng1 z_range (a_cons (e_v 3) a_nil)) (fun _ _ _ _ _ => (g_name 13 c__law_falling_book.nd)) (own_name (by decide)) (fun _ _ _ _ _ => ts_nil) (fun _ _ _ _ _ => (e_op b_mul (e_ixX hr.units (e_v 4) (e_v 13)) (e_ixX hr.units (e_v 11) (e_v 13))))) a_nil) z_sum rfl)))
      (s_cons (s_setIx 11 (e_op b_add (e_ixX hr.units (e_v 11) (e_v 5)) (e_callB k_min2 (a_cons e_int (a_cons (e_op b_sub (e_op b_sub (e_v 12) e_int) (e_fnU let_n f__law_draw hr (a_cons (e_v 0) (a_cons e_int a_nil)))) a_nil)) z_min rfl)) (e_v 5))
      (s_one (s_expr (e_ml PySem.F.slot_list_append PySem.F.type_list_append mt_append m_app 7 (a_cons (e_tup (a_cons (e_v 9) (a_cons (e_v 10) (a_cons (e_callTy k_tuple (a_cons (e_v 11) a_nil) z_tuple rfl) a_nil)))) a_nil)))))))))
      (s_one (s_ret (e_tup (a_cons (e_tup (a_cons (e_v 2) (a_cons (e_v 3) (a_cons (e_callTy k_tuple (a_cons (e_v 7) a_nil) z_tuple rfl) a_nil)))) (a_cons (e_tup (a_cons (e_callTy k_tuple (a_cons (e_v 4) a_nil) z_tuple rfl) (a_cons (e_callTy k_tuple (a_cons (e_v 6) a_nil) z_tuple rfl) a_nil))) a_nil))))))))))))), ?_⟩
  intro as g T U h
  unfold S__law_falling_book at h
  clear hr f__law_draw f__law_gains
  split at h
  · rename_i x
    obtain ⟨a, b, c, rfl, ha, hb, hc, hl, h⟩ := h
    walk_at "w"
    refine ⟨by omega, pk_of (by omega) (by omega) fun r r1 r2 => ?_⟩
    walk_at "w"
    refine ⟨by show 1 ≤ g.left - 1; omega, pk_of (by omega) (by omega) fun p p1 p2 => ?_⟩
    walk_at "w"
    refine rgK_of (by omega) (by omega) ?_
    walk_at "w"
    refine leK_of (by rw [rngD_len]; omega) (lc_allG (fun _ d => ∃ z, d = .int z ∧ 0 ≤ z ∧ z ≤ 2) (fun k g' => ∃ n, g' = g.w n ∧ g.left ≤ n + 2 + k) ⟨g.left - 1 - 1, rfl, by omega⟩ (by walk_at "lcw") (fun k d g' hk hJ C1 C0 q => ?_) (fun acc g' hl2 hp2 hJ => ?_))
    · obtain ⟨rfl, hk⟩ := rngD_inv hk
      obtain ⟨n, rfl, hn⟩ := hJ
      walk_at "w"
      refine ⟨by show 1 ≤ n; omega, ?_⟩
      walk_at "w"
      intro z z1 z2
      walk_at "w"
      exact q _ _ ⟨z, rfl, z1, by omega⟩ ⟨n - 1, rfl, by omega⟩
    obtain ⟨n, rfl, hn⟩ := hJ
    rw [rngD_len] at hl2 hn
    obtain ⟨wt, rfl, hwt⟩ := ints_of_get hp2
    rw [List.length_map] at hl2
    have hpp : p + 1 ≤ 6 := by omega
    walk_at "w"
    refine ⟨by show 1 ≤ n; omega, pk_of (by omega) (by omega) fun e e1 e2 => ?_⟩
    walk_at "w"
    refine opK_of (ixN_at e1 (by rw [List.length_map]; omega)) ?_
    rw [show (wt.map PyData.int).set e.toNat (.int 1) = (wt.set e.toNat 1).map PyData.int from by rw [List.map_set]]
    have hwt2 : ∀ x ∈ wt.set e.toNat 1, 0 ≤ x ∧ x ≤ 2 := fun x hx => by
      rcases List.mem_or_eq_of_mem_set hx with hx | rfl
      · exact hwt x hx
      · omega
    have hwl2 : (wt.set e.toNat 1).length = (1 + p).toNat := by rw [List.length_set]; omega
    generalize wt.set e.toNat 1 = wt at *
    walk_at "w"
    refine rgK_of (by omega) (by omega) ?_
    walk_at "w"
    refine leK_of (by rw [rngD_len]; omega) (lc_allG (fun _ d => ∃ z, d = .int z ∧ -2 ≤ z ∧ z ≤ 2) (fun k g' => ∃ m, g' = g.w m ∧ n - 1 ≤ m + k) ⟨n - 1, rfl, by omega⟩ (by walk_at "lcw") (fun k d g' hk hJ C1 C0 q => ?_) (fun acc g' hl3 hp3 hJ => ?_))
    · obtain ⟨rfl, hk⟩ := rngD_inv hk
      obtain ⟨m, rfl, hm⟩ := hJ
      walk_at "w"
      refine ⟨by show 1 ≤ m; omega, ?_⟩
      walk_at "w"
      intro z z1 z2
      walk_at "w"
      exact q _ _ ⟨z - 2, rfl, by omega, by omega⟩ ⟨m - 1, rfl, by omega⟩
    obtain ⟨m, rfl, hm⟩ := hJ
    rw [rngD_len] at hl3 hm
    obtain ⟨ht, rfl, hht⟩ := ints_of_get hp3
    rw [List.length_map] at hl3
    walk_at "w"
    refine ⟨by show 1 ≤ m; omega, pk_of (by omega) (by omega) fun y y1 y2 => ?_⟩
    walk_at "w"
    refine rgK_of (by omega) (by omega) ?_
    walk_at "w"
    refine ⟨⟨fun k ρ' g' => Hold (∃ n2, g' = g.w n2 ∧ g.left ≤ n2 + 105 + 40 * k ∧ ∃ (ws : List Way) (s8 s9 s10 s11 s12 : Sl), ρ' = [.rs 0, .dt (.tuple [.int a, .int b, .int c]), .dt (.int (1 + r)), .dt (.int (1 + p)), .ls (wt.map PyData.int), .dt (.int e), .ls (ht.map PyData.int), .ls (ws.map Way.d), s8, s9, s10, s11, s12, .un, .un, .un] ∧ ws.length = k ∧ ∀ w ∈ ws, (0 ≤ w.a ∧ w.a < 1 + r) ∧ (0 ≤ w.b ∧ w.b < 1 + r) ∧ w.gs.length = (1 + p).toNat ∧ ∀ x ∈ w.gs, -100000 ≤ x ∧ x ≤ 100000),
      hold ⟨m - 1, rfl, by omega, [], _, _, _, _, _, rfl, rfl, fun w hw => by cases hw⟩, fun k d ρ' g' hk hI => ?_, fun ρ' g' hI => ?_⟩⟩
    · obtain ⟨n2, rfl, hn2, ws, s8, s9, s10, s11, s12, rfl, hw1, hw2⟩ := hI.h
      obtain ⟨rfl, hk⟩ := rngD_inv hk
      walk_at "w"
      refine lc_allG (fun _ d => ∃ z, d = .int z ∧ 0 ≤ z ∧ z < 1 + r) (fun k g' => ∃ m, g' = g.w m ∧ n2 ≤ m + k) ⟨n2, rfl, by omega⟩ (by walk_at "lcw") (fun k2 d g' hk2 hJ C1 C0 qq => ?_) (fun acc g' hl2 hp2 hJ => ?_)
      · obtain ⟨rfl, hk3⟩ := rngD_inv hk2
        obtain ⟨m3, rfl, hm3⟩ := hJ
        walk_at "w"
        replace hk3 : k2 < 2 := hk3
        refine ⟨by show 1 ≤ m3; omega, pk_of (by omega) (by omega) fun z z1 z2 => ?_⟩
        walk_at "w"
        exact qq _ _ ⟨z, rfl, z1, z2⟩ ⟨m3 - 1, rfl, by omega⟩
      obtain ⟨m3, rfl, hm3⟩ := hJ
      rw [rngD_len] at hl2 hm3
      replace hm3 : n2 ≤ m3 + 2 := hm3
      obtain ⟨zs, rfl, hzs⟩ := ints_of_get hp2
      rw [List.length_map] at hl2
      match zs, hl2, hzs with
      | [u, v], _, hzs =>
      have hu := hzs u (by simp)
      have hv := hzs v (by simp)
      walk_at "w"
      refine ⟨⟨by omega, by omega⟩, by show 30 ≤ m3; omega, fun gs n4 g1 g2 g3 => ?_⟩
      replace g3 : m3 ≤ n4 + 30 := g3
      walk_at "w"
      obtain ⟨x1, hx1, ex1⟩ := atI_int (zs := ht) hu.1 (by omega)
      obtain ⟨x2, hx2, ex2⟩ := atI_int (zs := ht) hv.1 (by omega)
      have b1 := hht x1 hx1
      have b2 := hht x2 hx2
      refine opK_of ex1 ?_
      walk_at "w"
      refine opK_of ex2 ?_
      walk_at "w"
      refine rgK_of (by omega) (by omega) ?_
      walk_at "w"
      refine leK_of (by rw [rngD_len]; omega) (lc_all (fun _ d => ∃ z, d = .int z ∧ -200 ≤ z ∧ z ≤ 200) (by walk_at "lcw") (fun k2 d hk2 C1 C0 qq => ?_) (fun acc hl4 hp4 => ?_))
      · obtain ⟨rfl, hk3⟩ := rngD_inv hk2
        obtain ⟨z1, hz1, ez1⟩ := atI_int (zs := wt) (i := 0 + (k2 : Nat)) (by omega) (by omega)
        obtain ⟨z2, hz2, ez2⟩ := atI_int (zs := gs) (i := 0 + (k2 : Nat)) (by omega) (by omega)
        have c1 := hwt2 z1 hz1
        have c2 := g2 z2 hz2
        walk_at "w"
        refine opK_of ez1 ?_
        walk_at "w"
        refine opK_of ez2 ?_
        walk_at "w"
        refine mlK_of (.inl (.inr ⟨by omega, by omega⟩)) ?_
        walk_at "w"
        refine qq _ ⟨z1 * z2, rfl, ?_⟩
        rcases (show z1 = 0 ∨ z1 = 1 ∨ z1 = 2 by omega) with rfl | rfl | rfl <;> omega
      rw [rngD_len] at hl4
      obtain ⟨qs, rfl, hqs⟩ := ints_of_get hp4
      rw [List.length_map] at hl4
      have hsum := sum_abs (M := 200) hqs
      walk_at "w"
      generalize qs.sum = sm at hsum ⊢
      obtain ⟨z3, hz3, ez3⟩ := atI_int (zs := gs) (i := e) (by omega) (by omega)
      have c3 := g2 z3 hz3
      refine opK_of ez3 ?_
      walk_at "w"
      refine ⟨by show 1 ≤ n4; omega, ?_⟩
      walk_at "w"
      intro o o1 o2
      walk_at "w"
      refine opK_of (ixN_at e1 (by rw [List.length_map]; omega)) ?_
      walk_at "w"
      refine ltK_of (by rw [List.length_map]; omega) ?_
      walk_at "w"
      have evl : ∀ v : Int, (gs.map PyData.int).set e.toNat (.int v) = (gs.set e.toNat v).map PyData.int := fun v => by rw [List.map_set]
      refine hold ⟨n4 - 1, rfl, by omega, ws ++ [⟨u, v, gs.set e.toNat (z3 + (if x1 - x2 - sm - 1 - o < 0 then x1 - x2 - sm - 1 - o else 0))⟩], _, _, _, _, _, by rw [List.map_append, List.map_singleton, Way.d, ← evl]; rfl, by rw [List.length_append, hw1]; rfl, fun w hw => ?_⟩
      rcases List.mem_append.mp hw with hw | hw
      · exact hw2 w hw
      · cases List.mem_singleton.mp hw
        refine ⟨hu, hv, by show (gs.set e.toNat _).length = _; rw [List.length_set]; omega, fun y hy => ?_⟩
        rcases List.mem_or_eq_of_mem_set hy with hy | rfl
        · have := g2 y hy; omega
        · split <;> omega
    · obtain ⟨n2, rfl, hn2, ws, s8, s9, s10, s11, s12, rfl, hw1, hw2⟩ := hI.h
      rw [rngD_len] at hw1 hn2
      walk_at "w"
      exact h ⟨1 + r, 1 + p, ws⟩ wt ht n2 ⟨⟨show 1 ≤ 1 + r by omega, show 1 + r ≤ a by omega⟩, ⟨show 1 ≤ 1 + p by omega, show 1 + p ≤ b by omega⟩, by show (ws.length : Int) ≤ c; omega, hw2, hwl2, hwt2, by show ht.length = (1 + r).toNat; omega, hht⟩ (by omega)
  · cases h
abbrev s__law_met : Stmt := topS 8
theorem c__law_met : FnScope ["_law_book_here", "_law_some", "_law_room", "_law_found", "_law_at", "_law_k", "_law_a", "_law_b", "_law_gains_here"] ["_law_book_here", "_law_some", "_law_room"] (defScope s__law_met) := ⟨rfl, rfl, rfl, by decide +kernel, rfl, by decide +kernel, by decide +kernel⟩
def S__law_met : Spec Unit := fun as g T U => match as with
  | [.dt b, .dt s, .dt (.int room)] => ∃ B : Book, b = B.d ∧ ∃ ns : List Int, s = .list (ns.map PyData.int) ∧ SetOk B ns ∧ (0 ≤ room ∧ room < B.rooms) ∧ ∀ ms : List Int, ms.Nodup → (∀ x, x ∈ ms ↔ Rch B ns room x) → (∀ x ∈ ms, 0 ≤ x ∧ x < B.rooms) → T (.nl (ms.map PyData.int)) g
  | _ => False
theorem ok__law_met {P : Program} {w : World} {K : PySem.W.Frag} {mg : Str → Option Value} {base : Heap} {k : Nat} (D : Dfn K mg "_law_met" s__law_met ["_law_book_here", "_law_some", "_law_room"]) (z_len : mg "len" = none) : Ok P w K mg base (k + 1) "_law_met" ["_law_book_here", "_law_some", "_law_room"] (spZ (Z0 K) S__law_met) := by
  refine D.ok c__law_met (fun as g T U h => by unfold S__law_met at h; split at h <;> first | rfl | cases h) (by decide) fun fa cdv A outer s' H E hr => ⟨_, _, (s_cons (s_set 3 c__law_met.nd (e_lst (a_cons (e_v 2) a_nil)))
      (s_cons (s_set 4 c__law_met.nd e_int)
      (s_cons (s_while (t_cmp c_lt (e_v 4) (e_callB k_len (a_cons (e_v 3) a_nil) z_len rfl)) (s_cons (s_for (i_seq (e_v 1)) (g_name 5 c__law_met.nd) (s_cons (s_asg (e_ixX hr.units (e_ixX hr.units (e_v 0) e_int) (e_v 5)) (g_tup (n := 3) (gs_cons (g_name 6 c__law_met.nd) (gs_cons (g_name 7 c__law_met.nd) (gs_cons (g_name 8 c__law_met.nd) gs_nil)))))
      (s_one (s_if (t_w (w_and (t_cmp (c_eq hr.units) (e_v 6) (e_ixX hr.units (e_v 3) (e_v 4))) (w_and1 (t_cmp (c_ninX hr.wide) (e_v 7) (e_v 3))))) (s_one (s_expr (e_ml PySem.F.slot_list_append PySem.F.type_list_append mt_append m_app 3 (a_cons (e_v 7) a_nil)))) s_nil))))
      (s_one (s_set 4 c__law_met.nd (e_op b_add (e_v 4) e_int)))))
      (s_one (s_ret (e_v 3)))))), ?_⟩
  intro as g T U h
  unfold S__law_met at h
  clear hr
  split at h
  · rename_i room
    obtain ⟨B, rfl, ns, rfl, hok, hr, h⟩ := h
    have hR1 := hok.r1
    have hnl := hok.n
    walk_at "w"
    refine ⟨⟨fun m ρ' g' => Hold (g' = g ∧ ∃ (ms : List Int) (at_ : Nat) (s5 s6 s7 s8 : Sl), ρ' = [.dt B.d, .dt (.list (ns.map PyData.int)), .dt (.int room), .ls (ms.map PyData.int), .dt (.int at_), s5, s6, s7, s8] ∧ TurnI B ns room ms ∧ at_ ≤ ms.length ∧ (∀ j, j < at_ → ∀ k ∈ ns, some (wAt B k).a = ms[j]? → (wAt B k).b ∈ ms) ∧ m = B.rooms.toNat - at_),
      ⟨_, hold ⟨rfl, [room], 0, _, _, _, _, rfl, ⟨by simp, fun x hx => by rw [List.mem_singleton.mp hx]; exact .refl _, by simp, fun x hx => by rw [List.mem_singleton.mp hx]; exact hr⟩, by simp, fun j hj => by omega, rfl⟩⟩, fun m ρ' g' hI => ?_⟩⟩
    obtain ⟨rfl, ms, at_, s5, s6, s7, s8, rfl, hT, hal, hcl, rfl⟩ := hI.h
    have hml := hT.len
    walk_at "w"
    rw [List.length_map]
    refine ifb_of (fun q => ?_) (fun q => ?_)
    · have q : (at_ : Int) < (ms.length : Nat) := of_decide_eq_true q
      have hat : at_ < ms.length := by omega
      obtain ⟨here, hhere⟩ : ∃ here, ms[at_]? = some here := ⟨_, List.getElem?_eq_getElem hat⟩
      walk_at "w"
      refine ⟨⟨fun i ρ' g2 => Hold (g2 = g' ∧ ∃ (ex : List Int) (s5 s6 s7 s8 : Sl), ρ' = [.dt B.d, .dt (.list (ns.map PyData.int)), .dt (.int room), .ls ((ms ++ ex).map PyData.int), .dt (.int at_), s5, s6, s7, s8] ∧ TurnI B ns room (ms ++ ex) ∧ ∀ k ∈ ns.take i, (wAt B k).a = here → (wAt B k).b ∈ ms ++ ex),
        hold ⟨rfl, [], _, _, _, _, by rw [List.append_nil], by rw [List.append_nil]; exact hT, by simp⟩, fun i d ρ' g2 hk hI => ?_, fun ρ' g2 hI => ?_⟩⟩
      · obtain ⟨rfl, ex, s5, s6, s7, s8, rfl, hT2, hc2⟩ := hI.h
        rw [List.getElem?_map] at hk
        obtain ⟨k, hk0, rfl⟩ := Option.map_eq_some_iff.mp hk
        have hkm := List.mem_of_getElem? hk0
        obtain ⟨w1, w2, w3⟩ := hok.w k hkm
        have hml2 := hT2.len
        have et : ns.take (i + 1) = ns.take i ++ [k] := by rw [List.take_add_one, hk0]; rfl
        have hix : atI ((ms ++ ex).map PyData.int) (at_ : Int) = some (.int here) := atI_nat (by
          rw [List.getElem?_map, List.getElem?_append_left hat, hhere]
          rfl)
        have hhm : here ∈ ms ++ ex := List.mem_append_left _ (List.mem_of_getElem? hhere)
        walk_at "w"
        refine opK_of (wAt_at w1) ?_
        generalize hw : wAt B k = w at *
        walk_at "w"
        refine opK_of hix ?_
        walk_at "w"
        refine ifb_of (fun q1 => ?_) (fun q1 => ?_)
        · have q1 : w.a = here := of_decide_eq_true q1
          walk_at "w"
          refine ⟨rfl, flat_ints _, ?_⟩
          rw [inD_ints]
          refine ifb_of (fun q2 => ?_) (fun q2 => ?_) <;> rw [Bool.true_xor] at q2
          · have q2 : w.b ∉ ms ++ ex := by simpa using q2
            walk_at "w"
            refine ltK_of (by rw [List.length_map]; omega) ?_
            walk_at "w"
            have hT3 : TurnI B ns room (ms ++ ex ++ [w.b]) := by
              have := hT2.push hkm (by rw [hw, q1]; exact hhm) (by rw [hw]; exact q2) (by rw [hw]; exact w3)
              rw [hw] at this
              exact this
            refine hold ⟨rfl, ex ++ [w.b], _, _, _, _, by rw [← List.append_assoc, List.map_append (l₁ := ms ++ ex)]; rfl, by rw [← List.append_assoc]; exact hT3, fun j hj ha => ?_⟩
            rw [et] at hj
            rw [← List.append_assoc]
            rcases List.mem_append.mp hj with hj | hj
            · exact List.mem_append_left _ (hc2 j hj ha)
            · rw [List.mem_singleton.mp hj, hw]; simp
          · have q2 : w.b ∈ ms ++ ex := by
              rw [Bool.not_eq_false'] at q2
              exact of_decide_eq_true q2
            walk_at "w"
            refine hold ⟨rfl, ex, _, _, _, _, rfl, hT2, fun j hj ha => ?_⟩
            rw [et] at hj
            rcases List.mem_append.mp hj with hj | hj
            · exact hc2 j hj ha
            · rw [List.mem_singleton.mp hj, hw]; exact q2
        · have q1 : ¬ w.a = here := of_decide_eq_false q1
          walk_at "w"
          refine hold ⟨rfl, ex, _, _, _, _, rfl, hT2, fun j hj ha => ?_⟩
          rw [et] at hj
          rcases List.mem_append.mp hj with hj | hj
          · exact hc2 j hj ha
          · rw [List.mem_singleton.mp hj, hw] at ha
            exact absurd ha q1
      · obtain ⟨rfl, ex, s5, s6, s7, s8, rfl, hT2, hc2⟩ := hI.h
        rw [List.length_map, List.take_length] at hc2
        have hml2 := hT2.len
        walk_at "w"
        refine ⟨B.rooms.toNat - (at_ + 1), by omega, hold ⟨rfl, ms ++ ex, at_ + 1, _, _, _, _, rfl, hT2, by rw [List.length_append]; omega, fun j hj k hk ha => ?_, rfl⟩⟩
        by_cases hja : j = at_
        · subst hja
          rw [List.getElem?_append_left hat, hhere] at ha
          exact hc2 k hk (Option.some.inj ha)
        · rw [List.getElem?_append_left (by omega)] at ha
          exact List.mem_append_left _ (hcl j (by omega) k hk ha)
    · have q : ¬ (at_ : Int) < (ms.length : Nat) := of_decide_eq_false q
      walk_at "w"
      refine h ms hT.nd (hT.fin (.inr fun k hk ha => ?_)) hT.rg
      obtain ⟨j, hj, e⟩ := List.getElem_of_mem ha
      exact hcl j (by omega) k hk (by rw [List.getElem?_eq_getElem hj, e])
  · cases h
abbrev s__law_rings : Stmt := topS 9
theorem c__law_rings : FnScope ["_law_book_here", "_law_some", "_law_rooms", "_law_found", "_law_over", "_law_k", "_law_a", "_law_b", "_law_gains_here", "_law_ring", "_law_room", "_law_one"] ["_law_book_here", "_law_some"] (defScope s__law_rings) := ⟨rfl, rfl, rfl, by decide +kernel, rfl, by decide +kernel, by decide +kernel⟩
def S__law_rings : Spec Unit := fun as g T U => match as with
  | [.dt b, .dt s] => ∃ B : Book, b = B.d ∧ ∃ ns : List Int, s = .list (ns.map PyData.int) ∧ SetOk B ns ∧ ns.length ≤ 1000 ∧ T (.nl ((ringsL B ns).map intsLD)) g
  | _ => False
theorem pick_met {B : Book} {ns : List Int} {acc : List PyData} (h : ∀ (i : Nat) (d : PyData), acc[i]? = some d → ∃ ms : List Int, d = .tuple [.int (i : Nat), .list (ms.map PyData.int)] ∧ ∀ x, x ∈ ms ↔ Rch B ns (i : Nat) x) :
    ∃ m : Nat → List Int, acc = (List.range acc.length).map (fun i => PyData.tuple [.int (i : Nat), .list ((m i).map PyData.int)]) ∧ ∀ i, i < acc.length → ∀ x, x ∈ m i ↔ Rch B ns (i : Nat) x := by
  have h2 : ∀ i : Nat, ∃ ms : List Int, ∀ d, acc[i]? = some d → d = .tuple [.int (i : Nat), .list (ms.map PyData.int)] ∧ ∀ x, x ∈ ms ↔ Rch B ns (i : Nat) x := fun i => by
    cases e : acc[i]? with
    | none => exact ⟨[], fun d h => by cases h⟩
    | some d =>
      obtain ⟨ms, h3⟩ := h i d e
      exact ⟨ms, fun d' e' => by cases e'; exact h3⟩
  refine ⟨fun i => Classical.choose (h2 i), ?_, fun i hi => (Classical.choose_spec (h2 i) _ (List.getElem?_eq_getElem hi)).2⟩
  apply List.ext_getElem?
  intro i
  by_cases hi : i < acc.length
  · rw [List.getElem?_map, List.getElem?_range hi, List.getElem?_eq_getElem hi]
    exact congrArg some (Classical.choose_spec (h2 i) _ (List.getElem?_eq_getElem hi)).1
  · rw [List.getElem?_eq_none (by omega), List.getElem?_eq_none (by simp; omega)]
theorem ok__law_rings {P : Program} {w : World} {K : PySem.W.Frag} {mg : Str → Option Value} {base : Heap} {k : Nat} (D : Dfn K mg "_law_rings" s__law_rings ["_law_book_here", "_law_some"]) (f__law_met : Ok P w K mg base k "_law_met" ["_law_book_here", "_law_some", "_law_room"] (spZ (Z0 K) S__law_met)) (z_range : mg "range" = none) (z_dict : mg "dict" = none) : Ok P w K mg base (k + 1) "_law_rings" ["_law_book_here", "_law_some"] (spZ (Z0 K) S__law_rings) := by
  refine D.ok c__law_rings (fun as g T U h => by unfold S__law_rings at h; split at h <;> first | rfl | cases h) (by decide) fun fa cdv A outer s' H E hr => ⟨_, _, (s_cons (s_set 2 c__law_rings.nd (e_callTy k_dictP (a_cons (e_lc [("_law_room", 10)] c__law_rings.nd (i_rng1 z_range (a_cons (e_ixX hr.units (e_v 0) e_int) a_nil)) (fun _ _ _ _ _ => (g_name 10 c__law_rings.nd)) (own_name (by decide)) (fun _ _ _ _ _ => ts_nil) (fun _ _ _ _ _ => (e_tup (a_cons (e_v 10) (a_cons (e_fn0U let_n f__law_met hr (a_cons (e_v 0) (a_cons (e_v 1) (a_cons (e_v 10) a_nil)))) a_nil))))) a_nil) z_dict rfl))
      (s_cons (s_set 3 c__law_rings.nd (e_lst a_nil))
      (s_cons (s_set 4 c__law_rings.nd (e_lst a_nil))
      (s_cons (s_for (i_seq (e_v 1)) (g_name 5 c__law_rings.nd) (s_cons (s_asg (e_ixX hr.units (e_ixX hr.units (e_v 0) e_int) (e_v 5)) (g_tup (n := 3) (gs_cons (g_name 6 c__law_rings.nd) (gs_cons (g_name 7 c__law_rings.nd) (gs_cons (g_name 8 c__law_rings.nd) gs_nil)))))
      (s_one (s_if (t_w (w_and (t_cmp (c_ninX hr.wide) (e_v 5) (e_v 4)) (w_and1 (t_cmp (c_inX hr.wide) (e_v 6) (e_ixX hr.units (e_v 2) (e_v 7)))))) (s_cons (s_setLc 9 [("_law_one", 11)] c__law_rings.nd (i_seq (e_v 1)) (fun _ _ _ _ _ => (g_name 11 c__law_rings.nd)) (own_name (by decide)) (fun _ _ _ _ _ => (ts_one (t_w (w_and (t_cmp (c_inX hr.wide) (e_ixX hr.units (e_ixX hr.units (e_ixX hr.units (e_v 0) e_int) (e_v 11)) e_int) (e_ixX hr.units (e_v 2) (e_v 6))) (w_and1 (t_cmp (c_inX hr.wide) (e_v 6) (e_ixX hr.units (e_v 2) (e_ixX hr.units (e_ixX hr.units (e_ixX hr.units (e_v 0) e_int) (e_v 11)) e_int)))))))) (fun _ _ _ _ _ => (e_v 11)))
      (s_cons (s_expr (e_ml PySem.F.slot_list_append PySem.F.type_list_append mt_append m_app 3 (a_cons (e_v 9) a_nil)))
      (s_one (s_expr (e_ml PySem.F.slot_list_extend PySem.F.type_list_extend mt_extendX m_extX 4 (a_cons (e_v 9) a_nil)))))) s_nil))))
      (s_one (s_ret (e_v 3))))))), ?_⟩
  intro as g T U h
  unfold S__law_rings at h
  clear hr f__law_met
  split at h
  · obtain ⟨B, rfl, ns, rfl, hok, hnl, h⟩ := h
    have hR0 := hok.r0
    have hR1 := hok.r1
    walk_at "w"
    refine rgK_of (by omega) (by omega) ?_
    refine leK_of (by rw [rngD_len]; omega) (lc_all (fun i d => ∃ ms : List Int, d = .tuple [.int (i : Nat), .list (ms.map PyData.int)] ∧ ∀ x, x ∈ ms ↔ Rch B ns (i : Nat) x) (by walk_at "lcw") (fun i d hd C1 C0 q => ?_) (fun acc hl2 hp => ?_))
    · obtain ⟨rfl, hi⟩ := rngD_inv hd
      rw [Int.zero_add]
      walk_at "w"
      refine ⟨B, rfl, ns, rfl, hok, ⟨by omega, by omega⟩, fun ms nd hms hb => ?_⟩
      walk_at "w"
      exact q _ ⟨ms, rfl, hms⟩
    rw [rngD_len] at hl2
    obtain ⟨m, e, hm⟩ := pick_met hp
    rw [hl2] at e hm
    subst e
    clear hp hl2
    walk_at "w"
    refine ⟨(List.range B.rooms.toNat).map fun i : Nat => (Sum.inl (i : Int), PyData.list ((m i).map PyData.int)), by rw [List.map_map]; rfl, ?_, ?_⟩
    · rw [List.map_map]
      refine List.Pairwise.map _ (fun a b h => ?_) List.nodup_range
      intro e
      exact h (by injection e with e; omega)
    rw [show ((List.range B.rooms.toNat).map fun i : Nat => (Sum.inl (i : Int), PyData.list ((m i).map PyData.int)) : List (Key × PyData)).map (fun p => (kD p.1, p.2)) = rngF (fun i => .list ((m i).map PyData.int)) B.rooms.toNat from by rw [List.map_map]; rfl]
    have look : ∀ {a : Int}, 0 ≤ a → a < B.rooms → lookD (rngF (fun i => .list ((m i).map PyData.int)) B.rooms.toNat) (.int a) = some (.list ((m a.toNat).map PyData.int)) ∧ ∀ x, x ∈ m a.toNat ↔ Rch B ns a x :=
      fun {a} h0 h1 => ⟨by rw [lookD_rng, if_pos ⟨h0, by omega⟩], fun x => by
        have := hm a.toNat (by omega) x
        rw [show ((a.toNat : Nat) : Int) = a from by omega] at this
        exact this⟩
    walk_at "w"
    refine ⟨⟨fun i ρ' g2 => Hold (g2 = g ∧ ∃ (s5 s6 s7 s8 s9 : Sl), ρ' = [.dt B.d, .dt (.list (ns.map PyData.int)), .dk (rngF (fun i => .list ((m i).map PyData.int)) B.rooms.toNat), .ls (((ns.take i).foldl (ringStep B ns) []).map intsLD), .ls (((ns.take i).foldl (ringStep B ns) []).flatten.map PyData.int), s5, s6, s7, s8, s9, .un, .un]),
      hold ⟨rfl, _, _, _, _, _, rfl⟩, fun i d ρ' g2 hk hI => ?_, fun ρ' g2 hI => ?_⟩⟩
    · obtain ⟨rfl, s5, s6, s7, s8, s9, rfl⟩ := hI.h
      rw [List.getElem?_map] at hk
      obtain ⟨x, hx, rfl⟩ := Option.map_eq_some_iff.mp hk
      have hxm := List.mem_of_getElem? hx
      obtain ⟨hw1, hw2, hw3⟩ := hok.w x hxm
      have et : (ns.take (i + 1)).foldl (ringStep B ns) [] = ringStep B ns ((ns.take i).foldl (ringStep B ns) []) x := by
        rw [List.take_add_one, hx, List.foldl_append]; rfl
      have hinv := ringInv_take (B := B) (ws := ns) i
      have htk : onR B ns x = true → (x ∈ ((ns.take i).foldl (ringStep B ns) []).flatten ↔ ringOf B ns x ∈ (ns.take i).foldl (ringStep B ns) []) := fun ho => by
        rw [List.mem_flatten]
        exact taken_iff (fun y hy => List.mem_of_mem_take hy) hxm ho hinv
      have hfl := ringsF_len (B := B) (ws := ns) (ns.take i) []
      have hil : (ns.take i).length ≤ ns.length := by rw [List.length_take]; omega
      have hrl : ∀ r ∈ (ns.take i).foldl (ringStep B ns) [], r.length ≤ 1000 := fun r hr => by
        obtain ⟨k, _, _, rfl⟩ := hinv.sub r hr
        exact Nat.le_trans ringOf_len hnl
      have hff : ∀ M : List (List Int), (∀ r ∈ M, r.length ≤ 1000) → M.flatten.length ≤ 1000 * M.length := fun M => by
        induction M with
        | nil => intro _; exact Nat.zero_le _
        | cons r M ih =>
          intro h
          have h1 := h r List.mem_cons_self
          have h2 := ih fun q hq => h q (List.mem_cons_of_mem _ hq)
          rw [List.flatten_cons, List.length_append, List.length_cons, Nat.mul_succ]
          omega
      have hfn := hff _ hrl
      simp only [List.length_nil, Nat.zero_add] at hfl
      generalize (ns.take i).foldl (ringStep B ns) [] = F at *
      obtain ⟨lk1, lk2⟩ := look hw3.1 hw3.2
      obtain ⟨la1, la2⟩ := look hw2.1 hw2.2
      have hrof : ringOf B ns x = ns.filter fun j => inRg B ns x j := rfl
      have hon : onR B ns x = true ↔ Rch B ns (wAt B x).b (wAt B x).a := rch_iff
      generalize hR : ringOf B ns x = R at *
      have hRn : R.length ≤ 1000 := by rw [← hR]; exact Nat.le_trans ringOf_len hnl
      have hstep : ringStep B ns F x = if onR B ns x = true ∧ R ∉ F then F ++ [R] else F := by unfold ringStep; rw [hR]
      have hin : ∀ j, inRg B ns x j = true ↔ Rch B ns (wAt B x).b (wAt B j).a ∧ Rch B ns (wAt B j).b (wAt B x).a := fun j => by
        unfold inRg
        rw [Bool.and_eq_true, rch_iff, rch_iff]
      walk_at "w"
      refine opK_of (wAt_at hw1) ?_
      generalize hwx : wAt B x = w at *
      walk_at "w"
      refine ⟨rfl, flat_ints _, ?_⟩
      rw [inD_ints]
      refine ifb_of (fun q1 => ?_) (fun q1 => ?_) <;> rw [Bool.true_xor] at q1
      · have q1 : x ∉ F.flatten := by simpa using q1
        walk_at "w"
        refine opK_of lk1 ?_
        walk_at "w"
        refine ⟨rfl, flat_ints _, ?_⟩
        rw [inD_ints]
        refine ifb_of (fun q2 => ?_) (fun q2 => ?_) <;> rw [Bool.false_xor] at q2
        · have q2 : Rch B ns w.b w.a := (lk2 _).mp (of_decide_eq_true q2)
          have ho : onR B ns x = true := hon.mpr q2
          have hRF : R ∉ F := fun h => q1 ((htk ho).mpr h)
          rw [hstep, if_pos ⟨ho, hRF⟩] at et
          have hab : Rch B ns w.a w.b := by rw [← hwx]; exact .one hxm
          walk_at "w"
          refine leK_of (by rw [List.length_map]; omega) (lc_filL (fun j => inRg B ns x j) PyData.int (by walk_at "lcw") (fun j hj C1 C0 c1 c0 => ?_) ?_)
          · obtain ⟨hv1, hv2, hv3⟩ := hok.w j hj
            obtain ⟨lj1, lj2⟩ := look hv3.1 hv3.2
            have hinj := hin j
            walk_at "w"
            refine opK_of (wAt_at hv1) ?_
            walk_at "w"
            refine opK_of la1 ?_
            walk_at "w"
            refine ⟨rfl, flat_ints _, ?_⟩
            rw [inD_ints]
            refine ifb_of (fun e1 => ?_) (fun e1 => ?_) <;> rw [Bool.false_xor] at e1
            · have e1 : Rch B ns w.a (wAt B j).a := (la2 _).mp (of_decide_eq_true e1)
              walk_at "w"
              refine opK_of (wAt_at hv1) ?_
              walk_at "w"
              refine opK_of lj1 ?_
              walk_at "w"
              refine ⟨rfl, flat_ints _, ?_⟩
              rw [inD_ints]
              refine ifb_of (fun e2 => ?_) (fun e2 => ?_) <;> rw [Bool.false_xor] at e2
              · have e2 : Rch B ns (wAt B j).b w.a := (lj2 _).mp (of_decide_eq_true e2)
                walk_at "w"
                exact c1 (hinj.mpr ⟨q2.trans e1, e2⟩)
              · have e2 : ¬ Rch B ns (wAt B j).b w.a := fun h => of_decide_eq_false e2 ((lj2 _).mpr h)
                walk_at "w"
                exact c0 (Bool.eq_false_iff.mpr fun h => e2 (hinj.mp h).2)
            · have e1 : ¬ Rch B ns w.a (wAt B j).a := fun h => of_decide_eq_false e1 ((la2 _).mpr h)
              walk_at "w"
              exact c0 (Bool.eq_false_iff.mpr fun h => e1 (hab.trans (hinj.mp h).1))
          rw [← hrof]
          walk_at "w"
          refine ltK_of (by rw [List.length_map]; omega) ?_
          walk_at "w"
          refine leK_of (by rw [List.length_map, List.length_map]; omega) ?_
          walk_at "w"
          have e3 : (F ++ [R]).flatten = F.flatten ++ R := by simp
          exact hold ⟨rfl, _, _, _, _, _, by rw [et, e3, List.map_append, List.map_append]; rfl⟩
        · have q2 : ¬ Rch B ns w.b w.a := fun h => of_decide_eq_false q2 ((lk2 _).mpr h)
          walk_at "w"
          rw [hstep, if_neg (fun a => q2 (hon.mp a.1))] at et
          exact hold ⟨rfl, _, _, _, _, _, by rw [et]; rfl⟩
      · have q1 : x ∈ F.flatten := by
          rw [Bool.not_eq_false'] at q1
          exact of_decide_eq_true q1
        walk_at "w"
        have hno : ¬ (onR B ns x = true ∧ R ∉ F) := fun ⟨a, b⟩ => b ((htk a).mp q1)
        rw [hstep, if_neg hno] at et
        exact hold ⟨rfl, _, _, _, _, _, by rw [et]; rfl⟩
    · obtain ⟨rfl, s5, s6, s7, s8, s9, rfl⟩ := hI.h
      rw [List.length_map, List.take_length]
      walk_at "w"
      exact h
  · cases h
abbrev s__law_ordered : Stmt := topS 10
theorem c__law_ordered : FnScope ["_law_book_here", "_law_all", "_law_left", "_law_found", "_law_ring", "_law_room", "_law_others", "_law_one"] ["_law_book_here", "_law_all"] (defScope s__law_ordered) := ⟨rfl, rfl, rfl, by decide +kernel, rfl, by decide +kernel, by decide +kernel⟩
def allW (B : Book) : List Int := (List.range B.ways.length).map fun i => ((i : Nat) : Int)
def S__law_ordered : Spec Unit := fun as g T U => match as with
  | [.dt b, .dt s] => ∃ B : Book, b = B.d ∧ SetOk B (allW B) ∧ B.ways.length ≤ 1000 ∧ s = .list ((ringsL B (allW B)).map intsLD) ∧ ∀ os : List (List Int), os.Perm (ringsL B (allW B)) → T (.nl (os.map intsLD)) g
  | _ => False
theorem anyL_iff (M : List (List Int)) (r : List Int) : ((M.map intsLD).any fun z => z.eqv (.list (r.map PyData.int))) = true ↔ r ∈ M := by
  rw [List.any_eq_true]
  constructor
  · rintro ⟨z, hz, e⟩
    obtain ⟨o, ho, rfl⟩ := List.mem_map.mp hz
    unfold intsLD at e
    rw [eqv_lists] at e
    have := of_decide_eq_true e
    rw [← this]; exact ho
  · intro h
    exact ⟨_, List.mem_map.mpr ⟨r, h, rfl⟩, by unfold intsLD; rw [eqv_lists]; simp⟩
theorem mapErase {α β : Type} (f : α → β) : ∀ (M : List α) (j : Nat), (M.map f).eraseIdx j = (M.eraseIdx j).map f
  | [], _ => rfl
  | _ :: _, 0 => rfl
  | x :: M, j + 1 => by show f x :: (M.map f).eraseIdx j = f x :: (M.eraseIdx j).map f; rw [mapErase f M j]
theorem fstAt {α : Type} [DecidableEq α] : ∀ (M : List α) (r : α), r ∈ M → ∃ j : Nat, M[j]? = some r ∧ ∀ m, m < j → M[m]? ≠ some r
  | x :: M, r, h => by
    by_cases e : x = r
    · exact ⟨0, by rw [e]; rfl, fun m hm => by omega⟩
    · obtain ⟨j, h1, h2⟩ := fstAt M r (by
        rcases List.mem_cons.mp h with h | h
        · exact absurd h.symm e
        · exact h)
      refine ⟨j + 1, h1, fun m hm => ?_⟩
      cases m with
      | zero => intro z; exact e (by simpa using z)
      | succ m => exact h2 m (by omega)
theorem eraseP {α : Type} : ∀ (M : List α) (r : α) (j : Nat), M[j]? = some r → M.Perm (r :: M.eraseIdx j)
  | x :: M, r, 0, h => by
    cases (show some x = some r from h)
    exact .refl _
  | x :: M, r, j + 1, h => ((eraseP M r j h).cons x).trans (.swap r x _)
theorem ok__law_ordered {P : Program} {w : World} {K : PySem.W.Frag} {mg : Str → Option Value} {base : Heap} {k : Nat} (D : Dfn K mg "_law_ordered" s__law_ordered ["_law_book_here", "_law_all"]) (f__law_met : Ok P w K mg base k "_law_met" ["_law_book_here", "_law_some", "_law_room"] (spZ (Z0 K) S__law_met)) (z_list : mg "list" = none) (z_range : mg "range" = none) (z_len : mg "len" = none) : Ok P w K mg base (k + 1) "_law_ordered" ["_law_book_here", "_law_all"] (spZ (Z0 K) S__law_ordered) := by
  refine D.ok c__law_ordered (fun as g T U h => by unfold S__law_ordered at h; split at h <;> first | rfl | cases h) (by decide) fun fa cdv A outer s' H E hr => ⟨_, _, (s_cons (s_set 2 c__law_ordered.nd (e_callTy k_list (a_cons (e_v 1) a_nil) z_list rfl))
      (s_cons (s_set 3 c__law_ordered.nd (e_lst a_nil))
      (s_cons (s_while (t_cmp (c_ne hr.units) (e_v 2) (e_lst a_nil)) (s_one (s_for (i_seq (e_callTy k_list (a_cons (e_v 2) a_nil) z_list rfl)) (g_name 4 c__law_ordered.nd) (s_cons (s_set 5 c__law_ordered.nd (e_ixX hr.units (e_ixX hr.units (e_ixX hr.units (e_v 0) e_int) (e_ixX hr.units (e_v 4) e_int)) e_int))
      (s_cons (s_setLcK 6 2 [("_law_one", 7)] c__law_ordered.nd  (fun _ _ _ _ _ => (g_name 7 c__law_ordered.nd)) (own_name (by decide)) (fun _ _ _ _ _ => (ts_one (t_w (w_and (t_cmp (c_ne hr.units) (e_v 7) (e_v 4)) (w_and1 (t_cmp (c_inX hr.wide) (e_v 5) (e_fn0U let_n f__law_met hr (a_cons (e_v 0) (a_cons (e_lr1 z_list z_range (e_callB k_len (a_cons (e_ixX hr.units (e_v 0) e_int) a_nil) z_len rfl)) (a_cons (e_ixX hr.units (e_ixX hr.units (e_ixX hr.units (e_v 0) e_int) (e_ixX hr.units (e_v 7) e_int)) e_int) a_nil)))))))))) (fun _ _ _ _ _ => (e_v 7)))
      (s_one (s_if (t_w (w_and (t_cmp (c_eq hr.units) (e_v 6) (e_lst a_nil)) (w_and1 (t_cmp (c_inX hr.wide) (e_v 4) (e_v 2))))) (s_cons (s_expr (e_ml PySem.F.slot_list_append PySem.F.type_list_append mt_append m_app 3 (a_cons (e_v 4) a_nil)))
      (s_one (s_expr (e_ml PySem.F.slot_list_remove PySem.F.type_list_remove (mt_remQ hr.units) m_remQ 2 (a_cons (e_v 4) a_nil))))) s_nil)))))))
      (s_one (s_ret (e_v 3)))))), ?_⟩
  intro as g T U h
  unfold S__law_ordered at h
  clear hr f__law_met
  split at h
  · obtain ⟨B, rfl, hok, hl, rfl, h⟩ := h
    walk_at "w"
    refine ⟨⟨fun m ρ' g' => Hold (g' = g ∧ ∃ (L F : List (List Int)) (s4 s5 s6 s7 : Sl), ρ' = [.dt B.d, .dt (.list ((ringsL B (allW B)).map intsLD)), .ls (L.map intsLD), .ls (F.map intsLD), s4, s5, s6, s7] ∧ (F ++ L).Perm (ringsL B (allW B)) ∧ m = L.length),
      ⟨_, hold ⟨rfl, ringsL B (allW B), [], _, _, _, _, rfl, by simp, rfl⟩⟩, fun m ρ' g' hI => ?_⟩⟩
    obtain ⟨rfl, L, F, s4, s5, s6, s7, rfl, hp, rfl⟩ := hI.h
    walk_at "w"
    refine ⟨shaped_lists _, rfl, ?_⟩
    refine ifb_of (fun q => ?_) (fun q => ?_)
    · have hne : L ≠ [] := fun e => by subst e; cases q
      have hsub : ∀ r ∈ L, r ∈ ringsL B (allW B) := fun r hr => hp.mem_iff.mp (List.mem_append_right _ hr)
      have hnd : (F ++ L).Nodup := hp.nodup_iff.mpr rings_nd
      obtain ⟨r0, hr0, hmin⟩ := ring_first L hne hsub
      walk_at "w"
      refine ⟨⟨fun i ρ' g2 => Hold (g2 = g' ∧ ∃ (M E : List (List Int)) (s4 s5 s6 s7 : Sl), ρ' = [.dt B.d, .dt (.list ((ringsL B (allW B)).map intsLD)), .ls (M.map intsLD), .ls (E.map intsLD), s4, s5, s6, s7] ∧ (E ++ M).Perm (ringsL B (allW B)) ∧ M.Sublist L ∧ (r0 ∈ L.take i → r0 ∉ M)),
        hold ⟨rfl, L, F, _, _, _, _, rfl, hp, .refl _, by simp⟩, fun i d ρ' g2 hk hI => ?_, fun ρ' g2 hI => ?_⟩⟩
      · obtain ⟨rfl, M, E, s4, s5, s6, s7, rfl, hp2, hML, hr⟩ := hI.h
        rw [List.getElem?_map] at hk
        obtain ⟨r, hk0, rfl⟩ := Option.map_eq_some_iff.mp hk
        have hrL : r ∈ L := List.mem_of_getElem? hk0
        obtain ⟨k, t, rfl, hkw, hko, hke⟩ := ring_hd (hsub r hrL)
        obtain ⟨w1, w2, w3⟩ := hok.w k hkw
        walk_at "w"
        refine opK_of (atI_nat (j := 0) rfl) ?_
        walk_at "w"
        refine opK_of (wAt_at w1) ?_
        have hMl : M.length ≤ 1000 := by
          have h1 := ringsF_len (B := B) (ws := allW B) (allW B) []
          have h2 := hp2.length_eq
          have h3 : (allW B).length = B.ways.length := by simp [allW]
          unfold ringsL at h2
          simp at h1 h2
          omega
        have hMr : ∀ o ∈ M, o ∈ ringsL B (allW B) := fun o ho => hsub o (hML.subset ho)
        walk_at "w"
        refine leK_of (by rw [List.length_map]; omega) (lc_filL (fun o => decide (o ≠ k :: t) && rch B (allW B) (fstR B o) (fstR B (k :: t))) intsLD (by walk_at "lcw") (fun o ho C1 C0 q1 q0 => ?_) ?_)
        · obtain ⟨k2, t2, rfl, hkw2, _, _⟩ := ring_hd (hMr o ho)
          obtain ⟨v1, v2, v3⟩ := hok.w k2 hkw2
          walk_at "w"
          refine ifb_of (fun q => ?_) (fun q => ?_)
          · have q : k2 :: t2 ≠ k :: t := by
              intro e
              rw [e] at q
              unfold intsLD at q
              rw [eqv_lists] at q
              simp at q
            walk_at "w"
            rw [List.length_map]
            refine rgK_of (by omega) (by omega) ?_
            refine szK_of (by omega) ?_
            walk_at "w"
            refine opK_of (atI_nat (j := 0) rfl) ?_
            walk_at "w"
            refine opK_of (wAt_at v1) ?_
            walk_at "w"
            refine ⟨B, rfl, allW B, by rw [rngD_nat]; simp [allW, Function.comp_def], hok, v2, fun ms hnd hms hmb => ?_⟩
            walk_at "w"
            refine ⟨rfl, flat_ints _, ?_⟩
            rw [inD_ints]
            walk_at "w"
            have hR : (wAt B k).a ∈ ms ↔ rch B (allW B) (fstR B (k2 :: t2)) (fstR B (k :: t)) = true := (hms _).trans rch_iff.symm
            refine ifb_of (fun q2 => ?_) (fun q2 => ?_)
            · walk_at "w"
              refine q1 ?_
              rw [Bool.and_eq_true]
              exact ⟨decide_eq_true q, hR.mp (by simpa using q2)⟩
            · refine q0 ?_
              rw [Bool.and_eq_false_iff]
              exact .inr (Bool.eq_false_iff.mpr fun z => by have := hR.mpr z; simp [this] at q2)
          · have q : k2 :: t2 = k :: t := by
              unfold intsLD at q
              rw [eqv_lists] at q
              simpa using q
            walk_at "w"
            refine q0 ?_
            rw [q]
            simp
        · walk_at "w"
          refine ⟨shaped_lists _, rfl, ?_⟩
          have hMn : M.Nodup := (List.nodup_append.mp (hp2.nodup_iff.mpr rings_nd)).2.1
          have htk : L.take (i + 1) = L.take i ++ [k :: t] := by rw [List.take_add_one, hk0]; rfl
          refine ifb_of (fun q => ?_) (fun q => ?_)
          · walk_at "w"
            refine ⟨shaped_ints _, shaped_lists _, ?_⟩
            walk_at "w"
            refine ifb_of (fun q2 => ?_) (fun q2 => ?_)
            · have q2 : k :: t ∈ M := by
                rw [Bool.false_xor] at q2
                exact (anyL_iff _ _).mp q2
              have hEl : E.length ≤ 1000 := by
                have h1 := ringsF_len (B := B) (ws := allW B) (allW B) []
                have h2 := hp2.length_eq
                have h3 : (allW B).length = B.ways.length := by simp [allW]
                unfold ringsL at h2
                simp at h1 h2
                omega
              obtain ⟨j, hj, hjn⟩ := fstAt M (k :: t) q2
              walk_at "w"
              refine ltK_of (by rw [List.length_map]; omega) ?_
              walk_at "w"
              refine ⟨List Int, inferInstance, inferInstance, M, k :: t, j, rfl, rfl, by decide, hj, hjn, ?_⟩
              walk_at "w"
              refine hold ⟨rfl, M.eraseIdx j, E ++ [k :: t], _, _, _, _, by rw [mapErase, List.map_append]; rfl, ?_, (List.eraseIdx_sublist M j).trans hML, ?_⟩
              · refine List.Perm.trans ?_ hp2
                rw [List.append_assoc]
                refine List.Perm.append_left E ?_
                exact (eraseP M (k :: t) j hj).symm
              · rw [htk]
                intro hm hm2
                rcases List.mem_append.mp hm with hm | hm
                · exact hr hm (List.mem_of_mem_eraseIdx hm2)
                · have e : r0 = k :: t := by simpa using hm
                  have hP := (eraseP M (k :: t) j hj).nodup_iff.mp hMn
                  rw [e] at hm2
                  exact (List.nodup_cons.mp hP).1 hm2
            · have q2 : k :: t ∉ M := fun hm => by
                have := (anyL_iff M (k :: t)).mpr hm
                rw [Bool.false_xor] at q2
                exact absurd (q2.symm.trans this) (by decide)
              walk_at "w"
              refine hold ⟨rfl, M, E, _, _, _, _, rfl, hp2, hML, ?_⟩
              rw [htk]
              intro hm
              rcases List.mem_append.mp hm with hm | hm
              · exact hr hm
              · have e : r0 = k :: t := by simpa using hm
                rw [e]; exact q2
          · walk_at "w"
            refine hold ⟨rfl, M, E, _, _, _, _, rfl, hp2, hML, ?_⟩
            rw [htk]
            intro hm
            rcases List.mem_append.mp hm with hm | hm
            · exact hr hm
            · have e : r0 = k :: t := by simpa using hm
              exfalso
              have he : M.filter (fun o => decide (o ≠ k :: t) && rch B (allW B) (fstR B o) (fstR B (k :: t))) = [] := by
                rw [List.filter_eq_nil_iff]
                intro o ho hz
                rw [Bool.and_eq_true] at hz
                have h1 : o ≠ k :: t := of_decide_eq_true hz.1
                exact hmin o (hML.subset ho) (by rw [e]; exact h1) (by rw [e]; exact rch_iff.mp hz.2)
              rw [he] at q
              cases q
      · obtain ⟨rfl, M, E, s4, s5, s6, s7, rfl, hp2, hML, hr⟩ := hI.h
        walk_at "w"
        rw [List.length_map, List.take_length] at hr
        refine ⟨M.length, ?_, hold ⟨rfl, M, E, _, _, _, _, rfl, hp2, rfl⟩⟩
        rcases Nat.lt_or_ge M.length L.length with h9 | h9
        · exact h9
        · have := hML.eq_of_length_le h9
          subst this
          exact absurd hr0 (hr hr0)
    · have he : L = [] := by
        cases L with
        | nil => rfl
        | cons x t => cases q
      subst he
      walk_at "w"
      exact h F (by simpa using hp)
  · cases h
abbrev s_steps_at_most : Stmt := topS 1
theorem c_steps_at_most : FnScope ["book", "sums", "most", "great", "number", "steps", "some", "total", "heights", "more", "k", "a", "b", "gains"] ["book", "sums", "most"] (defScope s_steps_at_most) := ⟨rfl, rfl, rfl, by decide +kernel, rfl, by decide +kernel, by decide +kernel⟩
def mxL : List Int → Int
  | [] => 0
  | x :: xs => PySem.W.maxOf x xs
def mnL : List Int → Int
  | [] => 0
  | x :: xs => PySem.W.minOf x xs
theorem mxL_eq {xs : List Int} {m : Int} (h : m ∈ xs) (k : ∀ y, y ∈ xs → y ≤ m) : m = mxL xs := by
  cases xs with
  | nil => cases h
  | cons x xs =>
    obtain ⟨h1, h2⟩ := maxOf_spec x xs
    exact Int.le_antisymm (h2 m h) (k _ h1)
theorem mnL_eq {xs : List Int} {m : Int} (h : m ∈ xs) (k : ∀ y, y ∈ xs → m ≤ y) : m = mnL xs := by
  cases xs with
  | nil => cases h
  | cons x xs =>
    obtain ⟨h1, h2⟩ := minOf_spec x xs
    exact Int.le_antisymm (k _ h1) (h2 m h)
/-- a tuple of a line: ways, weights, heights -/
structure LnT where
  ws : List Int
  wt : List Int
  ht : List Int
def LnT.d (p : LnT) : PyData := .tuple [.tuple (p.ws.map PyData.int), .tuple [.tuple (p.wt.map PyData.int), .tuple (p.ht.map PyData.int)]]
def greatB (B : Book) : Int := mxL (0 :: B.ways.map fun w => mxL w.gs)
def htsB (B : Book) (p : LnT) : List Int := p.ws.map fun k => p.ht.getD (wAt B k).a.toNat 0
def moreB (B : Book) (num : Int) (p : LnT) : Int := num * p.wt.sum + mxL (htsB B p) - mnL (htsB B p)
def stpB (B : Book) (G : Int) (s : Int × Int) (p : LnT) : Int × Int := (s.1 + moreB B s.2 p, s.2 + G * moreB B s.2 p)
structure LnOk (B : Book) (p : LnT) : Prop where
  ne : p.ws ≠ []
  len : p.ws.length ≤ 60
  w : ∀ k ∈ p.ws, inW B k = true ∧ 0 ≤ (wAt B k).a ∧ (wAt B k).a < (p.ht.length : Nat)
  wl : p.wt.length ≤ 1000
def S_steps_at_most : Spec Unit := fun as g T U => match as with
  | [.dt b, .dt s, .dt (.int N)] => ∃ B : Book, b = B.d ∧ ∃ ps : List LnT, s = .list (ps.map LnT.d) ∧ (∀ p ∈ ps, LnOk B p) ∧ (∀ w ∈ B.ways, w.gs ≠ []) ∧ B.ways.length ≤ 1000 ∧ (-(2 ^ 64) < greatB B ∧ greatB B < 2 ^ 64) ∧
      (∀ i num steps, i < ps.length → (ps.take i).foldl (stpB B (greatB B)) (B.rooms - 1, N + greatB B * (B.rooms - 1)) = (steps, num) → ∀ p, ps[i]? = some p → MulOk num p.wt.sum) ∧
      T (.dt (.int (ps.foldl (stpB B (greatB B)) (B.rooms - 1, N + greatB B * (B.rooms - 1))).1)) g
  | _ => False
theorem ok_steps_at_most {P : Program} {w : World} {K : PySem.W.Frag} {mg : Str → Option Value} {base : Heap} {k : Nat} (D : Dfn K mg "steps_at_most" s_steps_at_most ["book", "sums", "most"]) (z_max : mg "max" = none) (z_sum : mg "sum" = none) (z_min : mg "min" = none) : Ok P w K mg base (k + 1) "steps_at_most" ["book", "sums", "most"] (spZ (Z0 K) S_steps_at_most) := by
  refine D.ok c_steps_at_most (fun as g T U h => by unfold S_steps_at_most at h; split at h <;> first | rfl | cases h) (by decide) fun fa cdv A outer s' H E hr => ⟨_, _, (s_cons (s_set 3 c_steps_at_most.nd (e_callB (k_maxX hr.units) (a_cons (e_op b_add (e_lst (a_cons e_int a_nil)) (e_lc [("a", 11), ("b", 12), ("gains", 13)] c_steps_at_most.nd (i_seq (e_ixX hr.units (e_v 0) e_int)) (fun _ _ _ _ _ => (g_tup (n := 3) (gs_cons (g_name 11 c_steps_at_most.nd) (gs_cons (g_name 12 c_steps_at_most.nd) (gs_cons (g_name 13 c_steps_at_most.nd) gs_nil))))) (own_seq (owns_cons (own_name (by decide)) (owns_cons (own_name (by decide)) (owns_cons (own_name (by decide)) owns_nil)))) (fun _ _ _ _ _ => ts_nil) (fun _ _ _ _ _ => (e_callB (k_maxX hr.units) (a_cons (e_v 13) a_nil) z_max rfl)))) a_nil) z_max rfl))
      (s_cons (s_set 4 c_steps_at_most.nd (e_op b_add (e_v 2) (e_op b_mul (e_v 3) (e_op b_sub (e_ixX hr.units (e_v 0) e_int) e_int))))
      (s_cons (s_set 5 c_steps_at_most.nd (e_op b_sub (e_ixX hr.units (e_v 0) e_int) e_int))
      (s_cons (s_for (i_seq (e_v 1)) (g_tup (n := 2) (gs_cons (g_name 6 c_steps_at_most.nd) (gs_cons (g_name 7 c_steps_at_most.nd) gs_nil))) (s_cons (s_setLc 8 [("k", 10)] c_steps_at_most.nd (i_seq (e_v 6)) (fun _ _ _ _ _ => (g_name 10 c_steps_at_most.nd)) (own_name (by decide)) (fun _ _ _ _ _ => ts_nil) (fun _ _ _ _ _ => (e_ixX hr.units (e_ixX hr.units (e_v 7) e_int) (e_ixX hr.units (e_ixX hr.units (e_ixX hr.units (e_v 0) e_int) (e_v 10)) e_int))))
      (s_cons (s_set 9 c_steps_at_most.nd (e_op b_sub (e_op b_add (e_op b_mul (e_v 4) (e_callB k_sumX (a_cons (e_ixX hr.units (e_v 7) e_int) a_nil) z_sum rfl)) (e_callB (k_maxX hr.units) (a_cons (e_v 8) a_nil) z_max rfl)) (e_callB (k_minX hr.units) (a_cons (e_v 8) a_nil) z_min rfl)))
      (s_cons (s_set 5 c_steps_at_most.nd (e_op b_add (e_v 5) (e_v 9)))
      (s_one (s_set 4 c_steps_at_most.nd (e_op b_add (e_v 4) (e_op b_mul (e_v 3) (e_v 9)))))))))
      (s_one (s_ret (e_v 5))))))), ?_⟩
  intro as g T U h
  unfold S_steps_at_most at h
  clear hr
  split at h
  · rename_i N
    obtain ⟨B, rfl, ps, rfl, hps, hgs, hwl, hG, hmu, h⟩ := h
    walk_at "w"
    refine leK_of (by rw [List.length_map]; omega) (lc_mapL (fun w => .int (mxL w.gs)) (by walk_at "lcw") (fun w hw C1 C0 q => ?_) ?_)
    · have hne := hgs w hw
      walk_at "w"
      refine ⟨List.length_pos_iff.mpr hne, fun m h1 h2 => ?_⟩
      rw [mxL_eq h1 h2]
      walk_at "w"
      exact q
    rw [show (B.ways.map fun w => PyData.int (mxL w.gs)) = (B.ways.map fun w => mxL w.gs).map PyData.int from by rw [List.map_map]; rfl]
    walk_at "w"
    refine leK_of (by rw [List.length_map, List.length_map]; show 1 + _ ≤ _; omega) ?_
    rw [show [PyData.int 0] ++ (B.ways.map fun w => mxL w.gs).map PyData.int = (0 :: B.ways.map fun w => mxL w.gs).map PyData.int from rfl]
    walk_at "w"
    refine ⟨by simp, fun m h1 h2 => ?_⟩
    rw [show m = greatB B from mxL_eq h1 h2]
    generalize hGG : greatB B = G at *
    clear h1 h2
    walk_at "w"
    refine mlK_of (.inl (.inl hG)) ?_
    walk_at "w"
    refine ⟨⟨fun i ρ' g2 => Hold (g2 = g ∧ ∃ (s6 s7 s8 s9 s10 s11 s12 s13 : Sl), ρ' = [.dt B.d, .dt (.list (ps.map LnT.d)), .dt (.int N), .dt (.int G), .dt (.int ((ps.take i).foldl (stpB B G) (B.rooms - 1, N + G * (B.rooms - 1))).2), .dt (.int ((ps.take i).foldl (stpB B G) (B.rooms - 1, N + G * (B.rooms - 1))).1), s6, s7, s8, s9, s10, s11, s12, s13]),
      hold ⟨rfl, _, _, _, _, _, _, _, _, rfl⟩, fun i d ρ' g2 hk hI => ?_, fun ρ' g2 hI => ?_⟩⟩
    · obtain ⟨rfl, s6, s7, s8, s9, s10, s11, s12, s13, rfl⟩ := hI.h
      rw [List.getElem?_map] at hk
      obtain ⟨p, hp, rfl⟩ := Option.map_eq_some_iff.mp hk
      have hpo := hps p (List.mem_of_getElem? hp)
      have hil := (List.getElem?_eq_some_iff.mp hp).1
      have et : (ps.take (i + 1)).foldl (stpB B G) (B.rooms - 1, N + G * (B.rooms - 1)) = stpB B G ((ps.take i).foldl (stpB B G) (B.rooms - 1, N + G * (B.rooms - 1))) p := by
        rw [List.take_add_one, hp, List.foldl_append]; rfl
      rcases hst : (ps.take i).foldl (stpB B G) (B.rooms - 1, N + G * (B.rooms - 1)) with ⟨stp, num⟩
      have hml := hmu i num stp hil hst p hp
      rw [hst] at et
      have hne := hpo.ne
      have hlen := hpo.len
      have hwl2 := hpo.wl
      have hpw := hpo.w
      obtain ⟨pw, wt, ht⟩ := p
      replace hne : pw ≠ [] := hne
      replace hlen : pw.length ≤ 60 := hlen
      replace hwl2 : wt.length ≤ 1000 := hwl2
      replace hpw : ∀ k ∈ pw, inW B k = true ∧ 0 ≤ (wAt B k).a ∧ (wAt B k).a < (ht.length : Nat) := hpw
      replace hml : MulOk num wt.sum := hml
      have hhl : (pw.map fun k => ht.getD (wAt B k).a.toNat 0) = htsB B ⟨pw, wt, ht⟩ := rfl
      have hmd : moreB B num ⟨pw, wt, ht⟩ = num * wt.sum + mxL (htsB B ⟨pw, wt, ht⟩) - mnL (htsB B ⟨pw, wt, ht⟩) := rfl
      have hs2 : stpB B G (stp, num) ⟨pw, wt, ht⟩ = (stp + moreB B num ⟨pw, wt, ht⟩, num + G * moreB B num ⟨pw, wt, ht⟩) := rfl
      have hhn : 0 < (htsB B ⟨pw, wt, ht⟩).length := by rw [← hhl, List.length_map]; exact List.length_pos_iff.mpr hne
      rw [hs2] at et
      generalize moreB B num ⟨pw, wt, ht⟩ = more at *
      generalize htsB B ⟨pw, wt, ht⟩ = hts at *
      walk_at "w"
      refine leK_of (by show (pw.map PyData.int).length ≤ _; rw [List.length_map]; omega) (lc_mapL (fun k => .int (ht.getD (wAt B k).a.toNat 0)) (by walk_at "lcw") (fun k hk C1 C0 q => ?_) ?_)
      · obtain ⟨k1, k2, k3⟩ := hpw k hk
        obtain ⟨hl2, e2⟩ := atI_at (xs := ht) k2 k3
        walk_at "w"
        refine opK_of (wAt_at k1) ?_
        walk_at "w"
        refine opK_of (a := .int (ht.getD (wAt B k).a.toNat 0)) ?_ ?_
        · rw [show ht.getD (wAt B k).a.toNat 0 = ht[(wAt B k).a.toNat] from by rw [List.getD_eq_getElem?_getD, List.getElem?_eq_getElem hl2]; rfl]
          exact atI_map PyData.int e2
        walk_at "w"
        exact q
      rw [show (pw.map fun k => PyData.int (ht.getD (wAt B k).a.toNat 0)) = hts.map PyData.int from by rw [← hhl, List.map_map]; rfl]
      walk_at "w"
      refine mlK_of hml ?_
      walk_at "w"
      refine ⟨hhn, fun mx m1 m2 => ?_⟩
      rw [mxL_eq m1 m2]
      clear m1 m2
      walk_at "w"
      refine ⟨hhn, fun mn n1 n2 => ?_⟩
      rw [mnL_eq n1 n2]
      clear n1 n2
      subst hmd
      walk_at "w"
      refine mlK_of (.inl (.inl hG)) ?_
      walk_at "w"
      exact hold ⟨rfl, _, _, _, _, _, _, _, _, by rw [et]; rfl⟩
    · obtain ⟨rfl, s6, s7, s8, s9, s10, s11, s12, s13, rfl⟩ := hI.h
      rw [List.length_map, List.take_length]
      walk_at "w"
      exact h
  · cases h
abbrev s__law_steps : Stmt := topS 11
theorem c__law_steps : FnScope ["_law_book_here", "_law_sums", "_law_number", "_law_great", "_law_found", "_law_ways", "_law_total", "_law_heights", "_law_more", "_law_way", "_law_k"] ["_law_book_here", "_law_sums", "_law_number"] (defScope s__law_steps) := ⟨rfl, rfl, rfl, by decide +kernel, rfl, by decide +kernel, by decide +kernel⟩
theorem mulOk_comm {i j : Int} (h : MulOk i j) : MulOk j i := by
  rcases h with h | h
  · rcases h with h | h
    · exact .inl (.inr h)
    · exact .inl (.inl h)
  · unfold CMulX at h
    exact .inr (by unfold CMulX; omega)
theorem last_max : ∀ {xs : List Int} (h : xs ≠ []), xs.Pairwise (· ≤ ·) → ∀ y ∈ xs, y ≤ xs.getLast h
  | [x], _, _, y, hy => by rw [List.mem_singleton.mp hy]; exact Int.le_refl _
  | x :: z :: xs, _, hp, y, hy => by
    rw [List.pairwise_cons] at hp
    rw [List.getLast_cons (by simp)]
    rcases List.mem_cons.mp hy with rfl | hy
    · exact hp.1 _ (List.getLast_mem _)
    · exact last_max (by simp) hp.2 y hy
theorem head_min {x : Int} {xs : List Int} (h : (x :: xs).Pairwise (· ≤ ·)) : ∀ y ∈ x :: xs, x ≤ y := fun y hy => by
  rw [List.pairwise_cons] at h
  rcases List.mem_cons.mp hy with rfl | hy
  · exact Int.le_refl _
  · exact h.1 y hy
def S__law_steps : Spec Unit := fun as g T U => match as with
  | [.dt b, .dt s, .dt (.int N)] => ∃ B : Book, b = B.d ∧ ∃ ps : List LnT, s = .list (ps.map LnT.d) ∧ (∀ p ∈ ps, LnOk B p) ∧ (∀ w ∈ B.ways, w.gs ≠ []) ∧ B.ways.length ≤ 1000 ∧ (-(2 ^ 64) < greatB B ∧ greatB B < 2 ^ 64) ∧
      (∀ i num steps, i < ps.length → (ps.take i).foldl (stpB B (greatB B)) (B.rooms - 1, N + greatB B * (B.rooms - 1)) = (steps, num) → ∀ p, ps[i]? = some p → MulOk num p.wt.sum) ∧
      T (.dt (.int (ps.foldl (stpB B (greatB B)) (B.rooms - 1, N + greatB B * (B.rooms - 1))).1)) g
  | _ => False
theorem ok__law_steps {P : Program} {w : World} {K : PySem.W.Frag} {mg : Str → Option Value} {base : Heap} {k : Nat} (D : Dfn K mg "_law_steps" s__law_steps ["_law_book_here", "_law_sums", "_law_number"]) (z_max : mg "max" = none) (z_sorted : mg "sorted" = none) (z_sum : mg "sum" = none) : Ok P w K mg base (k + 1) "_law_steps" ["_law_book_here", "_law_sums", "_law_number"] (spZ (Z0 K) S__law_steps) := by
  refine D.ok c__law_steps (fun as g T U h => by unfold S__law_steps at h; split at h <;> first | rfl | cases h) (by decide) fun fa cdv A outer s' H E hr => ⟨_, _, (s_cons (s_set 3 c__law_steps.nd (e_callB (k_maxX hr.units) (a_cons (e_op b_add (e_lst (a_cons e_int a_nil)) (e_lc [("_law_way", 9)] c__law_steps.nd (i_seq (e_ixX hr.units (e_v 0) e_int)) (fun _ _ _ _ _ => (g_name 9 c__law_steps.nd)) (own_name (by decide)) (fun _ _ _ _ _ => ts_nil) (fun _ _ _ _ _ => (e_callB (k_maxX hr.units) (a_cons (e_ixX hr.units (e_v 9) e_int) a_nil) z_max rfl)))) a_nil) z_max rfl))
      (s_cons (s_set 4 c__law_steps.nd (e_op b_sub (e_ixX hr.units (e_v 0) e_int) e_int))
      (s_cons (s_set 2 c__law_steps.nd (e_op b_add (e_v 2) (e_op b_mul (e_v 3) (e_v 4))))
      (s_cons (s_for (i_seq (e_v 1)) (g_tup (n := 2) (gs_cons (g_name 5 c__law_steps.nd) (gs_cons (g_name 6 c__law_steps.nd) gs_nil))) (s_cons (s_set 7 c__law_steps.nd (e_callB k_sorted (a_cons (e_lc [("_law_k", 10)] c__law_steps.nd (i_seq (e_v 5)) (fun _ _ _ _ _ => (g_name 10 c__law_steps.nd)) (own_name (by decide)) (fun _ _ _ _ _ => ts_nil) (fun _ _ _ _ _ => (e_ixX hr.units (e_ixX hr.units (e_v 6) e_int) (e_ixX hr.units (e_ixX hr.units (e_ixX hr.units (e_v 0) e_int) (e_v 10)) e_int)))) a_nil) z_sorted rfl))
      (s_cons (s_set 8 c__law_steps.nd (e_op b_sub (e_op b_add (e_op b_mul (e_callB k_sumX (a_cons (e_ixX hr.units (e_v 6) e_int) a_nil) z_sum rfl) (e_v 2)) (e_ixX hr.units (e_v 7) (e_un u_neg e_int))) (e_ixX hr.units (e_v 7) e_int)))
      (s_cons (s_set 4 c__law_steps.nd (e_op b_add (e_v 4) (e_v 8)))
      (s_one (s_set 2 c__law_steps.nd (e_op b_add (e_v 2) (e_op b_mul (e_v 3) (e_v 8)))))))))
      (s_one (s_ret (e_v 4))))))), ?_⟩
  intro as g T U h
  unfold S__law_steps at h
  clear hr
  split at h
  · rename_i N
    obtain ⟨B, rfl, ps, rfl, hps, hgs, hwl, hG, hmu, h⟩ := h
    walk_at "w"
    refine leK_of (by rw [List.length_map]; omega) (lc_mapL (fun w => .int (mxL w.gs)) (by walk_at "lcw") (fun w hw C1 C0 q => ?_) ?_)
    · have hne := hgs w hw
      walk_at "w"
      refine ⟨List.length_pos_iff.mpr hne, fun m h1 h2 => ?_⟩
      rw [mxL_eq h1 h2]
      walk_at "w"
      exact q
    rw [show (B.ways.map fun w => PyData.int (mxL w.gs)) = (B.ways.map fun w => mxL w.gs).map PyData.int from by rw [List.map_map]; rfl]
    walk_at "w"
    refine leK_of (by rw [List.length_map, List.length_map]; show 1 + _ ≤ _; omega) ?_
    rw [show [PyData.int 0] ++ (B.ways.map fun w => mxL w.gs).map PyData.int = (0 :: B.ways.map fun w => mxL w.gs).map PyData.int from rfl]
    walk_at "w"
    refine ⟨by simp, fun m h1 h2 => ?_⟩
    rw [show m = greatB B from mxL_eq h1 h2]
    generalize hGG : greatB B = G at *
    clear h1 h2
    walk_at "w"
    refine mlK_of (.inl (.inl hG)) ?_
    walk_at "w"
    refine ⟨⟨fun i ρ' g2 => Hold (g2 = g ∧ ∃ (s6 s7 s8 s9 s10 s11 : Sl), ρ' = [.dt B.d, .dt (.list (ps.map LnT.d)), .dt (.int ((ps.take i).foldl (stpB B G) (B.rooms - 1, N + G * (B.rooms - 1))).2), .dt (.int G), .dt (.int ((ps.take i).foldl (stpB B G) (B.rooms - 1, N + G * (B.rooms - 1))).1), s6, s7, s8, s9, s10, s11]),
      hold ⟨rfl, _, _, _, _, _, _, rfl⟩, fun i d ρ' g2 hk hI => ?_, fun ρ' g2 hI => ?_⟩⟩
    · obtain ⟨rfl, s6, s7, s8, s9, s10, s11, rfl⟩ := hI.h
      rw [List.getElem?_map] at hk
      obtain ⟨p, hp, rfl⟩ := Option.map_eq_some_iff.mp hk
      have hpo := hps p (List.mem_of_getElem? hp)
      have hil := (List.getElem?_eq_some_iff.mp hp).1
      have et : (ps.take (i + 1)).foldl (stpB B G) (B.rooms - 1, N + G * (B.rooms - 1)) = stpB B G ((ps.take i).foldl (stpB B G) (B.rooms - 1, N + G * (B.rooms - 1))) p := by
        rw [List.take_add_one, hp, List.foldl_append]; rfl
      rcases hst : (ps.take i).foldl (stpB B G) (B.rooms - 1, N + G * (B.rooms - 1)) with ⟨stp, num⟩
      have hml := hmu i num stp hil hst p hp
      rw [hst] at et
      have hne := hpo.ne
      have hlen := hpo.len
      have hwl2 := hpo.wl
      have hpw := hpo.w
      obtain ⟨pw, wt, ht⟩ := p
      replace hne : pw ≠ [] := hne
      replace hlen : pw.length ≤ 60 := hlen
      replace hwl2 : wt.length ≤ 1000 := hwl2
      replace hpw : ∀ k ∈ pw, inW B k = true ∧ 0 ≤ (wAt B k).a ∧ (wAt B k).a < (ht.length : Nat) := hpw
      replace hml : MulOk num wt.sum := hml
      have hhl : (pw.map fun k => ht.getD (wAt B k).a.toNat 0) = htsB B ⟨pw, wt, ht⟩ := rfl
      have hmd : moreB B num ⟨pw, wt, ht⟩ = num * wt.sum + mxL (htsB B ⟨pw, wt, ht⟩) - mnL (htsB B ⟨pw, wt, ht⟩) := rfl
      have hs2 : stpB B G (stp, num) ⟨pw, wt, ht⟩ = (stp + moreB B num ⟨pw, wt, ht⟩, num + G * moreB B num ⟨pw, wt, ht⟩) := rfl
      have hhn : 0 < (htsB B ⟨pw, wt, ht⟩).length := by rw [← hhl, List.length_map]; exact List.length_pos_iff.mpr hne
      have hh60 : (htsB B ⟨pw, wt, ht⟩).length ≤ 60 := by rw [← hhl, List.length_map]; exact hlen
      rw [hs2] at et
      generalize moreB B num ⟨pw, wt, ht⟩ = more at *
      generalize htsB B ⟨pw, wt, ht⟩ = hts at *
      walk_at "w"
      refine leK_of (by show (pw.map PyData.int).length ≤ _; rw [List.length_map]; omega) (lc_mapL (fun k => .int (ht.getD (wAt B k).a.toNat 0)) (by walk_at "lcw") (fun k hk C1 C0 q => ?_) ?_)
      · obtain ⟨k1, k2, k3⟩ := hpw k hk
        obtain ⟨hl2, e2⟩ := atI_at (xs := ht) k2 k3
        walk_at "w"
        refine opK_of (wAt_at k1) ?_
        walk_at "w"
        refine opK_of (a := .int (ht.getD (wAt B k).a.toNat 0)) ?_ ?_
        · rw [show ht.getD (wAt B k).a.toNat 0 = ht[(wAt B k).a.toNat] from by rw [List.getD_eq_getElem?_getD, List.getElem?_eq_getElem hl2]; rfl]
          exact atI_map PyData.int e2
        walk_at "w"
        exact q
      rw [show (pw.map fun k => PyData.int (ht.getD (wAt B k).a.toNat 0)) = hts.map PyData.int from by rw [← hhl, List.map_map]; rfl]
      walk_at "w"
      refine ⟨by omega, fun ms hp1 hp2 => ?_⟩
      cases ms with
      | nil =>
        have := hp1.length_eq
        simp at this
        omega
      | cons z zs =>
      have e1 : z = mnL hts := mnL_eq (hp1.mem_iff.mp List.mem_cons_self) fun y hy => head_min hp2 y (hp1.mem_iff.mpr hy)
      have e2 : (z :: zs).getLast (by simp) = mxL hts := mxL_eq (hp1.mem_iff.mp (List.getLast_mem _)) fun y hy => last_max _ hp2 y (hp1.mem_iff.mpr hy)
      have h0 : atI ((z :: zs).map PyData.int) 0 = some (.int (mnL hts)) := by rw [← e1]; exact atI_nat (j := 0) rfl
      have h1 : atI ((z :: zs).map PyData.int) (-1) = some (.int (mxL hts)) := by rw [← e2]; exact atI_lastM PyData.int (by simp)
      clear e1 e2
      generalize z :: zs = ms at *
      walk_at "w"
      refine mlK_of (mulOk_comm hml) ?_
      walk_at "w"
      refine opK_of h1 ?_
      walk_at "w"
      refine opK_of h0 ?_
      rw [Int.mul_comm num wt.sum] at hmd
      subst hmd
      walk_at "w"
      refine mlK_of (.inl (.inl hG)) ?_
      walk_at "w"
      exact hold ⟨rfl, _, _, _, _, _, _, by rw [et]; rfl⟩
    · obtain ⟨rfl, s6, s7, s8, s9, s10, s11, rfl⟩ := hI.h
      rw [List.length_map, List.take_length]
      walk_at "w"
      exact h
  · cases h
abbrev s_law : Stmt := topS 12
theorem c_law : FnScope ["_law_script", "_law_tape_here", "_law_book_here", "_law_total", "_law_all", "_law_sums", "_law_ring", "_law_times", "_law_great", "_law_number", "_law_handed", "_law_answer", "_law_one"] ["_law_script"] (defScope s_law) := ⟨rfl, rfl, rfl, by decide +kernel, rfl, by decide +kernel, by decide +kernel⟩
theorem mxL_abs {M : Int} {xs : List Int} (h0 : 0 ≤ M) (h : ∀ x ∈ xs, -M ≤ x ∧ x ≤ M) : -M ≤ mxL xs ∧ mxL xs ≤ M := by
  cases xs with
  | nil => exact ⟨by show -M ≤ 0; omega, h0⟩
  | cons x xs => exact h _ (maxOf_spec x xs).1
theorem mnL_abs {M : Int} {xs : List Int} (h0 : 0 ≤ M) (h : ∀ x ∈ xs, -M ≤ x ∧ x ≤ M) : -M ≤ mnL xs ∧ mnL xs ≤ M := by
  cases xs with
  | nil => exact ⟨by show -M ≤ 0; omega, h0⟩
  | cons x xs => exact h _ (minOf_spec x xs).1
def cB : Nat := 10 ^ 41
structure LnB (p : LnT) : Prop where
  wl : p.wt.length ≤ 6
  hl : p.ht.length ≤ 12
  wb : ∀ x ∈ p.wt, -(cB : Int) ≤ x ∧ x ≤ cB
  hb : ∀ x ∈ p.ht, -(cB : Int) ≤ x ∧ x ≤ cB
theorem sum_absN {M : Nat} : ∀ {xs : List Int}, (∀ x ∈ xs, -(M : Int) ≤ x ∧ x ≤ M) → xs.sum.natAbs ≤ M * xs.length
  | [], _ => by simp
  | x :: xs, h => by
    have h1 := h x List.mem_cons_self
    have h2 := sum_absN (xs := xs) fun y hy => h y (List.mem_cons_of_mem _ hy)
    rw [List.sum_cons, List.length_cons, Nat.mul_succ]
    have := Int.natAbs_add_le x xs.sum
    omega
theorem more_bnd {B : Book} {p : LnT} (hp : LnB p) {num : Int} {C : Nat} (hn : num.natAbs ≤ C) : (moreB B num p).natAbs ≤ C * (6 * cB) + 2 * cB := by
  unfold moreB
  have hh : ∀ x ∈ htsB B p, -(cB : Int) ≤ x ∧ x ≤ cB := fun x hx => by
    unfold htsB at hx
    obtain ⟨k, _, rfl⟩ := List.mem_map.mp hx
    rw [List.getD_eq_getElem?_getD]
    cases e : p.ht[(wAt B k).a.toNat]? with
    | none => constructor <;> simp
    | some y => exact hp.hb y (List.mem_of_getElem? e)
  have h1 := mxL_abs (by omega) hh
  have h2 := mnL_abs (by omega) hh
  have h3 := sum_absN hp.wb
  have h4 : (num * p.wt.sum).natAbs ≤ C * (6 * cB) := by
    rw [Int.natAbs_mul]
    refine Nat.mul_le_mul hn (Nat.le_trans h3 ?_)
    rw [Nat.mul_comm]
    exact Nat.mul_le_mul_right _ hp.wl
  generalize num * p.wt.sum = z at *
  generalize C * (6 * cB) = q at *
  omega
theorem stp_bnd {B : Book} {G : Int} (hG : G.natAbs ≤ 100000) {p : LnT} (hp : LnB p) {s : Int × Int} {k : Nat} (hk : 140 ≤ k) (h1 : s.1.natAbs ≤ 2 ^ k) (h2 : s.2.natAbs ≤ 2 ^ k) : (stpB B G s p).1.natAbs ≤ 2 ^ (k + 160) ∧ (stpB B G s p).2.natAbs ≤ 2 ^ (k + 160) := by
  have hm := more_bnd (B := B) hp h2
  have e : (2 : Nat) ^ (k + 160) = 2 ^ k * 2 ^ 160 := Nat.pow_add ..
  have c1 : 6 * cB ≤ 2 ^ 139 := by decide +kernel
  have c2 : 2 * cB ≤ 2 ^ 139 := by decide +kernel
  have c3 : (2 : Nat) ^ 139 ≤ 2 ^ k := Nat.pow_le_pow_right (by decide) (by omega)
  have hm2 : (moreB B s.2 p).natAbs ≤ 2 ^ k * 2 ^ 140 := by
    have a1 : 2 ^ k * (6 * cB) ≤ 2 ^ k * 2 ^ 139 := Nat.mul_le_mul_left _ c1
    have a2 : (2 : Nat) ^ k * 2 ^ 140 = 2 ^ k * 2 ^ 139 + 2 ^ k * 2 ^ 139 := by rw [show (2 : Nat) ^ 140 = 2 ^ 139 + 2 ^ 139 from by decide +kernel, Nat.mul_add]
    have a3 : (2 : Nat) ^ k * 1 ≤ 2 ^ k * 2 ^ 139 := Nat.mul_le_mul_left _ (by decide +kernel)
    omega
  have hg : (G * moreB B s.2 p).natAbs ≤ 2 ^ k * 2 ^ 158 := by
    rw [Int.natAbs_mul]
    refine Nat.le_trans (Nat.mul_le_mul hG hm2) ?_
    rw [show (2 : Nat) ^ 158 = 2 ^ 18 * 2 ^ 140 from by decide +kernel, ← Nat.mul_assoc, ← Nat.mul_assoc, Nat.mul_comm (2 ^ k) (2 ^ 18)]
    refine Nat.mul_le_mul_right _ (Nat.mul_le_mul_right _ (by decide))
  have b1 : (2 : Nat) ^ k * 2 ^ 140 ≤ 2 ^ k * 2 ^ 158 := Nat.mul_le_mul_left _ (by decide +kernel)
  have b2 : (2 : Nat) ^ k * 1 ≤ 2 ^ k * 2 ^ 158 := Nat.mul_le_mul_left _ (by decide +kernel)
  have b3 : (2 : Nat) ^ k * 2 ^ 158 + 2 ^ k * 2 ^ 158 ≤ 2 ^ k * 2 ^ 160 := by
    rw [← Nat.mul_add]; exact Nat.mul_le_mul_left _ (by decide +kernel)
  rw [e]
  unfold stpB
  refine ⟨?_, ?_⟩
  · show (s.1 + moreB B s.2 p).natAbs ≤ _
    have := Int.natAbs_add_le s.1 (moreB B s.2 p)
    omega
  · show (s.2 + G * moreB B s.2 p).natAbs ≤ _
    have := Int.natAbs_add_le s.2 (G * moreB B s.2 p)
    omega
theorem fold_bnd {B : Book} {G : Int} (hG : G.natAbs ≤ 100000) : ∀ (ps : List LnT) (s : Int × Int) (k : Nat), (∀ p ∈ ps, LnB p) → 140 ≤ k → s.1.natAbs ≤ 2 ^ k → s.2.natAbs ≤ 2 ^ k →
    (ps.foldl (stpB B G) s).1.natAbs ≤ 2 ^ (k + 160 * ps.length) ∧ (ps.foldl (stpB B G) s).2.natAbs ≤ 2 ^ (k + 160 * ps.length)
  | [], s, k, _, _, h1, h2 => ⟨h1, h2⟩
  | p :: ps, s, k, hp, hk, h1, h2 => by
    obtain ⟨a1, a2⟩ := stp_bnd (B := B) hG (hp p List.mem_cons_self) hk h1 h2
    have := fold_bnd (B := B) hG ps (stpB B G s p) (k + 160) (fun q hq => hp q (List.mem_cons_of_mem _ hq)) (by omega) a1 a2
    rw [List.foldl_cons, List.length_cons, Nat.mul_succ, show k + (160 * ps.length + 160) = k + 160 + 160 * ps.length from by omega]
    exact this
theorem log2_le {n k : Nat} (h : n ≤ 2 ^ k) : n.log2 ≤ k := by
  by_cases z : n = 0
  · rw [z]; exact Nat.zero_le _
  · have := (Nat.log2_lt (k := k + 1) z).mpr (Nat.lt_of_le_of_lt h (Nat.pow_lt_pow_right (by decide) (by omega)))
    omega
theorem show_big {i : Int} (h : i.natAbs.log2 < 1920) : ShOk (.int i) := shOk_of (by simp [PyData.showable]; omega) rfl (Nat.zero_le _) (by rw [okTx]; exact decide_eq_true h) (by rw [L3.wd]; omega)
theorem nlts {a b : Nat} (hb : a ≤ 2 ^ 1920) (hc : b ≤ 2 ^ 200) : True := trivial
theorem ok_law {P : Program} {w : World} {K : PySem.W.Frag} {mg : Str → Option Value} {base : Heap} {k : Nat} (D : Dfn K mg "law" s_law ["_law_script"]) (f__law_tape : Ok P w K mg base k "_law_tape" ["_law_script"] (spTape K)) (f__law_falling_book : Ok P w K mg base k "_law_falling_book" ["_law_tape_here", "_law_most"] (spZ (ZT K) S__law_falling_book)) (f__law_rings : Ok P w K mg base k "_law_rings" ["_law_book_here", "_law_some"] (spZ (Z0 K) S__law_rings)) (f__law_ordered : Ok P w K mg base k "_law_ordered" ["_law_book_here", "_law_all"] (spZ (Z0 K) S__law_ordered)) (f__law_draw : Ok P w K mg base k "_law_draw" ["_law_tape_here", "_law_many"] (spZ (ZT K) S__law_draw)) (f_steps_at_most : Ok P w K mg base k "steps_at_most" ["book", "sums", "most"] (spZ (Z0 K) S_steps_at_most)) (f__law_steps : Ok P w K mg base k "_law_steps" ["_law_book_here", "_law_sums", "_law_number"] (spZ (Z0 K) S__law_steps)) (z_list : mg "list" = none) (z_range : mg "range" = none) (z_len : mg "len" = none) (z_tuple : mg "tuple" = none) (z_repr : mg "repr" = none) : Ok P w K mg base (k + 1) "law" ["_law_script"] (spLaw K) := by
  refine D.raw c_law (fun vs H Q E h => by obtain ⟨a, ns, rfl, _⟩ := h; rfl) fun fa cdv A outer s' H vs Q E hr h => ?_
  obtain ⟨a, ns, rfl, hS, hq⟩ := h
  have hd : ∃ ts t, DSs (cxOf (L2.CX P w) P w K mg base ["_law_script", "_law_tape_here", "_law_book_here", "_law_total", "_law_all", "_law_sums", "_law_ring", "_law_times", "_law_great", "_law_number", "_law_handed", "_law_answer", "_law_one"] "law" (defScope s_law) fa cdv A outer s' H E).nox ((ZT K).wish (fun _ _ _ _ => False) Un) (defBody s_law).tail ts t ∧ ∀ g, g.left = 1000000000000000 → t (lawD TPg) (lawE ["_law_script", "_law_tape_here", "_law_book_here", "_law_total", "_law_all", "_law_sums", "_law_ring", "_law_times", "_law_great", "_law_number", "_law_handed", "_law_answer", "_law_one"] 1) g := by
    refine ⟨_, _, (s_cons (s_asg (e_fnU let_n f__law_falling_book hr (a_cons (e_v 1) (a_cons (e_tup (a_cons e_int (a_cons e_int (a_cons e_int a_nil)))) a_nil))) (g_tup (n := 2) (gs_cons (g_name 2 c_law.nd) (gs_cons (g_name 3 c_law.nd) gs_nil))))
      (s_cons (s_set 4 c_law.nd (e_fn0U let_n f__law_rings hr (a_cons (e_v 2) (a_cons (e_lr1 z_list z_range (e_callB k_len (a_cons (e_ixX hr.units (e_v 2) e_int) a_nil) z_len rfl)) a_nil))))
      (s_cons (s_set 5 c_law.nd (e_lst a_nil))
      (s_cons (s_for (i_seq (e_fn0U let_n f__law_ordered hr (a_cons (e_v 2) (a_cons (e_v 4) a_nil)))) (g_name 6 c_law.nd) (s_cons (s_set 7 c_law.nd (e_op b_add e_int (e_fnU let_n f__law_draw hr (a_cons (e_v 1) (a_cons (e_ixX hr.units (e_lst (a_cons e_int (a_cons (e_op b_pow e_int e_int) a_nil))) (e_op b_div (e_fnU let_n f__law_draw hr (a_cons (e_v 1) (a_cons e_int a_nil))) e_int)) a_nil)))))
      (s_one (s_expr (e_ml PySem.F.slot_list_append PySem.F.type_list_append mt_append m_app 5 (a_cons (e_tup (a_cons (e_callTy k_tuple (a_cons (e_v 6) a_nil) z_tuple rfl) (a_cons (e_tup (a_cons (e_callTy k_tuple (a_cons (e_lc [("_law_one", 12)] c_law.nd (i_seq (e_ixX hr.units (e_v 3) e_int)) (fun _ _ _ _ _ => (g_name 12 c_law.nd)) (own_name (by decide)) (fun _ _ _ _ _ => ts_nil) (fun _ _ _ _ _ => (e_op b_mul (e_v 7) (e_v 12)))) a_nil) z_tuple rfl) (a_cons (e_callTy k_tuple (a_cons (e_lc [("_law_one", 12)] c_law.nd (i_seq (e_ixX hr.units (e_v 3) e_int)) (fun _ _ _ _ _ => (g_name 12 c_law.nd)) (own_name (by decide)) (fun _ _ _ _ _ => ts_nil) (fun _ _ _ _ _ => (e_op b_mul (e_v 7) (e_v 12)))) a_nil) z_tuple rfl) a_nil))) a_nil))) a_nil))))))
      (s_cons (s_set 8 c_law.nd (e_op b_sub (e_op b_sub (e_op b_mul (e_op b_pow e_int e_int) (e_op b_pow e_int e_int)) e_int) (e_fnU let_n f__law_draw hr (a_cons (e_v 1) (a_cons (e_op b_pow e_int e_int) a_nil)))))
      (s_cons (s_for (i_seq (e_lst (a_cons e_int (a_cons e_int (a_cons (e_fnU let_n f__law_draw hr (a_cons (e_v 1) (a_cons e_int a_nil))) (a_cons (e_v 8) a_nil)))))) (g_name 9 c_law.nd) (s_cons (s_set 10 c_law.nd (e_callTy k_list (a_cons (e_v 5) a_nil) z_list rfl))
      (s_cons (s_set 11 c_law.nd (e_fn0U let_n f_steps_at_most hr (a_cons (e_v 2) (a_cons (e_v 10) (a_cons (e_v 9) a_nil)))))
      (s_one (s_if (t_w (w_or (t_cmp (c_ne hr.units) (e_callB (k_reprX hr) (a_cons (e_v 11) a_nil) z_repr rfl) (e_callB (k_reprX hr) (a_cons (e_fn0U let_n f__law_steps hr (a_cons (e_v 2) (a_cons (e_v 5) (a_cons (e_v 9) a_nil)))) a_nil) z_repr rfl)) (w_or1 (t_cmp (c_ne hr.units) (e_v 10) (e_v 5))))) (s_one (s_ret e_bl)) s_nil)))))
      (s_one (s_ret e_bl)))))))), ?_⟩
    intro g hg
    clear hr f__law_tape f__law_falling_book f__law_rings f__law_ordered f__law_draw f_steps_at_most f__law_steps
    walk_at "w"
    refine ⟨4, 3, 9, rfl, ⟨by decide, by decide⟩, ⟨by decide, by decide⟩, ⟨by decide, by decide⟩, by omega, fun B wt ht n0 hB hn0 => ?_⟩
    have hBl : B.ways.length ≤ 9 := by have := hB.n; omega
    have hr0 := hB.r
    have hp0 := hB.p
    walk_at "w"
    rw [List.length_map]
    refine rgK_of (by omega) (by omega) ?_
    refine szK_of (by omega) ?_
    have hok : SetOk B (allW B) := ⟨fun k hk => by
      unfold allW at hk
      obtain ⟨i, hi, rfl⟩ := List.mem_map.mp hk
      have hi := List.mem_range.mp hi
      obtain ⟨w, hw⟩ : ∃ w, B.ways[i]? = some w := ⟨B.ways[i], by simp [hi]⟩
      have e : wAt B ((i : Nat) : Int) = w := by unfold wAt; simp [hw]
      have := hB.w w (List.mem_of_getElem? hw)
      rw [e]
      refine ⟨?_, this.1, this.2.1⟩
      unfold inW
      simp
      omega, by simp [allW]; omega, by omega, by omega, by omega⟩
    walk_at "w"
    refine ⟨B, rfl, allW B, by rw [rngD_nat]; simp [allW, Function.comp_def], hok, by simp [allW]; omega, ?_⟩
    walk_at "w"
    refine ⟨B, rfl, hok, by omega, rfl, fun os hos => ?_⟩
    have hol : os.length ≤ 9 := by
      have h1 := ringsF_len (B := B) (ws := allW B) (allW B) []
      have h2 := hos.length_eq
      have h3 : (allW B).length = B.ways.length := by simp [allW]
      unfold ringsL at h2
      simp at h1 h2
      omega
    walk_at "w"
    refine ⟨⟨fun k ρ' g' => Hold (∃ n, g' = g.w n ∧ n0 ≤ n + 2 * k ∧ ∃ (ps : List LnT) (s6 s7 s8 s9 s10 s11 : Sl), ρ' = [.un, .rs 0, .dt B.d, .dt (.tuple [.tuple (wt.map PyData.int), .tuple (ht.map PyData.int)]), .dt (.list ((ringsL B (allW B)).map intsLD)), .ls (ps.map LnT.d), s6, s7, s8, s9, s10, s11, .un] ∧ ps.length ≤ k ∧ ∀ p ∈ ps, LnOk B p ∧ LnB p),
      hold ⟨n0, rfl, by omega, [], _, _, _, _, _, _, rfl, Nat.le_refl _, fun p hp => by cases hp⟩, fun k d ρ' g' hk hI => ?_, fun ρ' g' hI => ?_⟩⟩
    · obtain ⟨n, rfl, hn, ps, s6, s7, s8, s9, s10, s11, rfl, i1, i2⟩ := hI.h
      have hkl := (List.getElem?_eq_some_iff.mp hk).1
      rw [List.length_map] at hkl
      rw [List.getElem?_map] at hk
      obtain ⟨r, hr, rfl⟩ := Option.map_eq_some_iff.mp hk
      have hrm := hos.mem_iff.mp (List.mem_of_getElem? hr)
      walk_at "w"
      refine ⟨by show 1 ≤ n; omega, pk_of (by omega) (by omega) fun x x1 x2 => ?_⟩
      walk_at "w"
      obtain ⟨m, em, m1, m2⟩ : ∃ m : Int, atI [PyData.int 5, PyData.int ((10 : Int) ^ Int.toNat 40)] (x / 3) = some (.int m) ∧ 0 < m ∧ m ≤ 10 ^ 40 := by
        rcases (show x / 3 = 0 ∨ x / 3 = 1 by omega) with e | e
        · rw [e]; exact ⟨5, rfl, by decide, by decide⟩
        · rw [e]; exact ⟨(10 : Int) ^ Int.toNat 40, rfl, by decide, by decide⟩
      refine opK_of em ?_
      walk_at "w"
      refine ⟨by show 1 ≤ n - 1; omega, pk_big m1 (Int.lt_of_le_of_lt m2 (by decide)) fun y y1 y2 => ?_⟩
      have y3 : (1 + y).natAbs ≤ 10 ^ 40 := by
        have : ((10 : Int) ^ 40) = ((10 ^ 40 : Nat) : Int) := by decide
        rw [this] at m2
        generalize 10 ^ 40 = z at *
        omega
      have y4 : (1 + y).natAbs < 2 ^ 200 := Nat.lt_of_le_of_lt y3 (by decide)
      walk_at "w"
      have hml : ∀ {z : Int}, -2 ≤ z ∧ z ≤ 2 → L3.MulOk (1 + y) z := fun {z} hz => .inl (.inr ⟨by omega, by omega⟩)
      have hmb : ∀ {z : Int}, -2 ≤ z ∧ z ≤ 2 → -(cB : Int) ≤ (1 + y) * z ∧ (1 + y) * z ≤ cB := fun {z} hz => by
        have h1 : ((1 + y) * z).natAbs ≤ 10 ^ 40 * 2 := by
          rw [Int.natAbs_mul]; exact Nat.mul_le_mul y3 (by omega)
        have h2 : 10 ^ 40 * 2 ≤ cB := by decide
        generalize (1 + y) * z = q at *
        generalize 10 ^ 40 * 2 = q2 at *
        omega
      refine leK_of (by rw [List.length_map, hB.wl]; omega) (lc_mapL (fun z => .int ((1 + y) * z)) (by walk_at "lcw") (fun z hz C1 C0 q => ?_) ?_)
      · have := hB.wb z hz
        walk_at "w"
        refine mlK_of (hml ⟨by omega, by omega⟩) ?_
        exact q
      walk_at "w"
      refine leK_of (by rw [List.length_map, hB.hl]; omega) (lc_mapL (fun z => .int ((1 + y) * z)) (by walk_at "lcw") (fun z hz C1 C0 q => ?_) ?_)
      · have := hB.hb z hz
        walk_at "w"
        refine mlK_of (hml this) ?_
        exact q
      walk_at "w"
      refine ltK_of (by rw [List.length_map]; omega) ?_
      walk_at "w"
      have hro : ∀ k ∈ r, k ∈ allW B := fun k hk => by
        obtain ⟨j, hj, hoj, e⟩ := rings_iff.mp hrm
        rw [e] at hk
        exact (ring_in hk).1
      have hrl : r.length ≤ 9 := by
        obtain ⟨j, hj, hoj, e⟩ := rings_iff.mp hrm
        have h1 : (ringOf B (allW B) j).length ≤ (allW B).length := ringOf_len
        have h3 : (allW B).length = B.ways.length := by simp [allW]
        rw [e]; omega
      obtain ⟨k0, t0, e0, _⟩ := ring_hd hrm
      refine hold ⟨n - 1 - 1, rfl, by omega, ps ++ [⟨r, wt.map fun z => (1 + y) * z, ht.map fun z => (1 + y) * z⟩], _, _, _, _, _, _, by rw [List.map_append]; simp only [List.map_cons, List.map_nil, LnT.d, List.map_map]; rfl, by rw [List.length_append]; exact Nat.add_le_add_right i1 1, fun p hp => ?_⟩
      rcases List.mem_append.mp hp with hp | hp
      · exact i2 p hp
      · cases List.mem_singleton.mp hp
        refine ⟨⟨by rw [e0]; simp, by show r.length ≤ 60; omega, fun k hk => ?_, by show (wt.map _).length ≤ 1000; rw [List.length_map, hB.wl]; omega⟩, ⟨by show (wt.map _).length ≤ 6; rw [List.length_map, hB.wl]; omega, by show (ht.map _).length ≤ 12; rw [List.length_map, hB.hl]; omega, fun x hx => ?_, fun x hx => ?_⟩⟩
        · obtain ⟨w1, w2, w3⟩ := hok.w k (hro k hk)
          refine ⟨w1, w2.1, ?_⟩
          show _ < (((ht.map _).length : Nat) : Int)
          rw [List.length_map, hB.hl]
          omega
        · obtain ⟨z, hz, rfl⟩ := List.mem_map.mp hx
          have := hB.wb z hz
          exact hmb ⟨by omega, by omega⟩
        · obtain ⟨z, hz, rfl⟩ := List.mem_map.mp hx
          exact hmb (hB.hb z hz)
    · obtain ⟨n, rfl, hn, ps, s6, s7, s8, s9, s10, s11, rfl, i1, i2⟩ := hI.h
      have hps : ∀ p ∈ ps, LnOk B p := fun p hp => (i2 p hp).1
      have hpb : ∀ p ∈ ps, LnB p := fun p hp => (i2 p hp).2
      rw [List.length_map] at i1 hn
      have hpl : ps.length ≤ 9 := by omega
      have hgs : ∀ w ∈ B.ways, w.gs ≠ [] := fun w hw e => by
        have := (hB.w w hw).2.2.1
        rw [e] at this
        simp at this
        omega
      have hG : (greatB B).natAbs ≤ 100000 := by
        have := mxL_abs (M := 100000) (xs := 0 :: B.ways.map fun w => mxL w.gs) (by decide) (fun x hx => by
          rcases List.mem_cons.mp hx with rfl | hx
          · decide
          · obtain ⟨w, hw, rfl⟩ := List.mem_map.mp hx
            exact mxL_abs (by decide) (hB.w w hw).2.2.2)
        unfold greatB
        omega
      have hfb : ∀ {N : Int} (i : Nat), 0 ≤ N → N ≤ 10 ^ 63 * 10 ^ 36 → ((ps.take i).foldl (stpB B (greatB B)) (B.rooms - 1, N + greatB B * (B.rooms - 1))).1.natAbs ≤ 2 ^ 1840 ∧ ((ps.take i).foldl (stpB B (greatB B)) (B.rooms - 1, N + greatB B * (B.rooms - 1))).2.natAbs ≤ 2 ^ 1840 := fun {N} i h0 h1 => by
        have hN : N.natAbs ≤ 2 ^ 330 := by
          have : ((10 : Int) ^ 63 * 10 ^ 36) ≤ ((2 ^ 330 : Nat) : Int) := by decide +kernel
          generalize (10 : Int) ^ 63 * 10 ^ 36 = z at *
          generalize 2 ^ 330 = z2 at *
          omega
        have hgr : (greatB B * (B.rooms - 1)).natAbs ≤ 1000000 := by
          rw [Int.natAbs_mul]
          exact Nat.le_trans (Nat.mul_le_mul hG (show (B.rooms - 1).natAbs ≤ 10 by omega)) (by decide)
        have c1 : 2 ^ 330 + 1000000 ≤ 2 ^ 340 := by decide +kernel
        have c2 : 10 ≤ 2 ^ 340 := by decide +kernel
        have := fold_bnd (B := B) hG (ps.take i) (B.rooms - 1, N + greatB B * (B.rooms - 1)) 340 (fun p hp => hpb p (List.mem_of_mem_take hp)) (by omega) (by
          show (B.rooms - 1).natAbs ≤ _
          generalize 2 ^ 340 = z at *
          omega) (by
          show (N + greatB B * (B.rooms - 1)).natAbs ≤ _
          have := Int.natAbs_add_le N (greatB B * (B.rooms - 1))
          generalize 2 ^ 340 = z at *
          generalize 2 ^ 330 = z2 at *
          omega)
        have hl : (ps.take i).length ≤ 9 := by rw [List.length_take]; omega
        have hp : 2 ^ (340 + 160 * (ps.take i).length) ≤ 2 ^ 1840 := Nat.pow_le_pow_right (by decide) (by omega)
        exact ⟨Nat.le_trans this.1 hp, Nat.le_trans this.2 hp⟩
      have hmk : ∀ {N : Int}, 0 ≤ N → N ≤ 10 ^ 63 * 10 ^ 36 → ∀ i num steps, i < ps.length → (ps.take i).foldl (stpB B (greatB B)) (B.rooms - 1, N + greatB B * (B.rooms - 1)) = (steps, num) → ∀ p, ps[i]? = some p → L3.MulOk num p.wt.sum := fun {N} h0 h1 i num steps hi e p hp => by
        have := (hfb i h0 h1).2
        rw [e] at this
        have hs := sum_absN (hpb p (List.mem_of_getElem? hp)).wb
        have hw := (hpb p (List.mem_of_getElem? hp)).wl
        have hs2 : p.wt.sum.natAbs ≤ 2 ^ 199 := Nat.le_trans hs (Nat.le_trans (Nat.mul_le_mul_left _ hw) (by decide +kernel))
        exact .inr (mulx_ok (a := 1841) (b := 200) (Nat.lt_of_le_of_lt this (Nat.pow_lt_pow_right (by decide) (by decide))) (Nat.lt_of_le_of_lt hs2 (Nat.pow_lt_pow_right (by decide) (by decide))) (by decide))
      have hsh : SeqAt.shaped (.list (ps.map LnT.d)) = true := (lay_listM (n := 3) fun p _ => lay_pair (lay_tints 1 _) (lay_pair (lay_tints 0 _) (lay_tints 0 _))).shaped (by decide)
      have hshow : ∀ {N : Int}, 0 ≤ N → N ≤ 10 ^ 63 * 10 ^ 36 → ShOk (.int (ps.foldl (stpB B (greatB B)) (B.rooms - 1, N + greatB B * (B.rooms - 1))).1) := fun {N} h0 h1 => show_big (by
        have := (hfb ps.length h0 h1).1
        rw [List.take_length] at this
        exact Nat.lt_of_le_of_lt (log2_le this) (by decide))
      have hG2 : -(2 ^ 64) < greatB B ∧ greatB B < 2 ^ 64 := by omega
      walk_at "w"
      refine ⟨by show 1 ≤ n; omega, pk_big (by decide +kernel) (by decide +kernel) fun x x1 x2 => ?_⟩
      walk_at "w"
      refine ⟨by show 1 ≤ n - 1; omega, ?_⟩
      walk_at "w"
      intro y y1 y2
      walk_at "w"
      refine ⟨⟨fun i ρ' g' => Hold (∃ s5 s6 s7 s8 s9 s10 s11 : Sl, ρ' = [.un, .rs 0, .dt B.d, .dt (.tuple [.tuple (wt.map PyData.int), .tuple (ht.map PyData.int)]), .dt (.list ((ringsL B (allW B)).map intsLD)), s5, s6, s7, s8, s9, s10, s11, .un] ∧ (s5 = .ls (ps.map LnT.d) ∨ s5 = .dt (.list (ps.map LnT.d)))), hold ⟨_, _, _, _, _, _, _, rfl, .inl rfl⟩, fun i d ρ' g' hk hI => ?_, fun ρ' g' hI => ?_⟩⟩
      · obtain ⟨s5, s6, s7, s8, s9, s10, s11, rfl, hs⟩ := hI.h
        obtain ⟨N, rfl, m1, m2⟩ : ∃ N : Int, d = .int N ∧ 0 ≤ N ∧ N ≤ 10 ^ 63 * 10 ^ 36 := by
          have hm := List.mem_of_getElem? hk
          simp only [List.mem_cons, List.not_mem_nil, or_false] at hm
          rcases hm with rfl | rfl | rfl | rfl
          · exact ⟨_, rfl, by decide, by decide +kernel⟩
          · exact ⟨_, rfl, by decide, by decide +kernel⟩
          · exact ⟨_, rfl, y1, Int.le_trans (Int.le_of_lt y2) (by decide +kernel)⟩
          · have b1 : (10 : Int) ^ Int.toNat 40 ≤ 10 ^ Int.toNat 63 * 10 ^ Int.toNat 36 - 1 := by decide +kernel
            have b2 : (10 : Int) ^ Int.toNat 63 * 10 ^ Int.toNat 36 - 1 ≤ 10 ^ 63 * 10 ^ 36 := by decide +kernel
            refine ⟨_, rfl, ?_, ?_⟩
            · exact Int.sub_nonneg_of_le (Int.le_trans (Int.le_of_lt x2) b1)
            · exact Int.le_trans (Int.sub_le_self _ x1) b2
        have hshow2 := hshow m1 m2
        have hmk2 := hmk m1 m2
        rcases hs with rfl | rfl
        · walk_at "w"
          refine ⟨B, rfl, ps, rfl, hps, hgs, by omega, hG2, hmk2, ?_⟩
          generalize eR : (ps.foldl (stpB B (greatB B)) (B.rooms - 1, N + greatB B * (B.rooms - 1))).1 = R at hshow2 ⊢
          walk_at "w"
          refine shK_of hshow2 ?_
          walk_at "w"
          refine ⟨B, rfl, ps, rfl, hps, hgs, by omega, hG2, hmk2, ?_⟩
          rw [eR]
          walk_at "w"
          refine shK_of hshow2 ?_
          walk_at "w"
          rw [decide_eq_true rfl]
          walk_at "w"
          refine ⟨hsh, hsh, ?_⟩
          walk_at "w"
          rw [eqv_shd hsh]
          walk_at "w"
          exact hold ⟨_, _, _, _, _, _, _, rfl, .inr rfl⟩
        · walk_at "w"
          refine ⟨B, rfl, ps, rfl, hps, hgs, by omega, hG2, hmk2, ?_⟩
          generalize eR : (ps.foldl (stpB B (greatB B)) (B.rooms - 1, N + greatB B * (B.rooms - 1))).1 = R at hshow2 ⊢
          walk_at "w"
          refine shK_of hshow2 ?_
          walk_at "w"
          refine ⟨B, rfl, ps, rfl, hps, hgs, by omega, hG2, hmk2, ?_⟩
          rw [eR]
          walk_at "w"
          refine shK_of hshow2 ?_
          walk_at "w"
          rw [decide_eq_true rfl]
          walk_at "w"
          refine ⟨hsh, hsh, ?_⟩
          walk_at "w"
          rw [eqv_shd hsh]
          walk_at "w"
          exact hold ⟨_, _, _, _, _, _, _, rfl, .inr rfl⟩
      · obtain ⟨s5, s6, s7, s8, s9, s10, s11, rfl, hs⟩ := hI.h
        walk_at "w"
  obtain ⟨ts, t, hd, hb⟩ := hd
  exact ⟨_, pss_cons (ps_set (i := 1) c_law.nd rfl (by first | exact .inl rfl | exact .inr rfl) (pe_fn f__law_tape hr (pa_cons (pv 0) pa_nil))) hd.ps, law_simT hd.sim hS hq (by decide) (by decide) hb⟩
theorem all_mk {l : PySem.W.OpenLaw} {w : World} {K : PySem.W.Frag} {h : Heap} {mg : Str → Option Value} {fa : Addr} (X : K.In h) (G : h.Ns mainGlobals mg) (hfa : mg "law" = some (.ref fa))
    {f1 : Addr} {od1 an1 : Option Addr} {sl1 : Array (Option Value)} {oc1 kV1 dc1 pm1 cd1 ct1 : Value}
    (a1 : PySem.W.nsIn K mainGlobals "_law_tape" = some (some (.ref f1))) (l1 : K.lookup f1 = some ⟨oc1, od1, .func (PySem.W.fnOf "_law_tape" "_law_tape" (defArgs s__law_tape) (defBody s__law_tape) (defScope s__law_tape) .none kV1 dc1 pm1 an1 cd1 ct1), sl1⟩) (c1 : PySem.W.codeIn K cd1 "_law_tape" = true) (k1 : PySem.W.keepIn K (.ref f1) = true)
    {f2 : Addr} {od2 an2 : Option Addr} {sl2 : Array (Option Value)} {oc2 kV2 dc2 pm2 cd2 ct2 : Value}
    (a2 : PySem.W.nsIn K mainGlobals "_law_draw" = some (some (.ref f2))) (l2 : K.lookup f2 = some ⟨oc2, od2, .func (PySem.W.fnOf "_law_draw" "_law_draw" (defArgs s__law_draw) (defBody s__law_draw) (defScope s__law_draw) .none kV2 dc2 pm2 an2 cd2 ct2), sl2⟩) (c2 : PySem.W.codeIn K cd2 "_law_draw" = true) (k2 : PySem.W.keepIn K (.ref f2) = true)
    {f3 : Addr} {od3 an3 : Option Addr} {sl3 : Array (Option Value)} {oc3 kV3 dc3 pm3 cd3 ct3 : Value}
    (a3 : PySem.W.nsIn K mainGlobals "_law_gain" = some (some (.ref f3))) (l3 : K.lookup f3 = some ⟨oc3, od3, .func (PySem.W.fnOf "_law_gain" "_law_gain" (defArgs s__law_gain) (defBody s__law_gain) (defScope s__law_gain) .none kV3 dc3 pm3 an3 cd3 ct3), sl3⟩) (c3 : PySem.W.codeIn K cd3 "_law_gain" = true) (k3 : PySem.W.keepIn K (.ref f3) = true)
    {f4 : Addr} {od4 an4 : Option Addr} {sl4 : Array (Option Value)} {oc4 kV4 dc4 pm4 cd4 ct4 : Value}
    (a4 : PySem.W.nsIn K mainGlobals "_law_gains" = some (some (.ref f4))) (l4 : K.lookup f4 = some ⟨oc4, od4, .func (PySem.W.fnOf "_law_gains" "_law_gains" (defArgs s__law_gains) (defBody s__law_gains) (defScope s__law_gains) .none kV4 dc4 pm4 an4 cd4 ct4), sl4⟩) (c4 : PySem.W.codeIn K cd4 "_law_gains" = true) (k4 : PySem.W.keepIn K (.ref f4) = true)
    {f5 : Addr} {od5 an5 : Option Addr} {sl5 : Array (Option Value)} {oc5 kV5 dc5 pm5 cd5 ct5 : Value}
    (a5 : PySem.W.nsIn K mainGlobals "_law_falling_book" = some (some (.ref f5))) (l5 : K.lookup f5 = some ⟨oc5, od5, .func (PySem.W.fnOf "_law_falling_book" "_law_falling_book" (defArgs s__law_falling_book) (defBody s__law_falling_book) (defScope s__law_falling_book) .none kV5 dc5 pm5 an5 cd5 ct5), sl5⟩) (c5 : PySem.W.codeIn K cd5 "_law_falling_book" = true) (k5 : PySem.W.keepIn K (.ref f5) = true)
    {f6 : Addr} {od6 an6 : Option Addr} {sl6 : Array (Option Value)} {oc6 kV6 dc6 pm6 cd6 ct6 : Value}
    (a6 : PySem.W.nsIn K mainGlobals "_law_met" = some (some (.ref f6))) (l6 : K.lookup f6 = some ⟨oc6, od6, .func (PySem.W.fnOf "_law_met" "_law_met" (defArgs s__law_met) (defBody s__law_met) (defScope s__law_met) .none kV6 dc6 pm6 an6 cd6 ct6), sl6⟩) (c6 : PySem.W.codeIn K cd6 "_law_met" = true) (k6 : PySem.W.keepIn K (.ref f6) = true)
    {f7 : Addr} {od7 an7 : Option Addr} {sl7 : Array (Option Value)} {oc7 kV7 dc7 pm7 cd7 ct7 : Value}
    (a7 : PySem.W.nsIn K mainGlobals "_law_rings" = some (some (.ref f7))) (l7 : K.lookup f7 = some ⟨oc7, od7, .func (PySem.W.fnOf "_law_rings" "_law_rings" (defArgs s__law_rings) (defBody s__law_rings) (defScope s__law_rings) .none kV7 dc7 pm7 an7 cd7 ct7), sl7⟩) (c7 : PySem.W.codeIn K cd7 "_law_rings" = true) (k7 : PySem.W.keepIn K (.ref f7) = true)
    {f8 : Addr} {od8 an8 : Option Addr} {sl8 : Array (Option Value)} {oc8 kV8 dc8 pm8 cd8 ct8 : Value}
    (a8 : PySem.W.nsIn K mainGlobals "_law_ordered" = some (some (.ref f8))) (l8 : K.lookup f8 = some ⟨oc8, od8, .func (PySem.W.fnOf "_law_ordered" "_law_ordered" (defArgs s__law_ordered) (defBody s__law_ordered) (defScope s__law_ordered) .none kV8 dc8 pm8 an8 cd8 ct8), sl8⟩) (c8 : PySem.W.codeIn K cd8 "_law_ordered" = true) (k8 : PySem.W.keepIn K (.ref f8) = true)
    {f9 : Addr} {od9 an9 : Option Addr} {sl9 : Array (Option Value)} {oc9 kV9 dc9 pm9 cd9 ct9 : Value}
    (a9 : PySem.W.nsIn K mainGlobals "steps_at_most" = some (some (.ref f9))) (l9 : K.lookup f9 = some ⟨oc9, od9, .func (PySem.W.fnOf "steps_at_most" "steps_at_most" (defArgs s_steps_at_most) (defBody s_steps_at_most) (defScope s_steps_at_most) .none kV9 dc9 pm9 an9 cd9 ct9), sl9⟩) (c9 : PySem.W.codeIn K cd9 "steps_at_most" = true) (k9 : PySem.W.keepIn K (.ref f9) = true)
    {f10 : Addr} {od10 an10 : Option Addr} {sl10 : Array (Option Value)} {oc10 kV10 dc10 pm10 cd10 ct10 : Value}
    (a10 : PySem.W.nsIn K mainGlobals "_law_steps" = some (some (.ref f10))) (l10 : K.lookup f10 = some ⟨oc10, od10, .func (PySem.W.fnOf "_law_steps" "_law_steps" (defArgs s__law_steps) (defBody s__law_steps) (defScope s__law_steps) .none kV10 dc10 pm10 an10 cd10 ct10), sl10⟩) (c10 : PySem.W.codeIn K cd10 "_law_steps" = true) (k10 : PySem.W.keepIn K (.ref f10) = true)
    {f11 : Addr} {od11 an11 : Option Addr} {sl11 : Array (Option Value)} {oc11 kV11 dc11 pm11 cd11 ct11 : Value}
    (a11 : PySem.W.nsIn K mainGlobals "law" = some (some (.ref f11))) (l11 : K.lookup f11 = some ⟨oc11, od11, .func (PySem.W.fnOf "law" "law" (defArgs s_law) (defBody s_law) (defScope s_law) .none kV11 dc11 pm11 an11 cd11 ct11), sl11⟩) (c11 : PySem.W.codeIn K cd11 "law" = true) (k11 : PySem.W.keepIn K (.ref f11) = true)
    (z1 : PySem.W.nsIn K mainGlobals "list" = some none)
    (z2 : PySem.W.nsIn K mainGlobals "len" = some none)
    (z3 : PySem.W.nsIn K mainGlobals "range" = some none)
    (z4 : PySem.W.nsIn K mainGlobals "tuple" = some none)
    (z5 : PySem.W.nsIn K mainGlobals "sum" = some none)
    (z6 : PySem.W.nsIn K mainGlobals "min" = some none)
    (z7 : PySem.W.nsIn K mainGlobals "dict" = some none)
    (z8 : PySem.W.nsIn K mainGlobals "max" = some none)
    (z9 : PySem.W.nsIn K mainGlobals "sorted" = some none)
    (z10 : PySem.W.nsIn K mainGlobals "repr" = some none)
    : ∃ fd : FuncData, (∀ (s : Shared) (v : Value), BindsTo s fd ⟨[v], []⟩ [("_law_script", v)]) ∧ ∀ base : Heap, K.In base → base.Ns mainGlobals mg → FnG l.prog w K mg base (L2.CX l.prog w) 5 fa fd ["_law_script"] (spLaw K) := by
  have D1 : Dfn K mg "_law_tape" s__law_tape ["_law_script"] := ⟨f1, _, fun_mk (st := s__law_tape) l1 c1 k1, PySem.W.mg_of X G a1, (fun_mk (st := s__law_tape) l1 c1 k1).binds fun _ _ _ _ _ _ us hl => match us, hl with | [_], _ => rfl⟩
  have D2 : Dfn K mg "_law_draw" s__law_draw ["_law_tape_here", "_law_many"] := ⟨f2, _, fun_mk (st := s__law_draw) l2 c2 k2, PySem.W.mg_of X G a2, (fun_mk (st := s__law_draw) l2 c2 k2).binds fun _ _ _ _ _ _ us hl => match us, hl with | [_, _], _ => rfl⟩
  have D3 : Dfn K mg "_law_gain" s__law_gain ["_law_tape_here"] := ⟨f3, _, fun_mk (st := s__law_gain) l3 c3 k3, PySem.W.mg_of X G a3, (fun_mk (st := s__law_gain) l3 c3 k3).binds fun _ _ _ _ _ _ us hl => match us, hl with | [_], _ => rfl⟩
  have D4 : Dfn K mg "_law_gains" s__law_gains ["_law_tape_here", "_law_purses"] := ⟨f4, _, fun_mk (st := s__law_gains) l4 c4 k4, PySem.W.mg_of X G a4, (fun_mk (st := s__law_gains) l4 c4 k4).binds fun _ _ _ _ _ _ us hl => match us, hl with | [_, _], _ => rfl⟩
  have D5 : Dfn K mg "_law_falling_book" s__law_falling_book ["_law_tape_here", "_law_most"] := ⟨f5, _, fun_mk (st := s__law_falling_book) l5 c5 k5, PySem.W.mg_of X G a5, (fun_mk (st := s__law_falling_book) l5 c5 k5).binds fun _ _ _ _ _ _ us hl => match us, hl with | [_, _], _ => rfl⟩
  have D6 : Dfn K mg "_law_met" s__law_met ["_law_book_here", "_law_some", "_law_room"] := ⟨f6, _, fun_mk (st := s__law_met) l6 c6 k6, PySem.W.mg_of X G a6, (fun_mk (st := s__law_met) l6 c6 k6).binds fun _ _ _ _ _ _ us hl => match us, hl with | [_, _, _], _ => rfl⟩
  have D7 : Dfn K mg "_law_rings" s__law_rings ["_law_book_here", "_law_some"] := ⟨f7, _, fun_mk (st := s__law_rings) l7 c7 k7, PySem.W.mg_of X G a7, (fun_mk (st := s__law_rings) l7 c7 k7).binds fun _ _ _ _ _ _ us hl => match us, hl with | [_, _], _ => rfl⟩
  have D8 : Dfn K mg "_law_ordered" s__law_ordered ["_law_book_here", "_law_all"] := ⟨f8, _, fun_mk (st := s__law_ordered) l8 c8 k8, PySem.W.mg_of X G a8, (fun_mk (st := s__law_ordered) l8 c8 k8).binds fun _ _ _ _ _ _ us hl => match us, hl with | [_, _], _ => rfl⟩
  have D9 : Dfn K mg "steps_at_most" s_steps_at_most ["book", "sums", "most"] := ⟨f9, _, fun_mk (st := s_steps_at_most) l9 c9 k9, PySem.W.mg_of X G a9, (fun_mk (st := s_steps_at_most) l9 c9 k9).binds fun _ _ _ _ _ _ us hl => match us, hl with | [_, _, _], _ => rfl⟩
  have D10 : Dfn K mg "_law_steps" s__law_steps ["_law_book_here", "_law_sums", "_law_number"] := ⟨f10, _, fun_mk (st := s__law_steps) l10 c10 k10, PySem.W.mg_of X G a10, (fun_mk (st := s__law_steps) l10 c10 k10).binds fun _ _ _ _ _ _ us hl => match us, hl with | [_, _, _], _ => rfl⟩
  have D11 : Dfn K mg "law" s_law ["_law_script"] := ⟨f11, _, fun_mk (st := s_law) l11 c11 k11, PySem.W.mg_of X G a11, (fun_mk (st := s_law) l11 c11 k11).binds fun _ _ _ _ _ _ us hl => match us, hl with | [_], _ => rfl⟩
  have y_list := PySem.W.mg_none_of X G z1
  have y_len := PySem.W.mg_none_of X G z2
  have y_range := PySem.W.mg_none_of X G z3
  have y_tuple := PySem.W.mg_none_of X G z4
  have y_sum := PySem.W.mg_none_of X G z5
  have y_min := PySem.W.mg_none_of X G z6
  have y_dict := PySem.W.mg_none_of X G z7
  have y_max := PySem.W.mg_none_of X G z8
  have y_sorted := PySem.W.mg_none_of X G z9
  have y_repr := PySem.W.mg_none_of X G z10
  refine ⟨PySem.W.fnOf "law" "law" (defArgs s_law) (defBody s_law) (defScope s_law) .none kV11 dc11 pm11 an11 cd11 ct11, fun s v => .of_eq rfl, fun base _ _ => ?_⟩
  have o1 : Ok l.prog w K mg base 1 "_law_tape" ["_law_script"] (spTape K) := ok__law_tape D1 y_list
  have o2 : Ok l.prog w K mg base 1 "_law_draw" ["_law_tape_here", "_law_many"] (spZ (ZT K) S__law_draw) := ok__law_draw D2 y_len
  have o3 : Ok l.prog w K mg base 2 "_law_gain" ["_law_tape_here"] (spZ (ZT K) S__law_gain) := ok__law_gain (D := D3) (f__law_draw := o2.up (by decide))
  have o4 : Ok l.prog w K mg base 3 "_law_gains" ["_law_tape_here", "_law_purses"] (spZ (ZT K) S__law_gains) := ok__law_gains (D := D4) (f__law_gain := o3.up (by decide)) (z_range := y_range) (z_tuple := y_tuple)
  have o5 : Ok l.prog w K mg base 4 "_law_falling_book" ["_law_tape_here", "_law_most"] (spZ (ZT K) S__law_falling_book) := ok__law_falling_book (D := D5) (f__law_draw := o2.up (by decide)) (f__law_gains := o4.up (by decide)) (z_range := y_range) (z_list := y_list) (z_sum := y_sum) (z_min := y_min) (z_tuple := y_tuple)
  have o6 : Ok l.prog w K mg base 1 "_law_met" ["_law_book_here", "_law_some", "_law_room"] (spZ (Z0 K) S__law_met) := ok__law_met (D := D6) (z_len := y_len)
  have o7 : Ok l.prog w K mg base 2 "_law_rings" ["_law_book_here", "_law_some"] (spZ (Z0 K) S__law_rings) := ok__law_rings (D := D7) (f__law_met := o6.up (by decide)) (z_range := y_range) (z_dict := y_dict)
  have o8 : Ok l.prog w K mg base 2 "_law_ordered" ["_law_book_here", "_law_all"] (spZ (Z0 K) S__law_ordered) := ok__law_ordered (D := D8) (f__law_met := o6.up (by decide)) (z_list := y_list) (z_range := y_range) (z_len := y_len)
  have o9 : Ok l.prog w K mg base 1 "steps_at_most" ["book", "sums", "most"] (spZ (Z0 K) S_steps_at_most) := ok_steps_at_most (D := D9) (z_max := y_max) (z_sum := y_sum) (z_min := y_min)
  have o10 : Ok l.prog w K mg base 1 "_law_steps" ["_law_book_here", "_law_sums", "_law_number"] (spZ (Z0 K) S__law_steps) := ok__law_steps (D := D10) (z_max := y_max) (z_sorted := y_sorted) (z_sum := y_sum)
  have o11 : Ok l.prog w K mg base 5 "law" ["_law_script"] (spLaw K) := ok_law (D := D11) (f__law_tape := o1.up (by decide)) (f__law_falling_book := o5.up (by decide)) (f__law_rings := o7.up (by decide)) (f__law_ordered := o8.up (by decide)) (f__law_draw := o2.up (by decide)) (f_steps_at_most := o9.up (by decide)) (f__law_steps := o10.up (by decide)) (z_list := y_list) (z_range := y_range) (z_len := y_len) (z_tuple := y_tuple) (z_repr := y_repr)
  exact o11.fn hfa (by have e := hfa.symm.trans (PySem.W.mg_of X G a11); cases e; exact l11)
end Lw
open PySem PySem.W PyProof.Rows
set_option maxHeartbeats 0 in
theorem PySem.Challenge.cw_fallsum_k47_steps_by_a_line_holds : PySem.Challenge.rw_fallsum_k47_steps_by_a_line.Holds := by
  w_on; o_law; k_head; (case hw => w_witness2)
  k_fill
  refine L3.walk_ofG (l := PySem.Challenge.rw_fallsum_k47_steps_by_a_line) (m := 63) (n := 5) (x := "_law_script") (CC := fun w => L2.CX PySem.Challenge.rw_fallsum_k47_steps_by_a_line.prog w) (sp := fun w => L3.spLaw _) rfl (by decide) rfl ⟨⟨rfl, by decide, by decide⟩, rfl⟩ (fun w h Y => PySem.W.kIn_of Y) ?F (fun _ _ a ns hl _ hS => ⟨a, ns, rfl, hS, fun _ => rfl⟩) (fun w H s e t h => L3.leave0 _ w H s e t h)
  case F =>
    intro w mg fa h KX G hmg
    refine' Lw.all_mk KX G hmg ?a1 ?l1 ?c1 ?k1 ?a2 ?l2 ?c2 ?k2 ?a3 ?l3 ?c3 ?k3 ?a4 ?l4 ?c4 ?k4 ?a5 ?l5 ?c5 ?k5 ?a6 ?l6 ?c6 ?k6 ?a7 ?l7 ?c7 ?k7 ?a8 ?l8 ?c8 ?k8 ?a9 ?l9 ?c9 ?k9 ?a10 ?l10 ?c10 ?k10 ?a11 ?l11 ?c11 ?k11 ?z1 ?z2 ?z3 ?z4 ?z5 ?z6 ?z7 ?z8 ?z9 ?z10
    (case a1 => k_is); (case l1 => k_is); (case c1 => k_is); (case k1 => k_is); (case a2 => k_is); (case l2 => k_is); (case c2 => k_is); (case k2 => k_is); (case a3 => k_is); (case l3 => k_is); (case c3 => k_is); (case k3 => k_is); (case a4 => k_is); (case l4 => k_is); (case c4 => k_is); (case k4 => k_is); (case a5 => k_is); (case l5 => k_is); (case c5 => k_is); (case k5 => k_is); (case a6 => k_is); (case l6 => k_is); (case c6 => k_is); (case k6 => k_is); (case a7 => k_is); (case l7 => k_is); (case c7 => k_is); (case k7 => k_is); (case a8 => k_is); (case l8 => k_is); (case c8 => k_is); (case k8 => k_is); (case a9 => k_is); (case l9 => k_is); (case c9 => k_is); (case k9 => k_is); (case a10 => k_is); (case l10 => k_is); (case c10 => k_is); (case k10 => k_is); (case a11 => k_is); (case l11 => k_is); (case c11 => k_is); (case k11 => k_is); (case z1 => k_is); (case z2 => k_is); (case z3 => k_is); (case z4 => k_is); (case z5 => k_is); (case z6 => k_is); (case z7 => k_is); (case z8 => k_is); (case z9 => k_is); (case z10 => k_is)
