import PyProof.Rows.All
import Wide.All
import OpenK.AllK
import Wide.FinOn
import HandS.ForMost
import HandS.TupMul
import HandS.Walk
import HandS.Evl
import HandS.Wide
import HandS.WideBits
import HandS.TupAny
import HandS.Style
import HandS.IsInst
import KE.GoesEnum
import HandS.ForExc
import HandS.Text
import HandS.Dict
import HandS.WordsDict
import HandS.Deep
import HandS.RaiseMore
import HandS.ExcIs
import HandS.Conv
import KE.DatumOrd
import HandS.Defaults
import HandS.HotCalls
import KE.KExcIs
import KE.DatumIndex
import HandS.RevRange
import KE.DatumMoreOrd
import KE.KRevSl
import KE.SortData
import KE.OsSort
import KE.KTupSum
import KE.DataEq
import HandS.Nested
import HandS.NestedK
import KE.DataMinKey
import KE.KNestM
import HandS.EndTab
import HandS.SetKeys
import HandS.Strs
import HandS.SetFor
import HandS.DictTup
import KE.KDictPairs
import HandS.TupLen
import PyProof.SumAny
import Flt.Sum
import HandS.FStr
import KE.IntTextLaws
import HandS.ExcInit
import HandS.ExcField
import PyProof.StrBlock2
import PySem.Challenge.RW_fallsum_k60_walks_from_one_stand
set_option Elab.async false
set_option linter.all false
set_option maxRecDepth 100000
set_option maxHeartbeats 20000000
section
namespace L2
open PySem PySem.Spec PyProof.Rows
theorem tuple_mulW1 (l : Addr) (items : Array Value) (n : Nat) (dd : Option Addr) (sl : Array (Option Value)) (x : Int) (u : Tok) (c0 : (decide (x < -(2 ^ 63)) || decide (x ≥ 2 ^ 63)) = false) (c1 : (items.isEmpty || x == 1) = true) :
    Meets (Builtin.«tuple.__mul__» ⟨[.ref l, .int x u], []⟩) (fun _ R s => s.heap.get? l = some { cls := .type "tuple", dict := dd, data := .seq items n, slots := sl } ∧ R (.ok (.ret (Value.ref l))) s) :=
  .of_wp fun prog w A R s h => by
    obtain ⟨hp, g, d, tk, os⟩ := s
    obtain ⟨hl, h⟩ := h
    have f1 := AutoSeq1.idx_int
    wp_walk using wpAny_loadPart' hl
    repeat (first
      | (refine wpAny_ite_false (decide_eq_false (by rw [c0]; exact Bool.false_ne_true)) ?_; wp_walk using wpAny_loadPart' hl)
      | (refine wpAny_ite_true (decide_eq_true c1) ?_; wp_walk using wpAny_loadPart' hl))
    exact ⟨_, rfl, h⟩
theorem tuple_mulW2 (l : Addr) (items : Array Value) (n : Nat) (dd : Option Addr) (sl : Array (Option Value)) (x : Int) (u : Tok) (c0 : (decide (x < -(2 ^ 63)) || decide (x ≥ 2 ^ 63)) = false) (c1 : (items.isEmpty || x == 1) = false) (c2 : (decide (x ≤ 0) || items.isEmpty) = true) :
    Meets (Builtin.«tuple.__mul__» ⟨[.ref l, .int x u], []⟩) (fun _ R s => s.heap.get? l = some { cls := .type "tuple", dict := dd, data := .seq items n, slots := sl } ∧
      R (.ok (.ret (Value.ref s.heap.objs.size))) { s with heap := s.heap.push { cls := Value.type "tuple", data := Data.seq #[] }, toks := s.toks }) :=
  .of_wp fun prog w A R s h => by
    obtain ⟨hp, g, d, tk, os⟩ := s
    obtain ⟨hl, h⟩ := h
    have f1 := AutoSeq1.idx_int
    have hs0 : (#[] : Array Value).size ≤ sizeLine := Nat.zero_le _
    wp_walk using wpAny_loadPart' hl
    repeat (first
      | (refine wpAny_ite_false (decide_eq_false (by rw [c0]; exact Bool.false_ne_true)) ?_; wp_walk using wpAny_loadPart' hl)
      | (refine wpAny_ite_false (decide_eq_false (by rw [c1]; exact Bool.false_ne_true)) ?_; wp_walk using wpAny_loadPart' hl)
      | (refine wpAny_ite_true (decide_eq_true c2) ?_; wp_walk using wpAny_loadPart' hl)
      | (refine wpAny_ite_false (decide_eq_false (Nat.not_lt.mpr hs0)) ?_; wp_walk using wpAny_loadPart' hl))
    exact ⟨_, rfl, h⟩
/-- t * k, any k -/
def rRepA (K : PySem.W.Frag) : R2 := fun x y H Q => ∃ l k xs, x = .ref l ∧ y = .int k ∧ SqT K H l xs ∧ -(2 ^ 63) ≤ k ∧ k < 2 ^ 63 ∧ xs.length * k.toNat ≤ sizeLine ∧ (xs = [] ∨ k = 1 → Q (.ref l) H) ∧
  (¬ (xs = [] ∨ k = 1) → ∀ p, H p = none → Q (.ref p) (upd H p (.tup (List.replicate k.toNat xs).flatten)))
section
variable {X : Cx}
theorem op_repA : OpR X (binaryOp .Mult) (rRepA X.K) := by
  intro pins s σ H x y v u Q I rx ry h
  obtain ⟨l, k, xs, rfl, rfl, hT, h1, h2, hz, q0, q⟩ := h
  cases rx
  obtain ⟨t, rfl⟩ := ry
  obtain ⟨its, r, ⟨⟨cls, dd, data, sl⟩, ho, hc, n, hd⟩, hs⟩ := I.tuple hT
  simp only at hc hd
  subst hc hd
  have hle : its.length = xs.length := r.length.symm
  have c0 : (decide (k < -(2 ^ 63)) || decide (k ≥ 2 ^ 63)) = false := by
    rw [decide_eq_false (by omega), decide_eq_false (by omega)] <;> rfl
  have hsz0 : its.toArray.size = xs.length := by rw [List.size_toArray, hle]
  have he : its.toArray.isEmpty = true ↔ xs = [] := by
    cases its with
    | nil => cases r; simp
    | cons a b => cases r; simp
  by_cases c : xs = [] ∨ k = 1
  · have c1 : (its.toArray.isEmpty || k == 1) = true := by
      rcases c with c | c
      · rw [he.mpr c]; rfl
      · rw [c]; simp
    refine wpAny_binaryOp_repeat_ref (T := "tuple") (U := "int") (by decide) ⟨_, ho, rfl⟩ (fun s' => typeIs_int s' k t) noFill_tuple_mul F.fills_int_mul F.slot_int_rmul repeat_tuple F.slot_int_index.lookup
      (call_meets F.slot_int_rmul (typeIs_int s k t) F.entry_int_rmul (F.args_int_rmul_2 _ _) (int_rmul_tuple k t l its.toArray n dd sl)
        ⟨ho, rfl, ⟨_, ho, rfl⟩, call_meets F.slot_tuple_mul ⟨_, ho, rfl⟩ F.entry_tuple_mul (F.args_tuple_mul_2 _ _) (tuple_mulW1 l its.toArray n dd sl k t c0 c1) ⟨ho, ?_⟩⟩)
    exact ⟨.ref l, H, I, rfl, q0 c⟩
  · have hne : xs ≠ [] := fun e => c (.inl e)
    have hi : its.toArray.isEmpty = false := by
      cases e : its.toArray.isEmpty with
      | false => rfl
      | true => exact absurd (he.mp e) hne
    have c1 : (its.toArray.isEmpty || k == 1) = false := by
      rw [hi, Bool.false_or]
      exact beq_eq_false_iff_ne.mpr fun e => c (.inr e)
    have flen : (List.replicate k.toNat its).flatten.length ≤ sizeLine := by
      rw [PyProof.Rows.lm_len_rep_flat, hle, Nat.mul_comm]; exact hz
    by_cases k0 : k ≤ 0
    · have c2 : (decide (k ≤ 0) || its.toArray.isEmpty) = true := by rw [decide_eq_true k0]; rfl
      refine wpAny_binaryOp_repeat_ref (T := "tuple") (U := "int") (by decide) ⟨_, ho, rfl⟩ (fun s' => typeIs_int s' k t) noFill_tuple_mul F.fills_int_mul F.slot_int_rmul repeat_tuple F.slot_int_index.lookup
        (call_meets F.slot_int_rmul (typeIs_int s k t) F.entry_int_rmul (F.args_int_rmul_2 _ _) (int_rmul_tuple k t l its.toArray n dd sl)
          ⟨ho, rfl, ⟨_, ho, rfl⟩, call_meets F.slot_tuple_mul ⟨_, ho, rfl⟩ F.entry_tuple_mul (F.args_tuple_mul_2 _ _) (tuple_mulW2 l its.toArray n dd sl k t c0 c1 c2) ⟨ho, ?_⟩⟩)
      have e0 : k.toNat = 0 := by omega
      refine ⟨.ref s.heap.objs.size, _, I.laid (t' := s.toks) (o := .tup (List.replicate k.toNat xs).flatten) (fun b ob q => Heap.get?_push_of_some _ q) (Nat.le_refl _) ?_, rfl, q c _ (I.hok.fresh (Nat.le_refl _))⟩
      rw [e0]
      exact ⟨Nat.zero_le _, [], .nil, IsTup.new _ _⟩
    · have hm : ((its.toArray.size : Nat) : Int) * k ≤ sizeLine := by
        rw [hsz0]
        have e : (k.toNat : Int) = k := Int.toNat_of_nonneg (by omega)
        rw [← e]
        exact_mod_cast hz
      have c2 : (decide (k ≤ 0) || its.toArray.isEmpty) = false := by
        rw [hi, Bool.or_false]
        exact decide_eq_false k0
      have c4 : Builtin.Tuple.tupleTooMany (((its.toArray.size : Nat) : Int) * k) = false := by
        unfold Builtin.Tuple.tupleTooMany
        exact decide_eq_false (by omega)
      have hl2 : (sizeLine : Int) ≤ (2 ^ 63 - 1) / 8 := by rw [sizeLine_eq]; decide
      refine wpAny_binaryOp_repeat_ref (T := "tuple") (U := "int") (by decide) ⟨_, ho, rfl⟩ (fun s' => typeIs_int s' k t) noFill_tuple_mul F.fills_int_mul F.slot_int_rmul repeat_tuple F.slot_int_index.lookup
        (call_meets F.slot_int_rmul (typeIs_int s k t) F.entry_int_rmul (F.args_int_rmul_2 _ _) (int_rmul_tuple k t l its.toArray n dd sl)
          ⟨ho, rfl, ⟨_, ho, rfl⟩, call_meets F.slot_tuple_mul ⟨_, ho, rfl⟩ F.entry_tuple_mul (F.args_tuple_mul_2 _ _) (tuple_mulW l its.toArray n dd sl k t c0 c1 c2 (by omega) c4 (by rw [size_rep, List.size_toArray]; exact flen)) ⟨ho, ?_⟩⟩)
      rw [size_rep]
      refine ⟨.ref s.heap.objs.size, _, I.laid (t' := s.toks) (o := .tup (List.replicate k.toNat xs).flatten) (fun b ob q => Heap.get?_push_of_some _ q) (Nat.le_refl _) ?_, rfl, q c _ (I.hok.fresh (Nat.le_refl _))⟩
      exact ⟨by rw [PyProof.Rows.lm_len_rep_flat, Nat.mul_comm]; exact hz, _, r.rep k.toNat, IsTup.new _ _⟩
end
end L2
end
section
namespace L3
open PySem L2
abbrev Ex := Evl.Ex
/-- what is seen to hold by computing is not asked -/
def gd (b : Bool) (c p : Prop) : Prop := match b with
  | true => p
  | false => c ∧ p
theorem gd_e {b : Bool} {c p : Prop} (hb : b = true → c) (h : gd b c p) : c ∧ p := match b, hb, h with
  | true, hb, h => ⟨hb rfl, h⟩
  | false, _, h => h
theorem gd_of {b : Bool} {c p : Prop} (hc : c) (hp : p) : gd b c p := match b with
  | true => hp
  | false => ⟨hc, hp⟩
def tt (b : Bool) (p : Prop) : Prop := match b with
  | true => p
  | false => False
theorem tt_e {b : Bool} {p : Prop} (h : tt b p) : b = true ∧ p := match b, h with
  | true, h => ⟨rfl, h⟩
def opK {α : Type} (o : Option α) (k : α → Prop) : Prop := match o with
  | some a => k a
  | none => False
theorem opK_e {α : Type} {o : Option α} {k : α → Prop} (h : opK o k) : ∃ a, o = some a ∧ k a := match o, h with
  | some a, h => ⟨a, rfl, h⟩
theorem opK_of {α : Type} {o : Option α} {k : α → Prop} {a : α} (e : o = some a) (h : k a) : opK o k := by subst e; exact h
def leK (n m : Nat) (p : Prop) : Prop := gd (Nat.ble n m) (n ≤ m) p
theorem leK_e {n m : Nat} {p : Prop} (h : leK n m p) : n ≤ m ∧ p := gd_e Nat.le_of_ble_eq_true h
theorem leK_of {n m : Nat} {p : Prop} (hc : n ≤ m) (hp : p) : leK n m p := gd_of hc hp
def ltK (n m : Nat) (p : Prop) : Prop := gd (Nat.ble (n + 1) m) (n < m) p
theorem ltK_e {n m : Nat} {p : Prop} (h : ltK n m p) : n < m ∧ p := gd_e Nat.le_of_ble_eq_true h
theorem ltK_of {n m : Nat} {p : Prop} (hc : n < m) (hp : p) : ltK n m p := gd_of hc hp
/-- a choice by a truth -/
def ifb (b : Bool) (p q : Prop) : Prop := match b with
  | true => p
  | false => q
theorem ifb_t {p q : Prop} (h : ifb true p q) : p := h
theorem ifb_f {p q : Prop} (h : ifb false p q) : q := h
theorem ifb_of {b : Bool} {p q : Prop} (h : b = true → p) (k : b = false → q) : ifb b p q := match b, h, k with
  | true, h, _ => h rfl
  | false, _, k => k rfl
inductive Sl where
  | un | dt (d : PyData) | ls (ds : List PyData) | dk (kvs : List (PyData × PyData)) | rs (n : Nat) | vv (v : V)
inductive Rs where
  | dt (d : PyData) | nl (ds : List PyData) | nd (kvs : List (PyData × PyData)) | br (i : Nat) | rs (n : Nat) | vv (v : V)
abbrev En := List Sl
def Sl.own : Sl → Bool
  | .ls _ => true
  | .dk _ => true
  | _ => false
def kD : Key → PyData
  | .inl i => .int i
  | .inr x => .str x
mutual
/-- what a value is, as data: lists tracked, tuples readable -/
inductive Da (K : PySem.W.Frag) (H : Hp) : V → PyData → Prop
  | non : Da K H .non .none
  | bl (b : Bool) : Da K H (.bl b) (.bool b)
  | int (i : Int) : Da K H (.int i) (.int i)
  | str (x : Str) : Da K H (.str x) (.str x)
  | lst {a : Addr} {xs : List V} {ds : List PyData} : H a = some (.lst xs) → DaAll K H xs ds → Da K H (.ref a) (.list ds)
  | tup {a : Addr} {xs : List V} {ds : List PyData} : SqT K H a xs → DaAll K H xs ds → Da K H (.ref a) (.tuple ds)
  | dct {a : Addr} {xs : List (Key × V)} {ds : List (PyData × PyData)} : H a = some (.dK xs) → DaKv K H xs ds → Da K H (.ref a) (.dict ds)
inductive DaAll (K : PySem.W.Frag) (H : Hp) : List V → List PyData → Prop
  | nil : DaAll K H [] []
  | cons {v : V} {vs : List V} {d : PyData} {ds : List PyData} : Da K H v d → DaAll K H vs ds → DaAll K H (v :: vs) (d :: ds)
inductive DaKv (K : PySem.W.Frag) (H : Hp) : List (Key × V) → List (PyData × PyData) → Prop
  | nil : DaKv K H [] []
  | cons {k : Key} {v : V} {vs : List (Key × V)} {d : PyData} {ds : List (PyData × PyData)} : Da K H v d → DaKv K H vs ds → DaKv K H ((k, v) :: vs) ((kD k, d) :: ds)
end
mutual
theorem da_mono {K : PySem.W.Frag} {F H : Hp} (e : Ex F H) : ∀ {v : V} {d : PyData}, Da K F v d → Da K H v d
  | _, _, .non => .non
  | _, _, .bl b => .bl b
  | _, _, .int i => .int i
  | _, _, .str x => .str x
  | _, _, .lst h r => .lst (e _ _ h) (daAll_mono e r)
  | _, _, .tup h r => .tup (Evl.ex_t e h) (daAll_mono e r)
  | _, _, .dct h r => .dct (e _ _ h) (daKv_mono e r)
theorem daAll_mono {K : PySem.W.Frag} {F H : Hp} (e : Ex F H) : ∀ {vs : List V} {ds : List PyData}, DaAll K F vs ds → DaAll K H vs ds
  | _, _, .nil => .nil
  | _, _, .cons h r => .cons (da_mono e h) (daAll_mono e r)
theorem daKv_mono {K : PySem.W.Frag} {F H : Hp} (e : Ex F H) : ∀ {vs : List (Key × V)} {ds : List (PyData × PyData)}, DaKv K F vs ds → DaKv K H vs ds
  | _, _, .nil => .nil
  | _, _, .cons h r => .cons (da_mono e h) (daKv_mono e r)
end
mutual
theorem Da.dp {K : PySem.W.Frag} {H : Hp} : ∀ {v : V} {d : PyData}, d.canLay0 = true → Da K H v d → Dp K H v d
  | _, _, _, .non => .non
  | _, _, _, .bl b => .bl b
  | _, _, _, .int i => .int i
  | _, _, _, .str x => .str x
  | _, _, c, .lst h r => .lst (.inl (.inl h)) (r.dp (by rwa [PyData.canLay0] at c))
  | _, _, c, .tup h r => .tup h (r.dp (by rwa [PyData.canLay0] at c))
  | _, _, c, .dct h r => by rw [PyData.canLay0] at c; cases c
theorem DaAll.dp {K : PySem.W.Frag} {H : Hp} : ∀ {vs : List V} {ds : List PyData}, PyData.canLayAll0 ds = true → DaAll K H vs ds → DpAll K H vs ds
  | _, _, _, .nil => .nil
  | _, _, c, .cons h r => by
    rw [PyData.canLayAll0, Bool.and_eq_true] at c
    exact .cons (h.dp c.1) (r.dp c.2)
end
theorem DaAll.length {K : PySem.W.Frag} {H : Hp} : ∀ {vs : List V} {ds : List PyData}, DaAll K H vs ds → vs.length = ds.length
  | _, _, .nil => rfl
  | _, _, .cons _ r => by rw [List.length_cons, List.length_cons, r.length]
theorem DaAll.append {K : PySem.W.Frag} {H : Hp} : ∀ {vs ws : List V} {ds es : List PyData}, DaAll K H vs ds → DaAll K H ws es → DaAll K H (vs ++ ws) (ds ++ es)
  | _, _, _, _, .nil, s => s
  | _, _, _, _, .cons h r, s => .cons h (r.append s)
theorem DaAll.get {K : PySem.W.Frag} {H : Hp} : ∀ {vs : List V} {ds : List PyData} {i : Nat} {d : PyData}, DaAll K H vs ds → ds[i]? = some d → ∃ v, vs[i]? = some v ∧ Da K H v d
  | _, _, _, _, .nil, e => by simp at e
  | _, _, 0, _, .cons h _, e => by simp at e; subst e; exact ⟨_, rfl, h⟩
  | _, _, i + 1, _, .cons _ r, e => by
    obtain ⟨v, h1, h2⟩ := r.get (i := i) (by simpa using e)
    exact ⟨v, by simpa using h1, h2⟩
theorem DaAll.getV {K : PySem.W.Frag} {H : Hp} : ∀ {vs : List V} {ds : List PyData} {i : Nat} {v : V}, DaAll K H vs ds → vs[i]? = some v → ∃ d, ds[i]? = some d ∧ Da K H v d
  | _, _, _, _, .nil, e => by simp at e
  | _, _, 0, _, .cons h _, e => by simp at e; subst e; exact ⟨_, rfl, h⟩
  | _, _, i + 1, _, .cons _ r, e => by
    obtain ⟨v, h1, h2⟩ := r.getV (i := i) (by simpa using e)
    exact ⟨v, by simpa using h1, h2⟩
theorem DaAll.take {K : PySem.W.Frag} {H : Hp} : ∀ {vs : List V} {ds : List PyData} (n : Nat), DaAll K H vs ds → DaAll K H (vs.take n) (ds.take n)
  | _, _, 0, _ => .nil
  | _, _, _ + 1, .nil => .nil
  | _, _, n + 1, .cons h r => .cons h (r.take n)
theorem DaAll.drop {K : PySem.W.Frag} {H : Hp} : ∀ {vs : List V} {ds : List PyData} (n : Nat), DaAll K H vs ds → DaAll K H (vs.drop n) (ds.drop n)
  | _, _, 0, r => r
  | _, _, _ + 1, .nil => .nil
  | _, _, n + 1, .cons _ r => r.drop n
theorem DaAll.set {K : PySem.W.Frag} {H : Hp} {v : V} {d : PyData} (h : Da K H v d) : ∀ {vs : List V} {ds : List PyData} (n : Nat), DaAll K H vs ds → DaAll K H (vs.set n v) (ds.set n d)
  | _, _, _, .nil => .nil
  | _, _, 0, .cons _ r => .cons h r
  | _, _, n + 1, .cons q r => .cons q (r.set h n)
theorem DaAll.erase {K : PySem.W.Frag} {H : Hp} : ∀ {vs : List V} {ds : List PyData} (n : Nat), DaAll K H vs ds → DaAll K H (vs.eraseIdx n) (ds.eraseIdx n)
  | _, _, _, .nil => .nil
  | _, _, 0, .cons _ r => r
  | _, _, n + 1, .cons q r => .cons q (r.erase n)
theorem DaAll.dropLast {K : PySem.W.Frag} {H : Hp} {vs : List V} {ds : List PyData} (h : DaAll K H vs ds) : DaAll K H vs.dropLast ds.dropLast := by
  rw [List.dropLast_eq_take, List.dropLast_eq_take, h.length]
  exact h.take _
theorem DaAll.reverse {K : PySem.W.Frag} {H : Hp} : ∀ {vs : List V} {ds : List PyData}, DaAll K H vs ds → DaAll K H vs.reverse ds.reverse
  | _, _, .nil => .nil
  | _, _, .cons h r => by
    rw [List.reverse_cons, List.reverse_cons]
    exact r.reverse.append (.cons h .nil)
theorem DaAll.rep {K : PySem.W.Frag} {H : Hp} {vs : List V} {ds : List PyData} (h : DaAll K H vs ds) : ∀ k : Nat, DaAll K H (List.replicate k vs).flatten (List.replicate k ds).flatten
  | 0 => .nil
  | k + 1 => by
    rw [List.replicate_succ, List.replicate_succ, List.flatten_cons, List.flatten_cons]
    exact h.append (h.rep k)
theorem daAll_ints {K : PySem.W.Frag} {H : Hp} : ∀ {ns : List Int} {vs : List V}, DaAll K H vs (ns.map PyData.int) → vs = ns.map V.int
  | [], _, .nil => rfl
  | n :: ns, _, .cons h r => by
    cases h
    rw [daAll_ints r]; rfl
theorem daAll_of_ints {K : PySem.W.Frag} {H : Hp} : ∀ (ns : List Int), DaAll K H (ns.map V.int) (ns.map PyData.int)
  | [] => .nil
  | n :: ns => .cons (.int n) (daAll_of_ints ns)
abbrev KvAll (K : PySem.W.Frag) (F : Hp) : List (Key × V) → List (PyData × PyData) → Prop := DaKv K F
theorem kv_mono {K : PySem.W.Frag} {F H : Hp} (e : Ex F H) {ks : List (Key × V)} {ds : List (PyData × PyData)} (h : KvAll K F ks ds) : KvAll K H ks ds := daKv_mono e h
/-- an error's fields -/
def XR (K : PySem.W.Frag) (F H : Hp) (dx : Option Addr) (fs : List (Str × PyData)) : Prop :=
  (fs = [] ∧ dx = none) ∨ ∃ d vs, fs ≠ [] ∧ dx = some d ∧ H d = some (.xd vs) ∧ Paired (fun (p : Str × V) (q : Str × PyData) => p.1 = q.1 ∧ Da K F p.2 q.2) vs fs
/-- what is wanted of an error: at the slots and the heap; by data -/
abbrev WXH := Value → Option Addr → St → Hp → Prop
abbrev UX (G : Type) := Value → List (Str × PyData) → En → G → Prop
/-- what a resource is: its ghost state's cells, its names' addresses, what holds of it -/
structure Zx (K : PySem.W.Frag) (G : Type) where
  fp : G → List Addr
  ra : G → Nat → Addr
  R : G → Hp → Hp → Prop
  loc : ∀ {g F F' H H'}, R g F H → Ex F F' → (∀ a ∈ fp g, H' a = H a) → R g F' H'
  there : ∀ {g F H}, R g F H → ∀ a ∈ fp g, H a ≠ none
  W : WXH := fun _ _ _ _ => False
  U : UX G := fun _ _ _ _ => False
/-- no resource -/
def Z0 (K : PySem.W.Frag) : Zx K Unit where
  fp := fun _ => []
  ra := fun _ _ => 0
  R := fun _ _ _ => True
  loc := fun _ _ _ => trivial
  there := fun _ _ h => nomatch h
/-- with other wishes of errors -/
def Zx.wish {K : PySem.W.Frag} {G : Type} (Z : Zx K G) (W : WXH) (U : UX G) : Zx K G := { Z with W := W, U := U }
structure Fx where
  B : Hp
  F0 : Hp
  fp0 : List Addr
variable {G : Type} {K : PySem.W.Frag}
/-- the heap's side of a state -/
structure Fin (Z : Zx K G) (f : Fx) (F : Hp) (g : G) (H : Hp) : Prop where
  base : Ex f.F0 F
  sub : Ex F H
  keep : ∀ b o, f.B b = some o → b ∉ f.fp0 → H b = some o
  keepN : ∀ b, f.B b ≠ none → H b ≠ none
  new : ∀ b o, F b = some o → f.F0 b = some o ∨ f.B b = none
  res : Z.R g F H
  fpF : ∀ a ∈ Z.fp g, F a = none
  fpB : ∀ a ∈ Z.fp g, a ∈ f.fp0 ∨ f.B a = none
  fpo : ∀ a ∈ f.fp0, f.B a ≠ none
def OwnA (Z : Zx K G) (f : Fx) (F : Hp) (g : G) (a : Addr) : Prop := F a = none ∧ f.B a = none ∧ a ∉ Z.fp g
def Slo (Z : Zx K G) (f : Fx) (F : Hp) (ad : Nat → Addr) (g : G) (σ : St) (H : Hp) (i : Nat) : Sl → Prop
  | .un => True
  | .dt d => ∃ v, σ[i]? = some (some v) ∧ Da K F v d
  | .ls ds => σ[i]? = some (some (.ref (ad i))) ∧ OwnA Z f F g (ad i) ∧ ∃ vs, H (ad i) = some (.lst vs) ∧ DaAll K F vs ds
  | .dk kvs => σ[i]? = some (some (.ref (ad i))) ∧ OwnA Z f F g (ad i) ∧ ∃ vs, H (ad i) = some (.dK vs) ∧ KvAll K F vs kvs
  | .rs n => σ[i]? = some (some (.ref (Z.ra g n)))
  | .vv v => σ[i]? = some (some v)
structure Rel0 (Z : Zx K G) (f : Fx) (F : Hp) (ad : Nat → Addr) (ρ : En) (g : G) (σ : St) (H : Hp) : Prop where
  fin : Fin Z f F g H
  len : ρ.length = σ.length
  slot : ∀ i s, ρ[i]? = some s → Slo Z f F ad g σ H i s
  inj : ∀ i j s t, ρ[i]? = some s → ρ[j]? = some t → s.own = true → t.own = true → ad i = ad j → i = j
/-- an error that data wants is wanted -/
def LeX (Z : Zx K G) (f : Fx) (ra0 : Nat → Addr) : Prop := ∀ F ad ρ g σ H c dx fs, Z.ra g = ra0 → Rel0 Z f F ad ρ g σ H → XR K F H dx fs → Z.U c fs ρ g → Z.W c dx σ H
structure Rel (Z : Zx K G) (f : Fx) (F : Hp) (ad : Nat → Addr) (ρ : En) (g : G) (σ : St) (H : Hp) : Prop extends Rel0 Z f F ad ρ g σ H where
  lx : LeX Z f (Z.ra g)
/-- a new object of an expression's -/
def NewA (Z : Zx K G) (f : Fx) (F : Hp) (ad : Nat → Addr) (ρ : En) (g : G) (a : Addr) : Prop :=
  OwnA Z f F g a ∧ ∀ i s, ρ[i]? = some s → s.own = true → ad i ≠ a
def VR (Z : Zx K G) (f : Fx) (F : Hp) (ad : Nat → Addr) (ρ : En) (g : G) (σ : St) (H : Hp) (v : V) : Rs → Prop
  | .dt d => Da K F v d
  | .nl ds => ∃ a vs, v = .ref a ∧ NewA Z f F ad ρ g a ∧ H a = some (.lst vs) ∧ DaAll K F vs ds
  | .nd kvs => ∃ a vs, v = .ref a ∧ NewA Z f F ad ρ g a ∧ H a = some (.dK vs) ∧ KvAll K F vs kvs
  | .br i => σ[i]? = some (some v)
  | .rs n => v = .ref (Z.ra g n)
  | .vv u => v = u
def rdS : Option Sl → Option PyData
  | some (.dt d) => some d
  | some (.ls ds) => some (.list ds)
  | some (.dk ds) => some (.dict ds)
  | _ => none
def rd : Rs → En → Option PyData
  | .dt d, _ => some d
  | .nl ds, _ => some (.list ds)
  | .br i, ρ => rdS ρ[i]?
  | .nd ds, _ => some (.dict ds)
  | .rs _, _ => none
  | .vv _, _ => none
abbrev DT (G : Type) := En → G → (Rs → En → G → Prop) → Prop
def Post (Z : Zx K G) (f : Fx) (F : Hp) (g : G) (σ : St) (Q : Rs → En → G → Prop) (v : V) (H' : Hp) : Prop :=
  ∃ F' ad' ρ' g' r, Ex F F' ∧ Z.ra g' = Z.ra g ∧ Rel Z f F' ad' ρ' g' σ H' ∧ VR Z f F' ad' ρ' g' σ H' v r ∧ Q r ρ' g'
def Sim (Z : Zx K G) (te : TE) (t : DT G) : Prop := ∀ f F ad ρ g σ H Q, Rel Z f F ad ρ g σ H → t ρ g Q → ∀ P : VK, (∀ v H', Post Z f F g σ Q v H' → P v H') → te σ H P
structure DE (X : Cx) (Z : Zx K G) (e : Expr) (te : TE) (t : DT G) : Prop where
  pe : PE X e te
  sim : Sim Z te t
section
variable {Z : Zx K G} {f : Fx} {F F' : Hp} {ad : Nat → Addr} {ρ : En} {g : G} {σ : St} {H H' : Hp}
theorem Rel.get (R : Rel Z f F ad ρ g σ H) {i : Nat} {s : Sl} (h : ρ[i]? = some s) : Slo Z f F ad g σ H i s := R.slot i s h
theorem Fin.free (R : Fin Z f F g H) {p : Addr} (h : H p = none) : F p = none ∧ f.B p = none ∧ p ∉ Z.fp g :=
  ⟨Evl.fresh_back R.sub h, by
    cases e : f.B p with
    | none => rfl
    | some o => exact absurd h (R.keepN p (by rw [e]; intro z; cases z)), fun hm => Z.there R.res p hm h⟩
theorem Fin.own (R : Fin Z f F g H) {p : Addr} (h : H p = none) : OwnA Z f F g p := R.free h
/-- the heap changes at a cell that is neither frozen, nor of the caller's, nor of the resource -/
theorem Fin.upd (R : Fin Z f F g H) {p : Addr} {o : HO} (h : OwnA Z f F g p) : Fin Z f F g (L2.upd H p o) where
  base := R.base
  sub := Evl.Ex.mut R.sub h.1
  keep := fun b u e hb => by
    rw [upd_ne (ne_of_none e h.2.1)]
    exact R.keep b u e hb
  keepN := fun b hb => by
    by_cases e : b = p
    · subst e; rw [upd_same]; intro z; cases z
    · rw [upd_ne e]; exact R.keepN b hb
  new := R.new
  res := Z.loc R.res (fun _ _ h => h) fun a ha => upd_ne fun e => h.2.2 (by rw [← e]; exact ha)
  fpF := R.fpF
  fpB := R.fpB
  fpo := R.fpo
/-- more is frozen -/
theorem Fin.more (R : Fin Z f F g H) (e : Ex F F') (s : Ex F' H) (n : ∀ b o, F' b = some o → F b = some o ∨ OwnA Z f F g b) : Fin Z f F' g H where
  base := R.base.trans e
  sub := s
  keep := R.keep
  keepN := R.keepN
  new := fun b o h => by
    rcases n b o h with h | h
    · exact R.new b o h
    · exact .inr h.2.1
  res := Z.loc R.res e fun _ _ => rfl
  fpF := fun a ha => by
    cases q : F' a with
    | none => rfl
    | some o =>
      rcases n a o q with h | h
      · rw [R.fpF a ha] at h; cases h
      · exact absurd ha h.2.2
  fpB := R.fpB
  fpo := R.fpo
theorem Rel.laid (R : Rel Z f F ad ρ g σ H) {p : Addr} {o : HO} (h : H p = none) : Rel Z f F ad ρ g σ (L2.upd H p o) ∧ NewA Z f F ad ρ g p := by
  have hw := R.fin.own h
  have ne : ∀ i s, ρ[i]? = some s → s.own = true → ad i ≠ p := fun i s hi ho e => by
    have q := R.slot i s hi
    cases s with
    | ls ds => obtain ⟨_, _, vs, q, _⟩ := q; rw [e, h] at q; cases q
    | dk ds => obtain ⟨_, _, vs, q, _⟩ := q; rw [e, h] at q; cases q
    | _ => cases ho
  refine ⟨⟨⟨R.fin.upd hw, R.len, fun i s hi => ?_, R.inj⟩, R.lx⟩, hw, ne⟩
  have q := R.slot i s hi
  cases s with
  | ls ds => obtain ⟨q1, q2, vs, q3, q4⟩ := q; exact ⟨q1, q2, vs, by rw [upd_ne (ne i _ hi rfl)]; exact q3, q4⟩
  | dk ds => obtain ⟨q1, q2, vs, q3, q4⟩ := q; exact ⟨q1, q2, vs, by rw [upd_ne (ne i _ hi rfl)]; exact q3, q4⟩
  | _ => exact q
theorem ownA_more {a b : Addr} {o : HO} (h : OwnA Z f F g a) (ne : a ≠ b) : OwnA Z f (L2.upd F b o) g a := ⟨by rw [upd_ne ne]; exact h.1, h.2.1, h.2.2⟩
theorem Rel.froze (R : Rel Z f F ad ρ g σ H) {p : Addr} {o : HO} (h : NewA Z f F ad ρ g p) (ho : H p = some o) : Rel Z f (L2.upd F p o) ad ρ g σ H ∧ Ex F (L2.upd F p o) := by
  have e : Ex F (L2.upd F p o) := Evl.Ex.new h.1.1
  refine ⟨⟨⟨R.fin.more e (fun b u hb => ?_) (fun b u hb => ?_), R.len, fun i s hi => ?_, R.inj⟩, R.lx⟩, e⟩
  · by_cases q : b = p
    · subst q; rw [upd_same] at hb; cases hb; exact ho
    · rw [upd_ne q] at hb; exact R.fin.sub b u hb
  · by_cases q : b = p
    · subst q; exact .inr h.1
    · rw [upd_ne q] at hb; exact .inl hb
  · have q := R.slot i s hi
    cases s with
    | dt d => obtain ⟨v, q1, q2⟩ := q; exact ⟨v, q1, da_mono e q2⟩
    | ls ds => obtain ⟨q1, q2, vs, q3, q4⟩ := q; exact ⟨q1, ownA_more q2 (h.2 i _ hi rfl), vs, q3, daAll_mono e q4⟩
    | dk ds => obtain ⟨q1, q2, vs, q3, q4⟩ := q; exact ⟨q1, ownA_more q2 (h.2 i _ hi rfl), vs, q3, kv_mono e q4⟩
    | _ => exact q
def adS (ad : Nat → Addr) (i : Nat) (a : Addr) : Nat → Addr := fun j => if j = i then a else ad j
theorem adS_same {ad : Nat → Addr} {i : Nat} {a : Addr} : adS ad i a i = a := if_pos rfl
theorem adS_ne {ad : Nat → Addr} {i j : Nat} {a : Addr} (h : j ≠ i) : adS ad i a j = ad j := if_neg h
/-- a slot is set -/
theorem Rel.setSl (R : Rel Z f F ad ρ g σ H) {i : Nat} {v : V} {s : Sl} {a : Addr} (hs : Slo Z f F (adS ad i a) g (σ.set i (some v)) H i s)
    (hn : s.own = true → ∀ j t, ρ[j]? = some t → t.own = true → j ≠ i → ad j ≠ a) : Rel Z f F (adS ad i a) (ρ.set i s) g (σ.set i (some v)) H where
  lx := R.lx
  fin := R.fin
  len := by rw [List.length_set, List.length_set]; exact R.len
  slot := fun j t hj => by
    by_cases e : i = j
    · subst e
      have hi : i < ρ.length := by
        have := (List.getElem?_eq_some_iff.mp hj).1
        rwa [List.length_set] at this
      rw [List.getElem?_set_self hi] at hj
      cases hj
      exact hs
    · rw [List.getElem?_set_ne e] at hj
      have q := R.slot j t hj
      have e2 : adS ad i a j = ad j := adS_ne fun z => e z.symm
      cases t with
      | un => trivial
      | dt d => obtain ⟨w, q1, q2⟩ := q; exact ⟨w, by rw [List.getElem?_set_ne e]; exact q1, q2⟩
      | ls ds =>
        obtain ⟨q1, q2, vs, q3, q4⟩ := q
        exact ⟨by rw [e2, List.getElem?_set_ne e]; exact q1, by rw [e2]; exact q2, vs, by rw [e2]; exact q3, q4⟩
      | dk ds =>
        obtain ⟨q1, q2, vs, q3, q4⟩ := q
        exact ⟨by rw [e2, List.getElem?_set_ne e]; exact q1, by rw [e2]; exact q2, vs, by rw [e2]; exact q3, q4⟩
      | rs n => unfold Slo at q ⊢; rw [List.getElem?_set_ne e]; exact q
      | vv u => unfold Slo at q ⊢; rw [List.getElem?_set_ne e]; exact q
  inj := fun j k t u hj hk ht hu he => by
    by_cases e : i = j
    · by_cases e2 : i = k
      · rw [← e, ← e2]
      · subst e
        have hi : i < ρ.length := by
          have := (List.getElem?_eq_some_iff.mp hj).1
          rwa [List.length_set] at this
        rw [List.getElem?_set_self hi] at hj; cases hj
        rw [List.getElem?_set_ne e2] at hk
        have e3 : ¬ k = i := fun z => e2 z.symm
        rw [adS_same, adS_ne e3] at he
        exact absurd he.symm (hn ht k u hk hu e3)
    · by_cases e2 : i = k
      · subst e2
        have hi : i < ρ.length := by
          have := (List.getElem?_eq_some_iff.mp hk).1
          rwa [List.length_set] at this
        rw [List.getElem?_set_self hi] at hk; cases hk
        rw [List.getElem?_set_ne e] at hj
        have e3 : ¬ j = i := fun z => e z.symm
        rw [adS_same, adS_ne e3] at he
        exact absurd he (hn hu j t hj ht e3)
      · rw [List.getElem?_set_ne e] at hj
        rw [List.getElem?_set_ne e2] at hk
        have e3 : ¬ j = i := fun z => e z.symm
        have e4 : ¬ k = i := fun z => e2 z.symm
        rw [adS_ne e3, adS_ne e4] at he
        exact R.inj j k t u hj hk ht hu he
/-- the own list or dict in slot i is written -/
theorem Rel.wrote (R : Rel Z f F ad ρ g σ H) {i : Nat} {s s' : Sl} {o : HO} (hi : ρ[i]? = some s) (ho : s.own = true) (hs : Slo Z f F ad g σ (L2.upd H (ad i) o) i s') : Rel Z f F ad (ρ.set i s') g σ (L2.upd H (ad i) o) := by
  have hw : OwnA Z f F g (ad i) := by
    have q := R.slot i s hi
    cases s with
    | ls ds => exact q.2.1
    | dk ds => exact q.2.1
    | _ => cases ho
  have hl : i < ρ.length := (List.getElem?_eq_some_iff.mp hi).1
  refine ⟨⟨R.fin.upd hw, by rw [List.length_set]; exact R.len, fun j t hj => ?_, fun j k t u hj hk ht hu he => ?_⟩, R.lx⟩
  · by_cases e : i = j
    · subst e
      rw [List.getElem?_set_self hl] at hj; cases hj
      exact hs
    · rw [List.getElem?_set_ne e] at hj
      have q := R.slot j t hj
      cases t with
      | ls ds =>
        obtain ⟨q1, q2, vs, q3, q4⟩ := q
        exact ⟨q1, q2, vs, by rw [upd_ne fun z => e (R.inj i j s _ hi hj ho rfl z.symm)]; exact q3, q4⟩
      | dk ds =>
        obtain ⟨q1, q2, vs, q3, q4⟩ := q
        exact ⟨q1, q2, vs, by rw [upd_ne fun z => e (R.inj i j s _ hi hj ho rfl z.symm)]; exact q3, q4⟩
      | _ => exact q
  · have own : ∀ {m : Nat} {x : Sl}, (ρ.set i s')[m]? = some x → x.own = true → ∃ y, ρ[m]? = some y ∧ y.own = true := fun {m x} hm hx => by
      by_cases e : i = m
      · subst e; exact ⟨s, hi, ho⟩
      · rw [List.getElem?_set_ne e] at hm; exact ⟨x, hm, hx⟩
    obtain ⟨y, y1, y2⟩ := own hj ht
    obtain ⟨z, z1, z2⟩ := own hk hu
    exact R.inj j k y z y1 z1 y2 z2 he
/-- a borrowed or held value as data, now -/
theorem Rel.hrd (R : Rel Z f F ad ρ g σ H) {v : V} {r : Rs} {d : PyData} (h : VR Z f F ad ρ g σ H v r) (e : rd r ρ = some d) : Da K H v d := by
  cases r with
  | dt d' => cases e; exact da_mono R.fin.sub h
  | nl ds => obtain ⟨a, vs, rfl, _, h1, h2⟩ := h; cases e; exact .lst h1 (daAll_mono R.fin.sub h2)
  | br i =>
    have e1 : rdS ρ[i]? = some d := e
    cases hi : ρ[i]? with
    | none => rw [hi] at e1; cases e1
    | some s =>
      rw [hi] at e1
      have q := R.slot i _ hi
      cases s with
      | dt d' =>
        cases e1
        obtain ⟨w, q1, q2⟩ := q
        have z : some (some w) = some (some v) := q1.symm.trans h
        cases z
        exact da_mono R.fin.sub q2
      | ls ds =>
        cases e1
        obtain ⟨q1, _, vs, q3, q4⟩ := q
        have z : some (some (V.ref (ad i))) = some (some v) := q1.symm.trans h
        cases z
        exact .lst q3 (daAll_mono R.fin.sub q4)
      | dk ds =>
        cases e1
        obtain ⟨q1, _, vs, q3, q4⟩ := q
        have z : some (some (V.ref (ad i))) = some (some v) := q1.symm.trans h
        cases z
        exact .dct q3 (daKv_mono R.fin.sub q4)
      | _ => cases e1
  | nd kvs => obtain ⟨a, vs, rfl, _, h1, h2⟩ := h; cases e; exact .dct h1 (daKv_mono R.fin.sub h2)
  | rs n => cases e
  | vv u => cases e
def st : Rs → Rs
  | .nl ds => .dt (.list ds)
  | .dt d => .dt d
  | .nd ds => .dt (.dict ds)
  | .br i => .br i
  | .rs n => .rs n
  | .vv v => .vv v
def fzS (ρ : En) (i : Nat) : Option Sl → Option (PyData × En)
  | some (.dt d) => some (d, ρ)
  | some (.ls ds) => some (.list ds, ρ.set i (.dt (.list ds)))
  | some (.dk ds) => some (.dict ds, ρ.set i (.dt (.dict ds)))
  | _ => none
def fz : Rs → En → Option (PyData × En)
  | .dt d, ρ => some (d, ρ)
  | .nl ds, ρ => some (.list ds, ρ)
  | .br i, ρ => fzS ρ i ρ[i]?
  | .nd ds, ρ => some (.dict ds, ρ)
  | .rs _, _ => none
  | .vv _, _ => none
theorem newA_list {v : V} {ds : List PyData} (R : Rel Z f F ad ρ g σ H) (h : VR Z f F ad ρ g σ H v (.nl ds)) : ∃ F', Ex F F' ∧ Rel Z f F' ad ρ g σ H ∧ Da K F' v (.list ds) := by
  obtain ⟨a, vs, rfl, n, h1, h2⟩ := h
  obtain ⟨R', e⟩ := R.froze n h1
  exact ⟨_, e, R', .lst upd_same (daAll_mono e h2)⟩
theorem newA_dict {v : V} {ds : List (PyData × PyData)} (R : Rel Z f F ad ρ g σ H) (h : VR Z f F ad ρ g σ H v (.nd ds)) : ∃ F', Ex F F' ∧ Rel Z f F' ad ρ g σ H ∧ Da K F' v (.dict ds) := by
  obtain ⟨a, vs, rfl, n, h1, h2⟩ := h
  obtain ⟨R', e⟩ := R.froze n h1
  exact ⟨_, e, R', .dct upd_same (daKv_mono e h2)⟩
theorem Rel.hst {v : V} {r : Rs} (R : Rel Z f F ad ρ g σ H) (h : VR Z f F ad ρ g σ H v r) : ∃ F', Ex F F' ∧ Rel Z f F' ad ρ g σ H ∧ VR Z f F' ad ρ g σ H v (st r) := by
  cases r with
  | nl ds => exact newA_list R h
  | dt d => exact ⟨F, Evl.Ex.refl F, R, h⟩
  | nd d => exact newA_dict R h
  | br d => exact ⟨F, Evl.Ex.refl F, R, h⟩
  | rs d => exact ⟨F, Evl.Ex.refl F, R, h⟩
  | vv d => exact ⟨F, Evl.Ex.refl F, R, h⟩
/-- an own object in a slot is frozen there -/
theorem Rel.fzOwnG (R : Rel Z f F ad ρ g σ H) {i : Nat} {s : Sl} {o : HO} {d : PyData} (hi : ρ[i]? = some s) (hs : s.own = true) (q1 : σ[i]? = some (some (.ref (ad i)))) (q2 : OwnA Z f F g (ad i)) (q3 : H (ad i) = some o)
    (dl : ∀ F', F' = L2.upd F (ad i) o → Ex F F' → Da K F' (.ref (ad i)) d) : ∃ F', Ex F F' ∧ Rel Z f F' ad (ρ.set i (.dt d)) g σ H ∧ Da K F' (.ref (ad i)) d := by
  have e : Ex F (L2.upd F (ad i) o) := Evl.Ex.new q2.1
  have hl : i < ρ.length := (List.getElem?_eq_some_iff.mp hi).1
  replace dl := dl _ rfl e
  refine ⟨_, e, ⟨⟨R.fin.more e (fun b u hb => ?_) (fun b u hb => ?_), by rw [List.length_set]; exact R.len, fun j t hj => ?_, fun j k t u hj hk ht hu he => ?_⟩, R.lx⟩, dl⟩
  · by_cases q : b = ad i
    · subst q; rw [upd_same] at hb; cases hb; exact q3
    · rw [upd_ne q] at hb; exact R.fin.sub b u hb
  · by_cases q : b = ad i
    · subst q; exact .inr q2
    · rw [upd_ne q] at hb; exact .inl hb
  · by_cases z : i = j
    · subst z
      rw [List.getElem?_set_self hl] at hj; cases hj
      exact ⟨_, q1, dl⟩
    · rw [List.getElem?_set_ne z] at hj
      have q := R.slot j t hj
      cases t with
      | dt d => obtain ⟨v, q1, q2⟩ := q; exact ⟨v, q1, da_mono e q2⟩
      | ls ds => obtain ⟨q1, q2, vs, q3, q4⟩ := q; exact ⟨q1, ownA_more q2 (fun y => z (R.inj i j _ _ hi hj hs rfl y.symm)), vs, q3, daAll_mono e q4⟩
      | dk ds => obtain ⟨q1, q2, vs, q3, q4⟩ := q; exact ⟨q1, ownA_more q2 (fun y => z (R.inj i j _ _ hi hj hs rfl y.symm)), vs, q3, kv_mono e q4⟩
      | _ => exact q
  · have own : ∀ {m : Nat} {x : Sl}, (ρ.set i (.dt d))[m]? = some x → x.own = true → ρ[m]? = some x := fun {m x} hm hx => by
      by_cases z : i = m
      · subst z; rw [List.getElem?_set_self hl] at hm; cases hm; cases hx
      · rw [List.getElem?_set_ne z] at hm; exact hm
    exact R.inj j k t u (own hj ht) (own hk hu) ht hu he
theorem Rel.fzOwn (R : Rel Z f F ad ρ g σ H) {i : Nat} {ds : List PyData} (hi : ρ[i]? = some (.ls ds)) : ∃ F', Ex F F' ∧ Rel Z f F' ad (ρ.set i (.dt (.list ds))) g σ H ∧ Da K F' (.ref (ad i)) (.list ds) := by
  obtain ⟨q1, q2, vs, q3, q4⟩ := R.slot i _ hi
  exact R.fzOwnG hi rfl q1 q2 q3 fun F' eF e => .lst (by rw [eF]; exact upd_same) (daAll_mono e q4)
theorem Rel.fzOwnD (R : Rel Z f F ad ρ g σ H) {i : Nat} {ds : List (PyData × PyData)} (hi : ρ[i]? = some (.dk ds)) : ∃ F', Ex F F' ∧ Rel Z f F' ad (ρ.set i (.dt (.dict ds))) g σ H ∧ Da K F' (.ref (ad i)) (.dict ds) := by
  obtain ⟨q1, q2, vs, q3, q4⟩ := R.slot i _ hi
  exact R.fzOwnG hi rfl q1 q2 q3 fun F' eF e => .dct (by rw [eF]; exact upd_same) (daKv_mono e q4)
theorem Rel.hfz {v : V} {r : Rs} {d : PyData} {ρ' : En} (R : Rel Z f F ad ρ g σ H) (h : VR Z f F ad ρ g σ H v r) (e : fz r ρ = some (d, ρ')) : ∃ F', Ex F F' ∧ Rel Z f F' ad ρ' g σ H ∧ Da K F' v d := by
  cases r with
  | dt d' => cases e; exact ⟨F, Evl.Ex.refl F, R, h⟩
  | nl ds => cases e; exact newA_list R h
  | br i =>
    have e1 : fzS ρ i ρ[i]? = some (d, ρ') := e
    cases hi : ρ[i]? with
    | none => rw [hi] at e1; cases e1
    | some s =>
      rw [hi] at e1
      have q := R.slot i _ hi
      cases s with
      | dt d' =>
        cases e1
        obtain ⟨w, q1, q2⟩ := q
        have z : some (some w) = some (some v) := q1.symm.trans h
        cases z
        exact ⟨F, Evl.Ex.refl F, R, q2⟩
      | ls ds =>
        cases e1
        obtain ⟨F', e, R', dl⟩ := R.fzOwn hi
        have z : some (some (V.ref (ad i))) = some (some v) := q.1.symm.trans h
        cases z
        exact ⟨F', e, R', dl⟩
      | dk ds =>
        cases e1
        obtain ⟨F', e, R', dl⟩ := R.fzOwnD hi
        have z : some (some (V.ref (ad i))) = some (some v) := q.1.symm.trans h
        cases z
        exact ⟨F', e, R', dl⟩
      | _ => cases e1
  | nd ds => cases e; exact newA_dict R h
  | _ => cases e
theorem Post.mono {F1 : Hp} {g1 : G} {Q : Rs → En → G → Prop} {v : V} {H' : Hp} (e : Ex F F1) (eg : Z.ra g1 = Z.ra g) (h : Post Z f F1 g1 σ Q v H') : Post Z f F g σ Q v H' := by
  obtain ⟨F', ad', ρ', g', r, h1, h2, h3⟩ := h
  exact ⟨F', ad', ρ', g', r, e.trans h1, h2.trans eg, h3⟩
/-- a settled value is held through what comes -/
theorem VR.held {F1 : Hp} {ad1 : Nat → Addr} {ρ1 : En} {g1 : G} {H1 : Hp} {v : V} {r : Rs} (h : VR Z f F ad ρ g σ H v (st r)) (e : Ex F F1) (eg : Z.ra g1 = Z.ra g) : VR Z f F1 ad1 ρ1 g1 σ H1 v (st r) := by
  cases r with
  | nl ds => exact da_mono e h
  | dt d => exact da_mono e h
  | nd d => exact da_mono e h
  | br i => exact h
  | rs n => exact h.trans (by rw [eg])
  | vv u => exact h
end
end L3
end
section
namespace L3
open PySem L2
variable {G : Type} {K : PySem.W.Frag} {X : Cx} {Z : Zx K G}
def dC (d : PyData) : DT G := fun ρ g Q => Q (.dt d) ρ g
def dVarS (i : Nat) (ρ : En) (g : G) (Q : Rs → En → G → Prop) : Option Sl → Prop
  | some (.dt d) => Q (.dt d) ρ g
  | some (.ls _) => Q (.br i) ρ g
  | some (.dk _) => Q (.br i) ρ g
  | some (.rs n) => Q (.rs n) ρ g
  | some (.vv v) => Q (.vv v) ρ g
  | _ => False
def dVar (i : Nat) : DT G := fun ρ g Q => dVarS i ρ g Q ρ[i]?
section
variable {f : Fx} {F F' : Hp} {ad : Nat → Addr} {ρ : En} {g : G} {σ : St} {H H' : Hp}
theorem Rel.post {v : V} {r : Rs} {Q : Rs → En → G → Prop} (R : Rel Z f F ad ρ g σ H) (h : VR Z f F ad ρ g σ H v r) (q : Q r ρ g) : Post Z f F g σ Q v H :=
  ⟨F, ad, ρ, g, r, Evl.Ex.refl F, rfl, R, h, q⟩
end
theorem sim_c {v : V} {d : PyData} (h : ∀ F, Da K F v d) : Sim Z (tC v) (dC d) := fun f F ad ρ g σ H Q R q P hP => hP v H (R.post (r := .dt d) (h F) q)
theorem sim_var {i : Nat} : Sim Z (tVar i) (dVar i) := fun f F ad ρ g σ H Q R q P hP => by
  have q' : dVarS i ρ g Q ρ[i]? := q
  cases hi : ρ[i]? with
  | none => rw [hi] at q'; cases q'
  | some s =>
    rw [hi] at q'
    have z := R.slot i _ hi
    cases s with
    | un => cases q'
    | dt d => obtain ⟨v, z1, z2⟩ := z; exact ⟨v, z1, hP v H (R.post (r := .dt d) z2 q')⟩
    | ls d => obtain ⟨z1, z2⟩ := z; exact ⟨_, z1, hP _ H (R.post (r := .br i) z1 q')⟩
    | dk d => obtain ⟨z1, z2⟩ := z; exact ⟨_, z1, hP _ H (R.post (r := .br i) z1 q')⟩
    | rs n => exact ⟨_, z, hP _ H (R.post (r := .rs n) rfl q')⟩
    | vv v => exact ⟨_, z, hP _ H (R.post (r := .vv v) rfl q')⟩
theorem e_int {i : Int} {j pos} : DE X Z (.Constant (.int i) j pos) (tC (.int i)) (dC (.int i)) := ⟨pe_int, sim_c fun _ => .int i⟩
theorem e_bl {b : Bool} {j pos} : DE X Z (.Constant (.bool b) j pos) (tC (.bl b)) (dC (.bool b)) := ⟨pe_bl, sim_c fun _ => .bl b⟩
theorem e_non {j pos} : DE X Z (.Constant .none j pos) (tC .non) (dC .none) := ⟨pe_non, sim_c fun _ => .non⟩
theorem e_str {x : Str} {j pos} : DE X Z (.Constant (.str x) j pos) (tC (.str x)) (dC (.str x)) := ⟨pe_str, sim_c fun _ => .str x⟩
theorem e_v (i : Nat) {x : Str} {pos : Pos} (hN : X.N[i]? = some x := by rfl) (hv : Vis X.env.scope x := by first | exact Or.inl rfl | exact Or.inr (Or.inl rfl) | exact Or.inr (Or.inr rfl)) (hd : (x == ("__debug__" : Str)) = false := by decide)
    (hcd : (x == ("__classdict__" : Str)) = false := by decide) : DE X Z (.Name x pos) (tVar i) (dVar i) := ⟨pe_var hN hv hd hcd, sim_var⟩
abbrev RO (G : Type) := Rs → Rs → En → G → (Rs → En → G → Prop) → Prop
abbrev RU (G : Type) := Rs → En → G → (Rs → En → G → Prop) → Prop
def SimO (Z : Zx K G) (r : R2) (o : RO G) : Prop := ∀ f F ad ρ g σ H x y r1 r2 Q, Rel Z f F ad ρ g σ H → VR Z f F ad ρ g σ H x r1 → VR Z f F ad ρ g σ H y r2 → o r1 r2 ρ g Q →
  ∀ P : VK, (∀ v H', Post Z f F g σ Q v H' → P v H') → r x y H P
def SimU (Z : Zx K G) (r : V → Hp → VK → Prop) (o : RU G) : Prop := ∀ f F ad ρ g σ H x r1 Q, Rel Z f F ad ρ g σ H → VR Z f F ad ρ g σ H x r1 → o r1 ρ g Q →
  ∀ P : VK, (∀ v H', Post Z f F g σ Q v H' → P v H') → r x H P
/-- not a dict that is being made -/
def ifh (_ : Rs) (p : Prop) : Prop := p
theorem ifh_of {r : Rs} {p : Prop} (h : ifh r p) : p := h
def dOp (o : RO G) (a b : DT G) : DT G := fun ρ g Q => a ρ g fun r1 ρ1 g1 => ifh r1 (b ρ1 g1 fun r2 ρ2 g2 => o (st r1) r2 ρ2 g2 Q)
def dUn (o : RU G) (a : DT G) : DT G := fun ρ g Q => a ρ g fun r1 ρ1 g1 => o r1 ρ1 g1 Q
theorem sim_op {r : R2} {o : RO G} {ta tb : TE} {a b : DT G} (ho : SimO Z r o) (ha : Sim Z ta a) (hb : Sim Z tb b) : Sim Z (tOp r ta tb) (dOp o a b) := fun f F ad ρ g σ H Q R h P hP => by
  refine ha f F ad ρ g σ H _ R h _ fun x H1 q => ?_
  obtain ⟨F1, ad1, ρ1, g1, r1, e1, eg1, R1, v1, q⟩ := q
  replace q := ifh_of q
  obtain ⟨F1', e1', R1', v1'⟩ := R1.hst v1
  refine hb f F1' ad1 ρ1 g1 σ H1 _ R1' q _ fun y H2 q2 => ?_
  obtain ⟨F2, ad2, ρ2, g2, r2, e2, eg2, R2, v2, q⟩ := q2
  exact ho f F2 ad2 ρ2 g2 σ H2 x y (st r1) r2 Q R2 (v1'.held e2 eg2) v2 q P fun v H' hp => hP v H' (hp.mono ((e1.trans e1').trans e2) (eg2.trans eg1))
theorem sim_un {r : V → Hp → VK → Prop} {o : RU G} {ta : TE} {a : DT G} (ho : SimU Z r o) (ha : Sim Z ta a) : Sim Z (tUn r ta) (dUn o a) := fun f F ad ρ g σ H Q R h P hP => by
  refine ha f F ad ρ g σ H _ R h _ fun x H1 q => ?_
  obtain ⟨F1, ad1, ρ1, g1, r1, e1, eg1, R1, v1, q⟩ := q
  exact ho f F1 ad1 ρ1 g1 σ H1 x r1 Q R1 v1 q P fun v H' hp => hP v H' (hp.mono e1 eg1)
theorem e_op {op : Operator} {r : R2} {o : RO G} {ea eb : Expr} {ta tb : TE} {a b : DT G} {pos : Pos} (ho : OpR X (binaryOp op) r ∧ SimO Z r o) (ha : DE X Z ea ta a) (hb : DE X Z eb tb b) : DE X Z (.BinOp ea op eb pos) (tOp r ta tb) (dOp o a b) :=
  ⟨pe_op ho.1 ha.pe hb.pe, sim_op ho.2 ha.sim hb.sim⟩
theorem e_un {op : UnaryOp} {r : V → Hp → VK → Prop} {o : RU G} {ea : Expr} {ta : TE} {a : DT G} {pos : Pos} (ho : UnR X (unaryOp op) r ∧ SimU Z r o) (ha : DE X Z ea ta a) : DE X Z (.UnaryOp op ea pos) (tUn r ta) (dUn o a) :=
  ⟨pe_un ho.1 ha.pe, sim_un ho.2 ha.sim⟩
section
variable {f : Fx} {F F' : Hp} {ad : Nat → Addr} {ρ : En} {g : G} {σ : St} {H H' : Hp} {Q : Rs → En → G → Prop}
theorem Rel.dat (R : Rel Z f F ad ρ g σ H) {v : V} {d : PyData} (h : Da K F v d) (q : Q (.dt d) ρ g) : Post Z f F g σ Q v H := R.post (r := .dt d) h q
theorem Rel.newL (R : Rel Z f F ad ρ g σ H) {p : Addr} {vs : List V} {ds : List PyData} (hp : H p = none) (h : DaAll K F vs ds) (q : Q (.nl ds) ρ g) : Post Z f F g σ Q (.ref p) (upd H p (.lst vs)) := by
  obtain ⟨R', n⟩ := R.laid (o := .lst vs) hp
  exact ⟨F, ad, ρ, g, .nl ds, Evl.Ex.refl F, rfl, R', ⟨p, vs, rfl, n, upd_same, h⟩, q⟩
theorem Rel.newT (R : Rel Z f F ad ρ g σ H) {p : Addr} {vs : List V} {ds : List PyData} (hp : H p = none) (h : DaAll K F vs ds) (q : Q (.dt (.tuple ds)) ρ g) : Post Z f F g σ Q (.ref p) (upd H p (.tup vs)) := by
  obtain ⟨R', n⟩ := R.laid (o := .tup vs) hp
  obtain ⟨R2, e⟩ := R'.froze n upd_same
  exact ⟨_, ad, ρ, g, .dt (.tuple ds), e, rfl, R2, .tup (.inl (.inl upd_same)) (daAll_mono e h), q⟩
/-- the items of a list or tuple that is held, as frozen -/
theorem Rel.items (R : Rel Z f F ad ρ g σ H) {v : V} {r : Rs} {ds : List PyData} (h : VR Z f F ad ρ g σ H v r) (e : rd r ρ = some (.list ds)) : ∃ a vs, v = .ref a ∧ H a = some (.lst vs) ∧ DaAll K F vs ds := by
  cases r with
  | dt d => cases e; cases h; rename_i a vs h1 h2; exact ⟨a, vs, rfl, R.fin.sub _ _ h1, h2⟩
  | nl ds => obtain ⟨a, vs, rfl, _, h1, h2⟩ := h; cases e; exact ⟨a, vs, rfl, h1, h2⟩
  | br i =>
    have e1 : rdS ρ[i]? = some (.list ds) := e
    cases hi : ρ[i]? with
    | none => rw [hi] at e1; cases e1
    | some s =>
      rw [hi] at e1
      have q := R.slot i _ hi
      cases s with
      | dt d' =>
        cases e1
        obtain ⟨w, q1, q2⟩ := q
        have z : some (some w) = some (some v) := q1.symm.trans h
        cases z
        cases q2
        rename_i a vs h1 h2
        exact ⟨a, vs, rfl, R.fin.sub _ _ h1, h2⟩
      | ls ds =>
        cases e1
        obtain ⟨q1, _, vs, q3, q4⟩ := q
        have z : some (some (V.ref (ad i))) = some (some v) := q1.symm.trans h
        cases z
        exact ⟨_, vs, rfl, q3, q4⟩
      | _ => cases e1
  | _ => cases e
theorem Rel.titems (R : Rel Z f F ad ρ g σ H) {v : V} {r : Rs} {ds : List PyData} (h : VR Z f F ad ρ g σ H v r) (e : rd r ρ = some (.tuple ds)) : ∃ a vs, v = .ref a ∧ SqT K F a vs ∧ DaAll K F vs ds := by
  cases r with
  | dt d => cases e; cases h; rename_i a vs h1 h2; exact ⟨a, vs, rfl, h1, h2⟩
  | br i =>
    have e1 : rdS ρ[i]? = some (.tuple ds) := e
    cases hi : ρ[i]? with
    | none => rw [hi] at e1; cases e1
    | some s =>
      rw [hi] at e1
      have q := R.slot i _ hi
      cases s with
      | dt d' =>
        cases e1
        obtain ⟨w, q1, q2⟩ := q
        have z : some (some w) = some (some v) := q1.symm.trans h
        cases z
        cases q2
        rename_i a vs h1 h2
        exact ⟨a, vs, rfl, h1, h2⟩
      | _ => cases e1
  | _ => cases e
theorem Rel.rInt (R : Rel Z f F ad ρ g σ H) {v : V} {r : Rs} {i : Int} (h : VR Z f F ad ρ g σ H v r) (e : rd r ρ = some (.int i)) : v = .int i := by
  have := R.hrd h e
  cases this; rfl
theorem Rel.rStr (R : Rel Z f F ad ρ g σ H) {v : V} {r : Rs} {i : Str} (h : VR Z f F ad ρ g σ H v r) (e : rd r ρ = some (.str i)) : v = .str i := by
  have := R.hrd h e
  cases this; rfl
theorem Rel.rBool (R : Rel Z f F ad ρ g σ H) {v : V} {r : Rs} {i : Bool} (h : VR Z f F ad ρ g σ H v r) (e : rd r ρ = some (.bool i)) : v = .bl i := by
  have := R.hrd h e
  cases this; rfl
theorem Rel.rNone (R : Rel Z f F ad ρ g σ H) {v : V} {r : Rs} (h : VR Z f F ad ρ g σ H v r) (e : rd r ρ = some .none) : v = .non := by
  have := R.hrd h e
  cases this; rfl
end
/-- a list made of two -/
def lim : Nat := 16777216
def addD (ρ : En) (g : G) (Q : Rs → En → G → Prop) : Option PyData → Option PyData → Prop
  | some (.int i), some (.int j) => Q (.dt (.int (i + j))) ρ g
  | some (.str x), some (.str y) => leK (x.length + y.length) 16777216 (Q (.dt (.str (x ++ y))) ρ g)
  | some (.list xs), some (.list ys) => leK (xs.length + ys.length) 16777216 (Q (.nl (xs ++ ys)) ρ g)
  | some (.tuple xs), some (.tuple ys) => leK (xs.length + ys.length) 16777216 (Q (.dt (.tuple (xs ++ ys))) ρ g)
  | _, _ => False
def oAdd : RO G := fun r1 r2 ρ g Q => addD ρ g Q (rd r1 ρ) (rd r2 ρ)
def rAddX (K : PySem.W.Frag) : R2 := fun x y H Q => rI0 (fun i j => .int (i + j)) x y H Q ∨ ((∃ i j, x = .str i ∧ y = .str j ∧ i.length + j.length ≤ sizeLine ∧ Q (.str (i ++ j)) H) ∨ (rCat x y H Q ∨ rCatA K x y H Q))
theorem tup_nil_r {K : PySem.W.Frag} {F : Hp} {xs : List V} {ds : List PyData} (h : DaAll K F xs ds) : xs = [] ↔ ds = [] := by
  cases h <;> simp
theorem sim_add : SimO Z (rAddX K) (oAdd (G := G)) := fun f F ad ρ g σ H x y r1 r2 Q R h1 h2 q P hP => by
  have q' : addD ρ g Q (rd r1 ρ) (rd r2 ρ) := q
  unfold addD at q'
  split at q'
  · rename_i i j e1 e2
    exact .inl ⟨i, j, R.rInt h1 e1, R.rInt h2 e2, hP _ _ (R.dat (.int _) q')⟩
  · rename_i i j e1 e2
    replace q' := leK_e q'
    exact .inr (.inl ⟨i, j, R.rStr h1 e1, R.rStr h2 e2, by rw [sizeLine_eq]; exact q'.1, hP _ _ (R.dat (.str _) q'.2)⟩)
  · rename_i xs ys e1 e2
    replace q' := leK_e q'
    obtain ⟨a, vs, rfl, ha, da⟩ := R.items h1 e1
    obtain ⟨b, ws, rfl, hb, db⟩ := R.items h2 e2
    exact .inr (.inr (.inl ⟨a, b, vs, ws, rfl, rfl, ha, hb, by rw [sizeLine_eq, da.length, db.length]; exact q'.1, fun p hp => hP _ _ (R.newL hp (da.append db) q'.2)⟩))
  · rename_i xs ys e1 e2
    replace q' := leK_e q'
    obtain ⟨a, vs, rfl, ha, da⟩ := R.titems h1 e1
    obtain ⟨b, ws, rfl, hb, db⟩ := R.titems h2 e2
    refine .inr (.inr (.inr ⟨a, b, vs, ws, rfl, rfl, Evl.ex_t R.fin.sub ha, Evl.ex_t R.fin.sub hb, by rw [sizeLine_eq, da.length, db.length]; exact q'.1, fun e => ?_, fun _ e => ?_, fun _ _ p hp => hP _ _ (R.newT hp (da.append db) q'.2)⟩))
    · refine hP _ _ (R.dat ?_ q'.2)
      rw [(tup_nil_r da).mp e]
      exact .tup hb db
    · refine hP _ _ (R.dat ?_ q'.2)
      rw [(tup_nil_r db).mp e, List.append_nil]
      exact .tup ha da
  · cases q'
theorem op_addX {K : PySem.W.Frag} (hK : K = X.K := by rfl) : OpR X (binaryOp .Add) (rAddX K) := by
  subst hK
  exact op_add.or (op_add_str.or (op_cat.or op_catA))
end L3
end
section
namespace L3
open PySem L2
variable {G : Type} {K : PySem.W.Frag} {X : Cx} {Z : Zx K G}
def ii (k : Int → Int → Prop) : Option PyData → Option PyData → Prop
  | some (.int i), some (.int j) => k i j
  | _, _ => False
theorem ii_of {k : Int → Int → Prop} {a b : Option PyData} (h : ii k a b) : ∃ i j, a = some (.int i) ∧ b = some (.int j) ∧ k i j := by
  unfold ii at h
  split at h
  · exact ⟨_, _, rfl, rfl, h⟩
  · cases h
def oI0 (g' : Int → Int → PyData) : RO G := fun r1 r2 ρ g Q => ii (fun i j => Q (.dt (g' i j)) ρ g) (rd r1 ρ) (rd r2 ρ)
theorem sim_I0 {gv : Int → Int → V} {gd : Int → Int → PyData} (h : ∀ F i j, Da K F (gv i j) (gd i j)) : SimO Z (rI0 gv) (oI0 (G := G) gd) := fun f F ad ρ g σ H x y r1 r2 Q R h1 h2 q P hP => by
  obtain ⟨i, j, e1, e2, q⟩ := ii_of q
  exact ⟨i, j, R.rInt h1 e1, R.rInt h2 e2, hP _ _ (R.dat (h F i j) q)⟩
def oSub : RO G := oI0 fun i j => .int (i - j)
/-- whole numbers that are plainly in bounds -/
def smallA (j : Int) : Bool := match j with
  | .ofNat n => Nat.ble (n + 1) 18446744073709551616
  | .negSucc n => Nat.ble (n + 2) 18446744073709551616
def smallPos (j : Int) : Bool := match j with
  | .ofNat n => match Nat.ble 1 n with
    | true => Nat.ble (n + 1) 1267650600228229401496703205376
    | false => false
  | .negSucc _ => false
def smallPw (i j : Int) : Bool := match j with
  | .ofNat b => match Nat.ble b 1000000 with
    | true => smallA i
    | false => false
  | .negSucc _ => false
theorem smallA_of {j : Int} (h : smallA j = true) : -(2 ^ 64) < j ∧ j < 2 ^ 64 := by
  cases j with
  | ofNat n => have := Nat.le_of_ble_eq_true h; constructor <;> (simp only [Int.ofNat_eq_natCast]; omega)
  | negSucc n => have := Nat.le_of_ble_eq_true h; constructor <;> omega
theorem smallPos_of {j : Int} (h : smallPos j = true) : 0 < j ∧ j < 2 ^ 100 := by
  cases j with
  | ofNat n =>
    unfold smallPos at h
    simp only at h
    cases e : Nat.ble 1 n with
    | false => rw [e] at h; cases h
    | true =>
      rw [e] at h
      have h1 := Nat.le_of_ble_eq_true e
      have h2 := Nat.le_of_ble_eq_true h
      constructor <;> (simp only [Int.ofNat_eq_natCast]; omega)
  | negSucc n => cases h
def MulOk (i j : Int) : Prop := CMul i j ∨ CMulX i j
def DivOk (i j : Int) : Prop := 0 < j ∧ j.natAbs.log2 < 9000
def bigA (j : Int) : Bool := match j with
  | .ofNat n => Nat.ble (n + 1) 1809251394333065553493296640760748560207343510400633813116524750123642650624
  | .negSucc n => Nat.ble (n + 2) 1809251394333065553493296640760748560207343510400633813116524750123642650624
theorem bigA_of {j : Int} (h : bigA j = true) : j.natAbs < 2 ^ 250 := by
  cases j with
  | ofNat n => have := Nat.le_of_ble_eq_true h; simp only [Int.ofNat_eq_natCast]; omega
  | negSucc n => have := Nat.le_of_ble_eq_true h; omega
def mulG (i j : Int) : Bool := match smallA j with
  | true => true
  | false => match bigA j with
    | true => bigA i
    | false => false
theorem mulG_of {i j : Int} (h : mulG i j = true) : MulOk i j := by
  unfold mulG at h
  cases e : smallA j with
  | true => exact .inl (.inr (smallA_of e))
  | false =>
    rw [e] at h
    cases e2 : bigA j with
    | false => rw [e2] at h; cases h
    | true =>
      rw [e2] at h
      exact .inr (mulx_ok (bigA_of h) (bigA_of e2) (by decide))
def mlK (i j : Int) (p : Prop) : Prop := gd (mulG i j) (MulOk i j) p
theorem mlK_e {i j : Int} {p : Prop} (h : mlK i j p) : MulOk i j ∧ p := gd_e mulG_of h
def dvK (i j : Int) (p : Prop) : Prop := gd (smallPos j) (DivOk i j) p
theorem log_small {m : Int} (h0 : 0 < m) (h1 : m < 2 ^ 64) : m.natAbs.log2 < 9000 := by
  have h2 : m.natAbs < 2 ^ 64 := by omega
  have h3 : m.natAbs.log2 < 64 := by
    rw [Nat.log2_lt (by omega)]
    exact h2
  omega
theorem log_100 {m : Int} (h0 : 0 < m) (h1 : m < 2 ^ 100) : m.natAbs.log2 < 9000 := by
  have h2 : m.natAbs < 2 ^ 100 := by omega
  have h3 : m.natAbs.log2 < 100 := by
    rw [Nat.log2_lt (by omega)]
    exact h2
  omega
theorem dvK_e {i j : Int} {p : Prop} (h : dvK i j p) : DivOk i j ∧ p := gd_e (fun e => ⟨(smallPos_of e).1, log_100 (smallPos_of e).1 (smallPos_of e).2⟩) h
theorem dvK_of {i j : Int} {p : Prop} (hc : DivOk i j) (hp : p) : dvK i j p := gd_of hc hp
def mdK (_ j : Int) (p : Prop) : Prop := gd (smallPos j) (0 < j) p
theorem mdK_e {i j : Int} {p : Prop} (h : mdK i j p) : 0 < j ∧ p := gd_e (fun e => (smallPos_of e).1) h
def pwK (i j : Int) (p : Prop) : Prop := gd (smallPw i j) (CPow i j) p
theorem pwK_e {i j : Int} {p : Prop} (h : pwK i j p) : CPow i j ∧ p := gd_e (fun e => by
  cases j with
  | ofNat b =>
    unfold smallPw at e
    simp only at e
    cases q : Nat.ble b 1000000 with
    | false => rw [q] at e; cases e
    | true =>
      rw [q] at e
      have h1 := Nat.le_of_ble_eq_true q
      have h2 := smallA_of e
      refine ⟨by simp only [Int.ofNat_eq_natCast]; omega, by simp only [Int.ofNat_eq_natCast]; omega, by omega⟩
  | negSucc b => cases e) h
structure RepOk (n : Nat) (k : Int) : Prop where
  lo : -(2 ^ 63) ≤ k
  hi : k < 2 ^ 63
  len : n * k.toNat ≤ 16777216
theorem op_mulA : OpR X (binaryOp .Mult) (rI MulOk fun i j => .int (i * j)) := by
  intro pins s σ H x y v u Q I rx ry h
  obtain ⟨i, j, rfl, rfl, c, q⟩ := h
  rcases c with c | c
  · exact op_mul pins s σ H _ _ v u Q I rx ry ⟨i, j, rfl, rfl, c, q⟩
  · exact op_mulX pins s σ H _ _ v u Q I rx ry ⟨i, j, rfl, rfl, c, q⟩
def mulD (ρ : En) (g : G) (Q : Rs → En → G → Prop) : Option PyData → Option PyData → Prop
  | some (.int i), some (.int j) => mlK i j (Q (.dt (.int (i * j))) ρ g)
  | some (.list xs), some (.int k) => RepOk xs.length k ∧ Q (.nl (List.replicate k.toNat xs).flatten) ρ g
  | some (.tuple xs), some (.int k) => RepOk xs.length k ∧ Q (.dt (.tuple (List.replicate k.toNat xs).flatten)) ρ g
  | _, _ => False
def oMul : RO G := fun r1 r2 ρ g Q => mulD ρ g Q (rd r1 ρ) (rd r2 ρ)
def rMulX (K : PySem.W.Frag) : R2 := fun x y H Q => rI MulOk (fun i j => .int (i * j)) x y H Q ∨ (rRep x y H Q ∨ rRepA K x y H Q)
theorem rep_one {α : Type} (xs : List α) : (List.replicate (1 : Int).toNat xs).flatten = xs := by
  show (List.replicate 1 xs).flatten = xs
  simp
theorem rep_nil {α : Type} (k : Nat) : (List.replicate k ([] : List α)).flatten = [] := by
  induction k with
  | zero => rfl
  | succ k ih => rw [List.replicate_succ, List.flatten_cons, ih]; rfl
theorem sim_mul : SimO Z (rMulX K) (oMul (G := G)) := fun f F ad ρ g σ H x y r1 r2 Q R h1 h2 q P hP => by
  have q' : mulD ρ g Q (rd r1 ρ) (rd r2 ρ) := q
  unfold mulD at q'
  split at q'
  · rename_i i j e1 e2
    replace q' := mlK_e q'
    exact .inl ⟨i, j, R.rInt h1 e1, R.rInt h2 e2, q'.1, hP _ _ (R.dat (.int _) q'.2)⟩
  · rename_i xs k e1 e2
    obtain ⟨a, vs, rfl, ha, da⟩ := R.items h1 e1
    obtain ⟨⟨b1, b2, b3⟩, q'⟩ := q'
    exact .inr (.inl ⟨a, k, vs, rfl, R.rInt h2 e2, ha, b1, b2, by rw [sizeLine_eq, da.length]; exact b3, fun p hp => hP _ _ (R.newL hp (da.rep _) q')⟩)
  · rename_i xs k e1 e2
    obtain ⟨a, vs, rfl, ha, da⟩ := R.titems h1 e1
    obtain ⟨⟨b1, b2, b3⟩, q'⟩ := q'
    refine .inr (.inr ⟨a, k, vs, rfl, R.rInt h2 e2, Evl.ex_t R.fin.sub ha, b1, b2, by rw [sizeLine_eq, da.length]; exact b3, fun e => ?_, fun _ p hp => hP _ _ (R.newT hp (da.rep _) q')⟩)
    refine hP _ _ (R.dat ?_ q')
    rcases e with e | e
    · subst e
      have e2 := (tup_nil_r da).mp rfl
      subst e2
      rw [rep_nil]
      exact .tup ha .nil
    · subst e
      rw [rep_one]
      exact .tup ha da
  · cases q'
theorem op_mulX3 {K : PySem.W.Frag} (hK : K = X.K := by rfl) : OpR X (binaryOp .Mult) (rMulX K) := by
  subst hK
  exact op_mulA.or (op_rep.or op_repA)
/-- the operators, each with its reading -/
theorem b_add (hK : K = X.K := by rfl) : OpR X (binaryOp .Add) (rAddX K) ∧ SimO Z (rAddX K) (oAdd (G := G)) := ⟨op_addX hK, sim_add⟩
theorem b_sub : OpR X (binaryOp .Sub) (rI0 fun i j => .int (i - j)) ∧ SimO Z (rI0 fun i j => .int (i - j)) (oSub (G := G)) := ⟨op_sub, sim_I0 fun _ _ _ => .int _⟩
theorem b_mul (hK : K = X.K := by rfl) : OpR X (binaryOp .Mult) (rMulX K) ∧ SimO Z (rMulX K) (oMul (G := G)) := ⟨op_mulX3 hK, sim_mul⟩
def oG (k : Int → Int → Prop → Prop) (g' : Int → Int → PyData) : RO G := fun r1 r2 ρ g Q => ii (fun i j => k i j (Q (.dt (g' i j)) ρ g)) (rd r1 ρ) (rd r2 ρ)
theorem sim_G {C : Int → Int → Prop} {k : Int → Int → Prop → Prop} {gv : Int → Int → V} {gd : Int → Int → PyData} (hk : ∀ i j p, k i j p → C i j ∧ p) (h : ∀ F i j, Da K F (gv i j) (gd i j)) : SimO Z (rI C gv) (oG (G := G) k gd) := fun f F ad ρ g σ H x y r1 r2 Q R h1 h2 q P hP => by
  obtain ⟨i, j, e1, e2, q⟩ := ii_of q
  obtain ⟨c, q⟩ := hk _ _ _ q
  exact ⟨i, j, R.rInt h1 e1, R.rInt h2 e2, c, hP _ _ (R.dat (h F i j) q)⟩
def oDiv : RO G := oG dvK fun i j => .int (i / j)
def oMod : RO G := oG mdK fun i j => .int (i % j)
def oPow : RO G := oG pwK fun i j => .int (i ^ j.toNat)
def oXor : RO G := oI0 fun i j => .int (Builtin.bitXor i j)
theorem b_div : OpR X (binaryOp .FloorDiv) (rI CDivW fun i j => .int (i / j)) ∧ SimO Z (rI CDivW fun i j => .int (i / j)) (oDiv (G := G)) := ⟨op_fdivW, sim_G (fun _ _ _ h => dvK_e h) fun _ _ _ => .int _⟩
theorem b_mod : OpR X (binaryOp .Mod) (rI (fun _ j => 0 < j) fun i j => .int (i % j)) ∧ SimO Z (rI (fun _ j => 0 < j) fun i j => .int (i % j)) (oMod (G := G)) := ⟨op_mod, sim_G (fun _ _ _ h => mdK_e h) fun _ _ _ => .int _⟩
theorem b_pow : OpR X (binaryOp .Pow) (rI CPow fun i j => .int (i ^ j.toNat)) ∧ SimO Z (rI CPow fun i j => .int (i ^ j.toNat)) (oPow (G := G)) := ⟨op_pow, sim_G (fun _ _ _ h => pwK_e h) fun _ _ _ => .int _⟩
theorem b_xor : OpR X (binaryOp .BitXor) (rI0 fun i j => .int (Builtin.bitXor i j)) ∧ SimO Z (rI0 fun i j => .int (Builtin.bitXor i j)) (oXor (G := G)) := ⟨op_xor, sim_I0 fun _ _ _ => .int _⟩
def iiU (k : Int → Prop) : Option PyData → Prop
  | some (.int i) => k i
  | _ => False
theorem iiU_of {k : Int → Prop} {a : Option PyData} (h : iiU k a) : ∃ i, a = some (.int i) ∧ k i := by
  unfold iiU at h
  split at h
  · exact ⟨_, rfl, h⟩
  · cases h
def oNeg : RU G := fun r ρ g Q => iiU (fun i => Q (.dt (.int (-i))) ρ g) (rd r ρ)
theorem u_neg : UnR X (unaryOp .USub) (rU fun i => .int (-i)) ∧ SimU Z (rU fun i => .int (-i)) (oNeg (G := G)) := ⟨un_neg, fun f F ad ρ g σ H x r1 Q R h1 q P hP => by
  obtain ⟨i, e1, q⟩ := iiU_of q
  exact ⟨i, R.rInt h1 e1, hP _ _ (R.dat (.int _) q)⟩⟩
def cI (p : Int → Int → Bool) : RO G := oI0 fun i j => .bool (p i j)
theorem c_I {op : CmpOp} {p : Int → Int → Bool} (h : OpR X (compareOp op) (rI0 fun i j => .bl (p i j))) : OpR X (compareOp op) (rI0 fun i j => .bl (p i j)) ∧ SimO Z (rI0 fun i j => .bl (p i j)) (cI (G := G) p) := ⟨h, sim_I0 fun _ _ _ => .bl _⟩
theorem c_lt : OpR X (compareOp .Lt) (rI0 fun i j => .bl (decide (i < j))) ∧ SimO Z (rI0 fun i j => .bl (decide (i < j))) (cI (G := G) fun i j => decide (i < j)) := c_I op_lt
theorem c_le : OpR X (compareOp .LtE) (rI0 fun i j => .bl (decide (i ≤ j))) ∧ SimO Z (rI0 fun i j => .bl (decide (i ≤ j))) (cI (G := G) fun i j => decide (i ≤ j)) := c_I op_le
theorem c_gt : OpR X (compareOp .Gt) (rI0 fun i j => .bl (decide (j < i))) ∧ SimO Z (rI0 fun i j => .bl (decide (j < i))) (cI (G := G) fun i j => decide (j < i)) := c_I op_gt
theorem c_ge : OpR X (compareOp .GtE) (rI0 fun i j => .bl (decide (j ≤ i))) ∧ SimO Z (rI0 fun i j => .bl (decide (j ≤ i))) (cI (G := G) fun i j => decide (j ≤ i)) := c_I op_ge
def eqD (ρ : En) (g : G) (Q : Rs → En → G → Prop) : Option PyData → Option PyData → Prop
  | some (.int i), some (.int j) => Q (.dt (.bool (decide (i = j)))) ρ g
  | some (.str x), some (.str y) => Q (.dt (.bool (decide (x = y)))) ρ g
  | some d, some e => SeqAt.shaped d = true ∧ SeqAt.shaped e = true ∧ Q (.dt (.bool (PyData.eqv d e))) ρ g
  | _, _ => False
def neD (ρ : En) (g : G) (Q : Rs → En → G → Prop) : Option PyData → Option PyData → Prop
  | some (.int i), some (.int j) => Q (.dt (.bool (!decide (i = j)))) ρ g
  | some (.str x), some (.str y) => Q (.dt (.bool (!decide (x = y)))) ρ g
  | some d, some e => SeqAt.shaped d = true ∧ SeqAt.shaped e = true ∧ Q (.dt (.bool (!PyData.eqv d e))) ρ g
  | _, _ => False
def oEq : RO G := fun r1 r2 ρ g Q => eqD ρ g Q (rd r1 ρ) (rd r2 ρ)
def oNe : RO G := fun r1 r2 ρ g Q => neD ρ g Q (rd r1 ρ) (rd r2 ρ)
def rEqX (K : PySem.W.Frag) : R2 := fun x y H Q => rEq x y H Q ∨ rEqD K x y H Q
def rNeX (K : PySem.W.Frag) : R2 := fun x y H Q => rNe x y H Q ∨ rNeD K x y H Q
theorem vint_inj {i j : Int} : decide (V.int i = V.int j) = decide (i = j) := by
  by_cases h : i = j
  · subst h; simp
  · rw [decide_eq_false h, decide_eq_false fun e => h (V.int.inj e)]
theorem vstr_inj {i j : Str} : decide (V.str i = V.str j) = decide (i = j) := by
  by_cases h : i = j
  · subst h; simp
  · rw [decide_eq_false h, decide_eq_false fun e => h (V.str.inj e)]
theorem sim_eq : SimO Z (rEqX K) (oEq (G := G)) := fun f F ad ρ g σ H x y r1 r2 Q R h1 h2 q P hP => by
  have q' : eqD ρ g Q (rd r1 ρ) (rd r2 ρ) := q
  unfold eqD at q'
  split at q'
  · rename_i i j e1 e2
    rw [R.rInt h1 e1, R.rInt h2 e2]
    exact .inl ⟨rfl, hP _ _ (R.dat (.bl _) (by rw [vint_inj]; exact q'))⟩
  · rename_i i j e1 e2
    rw [R.rStr h1 e1, R.rStr h2 e2]
    exact .inl ⟨rfl, hP _ _ (R.dat (.bl _) (by rw [vstr_inj]; exact q'))⟩
  · rename_i d e _ _ e1 e2
    exact .inr ⟨d, e, (R.hrd h1 e1).dp (SeqAt.canLay_of_shaped q'.1), (R.hrd h2 e2).dp (SeqAt.canLay_of_shaped q'.2.1), q'.1, q'.2.1, hP _ _ (R.dat (.bl _) q'.2.2)⟩
  · cases q'
theorem sim_ne : SimO Z (rNeX K) (oNe (G := G)) := fun f F ad ρ g σ H x y r1 r2 Q R h1 h2 q P hP => by
  have q' : neD ρ g Q (rd r1 ρ) (rd r2 ρ) := q
  unfold neD at q'
  split at q'
  · rename_i i j e1 e2
    rw [R.rInt h1 e1, R.rInt h2 e2]
    exact .inl ⟨rfl, hP _ _ (R.dat (.bl _) (by rw [vint_inj]; exact q'))⟩
  · rename_i i j e1 e2
    rw [R.rStr h1 e1, R.rStr h2 e2]
    exact .inl ⟨rfl, hP _ _ (R.dat (.bl _) (by rw [vstr_inj]; exact q'))⟩
  · rename_i d e _ _ e1 e2
    exact .inr ⟨d, e, (R.hrd h1 e1).dp (SeqAt.canLay_of_shaped q'.1), (R.hrd h2 e2).dp (SeqAt.canLay_of_shaped q'.2.1), q'.1, q'.2.1, hP _ _ (R.dat (.bl _) q'.2.2)⟩
  · cases q'
theorem c_eq (hu : X.A.units + 64 < cLine) (hK : K = X.K := by rfl) : OpR X (compareOp .Eq) (rEqX K) ∧ SimO Z (rEqX K) (oEq (G := G)) := ⟨by rw [hK]; exact op_eq.or (op_eqD hu), sim_eq⟩
theorem c_ne (hu : X.A.units + 64 < cLine) (hK : K = X.K := by rfl) : OpR X (compareOp .NotEq) (rNeX K) ∧ SimO Z (rNeX K) (oNe (G := G)) := ⟨by rw [hK]; exact op_ne.or (op_neD hu), sim_ne⟩
/-- is None, is not None; is True .. -/
def isN : Rs → En → Option Bool
  | .dt .none, _ => some true
  | .dt _, _ => some false
  | .nl _, _ => some false
  | .br i, ρ => match ρ[i]? with
    | some (.ls _) => some false
    | some (.dk _) => some false
    | _ => none
  | _, _ => none
theorem Rel.isN {f : Fx} {F : Hp} {ad : Nat → Addr} {ρ : En} {g : G} {σ : St} {H : Hp} (R : Rel Z f F ad ρ g σ H) {v : V} {r : Rs} {b : Bool} (h : VR Z f F ad ρ g σ H v r) (e : isN r ρ = some b) : decide (v = .non) = b := by
  cases r with
  | dt d =>
    cases h with
    | non => cases e; rfl
    | _ => cases e; rfl
  | nl ds => obtain ⟨a, vs, rfl, _⟩ := h; cases e; rfl
  | br i =>
    unfold L3.isN at e
    cases hi : ρ[i]? with
    | none => simp only [hi] at e; cases e
    | some s =>
      simp only [hi] at e
      have q := R.slot i _ hi
      cases s with
      | ls ds => obtain ⟨q1, _⟩ := q; have z : some (some (V.ref (ad i))) = some (some v) := q1.symm.trans h; cases z; cases e; rfl
      | dk ds => obtain ⟨q1, _⟩ := q; have z : some (some (V.ref (ad i))) = some (some v) := q1.symm.trans h; cases z; cases e; rfl
      | _ => cases e
  | _ => cases e
def bo (k : Bool → Prop) : Option PyData → Prop
  | some (.bool b) => k b
  | _ => False
theorem bo_of {k : Bool → Prop} {a : Option PyData} (h : bo k a) : ∃ b, a = some (.bool b) ∧ k b := by
  unfold bo at h
  split at h
  · exact ⟨_, rfl, h⟩
  · cases h
def isD (ρ : En) (g : G) (Q : Rs → En → G → Prop) (r1 : Rs) : Option PyData → Prop
  | some .none => opK (isN r1 ρ) fun b => Q (.dt (.bool b)) ρ g
  | some (.bool c) => bo (fun a => Q (.dt (.bool (decide (a = c)))) ρ g) (rd r1 ρ)
  | _ => False
def isnD (ρ : En) (g : G) (Q : Rs → En → G → Prop) (r1 : Rs) : Option PyData → Prop
  | some .none => opK (isN r1 ρ) fun b => Q (.dt (.bool (!b))) ρ g
  | some (.bool c) => bo (fun a => Q (.dt (.bool (!decide (a = c)))) ρ g) (rd r1 ρ)
  | _ => False
def oIs : RO G := fun r1 r2 ρ g Q => isD ρ g Q r1 (rd r2 ρ)
def oIsN : RO G := fun r1 r2 ρ g Q => isnD ρ g Q r1 (rd r2 ρ)
def rIsX : R2 := fun x y H Q => (y = .non ∧ Q (.bl (decide (x = .non))) H) ∨ rIsB x y H Q
def rIsNX : R2 := fun x y H Q => (y = .non ∧ Q (.bl (!decide (x = .non))) H) ∨ rNotB x y H Q
theorem sim_is : SimO Z rIsX (oIs (G := G)) := fun f F ad ρ g σ H x y r1 r2 Q R h1 h2 q P hP => by
  have q' : isD ρ g Q r1 (rd r2 ρ) := q
  unfold isD at q'
  split at q'
  · rename_i e2
    obtain ⟨b, e1, q'⟩ := opK_e q'
    exact .inl ⟨R.rNone h2 e2, hP _ _ (R.dat (.bl _) (by rw [R.isN h1 e1]; exact q'))⟩
  · rename_i c e2
    obtain ⟨a, e1, q'⟩ := bo_of q'
    exact .inr ⟨a, c, R.rBool h1 e1, R.rBool h2 e2, hP _ _ (R.dat (.bl _) q')⟩
  · cases q'
theorem sim_isN : SimO Z rIsNX (oIsN (G := G)) := fun f F ad ρ g σ H x y r1 r2 Q R h1 h2 q P hP => by
  have q' : isnD ρ g Q r1 (rd r2 ρ) := q
  unfold isnD at q'
  split at q'
  · rename_i e2
    obtain ⟨b, e1, q'⟩ := opK_e q'
    exact .inl ⟨R.rNone h2 e2, hP _ _ (R.dat (.bl _) (by rw [R.isN h1 e1]; exact q'))⟩
  · rename_i c e2
    obtain ⟨a, e1, q'⟩ := bo_of q'
    exact .inr ⟨a, c, R.rBool h1 e1, R.rBool h2 e2, hP _ _ (R.dat (.bl _) q')⟩
  · cases q'
theorem c_is : OpR X (compareOp .Is) rIsX ∧ SimO Z rIsX (oIs (G := G)) := ⟨op_isN.or op_isBl, sim_is⟩
theorem c_isN : OpR X (compareOp .IsNot) rIsNX ∧ SimO Z rIsNX (oIsN (G := G)) := ⟨op_notN.or op_notBl, sim_isN⟩
theorem e_cmp {op : CmpOp} {r : R2} {o : RO G} {ea eb : Expr} {ta tb : TE} {a b : DT G} {pos : Pos} (ho : OpR X (compareOp op) r ∧ SimO Z r o) (ha : DE X Z ea ta a) (hb : DE X Z eb tb b) (hm : behindInMarks op eb = false := by first | exact nomark _ | rfl) :
    DE X Z (.Compare ea [op] [eb] pos) (tOp r ta tb) (dOp o a b) := ⟨pe_cmpR ho.1 ha.pe hb.pe hm, sim_op ho.2 ha.sim hb.sim⟩
abbrev DB (G : Type) := En → G → (Bool → En → G → Prop) → Prop
def PostB (Z : Zx K G) (f : Fx) (F : Hp) (g : G) (σ : St) (Q : Bool → En → G → Prop) (b : Bool) (H' : Hp) : Prop :=
  ∃ F' ad' ρ' g', Ex F F' ∧ Z.ra g' = Z.ra g ∧ Rel Z f F' ad' ρ' g' σ H' ∧ Q b ρ' g'
def SimT (Z : Zx K G) (tt : TT) (t : DB G) : Prop := ∀ f F ad ρ g σ H Q, Rel Z f F ad ρ g σ H → t ρ g Q → ∀ P : Bool → Hp → Prop, (∀ b H', PostB Z f F g σ Q b H' → P b H') → tt σ H P
structure DTe (X : Cx) (Z : Zx K G) (e : Expr) (tt : TT) (t : DB G) : Prop where
  pt : PT X e tt
  sim : SimT Z tt t
structure DW (X : Cx) (Z : Zx K G) (e : Expr) (tt : TT) (t : DB G) : Prop where
  pw : PW X e tt
  sim : SimT Z tt t
theorem PostB.mono {f : Fx} {F F1 : Hp} {g g1 : G} {σ : St} {Q : Bool → En → G → Prop} {b : Bool} {H' : Hp} (e : Ex F F1) (eg : Z.ra g1 = Z.ra g) (h : PostB Z f F1 g1 σ Q b H') : PostB Z f F g σ Q b H' := by
  obtain ⟨F', ad', ρ', g', h1, h2, h3⟩ := h
  exact ⟨F', ad', ρ', g', e.trans h1, h2.trans eg, h3⟩
def dTst (a : DT G) : DB G := fun ρ g Q => a ρ g fun r ρ1 g1 => bo (fun b => Q b ρ1 g1) (rd r ρ1)
theorem sim_tst {ta : TE} {a : DT G} (ha : Sim Z ta a) : SimT Z (tTest ta) (dTst a) := fun f F ad ρ g σ H Q R h P hP => by
  refine ha f F ad ρ g σ H _ R h _ fun x H1 q => ?_
  obtain ⟨F1, ad1, ρ1, g1, r1, e1, eg1, R1, v1, q⟩ := q
  obtain ⟨b, e, q⟩ := bo_of q
  exact ⟨b, R1.rBool v1 e, hP b H1 ⟨F1, ad1, ρ1, g1, e1, eg1, R1, q⟩⟩
theorem t_cmp {op : CmpOp} {r : R2} {o : RO G} {ea eb : Expr} {ta tb : TE} {a b : DT G} {pos : Pos} (ho : OpR X (compareOp op) r ∧ SimO Z r o) (ha : DE X Z ea ta a) (hb : DE X Z eb tb b) (hm : behindInMarks op eb = false := by first | exact nomark _ | rfl) :
    DTe X Z (.Compare ea [op] [eb] pos) (tTest (tOp r ta tb)) (dTst (dOp o a b)) := ⟨pt_cmpR ho.1 ha.pe hb.pe hm, sim_tst (sim_op ho.2 ha.sim hb.sim)⟩
theorem t_val {e : Expr} {te : TE} {t : DT G} (h : DE X Z e te t) (he : ∀ whole, isTrue e X.env whole = (do let v ← whole; standAt e.pos; holding [v] (truthy v)) := by intro _; rfl) : DTe X Z e (tB te) (dTst t) :=
  ⟨pt_val h.pe he, sim_tst h.sim⟩
def dAnd (a b : DB G) : DB G := fun ρ g Q => a ρ g fun c ρ1 g1 => ifb c (b ρ1 g1 Q) (Q false ρ1 g1)
def dOr (a b : DB G) : DB G := fun ρ g Q => a ρ g fun c ρ1 g1 => ifb c (Q true ρ1 g1) (b ρ1 g1 Q)
def dNot (a : DB G) : DB G := fun ρ g Q => a ρ g fun c ρ1 g1 => Q (!c) ρ1 g1
theorem sim_and {ta tb : TT} {a b : DB G} (ha : SimT Z ta a) (hb : SimT Z tb b) : SimT Z (tAnd ta tb) (dAnd a b) := fun f F ad ρ g σ H Q R h P hP => by
  refine ha f F ad ρ g σ H _ R h _ fun c H1 q => ?_
  obtain ⟨F1, ad1, ρ1, g1, e1, eg1, R1, q⟩ := q
  cases c with
  | true =>
    rw [if_pos rfl]
    replace q := ifb_t q
    exact hb f F1 ad1 ρ1 g1 σ H1 _ R1 q P fun c H' hp => hP c H' (hp.mono e1 eg1)
  | false =>
    rw [if_neg Bool.false_ne_true]
    replace q := ifb_f q
    exact hP false H1 ⟨F1, ad1, ρ1, g1, e1, eg1, R1, q⟩
theorem sim_or {ta tb : TT} {a b : DB G} (ha : SimT Z ta a) (hb : SimT Z tb b) : SimT Z (tOr ta tb) (dOr a b) := fun f F ad ρ g σ H Q R h P hP => by
  refine ha f F ad ρ g σ H _ R h _ fun c H1 q => ?_
  obtain ⟨F1, ad1, ρ1, g1, e1, eg1, R1, q⟩ := q
  cases c with
  | true =>
    rw [if_pos rfl]
    replace q := ifb_t q
    exact hP true H1 ⟨F1, ad1, ρ1, g1, e1, eg1, R1, q⟩
  | false =>
    rw [if_neg Bool.false_ne_true]
    replace q := ifb_f q
    exact hb f F1 ad1 ρ1 g1 σ H1 _ R1 q P fun c H' hp => hP c H' (hp.mono e1 eg1)
theorem sim_not {ta : TT} {a : DB G} (ha : SimT Z ta a) : SimT Z (tNot ta) (dNot a) := fun f F ad ρ g σ H Q R h P hP =>
  ha f F ad ρ g σ H _ R h _ fun c H1 q => by
    obtain ⟨F1, ad1, ρ1, g1, e1, eg1, R1, q⟩ := q
    exact hP (!c) H1 ⟨F1, ad1, ρ1, g1, e1, eg1, R1, q⟩
section
variable {ea eb : Expr} {ta tb : TT} {a b : DB G} {pos : Pos} {rest : List Expr}
theorem w_and1 (h : DTe X Z ea ta a) : DW X Z (.BoolOp .And [ea] pos) ta a := ⟨pw_and1 h.pt, h.sim⟩
theorem w_or1 (h : DTe X Z ea ta a) : DW X Z (.BoolOp .Or [ea] pos) ta a := ⟨pw_or1 h.pt, h.sim⟩
theorem w_and (h : DTe X Z ea ta a) (k : DW X Z (.BoolOp .And (eb :: rest) pos) tb b) : DW X Z (.BoolOp .And (ea :: eb :: rest) pos) (tAnd ta tb) (dAnd a b) := ⟨pw_and h.pt k.pw, sim_and h.sim k.sim⟩
theorem w_or (h : DTe X Z ea ta a) (k : DW X Z (.BoolOp .Or (eb :: rest) pos) tb b) : DW X Z (.BoolOp .Or (ea :: eb :: rest) pos) (tOr ta tb) (dOr a b) := ⟨pw_or h.pt k.pw, sim_or h.sim k.sim⟩
theorem t_w {e : Expr} (h : DW X Z e ta a) : DTe X Z e ta a := ⟨h.pw.pt, h.sim⟩
theorem t_not (h : DTe X Z ea ta a) : DTe X Z (.UnaryOp .Not ea pos) (tNot ta) (dNot a) := ⟨pt_not h.pt, sim_not h.sim⟩
end
/-- and, or, not as values of truths -/
def dAndV (a b : DT G) : DT G := fun ρ g Q => a ρ g fun r ρ1 g1 => bo (fun c => ifb c (b ρ1 g1 Q) (Q (.dt (.bool false)) ρ1 g1)) (rd r ρ1)
def dNotV (a : DT G) : DT G := fun ρ g Q => a ρ g fun r ρ1 g1 => bo (fun c => Q (.dt (.bool (!c))) ρ1 g1) (rd r ρ1)
theorem sim_andV {ta tb : TE} {a b : DT G} (ha : Sim Z ta a) (hb : Sim Z tb b) : Sim Z (tAndV ta tb) (dAndV a b) := fun f F ad ρ g σ H Q R h P hP => by
  refine ha f F ad ρ g σ H _ R h _ fun x H1 q => ?_
  obtain ⟨F1, ad1, ρ1, g1, r1, e1, eg1, R1, v1, q⟩ := q
  obtain ⟨c, e, q⟩ := bo_of q
  refine ⟨c, R1.rBool v1 e, ?_⟩
  cases c with
  | true =>
    rw [if_pos rfl]
    replace q := ifb_t q
    exact hb f F1 ad1 ρ1 g1 σ H1 _ R1 q P fun c H' hp => hP c H' (hp.mono e1 eg1)
  | false =>
    rw [if_neg Bool.false_ne_true]
    replace q := ifb_f q
    exact hP _ H1 ((R1.dat (.bl _) q).mono e1 eg1)
theorem sim_notV {ta : TE} {a : DT G} (ha : Sim Z ta a) : Sim Z (tNotV ta) (dNotV a) := fun f F ad ρ g σ H Q R h P hP => by
  refine ha f F ad ρ g σ H _ R h _ fun x H1 q => ?_
  obtain ⟨F1, ad1, ρ1, g1, r1, e1, eg1, R1, v1, q⟩ := q
  obtain ⟨c, e, q⟩ := bo_of q
  exact ⟨c, R1.rBool v1 e, hP _ H1 ((R1.dat (.bl _) q).mono e1 eg1)⟩
section
variable {ea eb ec : Expr} {ta tb tc : TE} {tt : TT} {a b c : DT G} {t : DB G} {pos : Pos} {rest : List Expr}
theorem e_one {op} (h : DE X Z ea ta a) : DE X Z (.BoolOp op [ea] pos) ta a := ⟨pe_one h.pe, h.sim⟩
theorem e_and (h : DE X Z ea ta a) (k : DE X Z (.BoolOp .And (eb :: rest) pos) tb b) : DE X Z (.BoolOp .And (ea :: eb :: rest) pos) (tAndV ta tb) (dAndV a b) := ⟨pe_and h.pe k.pe, sim_andV h.sim k.sim⟩
theorem e_not (h : DE X Z ea ta a) : DE X Z (.UnaryOp .Not ea pos) (tNotV ta) (dNotV a) := ⟨pe_not h.pe, sim_notV h.sim⟩
def dIf (t : DB G) (a b : DT G) : DT G := fun ρ g Q => t ρ g fun c ρ1 g1 => ifb c (a ρ1 g1 Q) (b ρ1 g1 Q)
theorem sim_if (ht : SimT Z tt t) (ha : Sim Z ta a) (hb : Sim Z tb b) : Sim Z (tIf tt ta tb) (dIf t a b) := fun f F ad ρ g σ H Q R h P hP => by
  refine ht f F ad ρ g σ H _ R h _ fun c H1 q => ?_
  obtain ⟨F1, ad1, ρ1, g1, e1, eg1, R1, q⟩ := q
  cases c with
  | true =>
    rw [if_pos rfl]
    replace q := ifb_t q
    exact ha f F1 ad1 ρ1 g1 σ H1 _ R1 q P fun c H' hp => hP c H' (hp.mono e1 eg1)
  | false =>
    rw [if_neg Bool.false_ne_true]
    replace q := ifb_f q
    exact hb f F1 ad1 ρ1 g1 σ H1 _ R1 q P fun c H' hp => hP c H' (hp.mono e1 eg1)
theorem e_if {et : Expr} (ht : DTe X Z et tt t) (ha : DE X Z ea ta a) (hb : DE X Z eb tb b) : DE X Z (.IfExp et ea eb pos) (tIf tt ta tb) (dIf t a b) := ⟨pe_ifExp ht.pt ha.pe hb.pe, sim_if ht.sim ha.sim hb.sim⟩
/-- a < b < c -/
def dChain (o o' : RO G) (a b c : DT G) : DT G := fun ρ g Q => a ρ g fun r1 ρ1 g1 => ifh r1 (b ρ1 g1 fun r2 ρ2 g2 => ifh r2 (o (st r1) (st r2) ρ2 g2 fun z ρ3 g3 => bo (fun k => ifb k (c ρ3 g3 (fun r3 ρ4 g4 => o' (st r2) r3 ρ4 g4 Q)) (Q (.dt (.bool false)) ρ3 g3)) (rd z ρ3)))
end
end L3
end
section
namespace L3
open PySem L2
variable {G : Type} {K : PySem.W.Frag} {X : Cx} {Z : Zx K G}
theorem sim_chain {r r' : R2} {o o' : RO G} {ta tb tc : TE} {a b c : DT G} (ho : SimO Z r o) (ho' : SimO Z r' o') (ha : Sim Z ta a) (hb : Sim Z tb b) (hc : Sim Z tc c) : Sim Z (tChain r r' ta tb tc) (dChain o o' a b c) := fun f F ad ρ g σ H Q R h P hP => by
  refine ha f F ad ρ g σ H _ R h _ fun x H1 q => ?_
  obtain ⟨F1, ad1, ρ1, g1, r1, e1, eg1, R1, v1, q⟩ := q
  replace q := ifh_of q
  obtain ⟨F1', e1', R1', v1'⟩ := R1.hst v1
  refine hb f F1' ad1 ρ1 g1 σ H1 _ R1' q _ fun y H2 q2 => ?_
  obtain ⟨F2, ad2, ρ2, g2, r2, e2, eg2, R2, v2, q⟩ := q2
  replace q := ifh_of q
  obtain ⟨F2', e2', R2', v2'⟩ := R2.hst v2
  refine ho f F2' ad2 ρ2 g2 σ H2 x y (st r1) (st r2) _ R2' (v1'.held (e2.trans e2') eg2) v2' q _ fun z H3 q3 => ?_
  obtain ⟨F3, ad3, ρ3, g3, r3, e3, eg3, R3, v3, q⟩ := q3
  obtain ⟨k, e, q⟩ := bo_of q
  have eA : Ex F F3 := ((e1.trans e1').trans (e2.trans e2')).trans e3
  have gA : Z.ra g3 = Z.ra g := eg3.trans (eg2.trans eg1)
  refine ⟨k, R3.rBool v3 e, ?_⟩
  cases k with
  | true =>
    rw [if_pos rfl]
    replace q := ifb_t q
    refine hc f F3 ad3 ρ3 g3 σ H3 _ R3 q _ fun w H4 q4 => ?_
    obtain ⟨F4, ad4, ρ4, g4, r4, e4, eg4, R4, v4, q⟩ := q4
    exact ho' f F4 ad4 ρ4 g4 σ H4 y w (st r2) r4 Q R4 (v2'.held (e3.trans e4) (eg4.trans eg3)) v4 q P fun v H' hp => hP v H' (hp.mono (eA.trans e4) (eg4.trans gA))
  | false =>
    rw [if_neg Bool.false_ne_true]
    replace q := ifb_f q
    exact hP _ H3 ((R3.dat (.bl _) q).mono eA gA)
section
variable {ea eb ec : Expr} {ta tb tc : TE} {a b c : DT G} {r r' : R2} {o o' : RO G} {op op' : CmpOp} {pos : Pos}
theorem t_chain (ho : OpR X (compareOp op) r ∧ SimO Z r o) (ho' : OpR X (compareOp op') r' ∧ SimO Z r' o') (ha : DE X Z ea ta a) (hb : DE X Z eb tb b) (hc : DE X Z ec tc c) (hm : lastMarks [op, op'] [eb, ec] = false := by with_unfolding_all rfl) :
    DTe X Z (.Compare ea [op, op'] [eb, ec] pos) (tTest (tChain r r' ta tb tc)) (dTst (dChain o o' a b c)) := ⟨pt_chain ho.1 ho'.1 ha.pe hb.pe hc.pe hm, sim_tst (sim_chain ho.2 ho'.2 ha.sim hb.sim hc.sim)⟩
end
def ixD (ρ : En) (g : G) (Q : Rs → En → G → Prop) : Option PyData → Option PyData → Prop
  | some (.list ds), some (.int i) => opK (atI ds i) fun d => Q (.dt d) ρ g
  | some (.tuple ds), some (.int i) => opK (atI ds i) fun d => Q (.dt d) ρ g
  | some (.str z), some (.int i) => z.length ≤ sizeLine ∧ opK (atI z.cps.toList i) fun c => Q (.dt (.str ⟨#[c]⟩)) ρ g
  | _, _ => False
def oIx : RO G := fun r1 r2 ρ g Q => ixD ρ g Q (rd r1 ρ) (rd r2 ρ)
theorem daAll_at {K : PySem.W.Frag} {H : Hp} {vs : List V} {ds : List PyData} {i : Int} {d : PyData} (h : DaAll K H vs ds) (e : atI ds i = some d) : ∃ v, atI vs i = some v ∧ Da K H v d := by
  unfold atI at e ⊢
  rw [h.length]
  cases q : ixN ds.length i with
  | none => rw [q] at e; cases e
  | some j =>
    rw [q] at e
    exact h.get e
theorem sim_ix : SimO Z (rIx K) (oIx (G := G)) := fun f F ad ρ g σ H x y r1 r2 Q R h1 h2 q P hP => by
  have q' : ixD ρ g Q (rd r1 ρ) (rd r2 ρ) := q
  unfold ixD at q'
  split at q'
  · rename_i ds i e1 e2
    obtain ⟨d, hd, q'⟩ := opK_e q'
    obtain ⟨a, vs, rfl, ha, da⟩ := R.items h1 e1
    obtain ⟨v, hv, dv⟩ := daAll_at da hd
    exact .inl ⟨a, vs, i, v, rfl, R.rInt h2 e2, .inl (.inl ha), hv, hP _ _ (R.dat dv q')⟩
  · rename_i ds i e1 e2
    obtain ⟨d, hd, q'⟩ := opK_e q'
    obtain ⟨a, vs, rfl, ha, da⟩ := R.titems h1 e1
    obtain ⟨v, hv, dv⟩ := daAll_at da hd
    exact .inr (.inl ⟨a, vs, i, v, rfl, R.rInt h2 e2, Evl.ex_t R.fin.sub ha, hv, hP _ _ (R.dat dv q')⟩)
  · rename_i z i e1 e2
    obtain ⟨hz, q'⟩ := q'
    obtain ⟨c, hc, q'⟩ := opK_e q'
    exact .inr (.inr ⟨z, i, c, R.rStr h1 e1, R.rInt h2 e2, hz, hc, hP _ _ (R.dat (.str _) q')⟩)
  · cases q'
/-- slices -/
abbrev DO (G : Type) := En → G → (Option Int → En → G → Prop) → Prop
def PostO (Z : Zx K G) (f : Fx) (F : Hp) (g : G) (σ : St) (Q : Option Int → En → G → Prop) (b : Option Int) (H' : Hp) : Prop :=
  ∃ F' ad' ρ' g', Ex F F' ∧ Z.ra g' = Z.ra g ∧ Rel Z f F' ad' ρ' g' σ H' ∧ Q b ρ' g'
def SimP (Z : Zx K G) (tt : TO) (t : DO G) : Prop := ∀ f F ad ρ g σ H Q, Rel Z f F ad ρ g σ H → t ρ g Q → ∀ P : Option Int → Hp → Prop, (∀ b H', PostO Z f F g σ Q b H' → P b H') → tt σ H P
structure DP (X : Cx) (Z : Zx K G) (e : Option Expr) (tt : TO) (t : DO G) : Prop where
  po : PO X e tt
  sim : SimP Z tt t
def dNoP : DO G := fun ρ g Q => Q Option.none ρ g
def dPart (a : DT G) : DO G := fun ρ g Q => a ρ g fun r ρ1 g1 => iiU (fun i => Q (some i) ρ1 g1) (rd r ρ1)
theorem o_none : DP X Z none tNoPart (dNoP (G := G)) := ⟨po_none, fun f F ad ρ g σ H Q R h P hP => hP Option.none H ⟨F, ad, ρ, g, Evl.Ex.refl F, rfl, R, h⟩⟩
theorem o_some {e : Expr} {te : TE} {a : DT G} (h : DE X Z e te a) : DP X Z (some e) (tPart te) (dPart a) := ⟨po_some h.pe, fun f F ad ρ g σ H Q R q P hP => by
  refine h.sim f F ad ρ g σ H _ R q _ fun x H1 q => ?_
  obtain ⟨F1, ad1, ρ1, g1, r1, e1, eg1, R1, v1, q⟩ := q
  obtain ⟨i, e, q⟩ := iiU_of q
  exact ⟨i, R1.rInt v1 e, hP _ _ ⟨F1, ad1, ρ1, g1, e1, eg1, R1, q⟩⟩⟩
def cutD (xs : List PyData) (lo hi : Option Int) : List PyData := (xs.drop (HT.sIx xs.length 0 lo)).take (HT.sIx xs.length xs.length hi - HT.sIx xs.length 0 lo)
def slD (ρ : En) (g : G) (Q : Rs → En → G → Prop) (lo hi : Option Int) : Option PyData → Prop
  | some (.list ds) => Q (.nl (cutD ds lo hi)) ρ g
  | some (.tuple ds) => Q (.dt (.tuple (cutD ds lo hi))) ρ g
  | _ => False
def dSl (a : DT G) (l h : DO G) : DT G := fun ρ g Q => a ρ g fun r ρ1 g1 => ifh r (l ρ1 g1 fun lo ρ2 g2 => h ρ2 g2 fun hi ρ3 g3 => slD ρ3 g3 Q lo hi (rd (st r) ρ3))
def rSlX (K : PySem.W.Frag) : V → Option Int → Option Int → Hp → VK → Prop := fun x lo hi H Q => rSlL K x lo hi H Q ∨ rSlA K x lo hi H Q
theorem daAll_cut {K : PySem.W.Frag} {H : Hp} {vs : List V} {ds : List PyData} (h : DaAll K H vs ds) (lo hi : Option Int) : DaAll K H (cutV vs lo hi) (cutD ds lo hi) := by
  unfold cutV cutD
  rw [h.length]
  exact (h.drop _).take _
theorem cutD_whole {ds : List PyData} {lo hi : Option Int} (h : HT.sIx ds.length 0 lo = 0 ∧ HT.sIx ds.length ds.length hi = ds.length) : cutD ds lo hi = ds := by
  unfold cutD
  rw [h.1, h.2]
  simp
theorem sim_sl {te : TE} {tl th : TO} {a : DT G} {l h : DO G} (ha : Sim Z te a) (hl : SimP Z tl l) (hh : SimP Z th h) : Sim Z (tSl (rSlX K) te tl th) (dSl a l h) := fun f F ad ρ g σ H Q R q P hP => by
  refine ha f F ad ρ g σ H _ R q _ fun x H1 q => ?_
  obtain ⟨F1, ad1, ρ1, g1, r1, e1, eg1, R1, v1, q⟩ := q
  replace q := ifh_of q
  obtain ⟨F1', e1', R1', v1'⟩ := R1.hst v1
  refine hl f F1' ad1 ρ1 g1 σ H1 _ R1' q _ fun lo H2 q2 => ?_
  obtain ⟨F2, ad2, ρ2, g2, e2, eg2, R2, q⟩ := q2
  refine hh f F2 ad2 ρ2 g2 σ H2 _ R2 q _ fun hi H3 q3 => ?_
  obtain ⟨F3, ad3, ρ3, g3, e3, eg3, R3, q⟩ := q3
  have v3 := v1'.held (ad1 := ad3) (ρ1 := ρ3) (H1 := H3) (e2.trans e3) (eg3.trans eg2)
  have eA : Ex F F3 := (e1.trans e1').trans (e2.trans e3)
  have gA : Z.ra g3 = Z.ra g := eg3.trans (eg2.trans eg1)
  have q' : slD ρ3 g3 Q lo hi (rd (st r1) ρ3) := q
  unfold slD at q'
  split at q'
  · rename_i ds e
    obtain ⟨a, vs, rfl, ha, da⟩ := R3.items v3 e
    exact .inl ⟨a, vs, rfl, .inl (.inl ha), fun p hp => hP _ _ ((R3.newL hp (daAll_cut da lo hi) q').mono eA gA)⟩
  · rename_i ds e
    obtain ⟨a, vs, rfl, ha, da⟩ := R3.titems v3 e
    refine .inr ⟨a, vs, rfl, Evl.ex_t R3.fin.sub ha, fun hw => ?_, fun _ p hp => hP _ _ ((R3.newT hp (daAll_cut da lo hi) q').mono eA gA)⟩
    refine hP _ _ ((R3.dat ?_ q').mono eA gA)
    rw [da.length] at hw
    rw [cutD_whole hw]
    exact .tup ha da
  · cases q'
theorem e_sl {e : Expr} {lo hi : Option Expr} {te : TE} {tl th : TO} {a : DT G} {l h : DO G} {p2 pos : Pos} (ha : DE X Z e te a) (hl : DP X Z lo tl l) (hh : DP X Z hi th h) (hK : K = X.K := by rfl) :
    DE X Z (.Subscript e (.Slice lo hi none p2) pos) (tSl (rSlX K) te tl th) (dSl a l h) := ⟨pe_slice (by rw [hK]; exact sl_list.or sl_tupA) ha.pe hl.po hh.po, sim_sl ha.sim hl.sim hh.sim⟩
abbrev DA (G : Type) := En → G → (List Rs → En → G → Prop) → Prop
abbrev VRs (Z : Zx K G) (f : Fx) (F : Hp) (ad : Nat → Addr) (ρ : En) (g : G) (σ : St) (H : Hp) : List V → List Rs → Prop := Paired fun v r => ∃ r0, r = st r0 ∧ VR Z f F ad ρ g σ H v (st r0)
def PostA (Z : Zx K G) (f : Fx) (F : Hp) (g : G) (σ : St) (Q : List Rs → En → G → Prop) (vs : List V) (H' : Hp) : Prop :=
  ∃ F' ad' ρ' g' rs, Ex F F' ∧ Z.ra g' = Z.ra g ∧ Rel Z f F' ad' ρ' g' σ H' ∧ VRs Z f F' ad' ρ' g' σ H' vs rs ∧ Q rs ρ' g'
def SimA (Z : Zx K G) (ta : TA) (t : DA G) : Prop := ∀ f F ad ρ g σ H Q, Rel Z f F ad ρ g σ H → t ρ g Q → ∀ P : List V → Hp → Prop, (∀ vs H', PostA Z f F g σ Q vs H' → P vs H') → ta σ H P
structure DAs (X : Cx) (Z : Zx K G) (es : List Expr) (ta : TA) (t : DA G) : Prop where
  pa : PA X es ta
  sim : SimA Z ta t
def dNil : DA G := fun ρ g Q => Q [] ρ g
def dCons (a : DT G) (b : DA G) : DA G := fun ρ g Q => a ρ g fun r ρ1 g1 => ifh r (b ρ1 g1 fun rs ρ2 g2 => Q (st r :: rs) ρ2 g2)
theorem a_nil : DAs X Z [] tNil (dNil (G := G)) := ⟨pa_nil, fun f F ad ρ g σ H Q R h P hP => hP [] H ⟨F, ad, ρ, g, [], Evl.Ex.refl F, rfl, R, .nil, h⟩⟩
theorem sim_cons {ta : TE} {tb : TA} {a : DT G} {b : DA G} (ha : Sim Z ta a) (hb : SimA Z tb b) : SimA Z (tCons ta tb) (dCons a b) := fun f F ad ρ g σ H Q R q P hP => by
  refine ha f F ad ρ g σ H _ R q _ fun x H1 q => ?_
  obtain ⟨F1, ad1, ρ1, g1, r1, e1, eg1, R1, v1, q⟩ := q
  replace q := ifh_of q
  obtain ⟨F1', e1', R1', v1'⟩ := R1.hst v1
  refine hb f F1' ad1 ρ1 g1 σ H1 _ R1' q _ fun vs H2 q2 => ?_
  obtain ⟨F2, ad2, ρ2, g2, rs, e2, eg2, R2, v2, q⟩ := q2
  exact hP _ _ ⟨F2, ad2, ρ2, g2, _, (e1.trans e1').trans e2, eg2.trans eg1, R2, .cons ⟨r1, rfl, v1'.held e2 eg2⟩ v2, q⟩
theorem a_cons {e : Expr} {es : List Expr} {ta : TE} {tb : TA} {a : DT G} {b : DA G} (ha : DE X Z e ta a) (hb : DAs X Z es tb b) (hs : starEach (e :: es) X.env = (false, eval e X.env) :: starEach es X.env := by rfl) :
    DAs X Z (e :: es) (tCons ta tb) (dCons a b) := ⟨pa_cons ha.pe hb.pa hs, sim_cons ha.sim hb.sim⟩
/-- all frozen -/
def fzA : List Rs → En → Option (List PyData × En)
  | [], ρ => some ([], ρ)
  | r :: rs, ρ => (fz r ρ).bind fun p => (fzA rs p.2).map fun q => (p.1 :: q.1, q.2)
section
variable {f : Fx} {F F' : Hp} {ad : Nat → Addr} {ρ : En} {g : G} {σ : St} {H H' : Hp}
theorem Rel.hfzA : ∀ {vs : List V} {rs : List Rs} {F : Hp} {ρ : En} {ds : List PyData} {ρ' : En}, Rel Z f F ad ρ g σ H → VRs Z f F ad ρ g σ H vs rs → fzA rs ρ = some (ds, ρ') → ∃ F', Ex F F' ∧ Rel Z f F' ad ρ' g σ H ∧ DaAll K F' vs ds
  | _, [], F, ρ, ds, ρ', R, .nil, e => by cases e; exact ⟨F, Evl.Ex.refl F, R, .nil⟩
  | _, r :: rs, F, ρ, ds, ρ', R, .cons h t, e => by
    obtain ⟨r0, rfl, h⟩ := h
    unfold fzA at e
    cases e1 : fz (st r0) ρ with
    | none => rw [e1] at e; cases e
    | some p =>
      obtain ⟨d, ρ1⟩ := p
      rw [e1] at e
      cases e2 : fzA rs ρ1 with
      | none => simp [e2] at e
      | some p2 =>
        obtain ⟨ds2, ρ2⟩ := p2
        simp [e2] at e
        obtain ⟨rfl, rfl⟩ := e
        obtain ⟨F1, x1, R1, d1⟩ := R.hfz h e1
        obtain ⟨F2, x2, R2, d2⟩ := Rel.hfzA R1 (Paired.mapP t fun v r ⟨r0, er, z⟩ => ⟨r0, er, z.held x1 rfl⟩) e2
        exact ⟨F2, x1.trans x2, R2, .cons (da_mono x2 d1) d2⟩
end
/-- the same, told on: what comes out stays small -/
def fz1S (ρ : En) (i : Nat) (k : PyData → En → Prop) : Option Sl → Prop
  | some (.dt d) => k d ρ
  | some (.ls ds) => k (.list ds) (ρ.set i (.dt (.list ds)))
  | some (.dk ds) => k (.dict ds) (ρ.set i (.dt (.dict ds)))
  | _ => False
def fz1 (r : Rs) (ρ : En) (k : PyData → En → Prop) : Prop := match r with
  | .dt d => k d ρ
  | .nl ds => k (.list ds) ρ
  | .nd ds => k (.dict ds) ρ
  | .br i => fz1S ρ i k ρ[i]?
  | _ => False
theorem fz1_of {r : Rs} {ρ : En} {k : PyData → En → Prop} (h : fz1 r ρ k) : ∃ d ρ', fz r ρ = some (d, ρ') ∧ k d ρ' := by
  cases r with
  | dt d => exact ⟨d, ρ, rfl, h⟩
  | nl d => exact ⟨_, ρ, rfl, h⟩
  | nd d => exact ⟨_, ρ, rfl, h⟩
  | br i =>
    have h1 : fz1S ρ i k ρ[i]? := h
    cases e : ρ[i]? with
    | none => rw [e] at h1; exact h1.elim
    | some s =>
      rw [e] at h1
      cases s with
      | dt d => exact ⟨d, ρ, by show fzS ρ i ρ[i]? = _; rw [e]; rfl, h1⟩
      | ls d => exact ⟨_, _, by show fzS ρ i ρ[i]? = _; rw [e]; rfl, h1⟩
      | dk d => exact ⟨_, _, by show fzS ρ i ρ[i]? = _; rw [e]; rfl, h1⟩
      | _ => exact h1.elim
  | _ => exact h.elim
def fzK : List Rs → En → (List PyData → En → Prop) → Prop
  | [], ρ, k => k [] ρ
  | r :: rs, ρ, k => fz1 r ρ fun d ρ1 => fzK rs ρ1 fun ds ρ2 => k (d :: ds) ρ2
theorem fzK_of : ∀ {rs : List Rs} {ρ : En} {k : List PyData → En → Prop}, fzK rs ρ k → ∃ ds ρ2, fzA rs ρ = some (ds, ρ2) ∧ k ds ρ2
  | [], ρ, k, h => ⟨[], ρ, rfl, h⟩
  | r :: rs, ρ, k, h => by
    obtain ⟨d, ρ1, e, h⟩ := fz1_of h
    obtain ⟨ds, ρ2, e2, h⟩ := fzK_of h
    exact ⟨d :: ds, ρ2, by rw [fzA, e]; show (fzA rs ρ1).map _ = _; rw [e2]; rfl, h⟩
def dTup (t : DA G) : DT G := fun ρ g Q => t ρ g fun rs ρ1 g1 => fzK rs ρ1 fun ds ρ2 => leK ds.length 16777216 (Q (.dt (.tuple ds)) ρ2 g1)
def dLst (t : DA G) : DT G := fun ρ g Q => t ρ g fun rs ρ1 g1 => fzK rs ρ1 fun ds ρ2 => leK ds.length 16777216 (Q (.nl ds) ρ2 g1)
theorem sim_tup {ta : TA} {a : DA G} (ha : SimA Z ta a) : Sim Z (tTup ta) (dTup a) := fun f F ad ρ g σ H Q R q P hP => by
  refine ha f F ad ρ g σ H _ R q _ fun vs H1 q => ?_
  obtain ⟨F1, ad1, ρ1, g1, rs, e1, eg1, R1, v1, q⟩ := q
  obtain ⟨ds, ρ2, ef, q⟩ := fzK_of q
  obtain ⟨hl, q⟩ := leK_e q
  obtain ⟨F2, e2, R2, da⟩ := R1.hfzA v1 ef
  exact ⟨by rw [sizeLine_eq, da.length]; exact hl, fun p hp => hP _ _ ((R2.newT hp da q).mono (e1.trans e2) eg1)⟩
theorem sim_lst {ta : TA} {a : DA G} (ha : SimA Z ta a) : Sim Z (tLst ta) (dLst a) := fun f F ad ρ g σ H Q R q P hP => by
  refine ha f F ad ρ g σ H _ R q _ fun vs H1 q => ?_
  obtain ⟨F1, ad1, ρ1, g1, rs, e1, eg1, R1, v1, q⟩ := q
  obtain ⟨ds, ρ2, ef, q⟩ := fzK_of q
  obtain ⟨hl, q⟩ := leK_e q
  obtain ⟨F2, e2, R2, da⟩ := R1.hfzA v1 ef
  exact ⟨by rw [sizeLine_eq, da.length]; exact hl, fun p hp => hP _ _ ((R2.newL hp da q).mono (e1.trans e2) eg1)⟩
theorem e_tup {es : List Expr} {ta : TA} {a : DA G} {x1} {pos : Pos} (h : DAs X Z es ta a) : DE X Z (.Tuple es x1 pos) (tTup ta) (dTup a) := ⟨pe_tup h.pa, sim_tup h.sim⟩
theorem e_lst {es : List Expr} {ta : TA} {a : DA G} {pos : Pos} (h : DAs X Z es ta a) : DE X Z (.List es pos) (tLst ta) (dLst a) := ⟨pe_lst h.pa, sim_lst h.sim⟩
abbrev RA (G : Type) := List Rs → En → G → (Rs → En → G → Prop) → Prop
def SimC (Z : Zx K G) (r : List V → Hp → VK → Prop) (o : RA G) : Prop := ∀ f F ad ρ g σ H vs rs Q, Rel Z f F ad ρ g σ H → VRs Z f F ad ρ g σ H vs rs → o rs ρ g Q → ∀ P : VK, (∀ v H', Post Z f F g σ Q v H' → P v H') → r vs H P
def dCB (o : RA G) (a : DA G) : DT G := fun ρ g Q => a ρ g fun rs ρ1 g1 => o rs ρ1 g1 Q
theorem sim_cb {r : List V → Hp → VK → Prop} {o : RA G} {ta : TA} {a : DA G} (ho : SimC Z r o) (ha : SimA Z ta a) : Sim Z (tCB r ta) (dCB o a) := fun f F ad ρ g σ H Q R q P hP => by
  refine ha f F ad ρ g σ H _ R q _ fun vs H1 q => ?_
  obtain ⟨F1, ad1, ρ1, g1, rs, e1, eg1, R1, v1, q⟩ := q
  exact ho f F1 ad1 ρ1 g1 σ H1 vs rs Q R1 v1 q P fun v H' hp => hP v H' (hp.mono e1 eg1)
section
variable {x : Str} {p pos : Pos} {e : Expr} {es : List Expr} {ta : TA} {a : DA G} {id T : String} {r : List V → Hp → VK → Prop} {o : RA G}
theorem e_callB (hc : CallR X (.builtin id) r ∧ SimC Z r o) (ha : DAs X Z (e :: es) ta a) (hm : X.mg x = none) (hv : bootBuiltins x = some (.builtin id)) (hg : Gl X x := by rfl) (hn : x ≠ "__name__" := by decide) (hdb : (x == ("__debug__" : Str)) = false := by decide)
    (he : starEach (e :: es) X.env = (false, eval e X.env) :: starEach es X.env := by rfl) (hpl : (backTo pos (starEach es X.env)).any (·.1) = false := by rfl) : DE X Z (.Call (.Name x p) (e :: es) [] pos) (tCB r ta) (dCB o a) :=
  ⟨pe_callB hc.1 hg hm hv ha.pa hn hdb he hpl, sim_cb hc.2 ha.sim⟩
theorem e_callTy (hc : CallR X (.type T) r ∧ SimC Z r o) (ha : DAs X Z (e :: es) ta a) (hm : X.mg x = none) (hv : bootBuiltins x = some (.type T)) (hg : Gl X x := by rfl) (hn : x ≠ "__name__" := by decide) (hdb : (x == ("__debug__" : Str)) = false := by decide)
    (he : starEach (e :: es) X.env = (false, eval e X.env) :: starEach es X.env := by rfl) (hpl : (backTo pos (starEach es X.env)).any (·.1) = false := by rfl) : DE X Z (.Call (.Name x p) (e :: es) [] pos) (tCB r ta) (dCB o a) :=
  ⟨pe_callTy hc.1 hg hm hv ha.pa hn hdb he hpl, sim_cb hc.2 ha.sim⟩
end
section
variable {f : Fx} {F F' : Hp} {ad : Nat → Addr} {ρ : En} {g : G} {σ : St} {H H' : Hp}
theorem vrs1 {vs : List V} {r : Rs} (h : VRs Z f F ad ρ g σ H vs [r]) : ∃ v, vs = [v] ∧ VR Z f F ad ρ g σ H v r := by
  cases h with
  | cons h t =>
    cases t
    obtain ⟨r0, rfl, h⟩ := h
    exact ⟨_, rfl, h⟩
theorem vrs2 {vs : List V} {r s : Rs} (h : VRs Z f F ad ρ g σ H vs [r, s]) : ∃ v w, vs = [v, w] ∧ VR Z f F ad ρ g σ H v r ∧ VR Z f F ad ρ g σ H w s := by
  cases h with
  | cons h t =>
    cases t with
    | cons h' t =>
      cases t
      obtain ⟨r0, rfl, h⟩ := h
      obtain ⟨r1, rfl, h'⟩ := h'
      exact ⟨_, _, rfl, h, h'⟩
end
def lenD (ρ : En) (g : G) (Q : Rs → En → G → Prop) : Option PyData → Prop
  | some (.list ds) => Q (.dt (.int (ds.length : Nat))) ρ g
  | some (.tuple ds) => Q (.dt (.int (ds.length : Nat))) ρ g
  | some (.str z) => z.length ≤ sizeLine ∧ Q (.dt (.int (z.length : Nat))) ρ g
  | _ => False
def one (k : Rs → Prop) : List Rs → Prop
  | [r] => k r
  | _ => False
theorem one_of {k : Rs → Prop} {rs : List Rs} (h : one k rs) : ∃ r, rs = [r] ∧ k r := by
  unfold one at h
  split at h
  · exact ⟨_, rfl, h⟩
  · cases h
def two (k : Rs → Rs → Prop) : List Rs → Prop
  | [r, s] => k r s
  | _ => False
theorem two_of {k : Rs → Rs → Prop} {rs : List Rs} (h : two k rs) : ∃ r s, rs = [r, s] ∧ k r s := by
  unfold two at h
  split at h
  · exact ⟨_, _, rfl, h⟩
  · cases h
def oLen : RA G := fun rs ρ g Q => one (fun r => lenD ρ g Q (rd r ρ)) rs
def rLenX (K : PySem.W.Frag) : List V → Hp → VK → Prop := fun xs H Q => (∃ p ys, xs = [.ref p] ∧ (SqL K H p ys ∨ SqT K H p ys) ∧ Q (.int ys.length) H) ∨ ∃ z, xs = [.str z] ∧ z.length ≤ sizeLine ∧ Q (.int z.length) H
theorem k_len (hK : K = X.K := by rfl) : CallR X (.builtin "len") (rLenX K) ∧ SimC Z (rLenX K) (oLen (G := G)) := ⟨by rw [hK]; exact call_len_seq.or call_len_str, fun f F ad ρ g σ H vs rs Q R h q P hP => by
  obtain ⟨r, rfl, q⟩ := one_of q
  obtain ⟨v, rfl, h0⟩ := vrs1 h
  have q' : lenD ρ g Q (rd r ρ) := q
  unfold lenD at q'
  split at q'
  · rename_i ds e
    obtain ⟨a, vs, rfl, ha, da⟩ := R.items h0 e
    exact .inl ⟨a, vs, rfl, .inl (.inl (.inl ha)), hP _ _ (by rw [da.length]; exact R.dat (.int _) q')⟩
  · rename_i ds e
    obtain ⟨a, vs, rfl, ha, da⟩ := R.titems h0 e
    exact .inl ⟨a, vs, rfl, .inr (Evl.ex_t R.fin.sub ha), hP _ _ (by rw [da.length]; exact R.dat (.int _) q')⟩
  · rename_i z e
    exact .inr ⟨z, by rw [R.rStr h0 e], q'.1, hP _ _ (R.dat (.int _) q'.2)⟩
  · cases q'⟩
def oMax2 : RA G := fun rs ρ g Q => two (fun r s => ii (fun i j => Q (.dt (.int (if j > i then j else i))) ρ g) (rd r ρ) (rd s ρ)) rs
theorem k_max2 (hc : X.calm = true := by rfl) : CallR X (.builtin "max") (fun xs H Q => ∃ i j, xs = [.int i, .int j] ∧ Q (.int (if j > i then j else i)) H) ∧ SimC Z (fun xs H Q => ∃ i j, xs = [.int i, .int j] ∧ Q (.int (if j > i then j else i)) H) (oMax2 (G := G)) :=
  ⟨call_max2 hc, fun f F ad ρ g σ H vs rs Q R h q P hP => by
    obtain ⟨r, s, rfl, q⟩ := two_of q
    obtain ⟨v, w, rfl, h1, h2⟩ := vrs2 h
    obtain ⟨i, j, e1, e2, q⟩ := ii_of q
    exact ⟨i, j, by rw [R.rInt h1 e1, R.rInt h2 e2], hP _ _ (R.dat (.int _) q)⟩⟩
/-- list(x), tuple(x) -/
def seqD (k : List PyData → Prop) : Option PyData → Prop
  | some (.list ds) => k ds
  | some (.tuple ds) => k ds
  | _ => False
theorem seqD_of {k : List PyData → Prop} {a : Option PyData} (h : seqD k a) : ∃ ds, (a = some (.list ds) ∨ a = some (.tuple ds)) ∧ k ds := by
  unfold seqD at h
  split at h
  · exact ⟨_, .inl rfl, h⟩
  · exact ⟨_, .inr rfl, h⟩
  · cases h
theorem Rel.seq {f : Fx} {F : Hp} {ad : Nat → Addr} {ρ : En} {g : G} {σ : St} {H : Hp} (R : Rel Z f F ad ρ g σ H) {v : V} {r : Rs} {ds : List PyData} (h : VR Z f F ad ρ g σ H v r) (e : L3.rd r ρ = some (.list ds) ∨ L3.rd r ρ = some (.tuple ds)) :
    ∃ a vs, v = .ref a ∧ (SqL K H a vs ∨ SqT K H a vs) ∧ DaAll K F vs ds := by
  rcases e with e | e
  · obtain ⟨a, vs, rfl, ha, da⟩ := R.items h e
    exact ⟨a, vs, rfl, .inl (.inl (.inl ha)), da⟩
  · obtain ⟨a, vs, rfl, ha, da⟩ := R.titems h e
    exact ⟨a, vs, rfl, .inr (Evl.ex_t R.fin.sub ha), da⟩
def oTuple : RA G := fun rs ρ g Q => one (fun r => seqD (fun ds => Q (.dt (.tuple ds)) ρ g) (rd r ρ)) rs
def rTuple (K : PySem.W.Frag) : List V → Hp → VK → Prop := fun xs H Q => ∃ p ys, xs = [.ref p] ∧ ((SqL K H p ys ∧ ∀ l, H l = none → Q (.ref l) (upd H l (.tup ys))) ∨ (SqT K H p ys ∧ Q (.ref p) H))
theorem k_tuple (hK : K = X.K := by rfl) : CallR X (.type "tuple") (rTuple K) ∧ SimC Z (rTuple K) (oTuple (G := G)) := ⟨by rw [hK]; exact call_tuple_of, fun f F ad ρ g σ H vs rs Q R h q P hP => by
  obtain ⟨r, rfl, q⟩ := one_of q
  obtain ⟨v, rfl, h0⟩ := vrs1 h
  obtain ⟨ds, e, q⟩ := seqD_of q
  rcases e with e | e
  · obtain ⟨a, vs, rfl, ha, da⟩ := R.items h0 e
    exact ⟨a, vs, rfl, .inl ⟨.inl (.inl ha), fun l hl => hP _ _ (R.newT hl da q)⟩⟩
  · obtain ⟨a, vs, rfl, ha, da⟩ := R.titems h0 e
    exact ⟨a, vs, rfl, .inr ⟨Evl.ex_t R.fin.sub ha, hP _ _ (R.dat (.tup ha da) q)⟩⟩⟩
/-- sum, all, any of a list -/
def intsL : List PyData → Option (List Int)
  | [] => some []
  | .int i :: ds => (intsL ds).map (i :: ·)
  | _ :: _ => none
theorem intsL_of : ∀ {ds : List PyData} {ns : List Int}, intsL ds = some ns → ds = ns.map PyData.int
  | [], ns, e => by cases e; rfl
  | .int i :: ds, ns, e => by
    unfold intsL at e
    cases h : intsL ds with
    | none => rw [h] at e; cases e
    | some ms => rw [h] at e; cases e; rw [intsL_of h]; rfl
  | .none :: _, _, e => by cases e
  | .bool _ :: _, _, e => by cases e
  | .str _ :: _, _, e => by cases e
  | .list _ :: _, _, e => by cases e
  | .tuple _ :: _, _, e => by cases e
  | .dict _ :: _, _, e => by cases e
theorem intsL_map : ∀ ns : List Int, intsL (ns.map PyData.int) = some ns
  | [] => rfl
  | n :: ns => by rw [List.map_cons]; unfold intsL; rw [intsL_map ns]; rfl
def boolsL : List PyData → Option (List Bool)
  | [] => some []
  | .bool i :: ds => (boolsL ds).map (i :: ·)
  | _ :: _ => none
theorem boolsL_of : ∀ {ds : List PyData} {ns : List Bool}, boolsL ds = some ns → ds = ns.map PyData.bool
  | [], ns, e => by cases e; rfl
  | .bool i :: ds, ns, e => by
    unfold boolsL at e
    cases h : boolsL ds with
    | none => rw [h] at e; cases e
    | some ms => rw [h] at e; cases e; rw [boolsL_of h]; rfl
  | .none :: _, _, e => by cases e
  | .int _ :: _, _, e => by cases e
  | .str _ :: _, _, e => by cases e
  | .list _ :: _, _, e => by cases e
  | .tuple _ :: _, _, e => by cases e
  | .dict _ :: _, _, e => by cases e
theorem boolsL_map : ∀ ns : List Bool, boolsL (ns.map PyData.bool) = some ns
  | [] => rfl
  | n :: ns => by rw [List.map_cons]; unfold boolsL; rw [boolsL_map ns]; rfl
theorem daAll_bools {K : PySem.W.Frag} {H : Hp} : ∀ {ns : List Bool} {vs : List V}, DaAll K H vs (ns.map PyData.bool) → vs = ns.map V.bl
  | [], _, .nil => rfl
  | n :: ns, _, .cons h r => by
    cases h
    rw [daAll_bools r]; rfl
def lsD (k : List PyData → Prop) : Option PyData → Prop
  | some (.list ds) => k ds
  | _ => False
theorem lsD_of {k : List PyData → Prop} {a : Option PyData} (h : lsD k a) : ∃ ds, a = some (.list ds) ∧ k ds := by
  unfold lsD at h
  split at h
  · exact ⟨_, rfl, h⟩
  · cases h
def oAll : RA G := fun rs ρ g Q => one (fun r => lsD (fun ds => opK (boolsL ds) fun bs => Q (.dt (.bool (bs.all id))) ρ g) (rd r ρ)) rs
theorem k_all (hc : X.calm = true := by rfl) (hK : K = X.K := by rfl) : CallR X (.builtin "all") (rAll K) ∧ SimC Z (rAll K) (oAll (G := G)) := ⟨by rw [hK]; exact cr_all hc, fun f F ad ρ g σ H vs rs Q R h q P hP => by
  obtain ⟨r, rfl, q⟩ := one_of q
  obtain ⟨v, rfl, h0⟩ := vrs1 h
  obtain ⟨ds, e, q⟩ := lsD_of q
  obtain ⟨ns, ei, q⟩ := opK_e q
  obtain ⟨a, vs, rfl, ha, da⟩ := R.items h0 e
  rw [boolsL_of ei] at da
  have ev := daAll_bools da
  subst ev
  exact ⟨a, ns, rfl, .inl (.inl ha), hP _ _ (R.dat (.bl _) q)⟩⟩
end L3
end
section
namespace L2
open PySem PySem.Spec PyProof.Rows
section
variable {prog : Program} {w : World} {A : Around} {E : Value → Shared → Prop} {s : Shared}
theorem draw_lst {it t : Addr} {items : Array Value} (hne : t ≠ it) : ∀ (n i : Nat) (s : Shared) (Q : List Value → Shared → Prop), s.heap.IsListIter it t i → s.heap.IsList t items → i + n ≤ items.size →
    (∀ h', h'.IsListIter it t (i + n) → Heap.SameBut it s.heap h' → Q ((items.toList.drop i).take n) { s with heap := h' }) → wpAny (model prog w) A (draw (.ref it) n) Q E s
  | 0, i, s, Q, hit, _, _, hQ => by
    show wpAny _ _ (pure []) Q E s
    exact wpAny_pure (by simpa using hQ s.heap hit (Heap.SameBut.refl ..))
  | n + 1, i, s, Q, hit, ht, hle, hQ => by
    have hlt : i < items.size := by omega
    show wpAny _ _ (pyNext (.ref it) >>= _) Q E s
    refine wpAny_bind (wpAny_pyNext_list_item hit ht (x := items[i]) (by simp [hlt]) fun h1 hit1 hs1 => ?_)
    refine wpAny_bind (wpAny_holding (draw_lst hne n (i + 1) _ _ hit1 (ht.extBut hs1.extBut hne) (by omega) fun h2 hit2 hs2 => wpAny_pure ?_))
    have hd : items.toList.drop i = items[i] :: items.toList.drop (i + 1) := by simp [List.drop_eq_getElem_cons, hlt]
    have := hQ h2 (by rw [show i + (n + 1) = i + 1 + n by omega]; exact hit2) (hs1.trans hs2)
    rw [hd, List.take_succ_cons] at this
    exact this
theorem unpackItems_lst {t : Addr} {items : Array Value} {Q : List Value → Shared → Prop} (hh : A.handled = none) (ht : s.heap.IsList t items)
    (hQ : ∀ h', Heap.ExtBut s.heap.objs.size s.heap h' → Q items.toList { s with heap := h' }) : wpAny (model prog w) A (unpackItems (.ref t) items.size none) Q E s := by
  have hlt : t ≠ s.heap.objs.size := by obtain ⟨o, ho, _⟩ := ht; exact Nat.ne_of_lt (Heap.lt_size ho)
  unfold unpackItems
  refine wpAny_bind ?_
  · unfold notIterableAtAll
    refine wpAny_bind (wpAny_specialOf ht.typeIs slot_list_iter.lookup ?_)
    refine wpAny_pure ?_
    simp only [Bool.false_eq_true, if_false]
    refine wpAny_bind (wpAny_holding (wpAny_pyIter_list ht ?_))
    refine wpAny_bind (wpAny_holding (draw_lst hlt items.size 0 _ _ ⟨_, Heap.get?_push_size _ rfl, rfl, rfl⟩ (ht.push _) (by omega) fun h1 hit1 hs1 => ?_))
    have hall : List.take items.size (List.drop 0 items.toList) = items.toList := by
      rw [List.drop_zero]; exact List.take_of_length_le (by simp)
    rw [hall]
    rw [if_neg (by simp)]
    have ht1 : h1.IsList t items := (ht.push _).extBut hs1.extBut hlt
    refine wpAny_bind (wpAny_holding (wpAny_pyNext_list_end hh hit1 ht1 (by simp) fun h2 he2 => ?_))
    simp only [Option.isSome_none, Bool.false_eq_true, if_false]
    refine wpAny_pure (hQ h2 fun b o hb e => he2 b o hb (hs1.extBut b o hb (Heap.get?_push_of_some _ e)))
theorem assign_Tuple_lst {env : Env} {elts : List Expr} {x1} {pos : Pos} {t : Addr} {items : Array Value} {Q : Unit → Shared → Prop} (hh : A.handled = none) (ht : s.heap.IsList t items)
    (hn : (assignEach elts env).length = items.size) (hstar : (assignEach elts env).findIdx? (·.1) = none)
    (h : ∀ h', Heap.ExtBut s.heap.objs.size s.heap h' → wpAny (model prog w) A (assignInOrder ((assignEach elts env).map (·.2)) items.toList) Q E { s with heap := h' }) :
    wpAny (model prog w) A (assign (.Tuple elts x1 pos) env (.ref t)) Q E s := by
  rw [assign_Tuple]
  refine wpAny_bind (wpAny_standAt ?_)
  unfold unpack
  rw [hn, hstar]
  exact wpAny_bind (wpAny_holding (unpackItems_lst hh ht h))
end
/-- (a, b, ..) = a list or a tuple of that length -/
def gSeq (K : PySem.W.Frag) (n : Nat) (t : TGs) : TG := fun v σ H Q => ∃ a xs, v = .ref a ∧ (SqL K H a xs ∨ SqT K H a xs) ∧ xs.length = n ∧ t xs σ H Q
theorem pg_seq {X : Cx} {es : List Expr} {k : Nat} {t : TGs} {n : Nat} {pos : Pos} (hc : X.calm = true) (h : PGs X es t)
    (hn : (assignEach es X.env).length = n := by rfl) (hst : (assignEach es X.env).findIdx? (·.1) = none := by rfl) : PG X (.Tuple es k pos) (gSeq X.K n t) := by
  refine ⟨fun pins s σ H v u Q I r hw => ?_⟩
  obtain ⟨a, xs, e1, hq, hl, hw⟩ := hw
  rcases hq with hq | hq
  · subst e1
    cases r
    obtain ⟨its, rv, ht, hz⟩ := I.list hq
    refine assign_Tuple_lst (I.ok.hd hc) ht.isList (by simp [hn, ← hl, rv.length]) hst fun h' hx => ?_
    have I1 : Inv X pins σ H { s with heap := h' } := I.kept (t' := s.toks) fun b o e => hx b o (Nat.ne_of_lt (Heap.lt_size e)) e
    exact h.run pins _ σ H xs _ Q I1 (by simpa using rv) hw
  · exact (pg_tup hc h hn hst).run pins s σ H v u Q I r ⟨a, xs, e1, hq, hl, hw⟩
def SqB (K : PySem.W.Frag) (H : Hp) : Bool → Addr → List V → Prop
  | true, a, xs => SqT K H a xs
  | false, a, xs => SqL K H a xs
def IsB (h : Heap) : Bool → Addr → Array Value → Prop
  | true, a, xs => h.IsTuple a xs
  | false, a, xs => h.IsList a xs
def IterB (h : Heap) : Bool → Addr → Addr → Nat → Prop
  | true, it, a, i => h.IsTupleIter it a i
  | false, it, a, i => h.IsListIter it a i
def itO : Bool → Addr → Obj
  | true, a => { cls := .type "tuple_iterator", data := .fields #[.ref a, .int 0 0] }
  | false, a => { cls := .type "list_iterator", data := .fields #[.ref a, .int 0 0] }
theorem drawsB {prog : Program} {w : World} {A : Around} (hh : A.handled = none) (b : Bool) (it a : Addr) (hne : a ≠ it) (items : Array Value) :
    Draws prog w A it [it, a] items.size (fun i v => items[i]? = some v) (fun i h => IterB h b it a i ∧ IsB h b a items) := by
  cases b with
  | true => exact Draws.tuple hh it a hne items
  | false => exact Draws.list hh it a hne items
theorem beginsB (b : Bool) (a : Addr) (items : Array Value) : Begins (.ref a) (itO b a) fun h => IsB h b a items := by
  cases b with
  | true => exact begins_tuple a items
  | false => exact begins_list a items
theorem IterB.at' {h h' : Heap} {b : Bool} {it a : Addr} {i : Nat} (x : IterB h b it a i) (k : ∀ o, h.get? it = some o → h'.get? it = some o) : IterB h' b it a i := by
  cases b with
  | true => exact Heap.IsTupleIter.at (show h.IsTupleIter it a i from x) k
  | false => exact Heap.IsListIter.at (show h.IsListIter it a i from x) k
theorem IterB.obj {h : Heap} {b : Bool} {it a : Addr} {i : Nat} (x : IterB h b it a i) : ∃ o, h.get? it = some o ∧ ∀ v, o.data ≠ .cell v := by
  cases b with
  | true => obtain ⟨o, e, _, d⟩ := x; exact ⟨o, e, fun v q => by rw [d] at q; cases q⟩
  | false => obtain ⟨o, e, _, d⟩ := x; exact ⟨o, e, fun v q => by rw [d] at q; cases q⟩
theorem IterB.new {h : Heap} {b : Bool} {it a : Addr} (e : h.get? it = some (itO b a)) : IterB h b it a 0 := by
  cases b with
  | true => exact ⟨_, e, rfl, rfl⟩
  | false => exact ⟨_, e, rfl, rfl⟩
theorem IsB.keep {h h' : Heap} {b : Bool} {a : Addr} {xs : Array Value} (x : IsB h b a xs) (k : ∀ o, h.get? a = some o → h'.get? a = some o) : IsB h' b a xs := by
  cases b with
  | true => obtain ⟨o, e, r⟩ := x; exact ⟨o, k o e, r⟩
  | false => obtain ⟨o, e, r⟩ := x; exact ⟨o, k o e, r⟩
section
variable {X : Cx} {pins : List (Addr × Obj)} {σ : St} {H : Hp} {s : Shared}
theorem Inv.seqB (I : Inv X pins σ H s) {b : Bool} {a : Addr} {xs : List V} (h : SqB X.K H b a xs) : ∃ its : List Value, Vals xs its ∧ IsB s.heap b a its.toArray ∧ a < s.heap.objs.size := by
  cases b with
  | true =>
    obtain ⟨its, rv, p, _⟩ := I.tuple h
    exact ⟨its, rv, p, p.lt⟩
  | false =>
    obtain ⟨its, rv, p, _⟩ := I.list h
    exact ⟨its, rv, p.isList, p.lt⟩
theorem Inv.seqB_inj (I : Inv X pins σ H s) {b : Bool} {a : Addr} {xs ys : List V} (h : SqB X.K H b a xs) (h' : SqB X.K H b a ys) : xs = ys := by
  cases b with
  | true => exact I.tuple_inj h h'
  | false => exact I.list_inj h h'
end
theorem fp_of {X : Cx} {pins : List (Addr × Obj)} {H : Hp} {L : List Addr} {s : Shared} {σ : St} (I : Inv X pins σ H s) (h : ∀ c ∈ L, s.heap.objs.size ≤ c) : ∀ c ∈ L, FpOk X pins H c :=
  fun c hc => I.fpOk (h c hc) (I.hok.fresh (h c hc))
theorem lt_one {a N : Nat} (h : a < N) : ∀ b ∈ [a], b < N := fun b hb => by
  have z : b = a := by simpa using hb
  rw [z]; exact h
def IteB (K : PySem.W.Frag) (b : Bool) (a : Addr) : It :=
  ⟨fun i H => ∃ (xs : List V) (x : V), SqB K H b a xs ∧ xs[i]? = some x, fun i H v H' => ∃ T x, v = .ref T ∧ H T = none ∧ H' = upd H T (.tup [.int (i : Nat), x]) ∧ ∀ xs, SqB K H b a xs → xs[i]? = some x, fun i H => ∃ xs : List V, SqB K H b a xs ∧ xs.length = i⟩
theorem turn_enumB {P : Program} {w : World} {K : PySem.W.Frag} {elts : List Expr} {kk : Nat} {tpos : Pos} (b : Bool) (a e it : Addr) :
    Turn P w K (.Tuple elts kk tpos) (IteB K b a) [e, it] e (fun i h => (∃ old, IsEnum h e it ((i : Nat) : Int) old) ∧ IterB h b it a i ∧ e ≠ it ∧ a ≠ it ∧ a ≠ e) where
  mem := by simp
  obj := fun i h st c hc => by
    obtain ⟨⟨old, he⟩, hi, _⟩ := st
    have e' : c = e ∨ c = it := by simpa using hc
    rcases e' with z | z
    · rw [z]; exact ⟨_, he, fun v q => nomatch q⟩
    · rw [z]; exact hi.obj
  keep := fun i h h' st k => let ⟨⟨old, he⟩, hi, hne⟩ := st; ⟨⟨old, k e (by simp) _ he⟩, hi.at' fun o q => k it (by simp) o q, hne⟩
  item := by
    intro X hP hw hK hc i pins s σ H E I hf st hg
    subst hP hw hK
    obtain ⟨⟨old, he⟩, hit, hne, hai, hae⟩ := st
    obtain ⟨xs, x, hq, hx⟩ := hg
    obtain ⟨its, rv, p, hal⟩ := I.seqB hq
    obtain ⟨u, hu, ru⟩ := rv.get hx
    have hel : e < s.heap.objs.size := Heap.lt_size he
    have hil : it < s.heap.objs.size := by obtain ⟨_, q, _⟩ := hit.obj; exact Heap.lt_size q
    have hlt : i < its.toArray.size := by rw [List.size_toArray]; exact (List.getElem?_eq_some_iff.mp hu).1
    refine wpAny_pyNext_enum_itemD (drawsB (show X.A.in1.handled = none from I.ok.hd hc) b it a hai its.toArray) he ⟨hit, p⟩ hlt hne (by simp [hne, Ne.symm hae]) fun u' h' tk hu' ho hst' hT hsz hk => ?_
    have eu : u' = u := by
      have z : its[i]? = some u' := by simpa using hu'
      rw [hu] at z
      exact (Option.some.inj z).symm
    subst eu
    refine ⟨_, rfl, wpAny_letOwnedTupleGo_enum (s := { s with heap := h', toks := tk + 1 }) ho fun h'' he' sb => ?_⟩
    have hT2 : h''.get? s.heap.objs.size = some { cls := .type "tuple", data := .seq #[.int i tk, u'] } := (sb.2 _ (Nat.ne_of_gt hel)).trans hT
    have new : ObjOk X.prog X.w (upd H s.heap.objs.size (.tup [.int (i : Nat), x])) h'' s.heap.objs.size (.tup [.int (i : Nat), x]) :=
      ⟨by show 2 ≤ sizeLine; decide, [.int i tk, u'], .cons ⟨_, rfl⟩ (.cons ru .nil), ⟨_, hT2, rfl, _, rfl⟩⟩
    have I1 : Inv X pins σ (upd H s.heap.objs.size (.tup [.int (i : Nat), x])) { s with heap := h'', toks := tk + 1 } :=
      I.turnedNew (ch := [e, it]) (fun c ob hb q => (sb.2 c (fun z => hb (by simp [z]))).trans (hk c ob (fun z => hb (by simp [z])) (fun z => hb (by simp [z])) q)) hf (Nat.le_refl _) new
    refine ⟨.ref s.heap.objs.size, _, I1, rfl, ⟨_, x, rfl, I.hok.fresh (Nat.le_refl _), rfl, fun ys hy => by rw [I.seqB_inj hy hq]; exact hx⟩, ⟨⟨u', ?_⟩, hst'.1.at' fun o q => (sb.2 it (Ne.symm hne)).trans q, hne, hai, hae⟩, fun c hb => ?_⟩
    · have e1 : ((i + 1 : Nat) : Int) = (i : Int) + 1 := by omega
      rw [e1]; exact he'
    · have hb' : c < s.heap.objs.size := by
        have e' : c = e ∨ c = it := by simpa using hb
        rcases e' with z | z
        · rw [z]; exact hel
        · rw [z]; exact hil
      rw [upd_ne (Nat.ne_of_lt hb')]
      exact (hf c hb).1
  done := by
    intro X hP hw hK hc i pins s σ H E I hf st hg
    subst hP hw hK
    obtain ⟨⟨old, he⟩, hit, hne, hai, hae⟩ := st
    obtain ⟨xs, hq, hx⟩ := hg
    obtain ⟨its, rv, p, hal⟩ := I.seqB hq
    obtain ⟨f0, f1, f2, f3, f4, f5⟩ := hf it (by simp)
    have hl : i = its.toArray.size := by rw [List.size_toArray, ← rv.length]; exact hx.symm
    subst hl
    exact wpAny_pyNext_enum_endD (drawsB (show X.A.in1.handled = none from I.ok.hd hc) b it a hai its.toArray) he ⟨hit, p⟩ fun h' eb => ⟨rfl, I.turned (t' := s.toks) (fun c o hb q => eb c o hb q) f0 f1 f3 f4 f5⟩
  self := fun A i s Q E st h => let ⟨⟨_, he⟩, _⟩ := st; wpAny_pyIter_enum he h
theorem meets_enumerate_newB1 {v : Value} {o : Obj} {H : Heap → Prop} (B : Begins v o H) :
    Meets (Builtin.«enumerate.__new__» ⟨[.type "enumerate", v], []⟩) (fun _ R s => H s.heap ∧
      R (.ok (.ret (.ref (s.heap.push o).objs.size))) { s with heap := (s.heap.push o).push { cls := .type "enumerate", data := .fields #[.none, .bool false, .ref s.heap.objs.size, rawInt 0, .none, .none] } }) :=
  .of_wp fun prog w A R s h => by
    obtain ⟨hp, g, d, tk, os⟩ := s; obtain ⟨h1, h⟩ := h
    have hsub := sub_enumerate
    have q1 : ∀ {A' : Around} {E : Value → Shared → Prop} {Q : Value → Shared → Prop}, Q (.ref hp.objs.size) ⟨hp.push o, g, d, tk, os⟩ → wpAny (model prog w) A' (pyIter v) Q E ⟨hp, g, d, tk, os⟩ :=
      fun q => B.iter prog w _ _ ⟨hp, g, d, tk, os⟩ _ h1 q
    wp_walk using q1
    refine wpAny_stack_any fun st => wpAny_pure ?_
    split
    · rename_i c _ _ _ _ _
      cases (c == Value.type "enumerate")
      · wp_walk using q1
        exact ⟨_, rfl, h⟩
      · wp_walk using q1
        exact ⟨_, rfl, h⟩
    · wp_walk using q1
      exact ⟨_, rfl, h⟩
theorem enum_begins1 {prog : Program} {w : World} {A : Around} {E : Value → Shared → Prop} {s : Shared} {v : Value} {o : Obj} {H : Heap → Prop} {Q : Value → Shared → Prop} (B : Begins v o H) (h1 : H s.heap)
    (h : ∀ h', IsEnum h' (s.heap.objs.size + 1) s.heap.objs.size 0 .none → h'.get? s.heap.objs.size = some o → h'.objs.size = s.heap.objs.size + 2 →
      (∀ b o, s.heap.get? b = some o → h'.get? b = some o) → Q (.ref (s.heap.objs.size + 1)) { s with heap := h' }) :
    wpAny (model prog w) A (call (.type "enumerate") [v]) Q E s := by
  refine callType_new F.called_enumerate (by decide) (F.typeCall_enumerate_1 _) (F.newCall_enumerate_1 _) (fun obj => F.args_object_init_2 obj _) F.entry_enumerate_new
    (meets_enumerate_newB1 B) ⟨h1, ?_⟩
  have hz : (s.heap.push o).objs.size = s.heap.objs.size + 1 := Heap.size_push ..
  show _ ∧ _
  rw [hz]
  have he : IsEnum ((s.heap.push o).push { cls := .type "enumerate", data := .fields #[.none, .bool false, .ref s.heap.objs.size, rawInt 0, .none, .none] }) (s.heap.objs.size + 1) s.heap.objs.size 0 .none := by
    have := Heap.get?_push_size (s.heap.push o) (o := { cls := .type "enumerate", data := .fields #[.none, .bool false, .ref s.heap.objs.size, rawInt 0, .none, .none] }) rfl
    rw [hz] at this; exact this
  refine ⟨⟨_, he, rfl⟩, h _ he (Heap.get?_push_of_some _ (Heap.get?_push_size _ B.free)) (by rw [Heap.size_push, hz]) fun b o x => Heap.get?_push_of_some _ (Heap.get?_push_of_some _ x)⟩
def iEnumB (K : PySem.W.Frag) (ta : TA) : TI := fun σ H R => ta σ H fun vs H1 => ∃ b a xs, vs = [.ref a] ∧ SqB K H1 b a xs ∧ R (IteB K b a) H1
theorem pi_enumB {X : Cx} {e : Expr} {ta : TA} {p pos tpos : Pos} {elts : List Expr} {kk : Nat} (hg : Gl X "enumerate") (hm : X.mg "enumerate" = none) (ha : PA X [e] ta) (hs : starEach [e] X.env = [(false, eval e X.env)] := by rfl) :
    PI X (.Tuple elts kk tpos) (.Call (.Name "enumerate" p) [e] [] pos) (iEnumB X.K ta) := by
  refine ⟨fun pins s σ H R I h => ?_⟩
  refine Call_ (ld_blt I hg hm boot_enumerate (PyProof.Rows.callWith_type1 (thn (ha.run pos pins s σ H _ I h) fun us s1 ⟨vs, H1, I1, r1, q1⟩ => ?_) hs rfl))
  obtain ⟨b, a, xs, ex, hq, q⟩ := q1
  subst ex
  cases r1 with
  | cons r rr =>
    cases rr
    cases r
    obtain ⟨its, rv, p', hal⟩ := I1.seqB hq
    refine enum_begins1 (beginsB b a its.toArray) p' fun h' he hit hsz hk => wpAny_pyIter_enum he ?_
    have I2 : Inv X pins σ H1 { s1 with heap := h' } := I1.kept (t' := s1.toks) hk
    have n1 : a ≠ s1.heap.objs.size := Nat.ne_of_lt hal
    have n2 : a ≠ s1.heap.objs.size + 1 := Nat.ne_of_lt (Nat.lt_succ_of_lt hal)
    refine ⟨s1.heap.objs.size + 1, [s1.heap.objs.size + 1, s1.heap.objs.size], _, _, H1, rfl, I2, turn_enumB b a (s1.heap.objs.size + 1) s1.heap.objs.size, ⟨⟨.none, he⟩, .new hit, Nat.succ_ne_self _, n1, n2⟩, fp_of I1 fun c hc => ?_, q⟩
    have e' : c = s1.heap.objs.size + 1 ∨ c = s1.heap.objs.size := by simpa using hc
    rcases e' with z | z
    · rw [z]; exact Nat.le_add_right _ _
    · rw [z]; exact Nat.le_refl _
def ItzB (K : PySem.W.Frag) (b1 : Bool) (a1 : Addr) (b2 : Bool) (a2 : Addr) : It :=
  ⟨fun i H => ∃ (xs ys : List V) (x y : V), SqB K H b1 a1 xs ∧ SqB K H b2 a2 ys ∧ xs[i]? = some x ∧ ys[i]? = some y,
    fun i H v H' => ∃ T x y, v = .ref T ∧ H T = none ∧ H' = upd H T (.tup [x, y]) ∧ (∀ xs, SqB K H b1 a1 xs → xs[i]? = some x) ∧ ∀ ys, SqB K H b2 a2 ys → ys[i]? = some y,
    fun i H => ∃ xs ys : List V, SqB K H b1 a1 xs ∧ SqB K H b2 a2 ys ∧ i = min xs.length ys.length⟩
theorem turn_zipB {P : Program} {w : World} {K : PySem.W.Frag} {elts : List Expr} {kk : Nat} {tpos : Pos} {b1 b2 : Bool} {a1 a2 z TI TO i1 i2 : Addr} (D : ZipSep2 z TI TO i1 i2 [i1, a1] [i2, a2]) :
    Turn P w K (.Tuple elts kk tpos) (ItzB K b1 a1 b2 a2) [z, TI, TO, i1, i2] z (fun i h => IsZip h z TI TO .none ∧ IsTupOf2 h TI (.ref i1) (.ref i2) ∧ (∃ x y, IsTupOf2 h TO x y) ∧ IterB h b1 i1 a1 i ∧ IterB h b2 i2 a2 i ∧ a1 ≠ i1 ∧ a2 ≠ i2) where
  mem := by simp
  obj := fun i h st c hc => by
    obtain ⟨hz, hTI, ⟨x, y, hTO⟩, h1, h2, _⟩ := st
    have e' : c = z ∨ c = TI ∨ c = TO ∨ c = i1 ∨ c = i2 := by simpa using hc
    rcases e' with q | q | q | q | q
    · rw [q]; exact ⟨_, hz, fun v q => nomatch q⟩
    · rw [q]; exact ⟨_, hTI, fun v q => nomatch q⟩
    · rw [q]; exact ⟨_, hTO, fun v q => nomatch q⟩
    · rw [q]; exact h1.obj
    · rw [q]; exact h2.obj
  keep := fun i h h' st k => by
    obtain ⟨hz, hTI, ⟨x, y, hTO⟩, h1, h2, ne⟩ := st
    exact ⟨k z (by simp) _ hz, k TI (by simp) _ hTI, ⟨x, y, k TO (by simp) _ hTO⟩, h1.at' fun o q => k i1 (by simp) o q, h2.at' fun o q => k i2 (by simp) o q, ne⟩
  item := by
    intro X hP hw hK hc i pins s σ H E I hf st hg
    subst hP hw hK
    obtain ⟨hz, hTI, ⟨x0, y0, hTO⟩, h1, h2, n1, n2⟩ := st
    obtain ⟨xs, ys, x, y, hqx, hqy, hx, hy⟩ := hg
    obtain ⟨its, rv, p, _⟩ := I.seqB hqx
    obtain ⟨its2, rv2, p2, _⟩ := I.seqB hqy
    obtain ⟨u, hu, ru⟩ := rv.get hx
    obtain ⟨u2, hu2, ru2⟩ := rv2.get hy
    have hzl : z < s.heap.objs.size := Heap.lt_size hz
    have l1 : i < its.toArray.size := by rw [List.size_toArray]; exact (List.getElem?_eq_some_iff.mp hu).1
    have l2 : i < its2.toArray.size := by rw [List.size_toArray]; exact (List.getElem?_eq_some_iff.mp hu2).1
    refine wpAny_pyNext_zipD2_item D (drawsB (show X.A.in1.handled = none from I.ok.hd hc) b1 i1 a1 n1 its.toArray) (drawsB (show X.A.in1.handled = none from I.ok.hd hc) b2 i2 a2 n2 its2.toArray) hz hTI hTO ⟨h1, p⟩ ⟨h2, p2⟩ l1 l2 fun v1 v2 h' tk e1 e2 z' TO' h1' h2' hT hsz hk => ?_
    have q1 : v1 = u := by
      have q : its[i]? = some v1 := by simpa using e1
      rw [hu] at q; exact (Option.some.inj q).symm
    have q2 : v2 = u2 := by
      have q : its2[i]? = some v2 := by simpa using e2
      rw [hu2] at q; exact (Option.some.inj q).symm
    subst q1 q2
    refine ⟨_, rfl, wpAny_letOwnedTupleGo_zip (s := { s with heap := h', toks := tk }) z' fun h'' z'' sb => ?_⟩
    have hT2 : h''.get? s.heap.objs.size = some { cls := .type "tuple", data := .seq #[v1, v2] } := (sb.2 _ (Nat.ne_of_gt hzl)).trans hT
    have new : ObjOk X.prog X.w (upd H s.heap.objs.size (.tup [x, y])) h'' s.heap.objs.size (.tup [x, y]) :=
      ⟨by show 2 ≤ sizeLine; decide, [v1, v2], .cons ru (.cons ru2 .nil), ⟨_, hT2, rfl, _, rfl⟩⟩
    have I1 : Inv X pins σ (upd H s.heap.objs.size (.tup [x, y])) { s with heap := h'', toks := tk } :=
      I.turnedNew (t' := tk) (ch := [z, TI, TO, i1, i2]) (fun c o hb q => (sb.2 c (fun q' => hb (by simp [q']))).trans (hk c o (fun q' => hb (by simp [q'])) (fun q' => hb (by simp [q'])) (fun q' => hb (by simp [q'])) (fun q' => hb (by simp [q'])) q)) hf (Nat.le_refl _) new
    refine ⟨.ref s.heap.objs.size, _, I1, rfl, ⟨_, x, y, rfl, I.hok.fresh (Nat.le_refl _), rfl, fun l hl => by rw [I.seqB_inj hl hqx]; exact hx, fun l hl => by rw [I.seqB_inj hl hqy]; exact hy⟩, ⟨z'', ?_, ⟨v1, v2, ?_⟩, ?_, ?_, n1, n2⟩, fun c hcm => ?_⟩
    · exact (sb.2 _ D.TIz).trans (hk _ _ D.TIz D.TITO D.TIi1 D.TIi2 hTI)
    · exact (sb.2 _ D.TOz).trans TO'
    · exact h1'.1.at' fun o q => (sb.2 _ (Ne.symm D.zi1)).trans q
    · exact h2'.1.at' fun o q => (sb.2 _ (Ne.symm D.zi2)).trans q
    · have hlt : c < s.heap.objs.size := by
        have e' : c = z ∨ c = TI ∨ c = TO ∨ c = i1 ∨ c = i2 := by simpa using hcm
        rcases e' with q | q | q | q | q
        · rw [q]; exact hzl
        · rw [q]; exact Heap.lt_size hTI
        · rw [q]; exact Heap.lt_size hTO
        · rw [q]; obtain ⟨_, e1, _⟩ := h1.obj; exact Heap.lt_size e1
        · rw [q]; obtain ⟨_, e2, _⟩ := h2.obj; exact Heap.lt_size e2
      rw [upd_ne (Nat.ne_of_lt hlt)]
      exact (hf c hcm).1
  done := by
    intro X hP hw hK hc i pins s σ H E I hf st hg
    subst hP hw hK
    obtain ⟨hz, hTI, ⟨x0, y0, hTO⟩, h1, h2, n1, n2⟩ := st
    obtain ⟨xs, ys, hqx, hqy, hend⟩ := hg
    obtain ⟨its, rv, p, _⟩ := I.seqB hqx
    obtain ⟨its2, rv2, p2, _⟩ := I.seqB hqy
    have l1 : xs.length = its.toArray.size := by rw [List.size_toArray, rv.length]
    have l2 : ys.length = its2.toArray.size := by rw [List.size_toArray, rv2.length]
    exact wpAny_pyNext_zipD2_end D (drawsB (show X.A.in1.handled = none from I.ok.hd hc) b1 i1 a1 n1 its.toArray) (drawsB (show X.A.in1.handled = none from I.ok.hd hc) b2 i2 a2 n2 its2.toArray) hz hTI hTO ⟨h1, p⟩ ⟨h2, p2⟩ (by omega) (by omega) (by omega) fun h' tk hk => ⟨rfl, I.turnedL (t' := tk) (ch := [z, TI, TO, i1, i2]) (fun c o hb q =>
      hk c o (fun q' => hb (by simp [q'])) (fun q' => hb (by simp [q'])) (fun q' => hb (by simp [q'])) (fun q' => hb (by simp [q'])) q) hf⟩
  self := fun A i s Q E st h => wpAny_pyIter_zip st.1 h
def iZipB (K : PySem.W.Frag) (ta : TA) : TI := fun σ H R => ta σ H fun vs H1 => ∃ b1 b2 a1 a2 xs ys, vs = [.ref a1, .ref a2] ∧ SqB K H1 b1 a1 xs ∧ SqB K H1 b2 a2 ys ∧ R (ItzB K b1 a1 b2 a2) H1
theorem pi_zipB {X : Cx} {e e2 : Expr} {ta : TA} {p pos tpos : Pos} {elts : List Expr} {kk : Nat} (hg : Gl X "zip") (hm : X.mg "zip" = none) (ha : PA X [e, e2] ta)
    (hs : starEach [e, e2] X.env = (false, eval e X.env) :: starEach [e2] X.env := by rfl) (hpl : (backTo pos (starEach [e2] X.env)).any (·.1) = false := by rfl) :
    PI X (.Tuple elts kk tpos) (.Call (.Name "zip" p) [e, e2] [] pos) (iZipB X.K ta) := by
  refine ⟨fun pins s σ H R I h => ?_⟩
  refine Call_ (ld_blt I hg hm PyProof.Rows.boot_zip (PyProof.Rows.callWith_type1 (thn (ha.run pos pins s σ H _ I h) fun us s1 ⟨vs, H1, I1, r1, q1⟩ => ?_) hs hpl))
  obtain ⟨b1, b2, a1, a2, xs, ys, ex, hqx, hqy, q⟩ := q1
  subst ex
  cases r1 with
  | cons r rr =>
    cases rr with
    | cons r' rr =>
      cases rr
      cases r
      cases r'
      obtain ⟨its, rv, p1, la⟩ := I1.seqB hqx
      obtain ⟨its2, rv2, p2, lb⟩ := I1.seqB hqy
      refine zip_begins2 (beginsB b1 a1 its.toArray) (beginsB b2 a2 its2.toArray) p1 p2 fun h' hz hTI hTO h1 h2 hsz hk => wpAny_pyIter_zip hz ?_
      have I2 : Inv X pins σ H1 { s1 with heap := h' } := I1.kept (t' := s1.toks) hk
      refine ⟨s1.heap.objs.size + 4, [s1.heap.objs.size + 4, s1.heap.objs.size + 2, s1.heap.objs.size + 3, s1.heap.objs.size, s1.heap.objs.size + 1], _, _, H1, rfl, I2, turn_zipB (zip_sep2 (fp1 := [a1]) (fp2 := [a2]) (lt_one la) (lt_one lb)), ⟨hz, hTI, ⟨_, _, hTO⟩, .new h1, .new h2, Nat.ne_of_lt la, Nat.ne_of_lt (Nat.lt_succ_of_lt lb)⟩, fp_of I1 fun c hcm => ?_, q⟩
      have e' : c = s1.heap.objs.size + 4 ∨ c = s1.heap.objs.size + 2 ∨ c = s1.heap.objs.size + 3 ∨ c = s1.heap.objs.size ∨ c = s1.heap.objs.size + 1 := by simpa using hcm
      rcases e' with z | z | z | z | z <;> rw [z] <;> first | exact Nat.le_add_right _ _ | exact Nat.le_refl _
end L2
end
section
namespace L3
open PySem PySem.Spec PyProof.Rows L2
structure RoomG (n : Nat) (B : Around) : Prop where
  rm : Room n B
  gd : B.guards = some []
theorem RoomG.mono {m n : Nat} {B : Around} (r : RoomG n B) (le : m ≤ n) : RoomG m B := ⟨r.rm.mono le, r.gd⟩
theorem RoomG.deeper {n : Nat} {B : Around} (r : RoomG (n + 1) B) (en : Env) : RoomG n (B.deeper en) := ⟨r.rm.deeper en, r.gd⟩
theorem RoomG.units {n : Nat} {B : Around} (r : RoomG n B) : B.units + 64 < cLine := r.rm.units
structure FnG (P : Program) (w : World) (K : PySem.W.Frag) (mg : Str → Option Value) (base : Heap) (CC : CXT) (n : Nat) (fa : Addr) (fd : FuncData) (qs : List Str) (sp : Sp) : Prop where
  len : ∀ us H Q E, sp us H Q E → us.length = qs.length
  run : ∀ (B : Around) (oe : List Env) (s : Shared) (H : Hp) (as : Args) (us : List Value) (vs : List V) (Q : VK) (E : XK), RoomG n B → Env0 P w K mg base B oe s H → BindsTo s fd as (qs.zip us) → Vals vs us → sp vs H Q E →
    codeAny (model P w) B (.call (.ref fa) as) (CR CC oe P w H s Q E) s
section
variable {P : Program} {w : World} {K : PySem.W.Frag} {mg : Str → Option Value} {base : Heap} {CC : CXT}
theorem FnG.mono {m n : Nat} {fa : Addr} {fd : FuncData} {qs : List Str} {sp : Sp} (F : FnG P w K mg base CC m fa fd qs sp) (le : m ≤ n) : FnG P w K mg base CC n fa fd qs sp :=
  ⟨F.len, fun B oe s H as us vs Q E r => F.run B oe s H as us vs Q E (r.mono le)⟩
/-- a def by its body -/
theorem funG {x qual : Str} {st : Stmt} {fa : Addr} {fd : FuncData} {N qs : List Str} {n : Nat} {sp : Sp} (Fu : Fun K x qual st fa fd) (Sc : FnScope N qs (defScope st)) (len : ∀ us H Q E, sp us H Q E → us.length = qs.length)
    (body : ∀ (cdv : Value) (B : Around) (oe : List Env) (s : Shared) (H : Hp) (vs : List V) (Q : VK) (E : XK), RoomG n (B.deeper (PyProof.Rows.envOfC qual (defScope st) s.heap.objs.size fa cdv)) → sp vs H Q E →
      ∃ t, PSs (cxOf CC P w K mg base N qual (defScope st) fa cdv B oe s H E) (defBody st) t ∧ t { nx := fun _ H' => Q .non H', rt := Q } (L2.start N vs) H) : FnG P w K mg base CC (n + 1) fa fd qs sp := by
  obtain ⟨oc, od, kV, doc, pm, an, cdv, ct, osl, rfl, lk, hcd⟩ := Fu.ex
  refine ⟨len, fun B oe s H as us vs Q E hr c0 hb r hsp => ?_⟩
  have vl := len _ _ _ _ hsp
  have kin : K.In s.heap := c0.mod.kin.keeps fun b o q => (c0.bs b o q).1
  have nol : s.heap.NoLimit := c0.mod.nolimit.keeps fun b o q => (c0.bs b o q).1
  have kinds : ∀ y ∈ qs.zip us, (defScope st).names.lookup y.1 = some .local ∨ ((defScope st).names.lookup y.1 = some .cell ∧ ((cellsFrom (s.heap.objs.size + 1) (defScope st).names []).lookup y.1).isSome = true) := fun ⟨m, v⟩ hy => by
    rcases Sc.par m (List.of_mem_zip hy).1 with q | q
    · exact .inl q
    · exact .inr ⟨q, PySem.W.cellsFrom_some _ _ _ (.inl q)⟩
  refine codeAny_call_function hr.rm.depth (kin _ _ lk) rfl Sc.co Sc.gen rfl (PySem.W.codeRec_of kin hcd) (hb _ _ _ _ ?_)
  refine wpAny_newFunctionEnv_cells Sc.kind kinds fun en he s1 y => ?_
  subst he
  refine ⟨nol.keeps y.toInCall.keep, codeAny_func ?_⟩
  obtain ⟨t, ht, hq⟩ := body cdv B oe s H vs Q E (hr.deeper _) hsp
  have J : Inv (cxOf CC P w K mg base N qual (defScope st) fa cdv B oe s H E) [] (L2.start N vs) H s1 := inv_start Sc hr.rm.hd c0 vl r y
  refine wpAny_mono (ht.run [] s1 (L2.start N vs) H _ J hq) (fun fl s' hs => ?_) fun e s' hs => hs
  cases fl with
  | ret u => obtain ⟨v, σ', H', I, rv, q⟩ := hs; exact ⟨v, H', I.os, I.bare, I.base, I.hok, rv, q⟩
  | next => obtain ⟨σ', H', I, q⟩ := hs; exact ⟨.non, H', I.os, I.bare, I.base, I.hok, rfl, q⟩
  | brk => obtain ⟨_, _, _, q⟩ := hs; exact q.elim
  | cont => obtain ⟨_, _, _, q⟩ := hs; exact q.elim
end
section
variable {X : Cx} {CC : CXT} {n : Nat} {fa : Addr} {fd : FuncData} {qs : List Str} {sp : Sp} {dvs : List V} {ds : List Value} {E : XK} {x : Str} {p pos : Pos} {e : Expr} {es : List Expr} {t : TA}
theorem run_fnG {pins : List (Addr × Obj)} {σ : L2.St} {H : Hp} {s : Shared} {Q : VK} {us : List Value} {vs : List V} (F : FnG X.prog X.w X.K X.mg X.base CC n fa fd qs sp) (hr : RoomG n X.A) (hb : Binds X.K fd qs ds) (hd : Vals dvs ds) (hx : PassesAt CC X σ E)
    (I : Inv X pins σ H s) (r : Vals vs us) (h : sp (vs ++ dvs) H Q E) : wpAny (model X.prog X.w) X.A (call (.ref fa) us) (EP X pins σ Q) X.xe s := by
  have rr : Vals (vs ++ dvs) (us ++ ds) := r.append hd
  have ul : (us ++ ds).length = qs.length := by rw [← rr.length]; exact F.len _ _ _ _ h
  refine wpAny_call (codeAny_mono (F.run X.A X.stack s H ⟨us, []⟩ (us ++ ds) (vs ++ dvs) Q E hr I.env0 (hb s us I.kIn ul) rr h) fun res s' hq => ?_)
  cases res with
  | error er => exact hx pins H s er s' I hq
  | ok fl =>
    cases fl with
    | ret u => exact I.after hq
    | next => exact hq.elim
    | brk => exact hq.elim
    | cont => exact hq.elim
/-- f(..), the wish of errors at the slots -/
def tCallE (sp : Sp) (dvs : List V) (E : L2.St → XK) (t : TA) : TE := fun σ H Q => t σ H fun vs H1 => sp (vs ++ dvs) H1 Q (E σ)
theorem pe_callG {E : L2.St → XK} (F : FnG X.prog X.w X.K X.mg X.base CC n fa fd qs sp) (hr : RoomG n X.A) (hg : Gl X x) (hm : X.mg x = some (.ref fa)) (hk : PySem.W.keepIn X.K (.ref fa) = true) (hb : Binds X.K fd qs ds) (hd : Vals dvs ds) (hx : ∀ σ, PassesAt CC X σ (E σ))
    (ha : PA X (e :: es) t) (hdb : (x == ("__debug__" : Str)) = false := by decide) (he : starEach (e :: es) X.env = (false, eval e X.env) :: starEach es X.env := by rfl) (hpl : (backTo pos (starEach es X.env)).any (·.1) = false := by rfl) :
    PE X (.Call (.Name x p) (e :: es) [] pos) (tCallE sp dvs E t) := by
  refine ⟨fun pins s σ H Q I h => wpAny_Call_Name_kw (ld_glob I hg hm ?_ hdb)⟩
  exact PySem.W.callWith_K (h₀ := X.base) I.ok.mod.kin hk (thn (ha.run pos pins s σ H _ I h) fun us s1 ⟨vs, H1, I1, r, q⟩ => ⟨I1.kIn, run_fnG F hr hb hd (hx σ) I1 r q⟩) he hpl
/-- nothing is let out -/
theorem passN {σ : L2.St} : PassesAt (L2.CX X.prog X.w) X σ E0 := fun _ _ _ _ _ _ h => by
  obtain ⟨_, _, _, _, _, _, _, _, _, _, _, _, z⟩ := h
  exact z.elim
end
/-- the script's heap when the law is called: base and what is tracked -/
theorem law_callG {P : Program} {w : World} {K : PySem.W.Frag} {mg mb : Str → Option Value} {CC : CXT} {n : Nat} {fa a : Addr} {fd : FuncData} {x : Str} {sp : Sp} {s0 : Shared} {vs : List Value} {ns : List Int}
    (kin : K.In s0.heap) (hns : s0.heap.Ns mainGlobals mg) (hbn : s0.heap.Ns builtinsNs mb) (hbb : ∀ y : Str, y ≠ "__name__" → mb y = bootBuiltins y) (nol : s0.heap.NoLimit) (gens : s0.gens = #[])
    (ha : s0.heap.get? a = some { cls := .type "list", data := .seq vs.toArray }) (hi : IntsAre vs ns) (hl : ns.length ≤ sizeLine) (hr : RoomG n callerA)
    (F : ∀ base : Heap, K.In base → base.Ns mainGlobals mg → FnG P w K mg base CC n fa fd [x] sp) (hbind : ∀ (s : Shared) (v : Value), BindsTo s fd ⟨[v], []⟩ [(x, v)])
    (hsp : ∀ G : Hp, Only G → SqL K G a (ns.map V.int) → sp [.ref a] G (fun v _ => v = .bl true) fun _ _ _ => False)
    (hCC : ∀ G e t, CC [] G s0 (fun _ _ _ => False) e t → False) :
    codeAny (model P w) callerA (.call (.ref fa) ⟨[.ref a], []⟩) (fun r t => r = .ok (.ret (.bool true)) ∧ OldK s0.heap t.heap ∧ t.os = s0.os ∧ AllBare t.gens) s0 := by
  have rv := vals_ints hi
  have vlen := hi.length
  have core : ∀ G : Hp, Only G → SqL K G a (ns.map V.int) → HOk P w G s0.heap → (∀ b, G b ≠ none → b = a) → (G a ≠ none → K.lookup a = none) →
      codeAny (model P w) callerA (.call (.ref fa) ⟨[.ref a], []⟩) (fun r t => r = .ok (.ret (.bool true)) ∧ OldK s0.heap t.heap ∧ t.os = s0.os ∧ AllBare t.gens) s0 := by
    intro G gO gS gk gA gK
    have low : ∀ {b : Addr} {o : Obj}, s0.heap.get? b = some o → G b = none → (hidT s0.heap G).get? b = some o := fun q z => hidT_get q z
    have noD : ∀ {b : Addr} {o : Obj} {es : Array DictEntry} {ep : Nat}, s0.heap.get? b = some o → o.data = .dict es ep → G b = none := fun {b o es ep} q d => by
      cases z : G b with
      | none => rfl
      | some u =>
        have ea : b = a := gA b (by rw [z]; simp)
        subst ea
        rw [ha] at q; cases q
        have d2 : Data.seq vs.toArray _ = Data.dict es ep := d
        cases d2
    have nsL : ∀ {b : Addr} {m : Str → Option Value}, s0.heap.Ns b m → (hidT s0.heap G).Ns b m := fun {b m} ⟨o, es, ep, q, d, r⟩ => ⟨o, es, ep, low q (noD q d), d, r⟩
    have kinL : K.In (hidT s0.heap G) := fun b o q => low (kin b o q) (by
      cases z : G b with
      | none => rfl
      | some u =>
        have ea : b = a := gA b (by rw [z]; simp)
        subst ea
        rw [gK (by rw [z]; simp)] at q; cases q)
    have md : Mod K mg (hidT s0.heap G) := ⟨kinL, nsL hns, ⟨mb, nsL hbn, hbb⟩, let ⟨mc, h1, h2⟩ := nol; ⟨mc, nsL h1, h2⟩⟩
    have c0 : Env0 P w K mg (hidT s0.heap G) callerA [] s0 G := ⟨rfl, md, fun b o q => of_hidT q, Nat.le_of_eq (hidT_size _ _), trivial, fun b hb => (nomatch hb), gk, .of_eq gens⟩
    refine codeAny_mono ((F _ kinL (nsL hns)).run callerA [] s0 G ⟨[.ref a], []⟩ [.ref a] [.ref a] _ _ hr c0 (hbind s0 (.ref a)) (.cons rfl .nil) (hsp G gO gS)) fun r t hq => ?_
    cases r with
    | error er => exact (hCC G er t hq).elim
    | ok fl =>
      cases fl with
      | next => exact hq.elim
      | brk => exact hq.elim
      | cont => exact hq.elim
      | ret u =>
        obtain ⟨v, G2, os, bare, un, gk2, r2, q⟩ := hq
        replace q : v = .bl true := q
        subst q
        obtain rfl : u = Value.bool true := r2
        refine ⟨rfl, OldK.of_keep fun b o q => ?_, os, bare⟩
        cases z : G b with
        | none => exact un.keep b o q z (fun y => nomatch y) (fun y => nomatch y)
        | some u =>
          rcases gO b with y | ⟨ob, xs, y⟩
          · rw [z] at y; cases y
          · have y2 := un.frzs b ob _ y
            obtain ⟨e1, _⟩ := gk b _ y
            obtain ⟨e2, _⟩ := gk2 b _ y2
            rw [q] at e1; cases e1
            exact e2
  cases kl : K.lookup a with
  | some o =>
    have q := kin a o kl
    rw [ha] at q
    cases q
    exact core (fun _ => none) (fun _ => .inl rfl) (.inr ⟨_, vs.toArray, _, kl, rfl, rfl, rfl, by rw [List.size_toArray, vlen]; exact hl, by simpa using rv⟩) (fun b u z => nomatch (show (none : Option HO) = some u from z)) (fun b z => absurd rfl z) fun z => absurd rfl z
  | none =>
    refine core (fun b => if b = a then some (.frz { cls := .type "list", data := .seq vs.toArray } (.lst (ns.map V.int))) else none) (fun b => ?_) (.inl (.inr ⟨{ cls := .type "list", data := .seq vs.toArray }, if_pos rfl⟩)) (fun b u z => ?_) (fun b z => ?_) fun _ => kl
    · by_cases eb : b = a
      · exact .inr ⟨_, _, if_pos eb⟩
      · exact .inl (if_neg eb)
    · by_cases eb : b = a
      · have z2 := (if_pos eb).symm.trans z
        cases z2
        subst eb
        exact ⟨ha, by rw [List.length_map]; exact hl, vs, _, rv, ha⟩
      · have z2 := (if_neg eb).symm.trans z
        cases z2
    · by_cases eb : b = a
      · exact eb
      · exact absurd (if_neg eb) z
/-- the end of a law -/
theorem walk_ofG {l : PySem.W.OpenLaw} {m n : Nat} {q : Program} {loose : List Str} {XP : (Str → Option Value) → Heap → Prop} {YP : World → Heap → Prop} {d : DefRec} {K : Params → PySem.W.Frag} {CC : World → CXT} {sp : World → Sp} {x : Str}
    (hm : l.most = some m) (hm2 : m ≤ sizeLine) (hdf : d.params.defaults = []) (hr : RoomG n callerA) (hY : ∀ (w : World) (h : Heap), YP w h → (K w.params).In h)
    (F : ∀ (w : World) (mg : Str → Option Value) (fa : Addr) (h : Heap), (K w.params).In h → h.Ns mainGlobals mg → mg d.name = some (.ref fa) →
      ∃ fd : FuncData, (∀ (s : Shared) (v : Value), BindsTo s fd ⟨[v], []⟩ [(x, v)]) ∧ ∀ base : Heap, (K w.params).In base → base.Ns mainGlobals mg → FnG l.prog w (K w.params) mg base (CC w) n fa fd [x] (sp w))
    (hsp : ∀ (w : World) (H : Hp) (a : Addr) (ns : List Int), ns.length ≤ m → Only H → SqL (K w.params) H a (ns.map V.int) → sp w [.ref a] H (fun v _ => v = .bl true) fun _ _ _ => False)
    (hCC : ∀ (w : World) (H : Hp) (s : Shared) (e : Value) (t : Shared), CC w [] H s (fun _ _ _ => False) e t → False) : PySem.W.WalkO q loose XP YP l.row.toRowW d [] (fun f vs => PySem.call f vs) := by
  refine Att.attach_call hm hdf fun w s0 s1 mg mb fa o pm cd doc a vs ns G Y ho hd hcd hmg hobj hints hlen hg => ?_
  obtain ⟨fd, hb, hF⟩ := F w mg fa _ (hY w _ Y) G.T.g hmg
  exact law_callG (hY w _ Y) G.T.g G.T.b G.T.builtins G.T.nolimit hg hobj hints (Nat.le_trans hlen hm2) hr hF hb (fun H hO hS => hsp w H a ns hlen hO hS) fun H e t => hCC w H s1 e t
theorem leave0 (P : Program) (w : World) (H : Hp) (s : Shared) (e : Value) (t : Shared) (h : L2.CX P w [] H s (fun _ _ _ => False) e t) : False := by
  obtain ⟨_, _, _, _, _, _, _, _, _, _, _, _, z⟩ := h
  exact z
end L3
end
section
namespace L3
open PySem L2
variable {G : Type} {K : PySem.W.Frag} {X : Cx} {Z : Zx K G}
/-- arguments, state, what is wanted of the answer, what is wanted of an error (class, fields) -/
abbrev XU (G : Type) := Value → List (Str × PyData) → G → Prop
abbrev Spec (G : Type) := List Rs → G → (Rs → G → Prop) → XU G → Prop
structure Frm (Z : Zx K G) (F H : Hp) (g : G) (F' H' : Hp) (g' : G) : Prop where
  ex : Ex F F'
  keep : ∀ b o, H b = some o → b ∉ Z.fp g → H' b = some o
  keepN : ∀ b, H b ≠ none → H' b ≠ none
  new : ∀ b o, F' b = some o → F b = some o ∨ H b = none
  sub : Ex F' H'
  res : Z.R g' F' H'
  fpF : ∀ a ∈ Z.fp g', F' a = none
  fpB : ∀ a ∈ Z.fp g', a ∈ Z.fp g ∨ H a = none
def VRet (Z : Zx K G) (F' H H' : Hp) (g' : G) (v : V) : Rs → Prop
  | .dt d => Da K F' v d
  | .nl ds => ∃ a vs, v = .ref a ∧ H a = none ∧ F' a = none ∧ a ∉ Z.fp g' ∧ H' a = some (.lst vs) ∧ DaAll K F' vs ds
  | .nd ks => ∃ a vs, v = .ref a ∧ H a = none ∧ F' a = none ∧ a ∉ Z.fp g' ∧ H' a = some (.dK vs) ∧ KvAll K F' vs ks
  | .br _ => False
  | .rs n => v = .ref (Z.ra g' n)
  | .vv u => v = u
def ArgV (Z : Zx K G) (F : Hp) (g : G) (v : V) : Rs → Prop
  | .dt d => Da K F v d
  | .rs n => v = .ref (Z.ra g n)
  | .vv u => v = u
  | _ => False
abbrev ArgR (Z : Zx K G) (F : Hp) (g : G) : List V → List Rs → Prop := Paired (ArgV Z F g)
def spZ (Z : Zx K G) (S : Spec G) : Sp := fun vs H Q E => ∃ F g as T U, Ex F H ∧ Z.R g F H ∧ (∀ a ∈ Z.fp g, F a = none) ∧ ArgR Z F g vs as ∧ S as g T U ∧
  (∀ v r F' g' H', Frm Z F H g F' H' g' → Z.ra g' = Z.ra g → VRet Z F' H H' g' v r → T r g' → Q v H') ∧
  (∀ c fs dx F' g' H', Frm Z F H g F' H' g' → Z.ra g' = Z.ra g → XR K F' H' dx fs → U c fs g' → E c dx H')
def fzR : Rs → En → Option (Rs × En)
  | .rs n, ρ => some (.rs n, ρ)
  | .vv v, ρ => some (.vv v, ρ)
  | .dt d, ρ => some (.dt d, ρ)
  | r, ρ => (fz r ρ).map fun p => (.dt p.1, p.2)
def fzRA : List Rs → En → Option (List Rs × En)
  | [], ρ => some ([], ρ)
  | r :: rs, ρ => (fzR r ρ).bind fun p => (fzRA rs p.2).map fun q => (p.1 :: q.1, q.2)
section
variable {f : Fx} {F F' : Hp} {ad : Nat → Addr} {ρ ρ' : En} {g g' : G} {σ : St} {H H' : Hp}
theorem ArgV.mono {v : V} {r : Rs} (h : ArgV Z F g v r) (e : Ex F F') : ArgV Z F' g v r := by
  cases r <;> first | exact h | exact da_mono e h
theorem Rel.hfzR {v : V} {r q : Rs} (R : Rel Z f F ad ρ g σ H) (h : VR Z f F ad ρ g σ H v r) (e : fzR r ρ = some (q, ρ')) : ∃ F', Ex F F' ∧ Rel Z f F' ad ρ' g σ H ∧ ArgV Z F' g v q := by
  have go : (fz r ρ).map (fun p : PyData × En => (Rs.dt p.1, p.2)) = some (q, ρ') → ∃ F', Ex F F' ∧ Rel Z f F' ad ρ' g σ H ∧ ArgV Z F' g v q := fun e => by
    cases e1 : fz r ρ with
    | none => rw [e1] at e; cases e
    | some p =>
      obtain ⟨d, ρ1⟩ := p
      rw [e1] at e
      cases e
      exact R.hfz h e1
  cases r with
  | rs n => cases e; exact ⟨F, Evl.Ex.refl F, R, h⟩
  | vv n => cases e; exact ⟨F, Evl.Ex.refl F, R, h⟩
  | dt n => cases e; exact ⟨F, Evl.Ex.refl F, R, h⟩
  | nl n => exact go e
  | nd n => exact go e
  | br n => exact go e
theorem Rel.hfzRA : ∀ {vs : List V} {rs : List Rs} {F : Hp} {ρ : En} {qs : List Rs} {ρ' : En}, Rel Z f F ad ρ g σ H → VRs Z f F ad ρ g σ H vs rs → fzRA rs ρ = some (qs, ρ') → ∃ F', Ex F F' ∧ Rel Z f F' ad ρ' g σ H ∧ ArgR Z F' g vs qs
  | _, [], F, ρ, qs, ρ', R, .nil, e => by cases e; exact ⟨F, Evl.Ex.refl F, R, .nil⟩
  | _, r :: rs, F, ρ, qs, ρ', R, .cons h t, e => by
    obtain ⟨r0, rfl, h⟩ := h
    unfold fzRA at e
    cases e1 : fzR (st r0) ρ with
    | none => rw [e1] at e; cases e
    | some p =>
      obtain ⟨d, ρ1⟩ := p
      rw [e1] at e
      cases e2 : fzRA rs ρ1 with
      | none => simp [e2] at e
      | some p2 =>
        obtain ⟨ds2, ρ2⟩ := p2
        simp [e2] at e
        obtain ⟨rfl, rfl⟩ := e
        obtain ⟨F1, x1, R1, d1⟩ := R.hfzR h e1
        obtain ⟨F2, x2, R2, d2⟩ := Rel.hfzRA R1 (Paired.mapP t fun v r ⟨r0, er, z⟩ => ⟨r0, er, z.held x1 rfl⟩) e2
        exact ⟨F2, x1.trans x2, R2, .cons (d1.mono x2) d2⟩
/-- behind a call -/
theorem Rel.called (R : Rel Z f F ad ρ g σ H) (h : Frm Z F H g F' H' g') (er : Z.ra g' = Z.ra g) : Rel Z f F' ad ρ g' σ H' := by
  have nfp : ∀ b, f.B b ≠ none → b ∉ f.fp0 → b ∉ Z.fp g := fun b hb h0 hm => by
    rcases R.fin.fpB b hm with q | q
    · exact h0 q
    · exact hb q
  have own : ∀ i s, ρ[i]? = some s → s.own = true → OwnA Z f F g (ad i) ∧ H (ad i) ≠ none := fun i s hi ho => by
    have q := R.slot i s hi
    cases s with
    | ls ds => obtain ⟨_, q2, vs, q3, _⟩ := q; exact ⟨q2, by rw [q3]; intro z; cases z⟩
    | dk ds => obtain ⟨_, q2, vs, q3, _⟩ := q; exact ⟨q2, by rw [q3]; intro z; cases z⟩
    | _ => cases ho
  have own' : ∀ i s, ρ[i]? = some s → s.own = true → OwnA Z f F' g' (ad i) := fun i s hi ho => by
    obtain ⟨q, hn⟩ := own i s hi ho
    refine ⟨?_, q.2.1, fun hm => ?_⟩
    · cases e : F' (ad i) with
      | none => rfl
      | some o =>
        rcases h.new _ _ e with z | z
        · rw [q.1] at z; cases z
        · exact absurd z hn
    · rcases h.fpB _ hm with z | z
      · exact q.2.2 z
      · exact hn z
  refine ⟨⟨⟨R.fin.base.trans h.ex, h.sub, fun b o hb h0 => h.keep b o (R.fin.keep b o hb h0) (nfp b (by rw [hb]; intro z; cases z) h0), fun b hb => h.keepN b (R.fin.keepN b hb), fun b o hb => ?_, h.res, h.fpF, fun a ha => ?_, R.fin.fpo⟩, R.len, fun i s hi => ?_, R.inj⟩, er ▸ R.lx⟩
  · rcases h.new b o hb with z | z
    · exact R.fin.new b o z
    · right
      cases e : f.B b with
      | none => rfl
      | some u => exact absurd z (R.fin.keepN b (by rw [e]; intro y; cases y))
  · rcases h.fpB a ha with z | z
    · exact R.fin.fpB a z
    · right
      cases e : f.B a with
      | none => rfl
      | some u => exact absurd z (R.fin.keepN a (by rw [e]; intro y; cases y))
  · have q := R.slot i s hi
    cases s with
    | un => trivial
    | dt d => obtain ⟨v, q1, q2⟩ := q; exact ⟨v, q1, da_mono h.ex q2⟩
    | ls ds => obtain ⟨q1, q2, vs, q3, q4⟩ := q; exact ⟨q1, own' i _ hi rfl, vs, h.keep _ _ q3 q2.2.2, daAll_mono h.ex q4⟩
    | dk ds => obtain ⟨q1, q2, vs, q3, q4⟩ := q; exact ⟨q1, own' i _ hi rfl, vs, h.keep _ _ q3 q2.2.2, kv_mono h.ex q4⟩
    | rs n => exact (show σ[i]? = some (some (.ref (Z.ra g n))) from q).trans (by rw [er])
    | vv u => exact q
theorem Rel.ret (R : Rel Z f F ad ρ g σ H) (h : Frm Z F H g F' H' g') {v : V} {r : Rs} (hv : VRet Z F' H H' g' v r) : VR Z f F' ad ρ g' σ H' v r := by
  have ne : ∀ a, H a = none → ∀ i s, ρ[i]? = some s → s.own = true → ad i ≠ a := fun a ha i s hi ho e => by
    have q := R.slot i s hi
    cases s with
    | ls ds => obtain ⟨_, q2, vs, q3, _⟩ := q; rw [e, ha] at q3; cases q3
    | dk ds => obtain ⟨_, q2, vs, q3, _⟩ := q; rw [e, ha] at q3; cases q3
    | _ => cases ho
  have hB : ∀ a, H a = none → f.B a = none := fun a ha => by
    cases e : f.B a with
    | none => rfl
    | some u => exact absurd ha (R.fin.keepN a (by rw [e]; intro y; cases y))
  cases r with
  | dt d => exact hv
  | nl ds => obtain ⟨a, vs, rfl, h1, h2, h3, h4, h5⟩ := hv; exact ⟨a, vs, rfl, ⟨⟨h2, hB a h1, h3⟩, ne a h1⟩, h4, h5⟩
  | nd ds => obtain ⟨a, vs, rfl, h1, h2, h3, h4, h5⟩ := hv; exact ⟨a, vs, rfl, ⟨⟨h2, hB a h1, h3⟩, ne a h1⟩, h4, h5⟩
  | br i => cases hv
  | rs n => exact hv
  | vv u => exact hv
/-- a pure callee's frame is one of the caller's -/
theorem Frm.pure (R : Rel Z f F ad ρ g σ H) {u : Unit} (h : Frm (Z0 K) F H u F' H' u) : Frm Z F H g F' H' g where
  ex := h.ex
  keep := fun b o e _ => h.keep b o e (by intro z; cases z)
  keepN := h.keepN
  new := h.new
  sub := h.sub
  res := Z.loc R.fin.res h.ex fun a ha => by
    cases e : H a with
    | none => exact absurd e (Z.there R.fin.res a ha)
    | some o => exact h.keep a o e (by intro z; cases z)
  fpF := fun a ha => by
    cases e : F' a with
    | none => rfl
    | some o =>
      rcases h.new a o e with z | z
      · rw [R.fin.fpF a ha] at z; cases z
      · exact absurd z (Z.there R.fin.res a ha)
  fpB := fun a ha => .inl ha
theorem VRet.pure (R : Rel Z f F ad ρ g σ H) {u : Unit} (h : Frm (Z0 K) F H u F' H' u) {v : V} {r : Rs} (hr : ∀ n, r ≠ .rs n) (hv : VRet (Z0 K) F' H H' u v r) : VRet Z F' H H' g v r := by
  have nf : ∀ a, H a = none → a ∉ Z.fp g := fun a ha hm => Z.there R.fin.res a hm ha
  cases r with
  | dt d => exact hv
  | nl ds => obtain ⟨a, vs, rfl, h1, h2, h3, h4, h5⟩ := hv; exact ⟨a, vs, rfl, h1, h2, nf a h1, h4, h5⟩
  | nd ds => obtain ⟨a, vs, rfl, h1, h2, h3, h4, h5⟩ := hv; exact ⟨a, vs, rfl, h1, h2, nf a h1, h4, h5⟩
  | br i => exact hv
  | rs n => exact absurd rfl (hr n)
  | vv u => exact hv
end
/-- f(..) with the same resource -/
def fr1S (ρ : En) (i : Nat) (k : Rs → En → Prop) : Option Sl → Prop
  | some (.dt d) => k (.dt d) ρ
  | some (.ls ds) => k (.dt (.list ds)) (ρ.set i (.dt (.list ds)))
  | some (.dk ds) => k (.dt (.dict ds)) (ρ.set i (.dt (.dict ds)))
  | _ => False
def fr1 (r : Rs) (ρ : En) (k : Rs → En → Prop) : Prop := match r with
  | .dt d => k (.dt d) ρ
  | .nl ds => k (.dt (.list ds)) ρ
  | .br i => fr1S ρ i k ρ[i]?
  | .rs n => k (.rs n) ρ
  | .vv v => k (.vv v) ρ
  | .nd ds => k (.dt (.dict ds)) ρ
theorem fr1_of {r : Rs} {ρ : En} {k : Rs → En → Prop} (h : fr1 r ρ k) : ∃ d ρ', fzR r ρ = some (d, ρ') ∧ k d ρ' := by
  cases r with
  | dt d => exact ⟨_, ρ, rfl, h⟩
  | nl d => exact ⟨_, ρ, rfl, h⟩
  | rs d => exact ⟨_, ρ, rfl, h⟩
  | vv d => exact ⟨_, ρ, rfl, h⟩
  | br i =>
    have h1 : fr1S ρ i k ρ[i]? := h
    cases e : ρ[i]? with
    | none => rw [e] at h1; exact h1.elim
    | some s =>
      rw [e] at h1
      cases s with
      | dt d => exact ⟨_, ρ, by show (fzS ρ i ρ[i]?).map _ = _; rw [e]; rfl, h1⟩
      | ls d => exact ⟨_, _, by show (fzS ρ i ρ[i]?).map _ = _; rw [e]; rfl, h1⟩
      | dk d => exact ⟨_, _, by show (fzS ρ i ρ[i]?).map _ = _; rw [e]; rfl, h1⟩
      | _ => exact h1.elim
  | nd d => exact ⟨_, ρ, rfl, h⟩
def frK : List Rs → En → (List Rs → En → Prop) → Prop
  | [], ρ, k => k [] ρ
  | r :: rs, ρ, k => fr1 r ρ fun d ρ1 => frK rs ρ1 fun ds ρ2 => k (d :: ds) ρ2
theorem frK_of : ∀ {rs : List Rs} {ρ : En} {k : List Rs → En → Prop}, frK rs ρ k → ∃ ds ρ2, fzRA rs ρ = some (ds, ρ2) ∧ k ds ρ2
  | [], ρ, k, h => ⟨[], ρ, rfl, h⟩
  | r :: rs, ρ, k, h => by
    obtain ⟨d, ρ1, e, h⟩ := fr1_of h
    obtain ⟨ds, ρ2, e2, h⟩ := frK_of h
    exact ⟨d :: ds, ρ2, by rw [fzRA, e]; show (fzRA rs ρ1).map _ = _; rw [e2]; rfl, h⟩
/-- no error is let out; errors go where this body's do -/
abbrev Un {G : Type} : UX G := fun _ _ _ _ => False
/-- a wish of errors at data, and at the heap -/
def LeW (Z : Zx K G) (U : UX G) (E : St → XK) : Prop := ∀ f F ad ρ g σ H c dx fs, Rel Z f F ad ρ g σ H → XR K F H dx fs → U c fs ρ g → E σ c dx H
theorem leW_n : LeW Z Un (fun _ => E0) := fun _ _ _ _ _ _ _ _ _ _ _ _ h => h.elim
theorem leW_z : LeW Z Z.U (WE Z.W) := fun f F ad ρ g σ H c dx fs R h u => R.lx F ad ρ g σ H c dx fs rfl R.toRel0 h u
def dCall (U : UX G) (S : Spec G) (das : List Rs) (a : DA G) : DT G := fun ρ g Q => a ρ g fun rs ρ1 g1 => frK rs ρ1 fun qs ρ2 => S (qs ++ das) g1 (fun r g' => Q r ρ2 g') (fun c fs g' => U c fs ρ2 g')
/-- f(..) of a def without a resource -/
def noR (r : Rs) (p : Prop) : Prop := match r with
  | .rs _ => False
  | _ => p
def noRs : List Rs → Bool
  | [] => true
  | .rs _ :: _ => false
  | _ :: r => noRs r
theorem noRs_of : ∀ {qs : List Rs}, noRs qs = true → ∀ q ∈ qs, noR q True
  | [], _, _, h => by cases h
  | .rs _ :: _, e, _, _ => by cases e
  | .dt _ :: r, e, q, h => by
    rcases List.mem_cons.mp h with rfl | h
    · trivial
    · exact noRs_of (qs := r) e q h
  | .nl _ :: r, e, q, h => by
    rcases List.mem_cons.mp h with rfl | h
    · trivial
    · exact noRs_of (qs := r) e q h
  | .nd _ :: r, e, q, h => by
    rcases List.mem_cons.mp h with rfl | h
    · trivial
    · exact noRs_of (qs := r) e q h
  | .br _ :: r, e, q, h => by
    rcases List.mem_cons.mp h with rfl | h
    · trivial
    · exact noRs_of (qs := r) e q h
  | .vv _ :: r, e, q, h => by
    rcases List.mem_cons.mp h with rfl | h
    · trivial
    · exact noRs_of (qs := r) e q h
def dCall0 (U : UX G) (S : Spec Unit) (das : List Rs) (a : DA G) : DT G := fun ρ g Q => a ρ g fun rs ρ1 g1 => frK rs ρ1 fun qs ρ2 => tt (noRs qs) (S (qs ++ das) () (fun r _ => noR r (Q r ρ2 g1)) (fun c fs _ => U c fs ρ2 g1))
theorem argR_append {F : Hp} {g : G} : ∀ {vs ws : List V} {as bs : List Rs}, ArgR Z F g vs as → ArgR Z F g ws bs → ArgR Z F g (vs ++ ws) (as ++ bs)
  | _, _, _, _, .nil, h => h
  | _, _, _, _, .cons a r, h => .cons a (argR_append r h)
theorem argR_pure {F : Hp} {g : G} : ∀ {vs : List V} {as : List Rs}, ArgR Z F g vs as → (∀ q ∈ as, noR q True) → ArgR (Z0 K) F () vs as
  | _, [], .nil, _ => .nil
  | _, r :: rs, .cons h t, hq => .cons (by
      have z := hq r List.mem_cons_self
      cases r <;> first | exact h | exact z.elim) (argR_pure t fun q hm => hq q (List.mem_cons_of_mem _ hm))
theorem sim_call {U : UX G} {E : St → XK} (hU : LeW Z U E) {S : Spec G} {dvs : List V} {das : List Rs} {ta : TA} {a : DA G} (hd : ∀ F g, ArgR Z F g dvs das) (ha : SimA Z ta a) : Sim Z (tCallE (spZ Z S) dvs E ta) (dCall U S das a) := fun f F ad ρ g σ H Q R q P hP => by
  refine ha f F ad ρ g σ H _ R q _ fun vs H1 q => ?_
  obtain ⟨F1, ad1, ρ1, g1, rs, e1, eg1, R1, v1, q⟩ := q
  obtain ⟨qs, ρ2, ef, q⟩ := frK_of q
  obtain ⟨F2, e2, R2, da⟩ := R1.hfzRA v1 ef
  refine ⟨F2, g1, qs ++ das, _, _, R2.fin.sub, R2.fin.res, R2.fin.fpF, argR_append da (hd F2 g1), q, fun v r F' g' H' fr er hv hT => ?_, fun c fs dx F' g' H' fr er hx hu => hU _ _ _ _ _ _ _ _ _ _ (R2.called fr er) hx hu⟩
  exact hP v H' ⟨F', ad1, ρ2, g', r, (e1.trans e2).trans fr.ex, er.trans eg1, R2.called fr er, R2.ret fr hv, hT⟩
theorem sim_call0 {U : UX G} {E : St → XK} (hU : LeW Z U E) {S : Spec Unit} {dvs : List V} {das : List Rs} {ta : TA} {a : DA G} (hd : ∀ F, ArgR (Z0 K) F () dvs das) (ha : SimA Z ta a) : Sim Z (tCallE (spZ (Z0 K) S) dvs E ta) (dCall0 U S das a) := fun f F ad ρ g σ H Q R q P hP => by
  refine ha f F ad ρ g σ H _ R q _ fun vs H1 q => ?_
  obtain ⟨F1, ad1, ρ1, g1, rs, e1, eg1, R1, v1, q⟩ := q
  obtain ⟨qs, ρ2, ef, q⟩ := frK_of q
  obtain ⟨hq, q⟩ := tt_e q
  replace hq := noRs_of hq
  obtain ⟨F2, e2, R2, da⟩ := R1.hfzRA v1 ef
  refine ⟨F2, (), qs ++ das, _, _, R2.fin.sub, trivial, (fun a ha => nomatch ha), argR_append (argR_pure da hq) (hd F2), q, fun v r F' g' H' fr er hv hT => ?_, fun c fs dx F' g' H' fr er hx hu => hU _ _ _ _ _ _ _ _ _ _ (R2.called (Frm.pure R2 fr) rfl) hx hu⟩
  have fr' : Frm Z F2 H1 g1 F' H' g1 := Frm.pure R2 fr
  have hr : (∀ n, r ≠ .rs n) ∧ Q r ρ2 g1 := by
    cases r <;> first | exact ⟨(fun n z => by cases z), hT⟩ | exact hT.elim
  exact hP v H' ⟨F', ad1, ρ2, g1, r, (e1.trans e2).trans fr.ex, eg1, R2.called fr' rfl, R2.ret fr' (VRet.pure R2 fr hr.1 hv), hr.2⟩
/-- the heap has grown, nothing that stood there has changed -/
theorem Rel.grown {f : Fx} {F : Hp} {ad : Nat → Addr} {ρ : En} {g : G} {σ : St} {H H' : Hp} (R : Rel Z f F ad ρ g σ H) (k : ∀ b o, H b = some o → H' b = some o) : Rel Z f F ad ρ g σ H' := by
  refine ⟨⟨⟨R.fin.base, fun b o e => k b o (R.fin.sub b o e), fun b o e h0 => k b o (R.fin.keep b o e h0), fun b hb => ?_, R.fin.new, Z.loc R.fin.res (fun _ _ h => h) fun a ha => ?_, R.fin.fpF, R.fin.fpB, R.fin.fpo⟩, R.len, fun i s hi => ?_, R.inj⟩, R.lx⟩
  · cases e : H b with
    | none => exact absurd e (R.fin.keepN b hb)
    | some o => rw [k b o e]; intro z; cases z
  · cases e : H a with
    | none => exact absurd e (Z.there R.fin.res a ha)
    | some o => exact k a o e
  · have q := R.slot i s hi
    cases s with
    | ls ds => obtain ⟨q1, q2, vs, q3, q4⟩ := q; exact ⟨q1, q2, vs, k _ _ q3, q4⟩
    | dk ds => obtain ⟨q1, q2, vs, q3, q4⟩ := q; exact ⟨q1, q2, vs, k _ _ q3, q4⟩
    | _ => exact q
structure D3 (G : Type) where
  nx : En → G → Prop
  rt : Rs → G → Prop
  bk : En → G → Prop := fun _ _ => False
  ct : En → G → Prop := fun _ _ => False
abbrev DS (G : Type) := D3 G → En → G → Prop
/-- an answer, when the def is left -/
def VFin (Z : Zx K G) (f : Fx) (F : Hp) (g : G) (H : Hp) (v : V) : Rs → Prop
  | .dt d => Da K F v d
  | .nl ds => ∃ a vs, v = .ref a ∧ OwnA Z f F g a ∧ H a = some (.lst vs) ∧ DaAll K F vs ds
  | .nd ks => ∃ a vs, v = .ref a ∧ OwnA Z f F g a ∧ H a = some (.dK vs) ∧ KvAll K F vs ks
  | .br _ => False
  | .rs n => v = .ref (Z.ra g n)
  | .vv u => v = u
structure Le (Z : Zx K G) (f : Fx) (ra0 : Nat → Addr) (D : D3 G) (D2 : Ends) : Prop where
  nx : ∀ F ad ρ g σ H, Z.ra g = ra0 → Rel Z f F ad ρ g σ H → D.nx ρ g → D2.nx σ H
  rt : ∀ F g H v r, Z.ra g = ra0 → Fin Z f F g H → VFin Z f F g H v r → D.rt r g → D2.rt v H
  bk : ∀ F ad ρ g σ H, Z.ra g = ra0 → Rel Z f F ad ρ g σ H → D.bk ρ g → D2.bk σ H
  ct : ∀ F ad ρ g σ H, Z.ra g = ra0 → Rel Z f F ad ρ g σ H → D.ct ρ g → D2.ct σ H
def SimS (Z : Zx K G) (ts : TS) (t : DS G) : Prop := ∀ f F ad ρ g σ H D, Rel Z f F ad ρ g σ H → t D ρ g → ∀ D2 : Ends, Le Z f (Z.ra g) D D2 → ts D2 σ H
structure DSt (X : Cx) (Z : Zx K G) (s : Stmt) (ts : TS) (t : DS G) : Prop where
  ps : PS X s ts
  sim : SimS Z ts t
structure DSs (X : Cx) (Z : Zx K G) (s : List Stmt) (ts : TS) (t : DS G) : Prop where
  ps : PSs X s ts
  sim : SimS Z ts t
def dNext : DS G := fun D ρ g => D.nx ρ g
def dSeq (t u : DS G) : DS G := fun D ρ g => t { D with nx := fun ρ1 g1 => u D ρ1 g1 } ρ g
theorem sim_next : SimS Z tNext (dNext (G := G)) := fun f F ad ρ g σ H D R h D2 le => le.nx F ad ρ g σ H rfl R h
theorem sim_seq {t u : TS} {a b : DS G} (ha : SimS Z t a) (hb : SimS Z u b) : SimS Z (tSeq t u) (dSeq a b) := fun f F ad ρ g σ H D R h D2 le => by
  refine ha f F ad ρ g σ H _ R h _ ⟨fun F1 ad1 ρ1 g1 σ1 H1 er R1 h1 => ?_, le.rt, le.bk, le.ct⟩
  exact hb f F1 ad1 ρ1 g1 σ1 H1 D R1 h1 D2 (by rw [er]; exact le)
theorem s_nil : DSs X Z [] tNext (dNext (G := G)) := ⟨pss_nil, sim_next⟩
theorem s_cons {s : Stmt} {ss : List Stmt} {t u : TS} {a b : DS G} (h : DSt X Z s t a) (k : DSs X Z ss u b) : DSs X Z (s :: ss) (tSeq t u) (dSeq a b) := ⟨pss_cons h.ps k.ps, sim_seq h.sim k.sim⟩
theorem s_one {s : Stmt} {t : TS} {a : DS G} (h : DSt X Z s t a) : DSs X Z [s] t a := ⟨pss_one h.ps, h.sim⟩
/-- x = e -/
def asgS (i j : Nat) (ρ : En) : Option Sl → Option En
  | some (.dt d) => some (ρ.set j (.dt d))
  | some (.ls ds) => some ((ρ.set i (.dt (.list ds))).set j (.dt (.list ds)))
  | some (.dk ds) => some ((ρ.set i (.dt (.dict ds))).set j (.dt (.dict ds)))
  | _ => none
def asg (j : Nat) : Rs → En → Option En
  | .dt d, ρ => some (ρ.set j (.dt d))
  | .nl ds, ρ => some (ρ.set j (.ls ds))
  | .nd ks, ρ => some (ρ.set j (.dk ks))
  | .br i, ρ => asgS i j ρ ρ[i]?
  | .rs n, ρ => some (ρ.set j (.rs n))
  | .vv v, ρ => some (ρ.set j (.vv v))
section
variable {f : Fx} {F F' : Hp} {ad : Nat → Addr} {ρ ρ' : En} {g g' : G} {σ : St} {H H' : Hp}
theorem Rel.setD (R : Rel Z f F ad ρ g σ H) {j : Nat} {v : V} {d : PyData} (hj : j < σ.length) (h : Da K F v d) : Rel Z f F (adS ad j 0) (ρ.set j (.dt d)) g (σ.set j (some v)) H :=
  R.setSl ⟨v, by rw [List.getElem?_set_self hj], h⟩ fun ho => by cases ho
theorem Rel.hasg (R : Rel Z f F ad ρ g σ H) {j : Nat} {v : V} {r : Rs} (hj : j < σ.length) (h : VR Z f F ad ρ g σ H v r) (e : asg j r ρ = some ρ') : ∃ F' ad', Rel Z f F' ad' ρ' g (σ.set j (some v)) H := by
  cases r with
  | dt d => cases e; exact ⟨F, _, R.setD hj h⟩
  | nl ds =>
    cases e
    obtain ⟨a, vs, rfl, n, h1, h2⟩ := h
    refine ⟨F, _, R.setSl (a := a) ?_ fun _ i t hi ho _ => n.2 i t hi ho⟩
    exact ⟨by rw [List.getElem?_set_self hj, adS_same], by rw [adS_same]; exact n.1, vs, by rw [adS_same]; exact h1, h2⟩
  | nd ds =>
    cases e
    obtain ⟨a, vs, rfl, n, h1, h2⟩ := h
    refine ⟨F, _, R.setSl (a := a) ?_ fun _ i t hi ho _ => n.2 i t hi ho⟩
    exact ⟨by rw [List.getElem?_set_self hj, adS_same], by rw [adS_same]; exact n.1, vs, by rw [adS_same]; exact h1, h2⟩
  | br i =>
    have e1 : asgS i j ρ ρ[i]? = some ρ' := e
    cases hi : ρ[i]? with
    | none => rw [hi] at e1; cases e1
    | some s =>
      rw [hi] at e1
      have q := R.slot i _ hi
      cases s with
      | dt d =>
        cases e1
        obtain ⟨w, q1, q2⟩ := q
        have z : some (some w) = some (some v) := q1.symm.trans h
        cases z
        exact ⟨F, _, R.setD hj q2⟩
      | ls ds =>
        cases e1
        obtain ⟨F', e, R', dl⟩ := R.fzOwn hi
        have z : some (some (V.ref (ad i))) = some (some v) := q.1.symm.trans h
        cases z
        exact ⟨F', _, R'.setD hj dl⟩
      | dk ds =>
        cases e1
        obtain ⟨F', e, R', dl⟩ := R.fzOwnD hi
        have z : some (some (V.ref (ad i))) = some (some v) := q.1.symm.trans h
        cases z
        exact ⟨F', _, R'.setD hj dl⟩
      | _ => cases e1
  | rs n => cases e; cases (show v = .ref (Z.ra g n) from h); exact ⟨F, _, R.setSl (a := 0) (by show _ = _; rw [List.getElem?_set_self hj]) fun ho => by cases ho⟩
  | vv u => cases e; cases (show v = u from h); exact ⟨F, _, R.setSl (a := 0) (by show _ = _; rw [List.getElem?_set_self hj]) fun ho => by cases ho⟩
end
def dAsg (a : DT G) (j : Nat) : DS G := fun D ρ g => a ρ g fun r ρ1 g1 => opK (asg j r ρ1) fun ρ2 => ltK j ρ1.length (D.nx ρ2 g1)
theorem sim_asg {te : TE} {a : DT G} {j : Nat} (ha : Sim Z te a) : SimS Z (tAsg te (gName j)) (dAsg a j) := fun f F ad ρ g σ H D R h D2 le => by
  refine ha f F ad ρ g σ H _ R h _ fun x H1 q => ?_
  obtain ⟨F1, ad1, ρ1, g1, r1, e1, eg1, R1, v1, q⟩ := q
  obtain ⟨ρ2, ea, q⟩ := opK_e q
  obtain ⟨hj, q⟩ := ltK_e q
  obtain ⟨F2, ad2, R2⟩ := R1.hasg (by rw [← R1.len]; exact hj) v1 ea
  exact le.nx F2 ad2 ρ2 g1 _ H1 eg1 R2 q
theorem s_set (j : Nat) {x : Str} {e : Expr} {te : TE} {a : DT G} {pos pos' : Pos} (hN : X.N.Nodup) (he : DE X Z e te a) (hx : Loc X.env.scope x := by first | exact Or.inl rfl | exact Or.inr rfl) (hi : X.N[j]? = some x := by rfl) (hs : swapsWith e (some (.Name x pos')) pos.line X.env = pure false := by rfl)
    (hf : X.fn x = true ∨ X.env.scope.names.lookup x = some .local := by first | exact .inl rfl | exact .inr rfl | assumption) : DSt X Z (.Assign [.Name x pos'] e pos) (tAsg te (gName j)) (dAsg a j) :=
  ⟨ps_set hN hi hx he.pe hs hf, sim_asg he.sim⟩
def dDrop (a : DT G) : DS G := fun D ρ g => a ρ g fun _ ρ1 g1 => D.nx ρ1 g1
theorem s_expr {e : Expr} {te : TE} {a : DT G} {pos : Pos} (he : DE X Z e te a) (hs : swapsWith e none pos.line X.env = pure false := by rfl) : DSt X Z (.Expr e pos) (tDrop te) (dDrop a) := ⟨ps_expr he.pe hs, fun f F ad ρ g σ H D R h D2 le => by
  refine he.sim f F ad ρ g σ H _ R h _ fun x H1 q => ?_
  obtain ⟨F1, ad1, ρ1, g1, r1, e1, eg1, R1, v1, q⟩ := q
  exact le.nx F1 ad1 ρ1 g1 σ H1 eg1 R1 q⟩
def retS : Option Sl → Option Rs
  | some (.dt d) => some (.dt d)
  | some (.ls ds) => some (.nl ds)
  | some (.dk ks) => some (.nd ks)
  | _ => none
def retR : Rs → En → Option Rs
  | .br i, ρ => retS ρ[i]?
  | r, _ => some r
theorem Rel.hret {f : Fx} {F : Hp} {ad : Nat → Addr} {ρ : En} {g : G} {σ : St} {H : Hp} {v : V} {r q : Rs} (R : Rel Z f F ad ρ g σ H) (h : VR Z f F ad ρ g σ H v r) (e : retR r ρ = some q) : VFin Z f F g H v q := by
  cases r with
  | dt d => cases e; exact h
  | nl ds => cases e; obtain ⟨a, vs, rfl, n, h1, h2⟩ := h; exact ⟨a, vs, rfl, n.1, h1, h2⟩
  | nd ds => cases e; obtain ⟨a, vs, rfl, n, h1, h2⟩ := h; exact ⟨a, vs, rfl, n.1, h1, h2⟩
  | br i =>
    have e1 : retS ρ[i]? = some q := e
    cases hi : ρ[i]? with
    | none => rw [hi] at e1; cases e1
    | some s =>
      rw [hi] at e1
      have z := R.slot i _ hi
      cases s with
      | dt d =>
        cases e1
        obtain ⟨w, q1, q2⟩ := z
        have z : some (some w) = some (some v) := q1.symm.trans h
        cases z
        exact q2
      | ls ds =>
        cases e1
        obtain ⟨q1, q2, vs, q3, q4⟩ := z
        have z : some (some (V.ref (ad i))) = some (some v) := q1.symm.trans h
        cases z
        exact ⟨_, vs, rfl, q2, q3, q4⟩
      | dk ds =>
        cases e1
        obtain ⟨q1, q2, vs, q3, q4⟩ := z
        have z : some (some (V.ref (ad i))) = some (some v) := q1.symm.trans h
        cases z
        exact ⟨_, vs, rfl, q2, q3, q4⟩
      | _ => cases e1
  | rs n => cases e; exact h
  | vv u => cases e; exact h
def dRet (a : DT G) : DS G := fun D ρ g => a ρ g fun r ρ1 g1 => opK (retR r ρ1) fun q => D.rt q g1
theorem s_ret {e : Expr} {te : TE} {a : DT G} {pos : Pos} (he : DE X Z e te a) : DSt X Z (.Return (some e) pos) (tRet te) (dRet a) := ⟨ps_ret he.pe, fun f F ad ρ g σ H D R h D2 le => by
  refine he.sim f F ad ρ g σ H _ R h _ fun x H1 q => ?_
  obtain ⟨F1, ad1, ρ1, g1, r1, e1, eg1, R1, v1, q⟩ := q
  obtain ⟨q, er, hq⟩ := opK_e q
  exact le.rt F1 g1 H1 x q eg1 R1.fin (R1.hret v1 er) hq⟩
def dIfS (c : DB G) (t u : DS G) : DS G := fun D ρ g => c ρ g fun b ρ1 g1 => ifb b (t D ρ1 g1) (u D ρ1 g1)
theorem s_if {c : Expr} {tc : TT} {dc : DB G} {a b : List Stmt} {t u : TS} {da db : DS G} {pos : Pos} (hc : DTe X Z c tc dc) (ha : DSs X Z a t da) (hb : DSs X Z b u db) : DSt X Z (.If c a b pos) (tIfS tc t u) (dIfS dc da db) := ⟨ps_if hc.pt ha.ps hb.ps, fun f F ad ρ g σ H D R h D2 le => by
  refine hc.sim f F ad ρ g σ H _ R h _ fun x H1 q => ?_
  obtain ⟨F1, ad1, ρ1, g1, e1, eg1, R1, q⟩ := q
  cases x with
  | true =>
    rw [if_pos rfl]
    replace q := ifb_t q
    exact ha.sim f F1 ad1 ρ1 g1 σ H1 D R1 q D2 (by rw [eg1]; exact le)
  | false =>
    rw [if_neg Bool.false_ne_true]
    replace q := ifb_f q
    exact hb.sim f F1 ad1 ρ1 g1 σ H1 D R1 q D2 (by rw [eg1]; exact le)⟩
/-- while: an invariant with its measure -/
structure WhileP (c : DB G) (b : DS G) (D : D3 G) (ρ0 : En) (g0 : G) : Prop where
  ex : ∃ W : Nat → En → G → Prop, (∃ m, W m ρ0 g0) ∧ ∀ m ρ g, W m ρ g →
    c ρ g fun k ρ1 g1 => ifb k (b { D with nx := fun ρ2 g2 => ∃ m', m' < m ∧ W m' ρ2 g2, ct := fun ρ2 g2 => ∃ m', m' < m ∧ W m' ρ2 g2, bk := D.nx } ρ1 g1) (D.nx ρ1 g1)
def dWhile (c : DB G) (b : DS G) : DS G := fun D ρ g => WhileP c b D ρ g
theorem s_while {c : Expr} {body : List Stmt} {tc : TT} {tb : TS} {dc : DB G} {db : DS G} {pos : Pos} (hc : DTe X Z c tc dc) (hb : DSs X Z body tb db) (hp : PassesOwn (model X.prog X.w) X.A X.env X.xe := by exact PassesOwn.never) : DSt X Z (.While c body [] pos) (tWhile tc tb) (dWhile dc db) := ⟨ps_while hp hc.pt hb.ps, fun f F ad ρ g σ H D R h D2 le => by
  obtain ⟨⟨W, ⟨m0, h0⟩, hs⟩⟩ := h
  refine ⟨fun m σ H => ∃ F ad ρ g', Z.ra g' = Z.ra g ∧ Rel Z f F ad ρ g' σ H ∧ W m ρ g', ⟨m0, F, ad, ρ, g, rfl, R, h0⟩, fun m σ1 H1 hW => ?_⟩
  obtain ⟨F1, ad1, ρ1, g1, eg1, R1, w1⟩ := hW
  refine hc.sim f F1 ad1 ρ1 g1 σ1 H1 _ R1 (hs m ρ1 g1 w1) _ fun k H2 q => ?_
  obtain ⟨F2, ad2, ρ2, g2, e2, eg2, R2, q⟩ := q
  cases k with
  | true =>
    rw [if_pos rfl]
    replace q := ifb_t q
    refine ⟨fun σ' H' => ∃ m', m' < m ∧ ∃ F ad ρ g', Z.ra g' = Z.ra g ∧ Rel Z f F ad ρ g' σ' H' ∧ W m' ρ g', fun σ' H' z => z, ?_⟩
    refine hb.sim f F2 ad2 ρ2 g2 σ1 H2 _ R2 q _ ⟨fun F3 ad3 ρ3 g3 σ3 H3 er R3 h3 => ?_, fun F3 g3 H3 v r er => le.rt F3 g3 H3 v r (er.trans (eg2.trans eg1)), fun F3 ad3 ρ3 g3 σ3 H3 er => le.nx F3 ad3 ρ3 g3 σ3 H3 (er.trans (eg2.trans eg1)), fun F3 ad3 ρ3 g3 σ3 H3 er R3 h3 => ?_⟩
    · obtain ⟨m', hm, w⟩ := h3
      exact ⟨m', hm, F3, ad3, ρ3, g3, er.trans (eg2.trans eg1), R3, w⟩
    · obtain ⟨m', hm, w⟩ := h3
      exact ⟨m', hm, F3, ad3, ρ3, g3, er.trans (eg2.trans eg1), R3, w⟩
  | false =>
    rw [if_neg Bool.false_ne_true]
    replace q := ifb_f q
    exact le.nx F2 ad2 ρ2 g2 σ1 H2 (eg2.trans eg1) R2 q⟩
def slOf : Rs → Sl
  | .dt d => .dt d
  | .rs n => .rs n
  | .vv v => .vv v
  | _ => .un
def entry (N : List Str) (as : List Rs) : En := as.map slOf ++ List.replicate (N.length - as.length) .un
theorem argR_len {F : Hp} {g : G} {vs : List V} {as : List Rs} (h : ArgR Z F g vs as) : vs.length = as.length := Paired.length h
theorem argR_get {F : Hp} {g : G} : ∀ {vs : List V} {as : List Rs} {i : Nat} {r : Rs}, ArgR Z F g vs as → as[i]? = some r → ∃ v, vs[i]? = some v ∧ ArgV Z F g v r
  | _, _, _, _, .nil, e => by simp at e
  | _, _, 0, _, .cons h _, e => by simp at e; subst e; exact ⟨_, rfl, h⟩
  | _, _, i + 1, _, .cons _ t, e => by
    obtain ⟨v, h1, h2⟩ := argR_get (i := i) t (by simpa using e)
    exact ⟨v, by simpa using h1, h2⟩
theorem rel_entry {N : List Str} {vs : List V} {as : List Rs} {F H : Hp} {g : G} (h1 : Ex F H) (h2 : Z.R g F H) (h3 : ∀ a ∈ Z.fp g, F a = none) (h4 : ArgR Z F g vs as) (hN : as.length ≤ N.length) (lx : LeX Z ⟨H, F, Z.fp g⟩ (Z.ra g)) : Rel Z ⟨H, F, Z.fp g⟩ F (fun _ => 0) (entry N as) g (L2.start N vs) H := by
  have hl := argR_len h4
  have get : ∀ (i : Nat) (s : Sl), (entry N as)[i]? = some s → (i < as.length ∧ ∃ r, as[i]? = some r ∧ s = slOf r) ∨ s = .un := fun i s hi => by
    unfold entry at hi
    by_cases hlt : i < as.length
    · rw [List.getElem?_append_left (by rw [List.length_map]; exact hlt), List.getElem?_map] at hi
      cases e : as[i]? with
      | none => rw [e] at hi; cases hi
      | some r => rw [e] at hi; cases hi; exact .inl ⟨hlt, r, rfl, rfl⟩
    · rw [List.getElem?_append_right (by rw [List.length_map]; omega), List.getElem?_replicate] at hi
      split at hi
      · cases hi; exact .inr rfl
      · cases hi
  have nown : ∀ (i : Nat) (s : Sl), (entry N as)[i]? = some s → s.own = false := fun i s hi => by
    rcases get i s hi with ⟨_, r, _, rfl⟩ | rfl
    · cases r <;> rfl
    · rfl
  refine ⟨⟨⟨Evl.Ex.refl F, h1, fun b o e _ => e, fun b hb => hb, fun b o e => .inl e, h2, h3, fun a ha => .inl ha, fun a ha => Z.there h2 a ha⟩, ?_, fun i s hi => ?_, fun i j s t hi hj hs => ?_⟩, lx⟩
  · unfold entry L2.start
    rw [List.length_append, List.length_map, List.length_replicate, List.length_append, List.length_map, List.length_replicate, hl]
  · rcases get i s hi with ⟨hlt, r, hr, rfl⟩ | rfl
    · obtain ⟨v, hv, av⟩ := argR_get h4 hr
      have hst : (L2.start N vs)[i]? = some (some v) := by
        unfold L2.start
        rw [List.getElem?_append_left (by rw [List.length_map, hl]; exact hlt), List.getElem?_map, hv]; rfl
      cases r with
      | dt d => exact ⟨v, hst, av⟩
      | rs n => cases (show v = .ref (Z.ra g n) from av); exact hst
      | vv u => cases (show v = u from av); exact hst
      | _ => exact av.elim
    · trivial
  · rw [nown i s hi] at hs; cases hs
section
variable {P : Program} {w : World} {K : PySem.W.Frag} {mg : Str → Option Value} {base : Heap}
/-- what a body has to show -/
theorem body3 {Z : Zx K G} {W : WXH} {U' : UX G} {N : List Str} {H : Hp} {vs : List V} {Q : VK} {ts : TS} {t : DS G} {F : Hp} {g : G} {as : List Rs} {T : Rs → G → Prop} {n : Nat}
    (h1 : Ex F H) (h2 : Z.R g F H) (h3 : ∀ a ∈ Z.fp g, F a = none) (h4 : ArgR Z F g vs as) (hn : as.length = n) (hN : n ≤ N.length) (lx : LeX (Z.wish W U') ⟨H, F, Z.fp g⟩ (Z.ra g))
    (h6 : ∀ v r F' g' H', Frm Z F H g F' H' g' → Z.ra g' = Z.ra g → VRet Z F' H H' g' v r → T r g' → Q v H') (hd : SimS (Z.wish W U') ts t) (hb : t { nx := fun _ g' => T (.dt .none) g', rt := T } (entry N as) g) :
    ts { nx := fun _ H' => Q .non H', rt := Q } (L2.start N vs) H := by
  have fr : ∀ {F' : Hp} {g' : G} {H' : Hp}, Fin (Z.wish W U') ⟨H, F, Z.fp g⟩ F' g' H' → Frm Z F H g F' H' g' := fun {F' g' H'} r =>
    ⟨r.base, r.keep, r.keepN, r.new, r.sub, r.res, r.fpF, r.fpB⟩
  have R0 := rel_entry (Z := Z.wish W U') (N := N) h1 h2 h3 h4 (by rw [hn]; exact hN) lx
  refine hd ⟨H, F, Z.fp g⟩ F (fun _ => 0) (entry N as) g (L2.start N vs) H _ R0 hb _ ⟨fun F' ad ρ g' σ H' er R hT => ?_, fun F' g' H' v r er R hv hT => ?_, fun _ _ _ _ _ _ _ _ z => z.elim, fun _ _ _ _ _ _ _ _ z => z.elim⟩
  · exact h6 .non (.dt .none) F' g' H' (fr R.fin) er .non hT
  · refine h6 v r F' g' H' (fr R) er ?_ hT
    cases r with
    | dt d => exact hv
    | nl ds => obtain ⟨a, vs, rfl, n, q1, q2⟩ := hv; exact ⟨a, vs, rfl, n.2.1, n.1, n.2.2, q1, q2⟩
    | nd ds => obtain ⟨a, vs, rfl, n, q1, q2⟩ := hv; exact ⟨a, vs, rfl, n.2.1, n.1, n.2.2, q1, q2⟩
    | br i => exact hv
    | rs n => exact hv
    | vv u => exact hv
/-- THE RULE for a def that lets no error out -/
theorem fun3 {Z : Zx K G} {x qual : Str} {st : Stmt} {fa : Addr} {fd : FuncData} {N ps : List Str} {k : Nat} {S : Spec G} (Fu : Fun K x qual st fa fd) (Sc : FnScope N ps (defScope st)) (hS : ∀ as g T U, S as g T U → as.length = ps.length) (hN : ps.length ≤ N.length)
    (body : ∀ (cdv : Value) (A : Around) (outer : List Env) (s : Shared) (H : Hp) (E : XK), RoomG k (A.deeper (PyProof.Rows.envOfC qual (defScope st) s.heap.objs.size fa cdv)) →
      ∃ ts t, DSs (cxOf (L2.CX P w) P w K mg base N qual (defScope st) fa cdv A outer s H E).nox (Z.wish (fun _ _ _ _ => False) Un) (defBody st) ts t ∧ ∀ as g T U, S as g T U → t { nx := fun _ g' => T (.dt .none) g', rt := T } (entry N as) g) : FnG P w K mg base (L2.CX P w) (k + 1) fa fd ps (spZ Z S) := by
  refine funG Fu Sc (fun vs H Q E h => ?_) (fun cdv A outer s H vs Q E hr h => ?_)
  · obtain ⟨F, g, as, T, U, h1, h2, h3, h4, h5, _⟩ := h
    rw [argR_len h4]
    exact hS as g T U h5
  · obtain ⟨F, g, as, T, U, h1, h2, h3, h4, h5, h6, h7⟩ := h
    obtain ⟨ts, t, hd, hb⟩ := body cdv A outer s H E hr
    exact ⟨ts, hd.ps.nox, body3 h1 h2 h3 h4 (hS as g T U h5) hN (fun _ _ _ _ _ _ _ _ _ _ _ _ z => z.elim) h6 hd.sim (hb as g T U h5)⟩
/-- THE RULE for a def that may raise -/
theorem fun3X {Z : Zx K G} {x qual : Str} {st : Stmt} {fa : Addr} {fd : FuncData} {N ps : List Str} {k : Nat} {S : Spec G} (Fu : Fun K x qual st fa fd) (Sc : FnScope N ps (defScope st)) (hS : ∀ as g T U, S as g T U → as.length = ps.length) (hN : ps.length ≤ N.length)
    (body : ∀ (cdv : Value) (A : Around) (outer : List Env) (s : Shared) (H : Hp) (E : XK) (U : XU G), RoomG k (A.deeper (PyProof.Rows.envOfC qual (defScope st) s.heap.objs.size fa cdv)) →
      Takes (cxOf (L2.CX P w) P w K mg base N qual (defScope st) fa cdv A outer s H E) (fun c d _ H => E c d H) →
      PassesOwn (model P w) (A.deeper (PyProof.Rows.envOfC qual (defScope st) s.heap.objs.size fa cdv)) (PyProof.Rows.envOfC qual (defScope st) s.heap.objs.size fa cdv) (cxOf (L2.CX P w) P w K mg base N qual (defScope st) fa cdv A outer s H E).xe →
      ∃ ts t, DSs (cxOf (L2.CX P w) P w K mg base N qual (defScope st) fa cdv A outer s H E) (Z.wish (fun c d _ H => E c d H) (fun c fs _ g => U c fs g)) (defBody st) ts t ∧ ∀ as g T, S as g T U → t { nx := fun _ g' => T (.dt .none) g', rt := T } (entry N as) g) : FnG P w K mg base (L2.CX P w) (k + 1) fa fd ps (spZ Z S) := by
  refine funG Fu Sc (fun vs H Q E h => ?_) (fun cdv A outer s H vs Q E hr h => ?_)
  · obtain ⟨F, g, as, T, U, h1, h2, h3, h4, h5, _⟩ := h
    rw [argR_len h4]
    exact hS as g T U h5
  · obtain ⟨F, g, as, T, U, h1, h2, h3, h4, h5, h6, h7⟩ := h
    obtain ⟨ts, t, hd, hb⟩ := body cdv A outer s H E U hr (takes_of rfl rfl rfl rfl) (passes_of rfl)
    refine ⟨ts, hd.ps, body3 h1 h2 h3 h4 (hS as g T U h5) hN (fun F' ad ρ g' σ H' c dx fs er R hx hu => ?_) h6 hd.sim (hb as g T h5)⟩
    exact h7 c fs dx F' g' H' ⟨R.fin.base, R.fin.keep, R.fin.keepN, R.fin.new, R.fin.sub, R.fin.res, R.fin.fpF, R.fin.fpB⟩ er hx hu
end
end L3
end
section
namespace L2
open PySem PySem.Spec PyProof.Rows
def iSeq (K : PySem.W.Frag) (tl : TE) : TI := fun σ H R => tl σ H fun x H1 => (∃ a, x = .ref a ∧ (∃ xs, SqL K H1 a xs) ∧ R (Itl K a) H1) ∨ (∃ a, x = .ref a ∧ (∃ xs, SqT K H1 a xs) ∧ R (Itt K a) H1)
theorem pi_seq {X : Cx} {tg l : Expr} {tl : TE} (hl : PE X l tl) : PI X tg l (iSeq X.K tl) := by
  refine ⟨fun pins s σ H R I h => ?_⟩
  refine thn (hl.run pins s σ H _ I h) fun v s1 ⟨x, H1, I1, r1, q1⟩ => ?_
  rcases q1 with ⟨a, e, ⟨xs, hq⟩, q⟩ | ⟨a, e, ⟨xs, hq⟩, q⟩
  · subst e
    cases r1
    obtain ⟨its, rv, p, hz⟩ := I1.list hq
    refine wpAny_pyIter_list p.isList ?_
    exact ⟨s1.heap.objs.size, [s1.heap.objs.size], _, _, H1, rfl, I1.kept (t' := s1.toks) fun b o e => Heap.get?_push_of_some _ e, turn_list a _, ⟨_, Heap.get?_push_size _ rfl, rfl, rfl⟩, fp_of I1 (by simp), q⟩
  · subst e
    cases r1
    obtain ⟨its, rv, p, hz⟩ := I1.tuple hq
    refine wpAny_pyIter_tuple p ?_
    exact ⟨s1.heap.objs.size, [s1.heap.objs.size], _, _, H1, rfl, I1.kept (t' := s1.toks) fun b o e => Heap.get?_push_of_some _ e, turn_tuple a _, ⟨_, Heap.get?_push_size _ rfl, rfl, rfl⟩, fp_of I1 (by simp), q⟩
end L2
namespace L3
open PySem L2
variable {G : Type} {K : PySem.W.Frag} {X : Cx} {Z : Zx K G}
abbrev DG (G : Type) := PyData → En → G → (En → G → Prop) → Prop
abbrev DGs (G : Type) := List PyData → En → G → (En → G → Prop) → Prop
def SimG (Z : Zx K G) (tg : TG) (t : DG G) : Prop := ∀ f F ad ρ g σ H v d Q, Rel Z f F ad ρ g σ H → Da K F v d → t d ρ g Q → ∀ P : St → Hp → Prop,
  (∀ F' ad' ρ' g' σ' H', Ex F F' → Z.ra g' = Z.ra g → Rel Z f F' ad' ρ' g' σ' H' → Q ρ' g' → P σ' H') → tg v σ H P
def SimGs (Z : Zx K G) (tg : TGs) (t : DGs G) : Prop := ∀ f F ad ρ g σ H vs ds Q, Rel Z f F ad ρ g σ H → DaAll K F vs ds → t ds ρ g Q → ∀ P : St → Hp → Prop,
  (∀ F' ad' ρ' g' σ' H', Ex F F' → Z.ra g' = Z.ra g → Rel Z f F' ad' ρ' g' σ' H' → Q ρ' g' → P σ' H') → tg vs σ H P
structure DGt (X : Cx) (Z : Zx K G) (e : Expr) (tg : TG) (t : DG G) : Prop where
  pg : PG X e tg
  sim : SimG Z tg t
structure DGts (X : Cx) (Z : Zx K G) (es : List Expr) (tg : TGs) (t : DGs G) : Prop where
  pgs : PGs X es tg
  sim : SimGs Z tg t
def dN (j : Nat) : DG G := fun d ρ g Q => ltK j ρ.length (Q (ρ.set j (.dt d)) g)
theorem g_name (j : Nat) {x : Str} {pos : Pos} (hN : X.N.Nodup) (hx : Loc X.env.scope x := by first | exact Or.inl rfl | exact Or.inr rfl) (hi : X.N[j]? = some x := by rfl) (hf : X.fn x = true ∨ X.env.scope.names.lookup x = some .local := by first | exact .inl rfl | exact .inr rfl | assumption) :
    DGt X Z (.Name x pos) (gName j) (dN (G := G) j) := ⟨pg_name hN hi hx hf, fun f F ad ρ g σ H v d Q R h q P hP => hP F _ _ g _ H (Evl.Ex.refl F) rfl (R.setD (by rw [← R.len]; exact (ltK_e q).1) h) (ltK_e q).2⟩
def dGnil : DGs G := fun ds ρ g Q => match ds with
  | [] => Q ρ g
  | _ => False
def dGcons (t : DG G) (u : DGs G) : DGs G := fun ds ρ g Q => match ds with
  | d :: r => t d ρ g fun ρ1 g1 => u r ρ1 g1 Q
  | [] => False
theorem gs_nil : DGts X Z [] gNil (dGnil (G := G)) := ⟨pgs_nil, fun f F ad ρ g σ H vs ds Q R h q P hP => by
  cases h with
  | nil => exact ⟨rfl, hP F ad ρ g σ H (Evl.Ex.refl F) rfl R q⟩
  | cons _ _ => cases q⟩
theorem gs_cons {e : Expr} {es : List Expr} {t : TG} {u : TGs} {a : DG G} {b : DGs G} (h1 : DGt X Z e t a) (h2 : DGts X Z es u b) (hs : (assignEach (e :: es) X.env).map (·.2) = assign e X.env :: (assignEach es X.env).map (·.2) := by rfl) :
    DGts X Z (e :: es) (gCons t u) (dGcons a b) := ⟨pgs_cons h1.pg h2.pgs hs, fun f F ad ρ g σ H vs ds Q R h q P hP => by
  cases h with
  | nil => cases q
  | cons h r =>
    refine ⟨_, _, rfl, h1.sim f F ad ρ g σ H _ _ _ R h q _ fun F1 ad1 ρ1 g1 σ1 H1 e1 er1 R1 q1 => ?_⟩
    exact h2.sim f F1 ad1 ρ1 g1 σ1 H1 _ _ _ R1 (daAll_mono e1 r) q1 P fun F2 ad2 ρ2 g2 σ2 H2 e2 er2 R2 q2 => hP F2 ad2 ρ2 g2 σ2 H2 (e1.trans e2) (er2.trans er1) R2 q2⟩
def dGt (n : Nat) (t : DGs G) : DG G := fun d ρ g Q => match d with
  | .tuple ds => tt (Nat.beq ds.length n) (t ds ρ g Q)
  | .list ds => tt (Nat.beq ds.length n) (t ds ρ g Q)
  | _ => False
theorem g_tup {es : List Expr} {k : Nat} {t : TGs} {a : DGs G} {n : Nat} {pos : Pos} (h : DGts X Z es t a) (hc : X.calm = true := by rfl) (hn : (assignEach es X.env).length = n := by rfl) (hst : (assignEach es X.env).findIdx? (·.1) = none := by rfl) (hK : K = X.K := by rfl) :
    DGt X Z (.Tuple es k pos) (gSeq K n t) (dGt n a) := ⟨by rw [hK]; exact pg_seq hc h.pgs hn hst, fun f F ad ρ g σ H v d Q R hd q P hP => by
  cases hd with
  | lst h1 h2 => exact ⟨_, _, rfl, .inl (.inl (.inl (R.fin.sub _ _ h1))), h2.length.trans (Nat.eq_of_beq_eq_true (tt_e q).1), h.sim f F ad ρ g σ H _ _ Q R h2 (tt_e q).2 P hP⟩
  | tup h1 h2 => exact ⟨_, _, rfl, .inr (Evl.ex_t R.fin.sub h1), h2.length.trans (Nat.eq_of_beq_eq_true (tt_e q).1), h.sim f F ad ρ g σ H _ _ Q R h2 (tt_e q).2 P hP⟩
  | _ => cases q⟩
/-- a, b = e -/
def dAsgT (a : DT G) (t : DG G) : DS G := fun D ρ g => a ρ g fun r ρ1 g1 => fz1 r ρ1 fun d ρ2 => t d ρ2 g1 D.nx
theorem s_asg {tg e : Expr} {te : TE} {a : DT G} {gt : TG} {t : DG G} {pos : Pos} (he : DE X Z e te a) (hg : DGt X Z tg gt t) (hs : swapsWithSole [tg] e pos.line X.env = pure false := by rfl) (hw : swappedStores [tg] e X.env = pure none := by rfl)
    (h1 : (assignEach [tg] X.env).map (·.2) = [assign tg X.env] := by rfl) : DSt X Z (.Assign [tg] e pos) (tAsg te gt) (dAsgT a t) := ⟨ps_asg he.pe hg.pg hs hw h1, fun f F ad ρ g σ H D R h D2 le => by
  refine he.sim f F ad ρ g σ H _ R h _ fun x H1 q => ?_
  obtain ⟨F1, ad1, ρ1, g1, r1, e1, eg1, R1, v1, q⟩ := q
  obtain ⟨d, ρ2, ef, q⟩ := fz1_of q
  obtain ⟨F2, e2, R2, da⟩ := R1.hfz v1 ef
  exact hg.sim f F2 ad1 ρ2 g1 σ H1 x d _ R2 da q _ fun F3 ad3 ρ3 g3 σ3 H3 e3 er3 R3 q3 => le.nx F3 ad3 ρ3 g3 σ3 H3 (er3.trans eg1) R3 q3⟩
/-- a, b = x, y: both sides written -/
def prD (ds : List PyData) (k : PyData → PyData → Prop) : Prop := match ds with
  | [d, e] => k d e
  | _ => False
theorem prD_of {ds : List PyData} {k : PyData → PyData → Prop} (h : prD ds k) : ∃ d e, ds = [d, e] ∧ k d e := by
  unfold prD at h
  split at h
  · exact ⟨_, _, rfl, h⟩
  · exact h.elim
abbrev DI (G : Type) := En → G → (List PyData → En → G → Prop) → Prop
def Wk (Z : Zx K G) (f : Fx) (F : Hp) (J : It) (items : List PyData) : Prop := ∀ f1 F1 ad ρ g σ H, Ex F F1 → Rel Z f1 F1 ad ρ g σ H → J.stop items.length H ∧ ∀ i, i < items.length → J.go i H ∧
  ∀ x H', J.yld i H x H' → ∃ F2 d, items[i]? = some d ∧ Ex F1 F2 ∧ Rel Z f1 F2 ad ρ g σ H' ∧ Da K F2 x d
def SimI (Z : Zx K G) (wi : TI) (t : DI G) : Prop := ∀ f F ad ρ g σ H Q, Rel Z f F ad ρ g σ H → t ρ g Q → ∀ R : It → Hp → Prop,
  (∀ J H' F' ad' ρ' g' items, Ex F F' → Z.ra g' = Z.ra g → Rel Z f F' ad' ρ' g' σ H' → Wk Z f F' J items → Q items ρ' g' → R J H') → wi σ H R
structure DIt (X : Cx) (Z : Zx K G) (tg e : Expr) (wi : TI) (t : DI G) : Prop where
  pi : PI X tg e wi
  sim : SimI Z wi t
def dSeqI (a : DT G) : DI G := fun ρ g Q => a ρ g fun r ρ1 g1 => fz1 r ρ1 fun d ρ2 => seqD (fun ds => Q ds ρ2 g1) (some d)
theorem wk_list {f : Fx} {F : Hp} {a : Addr} {vs : List V} {ds : List PyData} (h : F a = some (.lst vs)) (da : DaAll K F vs ds) : Wk Z f F (Itl K a) ds := fun f1 F1 ad ρ g σ H e R => by
  have hs : SqL K H a vs := .inl (.inl (R.fin.sub _ _ (e _ _ h)))
  refine ⟨⟨vs, hs, by rw [da.length]; exact Nat.le_refl _⟩, fun i hi => ?_⟩
  have hi2 : i < vs.length := by rw [da.length]; exact hi
  refine ⟨⟨vs, vs[i], hs, by simp [hi2]⟩, fun x H' y => ?_⟩
  obtain ⟨rfl, hx⟩ := y
  obtain ⟨d, hd, dv⟩ := da.getV (hx vs hs)
  exact ⟨F1, d, hd, Evl.Ex.refl F1, R, da_mono e dv⟩
theorem wk_tup {f : Fx} {F : Hp} {a : Addr} {vs : List V} {ds : List PyData} (h : SqT K F a vs) (da : DaAll K F vs ds) : Wk Z f F (Itt K a) ds := fun f1 F1 ad ρ g σ H e R => by
  have hs : SqT K H a vs := Evl.ex_t R.fin.sub (Evl.ex_t e h)
  refine ⟨⟨vs, hs, by rw [da.length]; exact Nat.le_refl _⟩, fun i hi => ?_⟩
  have hi2 : i < vs.length := by rw [da.length]; exact hi
  refine ⟨⟨vs, vs[i], hs, by simp [hi2]⟩, fun x H' y => ?_⟩
  obtain ⟨rfl, hx⟩ := y
  obtain ⟨d, hd, dv⟩ := da.getV (hx vs hs)
  exact ⟨F1, d, hd, Evl.Ex.refl F1, R, da_mono e dv⟩
theorem i_seq {tg e : Expr} {te : TE} {a : DT G} (h : DE X Z e te a) (hK : K = X.K := by rfl) : DIt X Z tg e (iSeq K te) (dSeqI a) := ⟨by rw [hK]; exact pi_seq h.pe, fun f F ad ρ g σ H Q R q P hP => by
  refine h.sim f F ad ρ g σ H _ R q _ fun x H1 q => ?_
  obtain ⟨F1, ad1, ρ1, g1, r1, e1, eg1, R1, v1, q⟩ := q
  obtain ⟨d, ρ2, ef, q⟩ := fz1_of q
  obtain ⟨F2, e2, R2, dv⟩ := R1.hfz v1 ef
  obtain ⟨ds, hd, q⟩ := seqD_of q
  rcases hd with hd | hd
  · cases hd
    cases dv with
    | lst h1 h2 => exact .inl ⟨_, rfl, ⟨_, .inl (.inl (R2.fin.sub _ _ h1))⟩, hP _ _ F2 ad1 ρ2 g1 ds (e1.trans e2) eg1 R2 (wk_list h1 h2) q⟩
  · cases hd
    cases dv with
    | tup h1 h2 => exact .inr ⟨_, rfl, ⟨_, Evl.ex_t R2.fin.sub h1⟩, hP _ _ F2 ad1 ρ2 g1 ds (e1.trans e2) eg1 R2 (wk_tup h1 h2) q⟩⟩
/-- range -/
def rngD (lo : Int) (n : Nat) : List PyData := (List.range n).map fun i => .int (lo + (i : Nat))
theorem rngD_len (lo : Int) (n : Nat) : (rngD lo n).length = n := by unfold rngD; rw [List.length_map, List.length_range]
theorem rngD_get (lo : Int) {n i : Nat} (h : i < n) : (rngD lo n)[i]? = some (.int (lo + (i : Nat))) := by
  unfold rngD
  rw [List.getElem?_map, List.getElem?_range h]; rfl
theorem wk_rng {f : Fx} {F : Hp} {lo : Int} {n : Nat} : Wk Z f F (Itr lo n) (rngD lo n) := fun f1 F1 ad ρ g σ H e R => by
  rw [rngD_len]
  refine ⟨Nat.le_refl _, fun i hi => ⟨hi, fun x H' y => ?_⟩⟩
  obtain ⟨rfl, rfl⟩ := y
  exact ⟨F1, _, rngD_get lo hi, Evl.Ex.refl F1, R, .int _⟩
def small62 (j : Int) : Bool := match j with
  | .ofNat n => Nat.ble (n + 1) 4611686018427387904
  | .negSucc n => Nat.ble (n + 1) 4611686018427387904
def rgK (n : Int) (p : Prop) : Prop := gd (small62 n) (-(2 ^ 62) ≤ n ∧ n < 2 ^ 62) p
theorem rgK_e {n : Int} {p : Prop} (h : rgK n p) : (-(2 ^ 62) ≤ n ∧ n < 2 ^ 62) ∧ p := gd_e (fun e => by
  cases n with
  | ofNat n => have := Nat.le_of_ble_eq_true e; constructor <;> (simp only [Int.ofNat_eq_natCast]; omega)
  | negSucc n => have := Nat.le_of_ble_eq_true e; constructor <;> omega) h
theorem rgK_of {n : Int} {p : Prop} (h0 : -(2 ^ 62) ≤ n) (h1 : n < 2 ^ 62) (hp : p) : rgK n p := gd_of ⟨h0, h1⟩ hp
def dRng1 (t : DA G) : DI G := fun ρ g Q => t ρ g fun rs ρ1 g1 => one (fun r => iiU (fun n => rgK n (Q (rngD 0 n.toNat) ρ1 g1)) (rd r ρ1)) rs
theorem i_rng1 {tg a : Expr} {ta : TA} {t : DA G} {p pos : Pos} (hm : X.mg "range" = none) (ha : DAs X Z [a] ta t) (hg : Gl X "range" := by rfl) (hs : starEach [a] X.env = [(false, eval a X.env)] := by rfl) : DIt X Z tg (.Call (.Name "range" p) [a] [] pos) (iRng1 ta) (dRng1 t) :=
  ⟨pi_range1 hg hm ha.pa hs, fun f F ad ρ g σ H Q R q P hP => by
    refine ha.sim f F ad ρ g σ H _ R q _ fun vs H1 q => ?_
    obtain ⟨F1, ad1, ρ1, g1, rs, e1, eg1, R1, v1, q⟩ := q
    obtain ⟨r, rfl, q⟩ := one_of q
    obtain ⟨v, rfl, h0⟩ := vrs1 v1
    obtain ⟨n, e, q⟩ := iiU_of q
    obtain ⟨⟨b1, b2⟩, q⟩ := rgK_e q
    exact ⟨n, by rw [R1.rInt h0 e], b1, b2, hP _ _ F1 ad1 ρ1 g1 _ e1 eg1 R1 wk_rng q⟩⟩
/-- enumerate, zip -/
def enumD (ds : List PyData) : List PyData := (List.range ds.length).zipWith (fun (i : Nat) d => .tuple [.int (i : Nat), d]) ds
theorem enumD_len (ds : List PyData) : (enumD ds).length = ds.length := by unfold enumD; rw [List.length_zipWith, List.length_range, Nat.min_self]
theorem enumD_get {ds : List PyData} {i : Nat} {d : PyData} (h : ds[i]? = some d) : (enumD ds)[i]? = some (.tuple [.int (i : Nat), d]) := by
  have hi : i < ds.length := (List.getElem?_eq_some_iff.mp h).1
  unfold enumD
  rw [List.getElem?_zipWith, h, List.getElem?_range hi]
def zipD (ds es : List PyData) : List PyData := List.zipWith (fun d e => .tuple [d, e]) ds es
theorem zipD_len (ds es : List PyData) : (zipD ds es).length = min ds.length es.length := by unfold zipD; rw [List.length_zipWith]
theorem zipD_get {ds es : List PyData} {i : Nat} {d e : PyData} (h : ds[i]? = some d) (h2 : es[i]? = some e) : (zipD ds es)[i]? = some (.tuple [d, e]) := by
  unfold zipD
  rw [List.getElem?_zipWith, h, h2]
def SqF (K : PySem.W.Frag) (F : Hp) : Bool → Addr → List V → Prop
  | true, a, xs => SqT K F a xs
  | false, a, xs => F a = some (.lst xs)
theorem sqF_B {K : PySem.W.Frag} {F H : Hp} (e : Ex F H) {b : Bool} {a : Addr} {xs : List V} (h : SqF K F b a xs) : SqB K H b a xs := by
  cases b with
  | true => exact Evl.ex_t e h
  | false => exact .inl (.inl (e _ _ h))
theorem da_seq {K : PySem.W.Frag} {F : Hp} {v : V} {d : PyData} {k : List PyData → Prop} (h : Da K F v d) (q : seqD k (some d)) : ∃ ds b a vs, v = .ref a ∧ SqF K F b a vs ∧ DaAll K F vs ds ∧ k ds := by
  obtain ⟨ds, hd, q⟩ := seqD_of q
  rcases hd with hd | hd
  · cases hd
    cases h with
    | lst h1 h2 => exact ⟨ds, false, _, _, rfl, h1, h2, q⟩
  · cases hd
    cases h with
    | tup h1 h2 => exact ⟨ds, true, _, _, rfl, h1, h2, q⟩
theorem wk_pair {f1 : Fx} {F1 : Hp} {ad : Nat → Addr} {ρ : En} {g : G} {σ : St} {H : Hp} (R : Rel Z f1 F1 ad ρ g σ H) {T : Addr} {x y : V} {d e : PyData} (hT : H T = none) (hx : Da K F1 x d) (hy : Da K F1 y e) :
    ∃ F2, Ex F1 F2 ∧ Rel Z f1 F2 ad ρ g σ (upd H T (.tup [x, y])) ∧ Da K F2 (.ref T) (.tuple [d, e]) := by
  obtain ⟨R', n⟩ := R.laid (o := .tup [x, y]) hT
  obtain ⟨R2, ee⟩ := R'.froze n upd_same
  exact ⟨_, ee, R2, .tup (.inl (.inl upd_same)) (.cons (da_mono ee hx) (.cons (da_mono ee hy) .nil))⟩
def dEnum (t : DA G) : DI G := fun ρ g Q => t ρ g fun rs ρ1 g1 => one (fun r => fz1 r ρ1 fun d ρ2 => seqD (fun ds => Q (enumD ds) ρ2 g1) (some d)) rs
def dZip (t : DA G) : DI G := fun ρ g Q => t ρ g fun rs ρ1 g1 => fzK rs ρ1 fun ls ρ2 => prD ls fun d e => seqD (fun ds => seqD (fun es => Q (zipD ds es) ρ2 g1) (some e)) (some d)
theorem i_enum {e : Expr} {ta : TA} {t : DA G} {p pos tpos : Pos} {elts : List Expr} {kk : Nat} (hm : X.mg "enumerate" = none) (ha : DAs X Z [e] ta t) (hg : Gl X "enumerate" := by rfl) (hs : starEach [e] X.env = [(false, eval e X.env)] := by rfl) (hK : K = X.K := by rfl) :
    DIt X Z (.Tuple elts kk tpos) (.Call (.Name "enumerate" p) [e] [] pos) (iEnumB K ta) (dEnum t) := ⟨by rw [hK]; exact pi_enumB hg hm ha.pa hs, fun f F ad ρ g σ H Q R q P hP => by
  refine ha.sim f F ad ρ g σ H _ R q _ fun vs H1 q => ?_
  obtain ⟨F1, ad1, ρ1, g1, rs, e1, eg1, R1, v1, q⟩ := q
  obtain ⟨r, rfl, q2⟩ := one_of q
  obtain ⟨d, ρ2, ef, q⟩ := fz1_of q2
  obtain ⟨v, rfl, h0⟩ := vrs1 v1
  obtain ⟨F2, e2, R2, dv⟩ := R1.hfz h0 ef
  obtain ⟨ds, b, a, vs, rfl, hs, da, q⟩ := da_seq dv q
  refine ⟨b, a, vs, rfl, sqF_B R2.fin.sub hs, hP _ _ F2 ad1 ρ2 g1 _ (e1.trans e2) eg1 R2 ?_ q⟩
  intro f3 F3 ad3 ρ3 g3 σ3 H3 e3 R3
  have hs3 : SqB K H3 b a vs := sqF_B (e3.trans R3.fin.sub) hs
  rw [enumD_len]
  refine ⟨⟨vs, hs3, da.length⟩, fun i hi => ?_⟩
  have hi2 : i < vs.length := by rw [da.length]; exact hi
  refine ⟨⟨vs, vs[i], hs3, by simp [hi2]⟩, fun x H' y => ?_⟩
  obtain ⟨T, y, rfl, hT, rfl, hy⟩ := y
  obtain ⟨d, hd, dv⟩ := da.getV (hy vs hs3)
  obtain ⟨F4, e4, R4, dt⟩ := wk_pair R3 hT (.int (i : Nat)) (da_mono e3 dv)
  exact ⟨F4, _, enumD_get hd, e4, R4, dt⟩⟩
theorem i_zip {e e2 : Expr} {ta : TA} {t : DA G} {p pos tpos : Pos} {elts : List Expr} {kk : Nat} (hm : X.mg "zip" = none) (ha : DAs X Z [e, e2] ta t) (hg : Gl X "zip" := by rfl) (hs : starEach [e, e2] X.env = (false, eval e X.env) :: starEach [e2] X.env := by rfl)
    (hpl : (backTo pos (starEach [e2] X.env)).any (·.1) = false := by rfl) (hK : K = X.K := by rfl) : DIt X Z (.Tuple elts kk tpos) (.Call (.Name "zip" p) [e, e2] [] pos) (iZipB K ta) (dZip t) := ⟨by rw [hK]; exact pi_zipB hg hm ha.pa hs hpl, fun f F ad ρ g σ H Q R q P hP => by
  refine ha.sim f F ad ρ g σ H _ R q _ fun vs H1 q => ?_
  obtain ⟨F1, ad1, ρ1, g1, rs, e1, eg1, R1, v1, q⟩ := q
  obtain ⟨ls, ρ2, ef, q⟩ := fzK_of q
  obtain ⟨d, e, rfl, q⟩ := prD_of q
  obtain ⟨F2, e2, R2, dal⟩ := R1.hfzA v1 ef
  cases dal with
  | cons dv1 t1 =>
    cases t1 with
    | cons dv2 t2 =>
      cases t2
      obtain ⟨ds, b1, a1, vs1, rfl, hs1, da1, q⟩ := da_seq dv1 q
      obtain ⟨es, b2, a2, vs2, rfl, hs2, da2, q⟩ := da_seq dv2 q
      refine ⟨b1, b2, a1, a2, vs1, vs2, rfl, sqF_B R2.fin.sub hs1, sqF_B R2.fin.sub hs2, hP _ _ F2 ad1 ρ2 g1 _ (e1.trans e2) eg1 R2 ?_ q⟩
      intro f3 F3 ad3 ρ3 g3 σ3 H3 e3 R3
      have hs3 : SqB K H3 b1 a1 vs1 := sqF_B (e3.trans R3.fin.sub) hs1
      have hs4 : SqB K H3 b2 a2 vs2 := sqF_B (e3.trans R3.fin.sub) hs2
      have l1 := da1.length
      have l2 := da2.length
      rw [zipD_len]
      refine ⟨⟨vs1, vs2, hs3, hs4, by rw [l1, l2]⟩, fun i hi => ?_⟩
      have hi1 : i < vs1.length := by omega
      have hi2 : i < vs2.length := by omega
      refine ⟨⟨vs1, vs2, vs1[i], vs2[i], hs3, hs4, by simp [hi1], by simp [hi2]⟩, fun x H' y => ?_⟩
      obtain ⟨T, x1, x2, rfl, hT, rfl, hx1, hx2⟩ := y
      obtain ⟨d1, hd1, dw1⟩ := da1.getV (hx1 vs1 hs3)
      obtain ⟨d2, hd2, dw2⟩ := da2.getV (hx2 vs2 hs4)
      obtain ⟨F4, e4, R4, dt⟩ := wk_pair R3 hT (da_mono e3 dw1) (da_mono e3 dw2)
      exact ⟨F4, _, zipD_get hd1 hd2, e4, R4, dt⟩⟩
theorem Fin.back {f : Fx} {F F1 : Hp} {g g1 : G} {H H1 : Hp} (a : Fin Z f F g H) (b : Fin Z ⟨f.B, F, f.fp0⟩ F1 g1 H1) : Fin Z f F1 g1 H1 where
  base := a.base.trans b.base
  sub := b.sub
  keep := b.keep
  keepN := b.keepN
  new := fun c o h => by
    rcases b.new c o h with z | z
    · exact a.new c o z
    · exact .inr z
  res := b.res
  fpF := b.fpF
  fpB := b.fpB
  fpo := b.fpo
theorem Rel0.back {f : Fx} {F F1 : Hp} {ad : Nat → Addr} {ρ : En} {g g1 : G} {σ : St} {H H1 : Hp} (a : Fin Z f F g H) (R : Rel0 Z ⟨f.B, F, f.fp0⟩ F1 ad ρ g1 σ H1) : Rel0 Z f F1 ad ρ g1 σ H1 :=
  ⟨a.back R.fin, R.len, fun i s h => by
    have q := R.slot i s h
    cases s <;> exact q, R.inj⟩
theorem Rel.back {f : Fx} {F F1 : Hp} {ad ad0 : Nat → Addr} {ρ ρ0 : En} {g g1 : G} {σ σ0 : St} {H H1 : Hp} (a : Rel Z f F ad0 ρ0 g σ0 H) (er : Z.ra g1 = Z.ra g) (R : Rel Z ⟨f.B, F, f.fp0⟩ F1 ad ρ g1 σ H1) : Rel Z f F1 ad ρ g1 σ H1 :=
  ⟨Rel0.back a.fin R.toRel0, er ▸ a.lx⟩
theorem Rel.fwd {f : Fx} {F : Hp} {ad : Nat → Addr} {ρ : En} {g : G} {σ : St} {H : Hp} (R : Rel Z f F ad ρ g σ H) : Rel Z ⟨f.B, F, f.fp0⟩ F ad ρ g σ H :=
  ⟨⟨⟨Evl.Ex.refl F, R.fin.sub, R.fin.keep, R.fin.keepN, fun b o h => .inl h, R.fin.res, R.fin.fpF, R.fin.fpB, R.fin.fpo⟩, R.len, fun i s h => by
    have q := R.slot i s h
    cases s <;> exact q, R.inj⟩, fun F' ad' ρ' g' σ' H' c dx fs er R' => R.lx F' ad' ρ' g' σ' H' c dx fs er (Rel0.back R.fin R')⟩
theorem VFin.back {f : Fx} {F F1 : Hp} {g : G} {H : Hp} {v : V} {r : Rs} (h : VFin Z ⟨f.B, F, f.fp0⟩ F1 g H v r) : VFin Z f F1 g H v r := by cases r <;> exact h
structure ForP (items : List PyData) (tg : DG G) (b : DS G) (D : D3 G) (ρ1 : En) (g1 : G) : Prop where
  ex : ∃ I : Nat → En → G → Prop, I 0 ρ1 g1 ∧ (∀ k d ρ' g', items[k]? = some d → I k ρ' g' → tg d ρ' g' fun ρ2 g2 => b { D with nx := I (k + 1), ct := I (k + 1), bk := D.nx } ρ2 g2) ∧ (∀ ρ' g', I items.length ρ' g' → D.nx ρ' g')
def dFor (i : DI G) (tg : DG G) (b : DS G) : DS G := fun D ρ g => i ρ g fun items ρ1 g1 => ForP items tg b D ρ1 g1
theorem s_for {iter tgE : Expr} {body : List Stmt} {wi : TI} {gt : TG} {tb : TS} {di : DI G} {dg : DG G} {db : DS G} {pos : Pos} (hi : DIt X Z tgE iter wi di) (hg : DGt X Z tgE gt dg) (hb : DSs X Z body tb db) (hc : X.calm = true := by rfl) (hp : PassesOwn (model X.prog X.w) X.A X.env X.xe := by exact PassesOwn.never) (hs : ∀ x, foldedSetIterable iter X.env x = pure x := by intro _; rfl) :
    DSt X Z (.For tgE iter body [] pos) (tFor wi gt tb) (dFor di dg db) := ⟨ps_for hp hc hi.pi hg.pg hb.ps hs, fun f F ad ρ g σ H D R h D2 le => by
  refine hi.sim f F ad ρ g σ H _ R h _ fun J H1 F1 ad1 ρ1 g1 items e1 eg1 R1 wk q => ?_
  obtain ⟨⟨I, h0, hs, hd⟩⟩ := q
  refine ⟨fun i m σ' H' => m = items.length - i ∧ i ≤ items.length ∧ ∃ F2 ad2 ρ2 g2, Z.ra g2 = Z.ra g ∧ Rel Z ⟨f.B, F1, f.fp0⟩ F2 ad2 ρ2 g2 σ' H' ∧ I i ρ2 g2, ⟨items.length, rfl, Nat.zero_le _, F1, ad1, ρ1, g1, eg1, R1.fwd, h0⟩, fun i m σ2 H2 hW => ?_⟩
  obtain ⟨rfl, hle, F2, ad2, ρ2, g2, eg2, R2, hI⟩ := hW
  obtain ⟨stop, go⟩ := wk _ F2 ad2 ρ2 g2 σ2 H2 R2.fin.base R2
  by_cases hlt : i < items.length
  · obtain ⟨hgo, hy⟩ := go i hlt
    refine .inr ⟨hgo, fun σ' H' => ∃ F2 ad2 ρ2 g2, Z.ra g2 = Z.ra g ∧ Rel Z ⟨f.B, F1, f.fp0⟩ F2 ad2 ρ2 g2 σ' H' ∧ I (i + 1) ρ2 g2, fun σ' H' z => ⟨items.length - (i + 1), by omega, rfl, hlt, z⟩, fun x H' y => ?_⟩
    obtain ⟨F3, d, hd3, e3, R3, dv⟩ := hy x H' y
    refine hg.sim _ F3 ad2 ρ2 g2 σ2 H' x d _ R3 dv (hs i d ρ2 g2 hd3 hI) _ fun F4 ad4 ρ4 g4 σ4 H4 e4 er4 R4 q4 => ?_
    have er : Z.ra g4 = Z.ra g := er4.trans eg2
    exact hb.sim _ F4 ad4 ρ4 g4 σ4 H4 _ R4 q4 _ ⟨fun F5 ad5 ρ5 g5 σ5 H5 er5 R5 q5 => ⟨F5, ad5, ρ5, g5, er5.trans er, R5, q5⟩, fun F5 g5 H5 v r er5 R5 hv q5 => le.rt F5 g5 H5 v r (er5.trans er) (R1.fin.back R5) hv.back q5,
      fun F5 ad5 ρ5 g5 σ5 H5 er5 R5 q5 => le.nx F5 ad5 ρ5 g5 σ5 H5 (er5.trans er) (Rel.back R1 ((er5.trans er).trans eg1.symm) R5) q5, fun F5 ad5 ρ5 g5 σ5 H5 er5 R5 q5 => ⟨F5, ad5, ρ5, g5, er5.trans er, R5, q5⟩⟩
  · have e : i = items.length := by omega
    subst e
    exact .inl ⟨stop, le.nx F2 ad2 ρ2 g2 σ2 H2 eg2 (Rel.back R1 (eg2.trans eg1.symm) R2) (hd ρ2 g2 hI)⟩⟩
def wipeE (ρ : En) : List Nat → En
  | [] => ρ
  | v :: vs => (wipeE ρ vs).set v .un
theorem wipeE_len (ρ : En) : ∀ vs : List Nat, (wipeE ρ vs).length = ρ.length
  | [] => rfl
  | v :: vs => by unfold wipeE; rw [List.length_set, wipeE_len ρ vs]
theorem wipeE_out {ρ : En} {i : Nat} : ∀ {vs : List Nat}, i ∉ vs → (wipeE ρ vs)[i]? = ρ[i]?
  | [], _ => rfl
  | v :: vs, h => by
    unfold wipeE
    rw [List.getElem?_set_ne (fun e => h (by rw [e]; exact List.mem_cons_self)), wipeE_out fun z => h (List.mem_cons_of_mem _ z)]
theorem wipeE_in {ρ : En} {i : Nat} : ∀ {vs : List Nat}, i ∈ vs → i < ρ.length → (wipeE ρ vs)[i]? = some .un
  | v :: vs, h, hl => by
    unfold wipeE
    by_cases e : v = i
    · subst e; rw [List.getElem?_set_self (by rw [wipeE_len]; exact hl)]
    · rw [List.getElem?_set_ne e]
      rcases List.mem_cons.mp h with z | z
      · exact absurd z.symm e
      · exact wipeE_in z hl
theorem Rel.slots {f : Fx} {F : Hp} {ad : Nat → Addr} {ρ ρ' : En} {g : G} {σ σ' : St} {H : Hp} (R : Rel Z f F ad ρ g σ H) (hl : ρ'.length = σ'.length) (h : ∀ (i : Nat) (s : Sl), ρ'[i]? = some s → s = .un ∨ (ρ[i]? = some s ∧ σ'[i]? = σ[i]?)) : Rel Z f F ad ρ' g σ' H :=
  ⟨⟨R.fin, hl, fun i s hi => by
    rcases h i s hi with rfl | ⟨h1, h2⟩
    · trivial
    · have q := R.slot i s h1
      cases s with
      | un => trivial
      | dt d => obtain ⟨v, q1, q2⟩ := q; exact ⟨v, by rw [h2]; exact q1, q2⟩
      | ls d => obtain ⟨q1, q2⟩ := q; exact ⟨by rw [h2]; exact q1, q2⟩
      | dk d => obtain ⟨q1, q2⟩ := q; exact ⟨by rw [h2]; exact q1, q2⟩
      | rs n => exact h2.trans q
      | vv v => exact h2.trans q,
  fun i j s t hi hj hs ht e => by
    rcases h i s hi with rfl | ⟨h1, _⟩
    · cases hs
    · rcases h j t hj with rfl | ⟨h2, _⟩
      · cases ht
      · exact R.inj i j s t h1 h2 hs ht e⟩, R.lx⟩
theorem Rel.wipe {f : Fx} {F : Hp} {ad : Nat → Addr} {ρ : En} {g : G} {σ : St} {H : Hp} (R : Rel Z f F ad ρ g σ H) (vs : List Nat) : Rel Z f F ad (wipeE ρ vs) g (wipe σ vs) H :=
  R.slots (by rw [wipeE_len, wipe_length]; exact R.len) fun i s hi => by
    by_cases hm : i ∈ vs
    · have hl : i < ρ.length := by
        have := (List.getElem?_eq_some_iff.mp hi).1
        rwa [wipeE_len] at this
      rw [wipeE_in hm hl] at hi
      cases hi
      exact .inl rfl
    · rw [wipeE_out hm] at hi
      exact .inr ⟨hi, wipe_out hm⟩
theorem Rel0.unhide {f : Fx} {F F1 : Hp} {ad1 : Nat → Addr} {ρ1 : En} {g g1 : G} {σ1 : St} {H H1 : Hp} (a : Fin Z f F g H) {D : Addr} {o : HO} (n : OwnA Z f F g D) (h0 : D ∉ f.fp0) (R : Rel0 Z ⟨upd f.B D o, F, f.fp0⟩ F1 ad1 ρ1 g1 σ1 H1) :
    Rel0 Z f F1 ad1 ρ1 g1 σ1 H1 ∧ NewA Z f F1 ad1 ρ1 g1 D ∧ H1 D = some o := by
  have hF : F1 D = none := by
    cases e : F1 D with
    | none => rfl
    | some u =>
      rcases R.fin.new D u e with z | z
      · have z : F D = some u := z
        rw [n.1] at z; cases z
      · have z : upd f.B D o D = none := z
        rw [upd_same] at z; cases z
  have hfp : D ∉ Z.fp g1 := fun hm => by
    rcases R.fin.fpB D hm with z | z
    · exact h0 z
    · have z : upd f.B D o D = none := z
      rw [upd_same] at z; cases z
  have back : ∀ {b}, (upd f.B D o) b = none → f.B b = none ∧ b ≠ D := fun {b} z => by
    by_cases e : b = D
    · subst e; rw [upd_same] at z; cases z
    · rw [upd_ne e] at z; exact ⟨z, e⟩
  have nB : ∀ {b u}, f.B b = some u → b ≠ D := fun {b u} z e => by rw [e, n.2.1] at z; cases z
  refine ⟨⟨⟨a.base.trans R.fin.base, R.fin.sub, fun b u hb hf => R.fin.keep b u (by show upd f.B D o b = some u; rw [upd_ne (nB hb)]; exact hb) hf, fun b hb => R.fin.keepN b ?_, fun b u h => ?_, R.fin.res, R.fin.fpF, fun c hc => ?_, a.fpo⟩, R.len, fun i s hi => ?_, R.inj⟩, ⟨⟨hF, n.2.1, hfp⟩, fun i s hi hs => ?_⟩, R.fin.keep D o upd_same h0⟩
  · cases e : f.B b with
    | none => exact absurd e hb
    | some u => show upd f.B D o b ≠ none; rw [upd_ne (nB e), e]; intro z; cases z
  · rcases R.fin.new b u h with z | z
    · exact a.new b u z
    · exact .inr (back z).1
  · rcases R.fin.fpB c hc with z | z
    · exact .inl z
    · exact .inr (back z).1
  · have q := R.slot i s hi
    cases s with
    | ls ds => obtain ⟨q1, ⟨z1, z2, z3⟩, q3⟩ := q; exact ⟨q1, ⟨z1, (back z2).1, z3⟩, q3⟩
    | dk ds => obtain ⟨q1, ⟨z1, z2, z3⟩, q3⟩ := q; exact ⟨q1, ⟨z1, (back z2).1, z3⟩, q3⟩
    | _ => exact q
  · have q := R.slot i s hi
    cases s with
    | ls ds => obtain ⟨q1, ⟨z1, z2, z3⟩, q3⟩ := q; exact (back z2).2
    | dk ds => obtain ⟨q1, ⟨z1, z2, z3⟩, q3⟩ := q; exact (back z2).2
    | _ => cases hs
/-- the list that is being made lies apart: it is taken to the caller's -/
theorem Rel.hide {f : Fx} {F : Hp} {ad : Nat → Addr} {ρ : En} {g : G} {σ : St} {H : Hp} (R : Rel Z f F ad ρ g σ H) {D : Addr} {o : HO} (n : NewA Z f F ad ρ g D) (h0 : D ∉ f.fp0) (hD : H D = some o) : Rel Z ⟨upd f.B D o, F, f.fp0⟩ F ad ρ g σ H := by
  refine ⟨⟨⟨Evl.Ex.refl F, R.fin.sub, fun b u hb hf => ?_, fun b hb => ?_, fun b u h => .inl h, R.fin.res, R.fin.fpF, fun a ha => ?_, fun a ha => ?_⟩, R.len, fun i s hi => ?_, R.inj⟩, fun F' ad' ρ' g' σ' H' c dx fs er R' => R.lx F' ad' ρ' g' σ' H' c dx fs er (Rel0.unhide R.fin n.1 h0 R').1⟩
  · have hb : upd f.B D o b = some u := hb
    by_cases e : b = D
    · subst e; rw [upd_same] at hb; cases hb; exact hD
    · rw [upd_ne e] at hb; exact R.fin.keep b u hb hf
  · have hb : upd f.B D o b ≠ none := hb
    by_cases e : b = D
    · subst e; rw [hD]; intro z; cases z
    · rw [upd_ne e] at hb; exact R.fin.keepN b hb
  · rcases R.fin.fpB a ha with z | z
    · exact .inl z
    · right
      show upd f.B D o a = none
      rw [upd_ne fun e => n.1.2.2 (by rw [← e]; exact ha)]
      exact z
  · show upd f.B D o a ≠ none
    by_cases e : a = D
    · subst e; exact absurd ha h0
    · rw [upd_ne e]; exact R.fin.fpo a ha
  · have q := R.slot i s hi
    cases s with
    | ls ds => obtain ⟨q1, ⟨z1, z2, z3⟩, q3⟩ := q; exact ⟨q1, ⟨z1, by show upd f.B D o (ad i) = none; rw [upd_ne (n.2 i _ hi rfl)]; exact z2, z3⟩, q3⟩
    | dk ds => obtain ⟨q1, ⟨z1, z2, z3⟩, q3⟩ := q; exact ⟨q1, ⟨z1, by show upd f.B D o (ad i) = none; rw [upd_ne (n.2 i _ hi rfl)]; exact z2, z3⟩, q3⟩
    | _ => exact q
theorem Rel.unhide {f : Fx} {F F1 : Hp} {ad ad1 : Nat → Addr} {ρ ρ1 : En} {g g1 : G} {σ σ1 : St} {H H1 : Hp} (a : Rel Z f F ad ρ g σ H) (er : Z.ra g1 = Z.ra g) {D : Addr} {o : HO} (n : OwnA Z f F g D) (h0 : D ∉ f.fp0) (R : Rel Z ⟨upd f.B D o, F, f.fp0⟩ F1 ad1 ρ1 g1 σ1 H1) :
    Rel Z f F1 ad1 ρ1 g1 σ1 H1 ∧ NewA Z f F1 ad1 ρ1 g1 D ∧ H1 D = some o := by
  obtain ⟨h1, h2⟩ := Rel0.unhide a.fin n h0 R.toRel0
  exact ⟨⟨h1, er ▸ a.lx⟩, h2⟩
structure DTs (X : Cx) (Z : Zx K G) (ifs : List Expr) (tt : TT) (t : DB G) : Prop where
  pts : PTs X ifs tt
  sim : SimT Z tt t
def dYes : DB G := fun ρ g Q => Q true ρ g
theorem ts_nil : DTs X Z [] tYes (dYes (G := G)) := ⟨pts_nil, fun f F ad ρ g σ H Q R h P hP => hP true H ⟨F, ad, ρ, g, Evl.Ex.refl F, rfl, R, h⟩⟩
theorem ts_one {c : Expr} {tt : TT} {t : DB G} (h : DTe X Z c tt t) : DTs X Z [c] tt t := ⟨pts_one h.pt, h.sim⟩
theorem wipe_wipe (σ : St) (vs : List Nat) : wipe (wipe σ vs) vs = wipe σ vs := by
  apply List.ext_getElem?
  intro i
  by_cases hm : i ∈ vs
  · have key : ∀ (vs : List Nat) (τ : St), i ∈ vs → (wipe τ vs)[i]? = if i < τ.length then some none else none := by
      intro vs
      induction vs with
      | nil => intro τ h; cases h
      | cons v r ih =>
        intro τ h
        unfold wipe
        by_cases e : v = i
        · subst e
          by_cases hl : v < τ.length
          · rw [List.getElem?_set_self (by rw [wipe_length]; exact hl), if_pos hl]
          · rw [List.getElem?_eq_none (by rw [List.length_set, wipe_length]; omega), if_neg hl]
        · rw [List.getElem?_set_ne e]
          rcases List.mem_cons.mp h with z | z
          · exact absurd z.symm e
          · exact ih τ z
    rw [key vs _ hm, key vs _ hm, wipe_length]
  · rw [wipe_out hm]
/-- the target of a comprehension's sets its own slots alone -/
def GOwn (gt : TG) (vs : List Nat) : Prop := ∀ v σ H (P P' : St → Hp → Prop), (∀ σ' H', wipe σ' vs = wipe σ vs → P σ' H' → P' σ' H') → gt v σ H P → gt v σ H P'
def unAll (ρ : En) : List Nat → Prop
  | [] => True
  | i :: r => ρ[i]? = some .un ∧ unAll ρ r
theorem unAll_of {ρ : En} : ∀ {vs : List Nat}, unAll ρ vs → ∀ i ∈ vs, ρ[i]? = some .un
  | _ :: _, h, i, hm => by
    rcases List.mem_cons.mp hm with rfl | hm
    · exact h.1
    · exact unAll_of h.2 i hm
structure LcP (items : List PyData) (tg : DG G) (c : DB G) (e : DT G) (vs : List Nat) (ρ1 : En) (g1 : G) (Q : Rs → En → G → Prop) : Prop where
  ex : ∃ I : Nat → List PyData → En → G → Prop, I 0 [] (wipeE ρ1 vs) g1 ∧
    (∀ k d acc ρ' g', items[k]? = some d → I k acc ρ' g' → tg d ρ' g' fun ρ2 g2 => c ρ2 g2 fun b ρ3 g3 => ifb b (e ρ3 g3 fun r ρ4 g4 => fz1 r ρ4 fun d' ρ5 => I (k + 1) (acc ++ [d']) (wipeE ρ5 vs) g4) (I (k + 1) acc (wipeE ρ3 vs) g3)) ∧
    (∀ acc ρ' g', I items.length acc ρ' g' → unAll ρ' vs ∧ Q (.nl acc) ρ' g')
def dLc (i : DI G) (tg : DG G) (c : DB G) (e : DT G) (vs : List Nat) : DT G := fun ρ g Q => i ρ g fun items ρ1 g1 => leK items.length 16777216 (LcP items tg c e vs ρ1 g1 Q)
theorem sim_lc {wi : TI} {gt : TG} {tt : TT} {te : TE} {i : DI G} {tg : DG G} {c : DB G} {e : DT G} {vs : List Nat} (hi : SimI Z wi i) (hg : SimG Z gt tg) (ho : GOwn gt vs) (hc : SimT Z tt c) (he : Sim Z te e) : Sim Z (tLc wi gt tt te vs) (dLc i tg c e vs) := fun f F ad ρ g σ H Q R h P hP => by
  refine hi f F ad ρ g σ H _ R h _ fun J H1 F1 ad1 ρ1 g1 items e1 eg1 R1 wk q D hD => ?_
  obtain ⟨hlen, ⟨I, h0, hs, hd⟩⟩ := leK_e q
  have hD0 : D ∉ f.fp0 := fun hm => R1.fin.keepN D (R1.fin.fpo D hm) hD
  obtain ⟨R1', n1⟩ := R1.laid (o := .lst []) hD
  have nw : ∀ {F2 : Hp} {ad2 : Nat → Addr} {ρ2 : En} {g2 : G}, NewA Z f F2 ad2 ρ2 g2 D → NewA Z f F2 ad2 (wipeE ρ2 vs) g2 D := fun {F2 ad2 ρ2 g2} n => ⟨n.1, fun j s hj hs => by
    by_cases hm : j ∈ vs
    · have hl : j < ρ2.length := by
        have := (List.getElem?_eq_some_iff.mp hj).1
        rwa [wipeE_len] at this
      rw [wipeE_in hm hl] at hj; cases hj; cases hs
    · rw [wipeE_out hm] at hj; exact n.2 j s hj hs⟩
  refine ⟨fun k m H' => m = items.length - k ∧ k ≤ items.length ∧ ∃ F2 ad2 ρ2 g2 av acc, Ex F1 F2 ∧ Z.ra g2 = Z.ra g ∧ Rel Z f F2 ad2 ρ2 g2 (wipe σ vs) H' ∧ NewA Z f F2 ad2 ρ2 g2 D ∧ H' D = some (.lst av) ∧ DaAll K F2 av acc ∧ acc.length ≤ k ∧ I k acc ρ2 g2,
    ⟨items.length, rfl, Nat.zero_le _, F1, ad1, wipeE ρ1 vs, g1, [], [], Evl.Ex.refl F1, eg1, R1'.wipe vs, nw n1, upd_same, .nil, Nat.le_refl _, h0⟩, fun k m H2 hW => ?_⟩
  obtain ⟨rfl, hle, F2, ad2, ρ2, g2, av, acc, e2, eg2, R2, n2, hD2, da2, hal, hI⟩ := hW
  obtain ⟨stop, go⟩ := wk _ F2 ad2 ρ2 g2 (wipe σ vs) H2 e2 R2
  by_cases hlt : k < items.length
  · obtain ⟨hgo, -⟩ := go k hlt
    have Rh := R2.hide n2 hD0 hD2
    obtain ⟨-, hy⟩ := (wk _ F2 ad2 ρ2 g2 (wipe σ vs) H2 e2 Rh).2 k hlt
    refine .inr ⟨hgo, fun H' => ∃ F2 ad2 ρ2 g2 av acc, Ex F1 F2 ∧ Z.ra g2 = Z.ra g ∧ Rel Z f F2 ad2 ρ2 g2 (wipe σ vs) H' ∧ NewA Z f F2 ad2 ρ2 g2 D ∧ H' D = some (.lst av) ∧ DaAll K F2 av acc ∧ acc.length ≤ k + 1 ∧ I (k + 1) acc ρ2 g2,
      fun H' z => ⟨items.length - (k + 1), by omega, rfl, hlt, z⟩, fun x H3 y => ?_⟩
    obtain ⟨F3, d, hd3, e3, R3, dv⟩ := hy x H3 y
    refine ho x (wipe σ vs) H3 (fun σ4 H4 => wipe σ4 vs = wipe σ vs → _) _ (fun σ4 H4 hw hp => ⟨hw.trans (wipe_wipe σ vs), hp (hw.trans (wipe_wipe σ vs))⟩) (hg _ F3 ad2 ρ2 g2 (wipe σ vs) H3 x d _ R3 dv (hs k d acc ρ2 g2 hd3 hI) _ fun F4 ad4 ρ4 g4 σ4 H4 e4 er4 R4 q4 hw => ?_)
    refine hc _ F4 ad4 ρ4 g4 σ4 H4 _ R4 q4 _ fun b H5 q5 => ?_
    obtain ⟨F5, ad5, ρ5, g5, e5, er5, R5, q5⟩ := q5
    have eA : Ex F1 F5 := (e2.trans e3).trans (e4.trans e5)
    cases b with
    | false =>
      rw [if_neg Bool.false_ne_true]
      replace q5 := ifb_f q5
      obtain ⟨R6, n6, hD6⟩ := Rel.unhide R2 (er5.trans er4) n2.1 hD0 R5
      have R7 := R6.wipe vs
      rw [hw] at R7
      exact ⟨F5, ad5, _, g5, av, acc, eA, er5.trans (er4.trans eg2), R7, nw n6, hD6, daAll_mono ((e3.trans e4).trans e5) da2, by omega, q5⟩
    | true =>
      rw [if_pos rfl]
      replace q5 := ifb_t q5
      refine he _ F5 ad5 ρ5 g5 σ4 H5 _ R5 q5 _ fun v H6 q6 => ?_
      obtain ⟨F6, ad6, ρ6, g6, r6, e6, er6, R6, v6, q6⟩ := q6
      obtain ⟨d', ρ7, ef, q6⟩ := fz1_of q6
      obtain ⟨F7, e7, R7, dv7⟩ := R6.hfz v6 ef
      obtain ⟨R8, n8, hD8⟩ := Rel.unhide R2 (er6.trans (er5.trans er4)) n2.1 hD0 R7
      have eB : Ex F2 F7 := ((e3.trans e4).trans e5).trans (e6.trans e7)
      refine ⟨av, hD8, by rw [sizeLine_eq, da2.length]; omega, ?_⟩
      have hw9 : OwnA Z f F7 g6 D := n8.1
      have R9 : Rel Z f F7 ad6 ρ7 g6 σ4 (upd H6 D (.lst (av ++ [v]))) := by
        refine ⟨⟨R8.fin.upd hw9, R8.len, fun j s hj => ?_, R8.inj⟩, R8.lx⟩
        have q := R8.slot j s hj
        cases s with
        | ls ds => obtain ⟨q1, q2, vs', q3, q4⟩ := q; exact ⟨q1, q2, vs', by rw [upd_ne (n8.2 j _ hj rfl)]; exact q3, q4⟩
        | dk ds => obtain ⟨q1, q2, vs', q3, q4⟩ := q; exact ⟨q1, q2, vs', by rw [upd_ne (n8.2 j _ hj rfl)]; exact q3, q4⟩
        | _ => exact q
      have R10 := R9.wipe vs
      rw [hw] at R10
      exact ⟨F7, ad6, _, g6, av ++ [v], acc ++ [d'], (e2.trans eB), er6.trans (er5.trans (er4.trans eg2)), R10, nw n8, upd_same, (daAll_mono eB da2).append (.cons dv7 .nil), by rw [List.length_append]; show acc.length + 1 ≤ k + 1; omega, q6⟩
  · have e : k = items.length := by omega
    subst e
    obtain ⟨hun, q⟩ := hd acc ρ2 g2 hI
    replace hun := unAll_of hun
    refine .inl ⟨stop, hP _ H2 ⟨F2, ad2, ρ2, g2, .nl acc, e1.trans e2, eg2, R2.slots (by rw [R2.len, wipe_length]) fun j s hj => ?_, ⟨D, av, rfl, n2, hD2, da2⟩, q⟩⟩
    by_cases hm : j ∈ vs
    · rw [hun j hm] at hj; cases hj; exact .inl rfl
    · exact .inr ⟨hj, (wipe_out hm).symm⟩
end L3
end
section
namespace L3
open PySem L2
variable {G : Type} {K : PySem.W.Frag} {X : Cx} {Z : Zx K G}
theorem wipe_set {σ : St} {j : Nat} {x : Option V} {vs : List Nat} (h : j ∈ vs) : wipe (σ.set j x) vs = wipe σ vs := by
  have key : ∀ (vs : List Nat) (τ : St) (i : Nat), i ∈ vs → (wipe τ vs)[i]? = if i < τ.length then some none else none := by
    intro vs
    induction vs with
    | nil => intro τ i h; cases h
    | cons v r ih =>
      intro τ i h
      unfold wipe
      by_cases e : v = i
      · subst e
        by_cases hl : v < τ.length
        · rw [List.getElem?_set_self (by rw [wipe_length]; exact hl), if_pos hl]
        · rw [List.getElem?_eq_none (by rw [List.length_set, wipe_length]; omega), if_neg hl]
      · rw [List.getElem?_set_ne e]
        rcases List.mem_cons.mp h with z | z
        · exact absurd z.symm e
        · exact ih τ i z
  apply List.ext_getElem?
  intro i
  by_cases hm : i ∈ vs
  · rw [key vs _ i hm, key vs _ i hm, List.length_set]
  · rw [wipe_out hm, wipe_out hm, List.getElem?_set_ne fun e => hm (by rw [← e]; exact h)]
theorem own_name {j : Nat} {vs : List Nat} (h : j ∈ vs) : GOwn (gName j) vs := fun v σ H P P' k q => k _ _ (wipe_set h) q
def GsOwn (gt : TGs) (vs : List Nat) : Prop := ∀ ws σ H (P P' : St → Hp → Prop), (∀ σ' H', wipe σ' vs = wipe σ vs → P σ' H' → P' σ' H') → gt ws σ H P → gt ws σ H P'
theorem owns_nil {vs : List Nat} : GsOwn gNil vs := fun ws σ H P P' k q => ⟨q.1, k σ H rfl q.2⟩
theorem owns_cons {t : TG} {u : TGs} {vs : List Nat} (h : GOwn t vs) (h2 : GsOwn u vs) : GsOwn (gCons t u) vs := fun ws σ H P P' k q => by
  obtain ⟨v, r, e, q⟩ := q
  exact ⟨v, r, e, h v σ H _ _ (fun σ1 H1 w1 q1 => h2 r σ1 H1 _ _ (fun σ2 H2 w2 q2 => k σ2 H2 (w2.trans w1) q2) q1) q⟩
theorem own_seq {K : PySem.W.Frag} {n : Nat} {t : TGs} {vs : List Nat} (h : GsOwn t vs) : GOwn (gSeq K n t) vs := fun v σ H P P' k q => by
  obtain ⟨a, xs, e, hq, hl, q⟩ := q
  exact ⟨a, xs, e, hq, hl, h xs σ H _ _ k q⟩
/-- [elt for target in iter if ..] -/
theorem e_lc {elt tg iter : Expr} {ifs : List Expr} {scope : Scope} (own : List (Str × Nat)) {pos : Pos} {wi : TI} {gt : TG} {tt : TT} {te : TE} {i : DI G} {dg : DG G} {c : DB G} {e : DT G} (hN : X.N.Nodup) (hi : DIt X Z tg iter wi i)
    (hg : ∀ (s : Shared) (H : Hp) (C : Addr) (cl : List (Str × Addr)) (fp : List Addr), DGt (X.blk s H scope (compEnvC scope cl C X.env) fp) Z tg gt dg) (ho : GOwn gt (own.map (·.2)))
    (ht : ∀ (s : Shared) (H : Hp) (C : Addr) (cl : List (Str × Addr)) (fp : List Addr), DTs (X.blk s H scope (compEnvC scope cl C X.env) fp) Z ifs tt c)
    (he : ∀ (s : Shared) (H : Hp) (C : Addr) (cl : List (Str × Addr)) (fp : List Addr), DE (X.blk s H scope (compEnvC scope cl C X.env) fp) Z elt te e)
    (ok : BlkOk X.N X.env.scope scope own := by exact blkOk_by (by kernel_rfl)) (hc : X.calm = true := by rfl) (hs : ∀ x, foldedSetIterable iter X.env x = pure x := by intro _; rfl) :
    DE X Z (.ListComp elt [⟨tg, iter, ifs, 0⟩] scope pos) (tLc wi gt tt te (own.map (·.2))) (dLc i dg c e (own.map (·.2))) :=
  have s0 : Shared := {}
  ⟨pe_lc hc hN hi.pi ok (fun s H C cl fp => (hg s H C cl fp).pg) (fun s H C cl fp => (ht s H C cl fp).pts) (fun s H C cl fp => (he s H C cl fp).pe) hs,
    sim_lc hi.sim (hg s0 (fun _ => none) 0 [] []).sim ho (ht s0 (fun _ => none) 0 [] []).sim (he s0 (fun _ => none) 0 [] []).sim⟩
/-- y = [..] on one line, y a plain local: the other form of the assignment -/
theorem s_setLc (j : Nat) {y : Str} {py : Pos} {elt tg iter : Expr} {ifs : List Expr} {scope : Scope} (own : List (Str × Nat)) {pos spos : Pos} {wi : TI} {gt : TG} {tt : TT} {te : TE} {i : DI G} {dg : DG G} {c : DB G} {e : DT G} (hN : X.N.Nodup) (hi : DIt X Z tg iter wi i)
    (hg : ∀ (s : Shared) (H : Hp) (C : Addr) (cl : List (Str × Addr)) (fp : List Addr), DGt (X.blk s H scope (compEnvC scope cl C X.env) fp) Z tg gt dg) (ho : GOwn gt (own.map (·.2)))
    (ht : ∀ (s : Shared) (H : Hp) (C : Addr) (cl : List (Str × Addr)) (fp : List Addr), DTs (X.blk s H scope (compEnvC scope cl C X.env) fp) Z ifs tt c)
    (he : ∀ (s : Shared) (H : Hp) (C : Addr) (cl : List (Str × Addr)) (fp : List Addr), DE (X.blk s H scope (compEnvC scope cl C X.env) fp) Z elt te e)
    (hy : X.N[j]? = some y := by rfl) (hyl : X.env.scope.names.lookup y = some .local := by rfl) (hsw : swapsWith (.ListComp elt [⟨tg, iter, ifs, 0⟩] scope pos) (some (.Name y py)) spos.line X.env = pure true := by exact sw_true rfl rfl rfl (by decide +kernel))
    (ok : BlkOk X.N X.env.scope scope own := by exact blkOk_by (by kernel_rfl)) (hc : X.calm = true := by rfl) (hs : ∀ x, foldedSetIterable iter X.env x = pure x := by intro _; rfl) :
    DSt X Z (.Assign [.Name y py] (.ListComp elt [⟨tg, iter, ifs, 0⟩] scope pos) spos) (tAsg (tLc wi gt tt te (own.map (·.2))) (gName j)) (dAsg (dLc i dg c e (own.map (·.2))) j) :=
  have s0 : Shared := {}
  ⟨ps_setLc hc hN hy hyl hsw hi.pi ok (fun s H C cl fp => (hg s H C cl fp).pg) (fun s H C cl fp => (ht s H C cl fp).pts) (fun s H C cl fp => (he s H C cl fp).pe) hs,
    sim_asg (sim_lc hi.sim (hg s0 (fun _ => none) 0 [] []).sim ho (ht s0 (fun _ => none) 0 [] []).sim (he s0 (fun _ => none) 0 [] []).sim)⟩
/-- x.m(e): x an own list in slot i -/
def dMl (i : Nat) (t : DA G) (k : Nat → List PyData → List Rs → En → G → (Rs → List PyData → En → G → Prop) → Prop) : DT G := fun ρ g Q => lsD (fun _ => t ρ g fun rs ρ1 g1 => lsD (fun ds => k i ds rs ρ1 g1 fun r ds' ρ2 g2 => Q r (ρ2.set i (.ls ds')) g2) (ownL ρ1 i)) (ownL ρ i)
where ownL (ρ : En) (i : Nat) : Option PyData := match ρ[i]? with
  | some (.ls ds) => some (.list ds)
  | _ => none
theorem ownL_of {ρ : En} {i : Nat} {ds : List PyData} (h : dMl.ownL ρ i = some (.list ds)) : ρ[i]? = some (.ls ds) := by
  unfold dMl.ownL at h
  split at h
  · rename_i es e
    cases h
    exact e
  · cases h
/-- a method of a list: on the list's values and the arguments -/
def SimL (Z : Zx K G) (r : V → List V → Hp → VK → Prop) (k : Nat → List PyData → List Rs → En → G → (Rs → List PyData → En → G → Prop) → Prop) : Prop :=
  ∀ f F ad ρ g σ H i vs ws ds rs Q, Rel Z f F ad ρ g σ H → ρ[i]? = some (.ls ds) → H (ad i) = some (.lst vs) → DaAll K F vs ds → VRs Z f F ad ρ g σ H ws rs → k i ds rs ρ g Q → ∀ P : VK,
    (∀ F' ρ' v vs' ds' r, Ex F F' → Rel Z f F' ad ρ' g σ H → ρ'[i]? = some (.ls ds) → DaAll K F' vs' ds' → Da K F' v (match r with | .dt d => d | _ => .none) → (∃ d, r = .dt d) → Q r ds' ρ' g → P v (upd H (ad i) (.lst vs'))) → r (.ref (ad i)) ws H P
theorem sim_ml {i : Nat} {ta : TA} {t : DA G} {r : V → List V → Hp → VK → Prop} {k : Nat → List PyData → List Rs → En → G → (Rs → List PyData → En → G → Prop) → Prop} (ha : SimA Z ta t) (hm : SimL Z r k) : Sim Z (tBM K "list" r (tVar i) ta) (dMl i t k) := fun f F ad ρ g σ H Q R h P hP => by
  obtain ⟨ds0, e0, h⟩ := lsD_of h
  have hi0 := ownL_of e0
  have q0 := R.slot i _ hi0
  obtain ⟨z1, z2, vs0, z3, z4⟩ := q0
  refine ⟨.ref (ad i), z1, .inl ⟨rfl, _, .inl (.inl z3)⟩, ha f F ad ρ g σ H _ R h _ fun ws H1 q => ?_⟩
  obtain ⟨F1, ad1, ρ1, g1, rs, e1, eg1, R1, v1, q⟩ := q
  obtain ⟨ds, e, q⟩ := lsD_of q
  have hi := ownL_of e
  obtain ⟨y1, y2, vs, y3, y4⟩ := R1.slot i _ hi
  have ea : ad1 i = ad i := by
    have z : some (some (V.ref (ad1 i))) = some (some (V.ref (ad i))) := y1.symm.trans z1
    injection z with z; injection z with z; injection z
  rw [← ea]
  refine hm f F1 ad1 ρ1 g1 σ H1 i vs ws ds rs _ R1 hi y3 y4 v1 q P fun F' ρ' v vs' ds' r ee R' hi' da dv hr q => ?_
  obtain ⟨d, rfl⟩ := hr
  refine hP v _ ⟨F', ad1, _, g1, .dt d, e1.trans ee, eg1, R'.wrote (s' := .ls ds') hi' rfl ?_, dv, q⟩
  have w := R'.slot i _ hi'
  exact ⟨w.1, w.2.1, vs', upd_same, da⟩
abbrev KL (G : Type) := Nat → List PyData → List Rs → En → G → (Rs → List PyData → En → G → Prop) → Prop
def slK (o : Option Sl) (k : List PyData → Prop) : Prop := match o with
  | some (.ls es) => k es
  | _ => False
theorem slK_e {o : Option Sl} {k : List PyData → Prop} (h : slK o k) : ∃ es, o = some (.ls es) ∧ k es := by
  unfold slK at h
  split at h
  · exact ⟨_, rfl, h⟩
  · exact h.elim
theorem fz_keep {r : Rs} {ρ ρ' : En} {d : PyData} {i : Nat} {ds es : List PyData} (e : fz r ρ = some (d, ρ')) (h : ρ[i]? = some (.ls ds)) (h2 : ρ'[i]? = some (.ls es)) : es = ds := by
  cases r with
  | dt x => cases e; rw [h] at h2; cases h2; rfl
  | nl x => cases e; rw [h] at h2; cases h2; rfl
  | br j =>
    have e1 : fzS ρ j ρ[j]? = some (d, ρ') := e
    cases hj : ρ[j]? with
    | none => rw [hj] at e1; cases e1
    | some s =>
      rw [hj] at e1
      cases s with
      | dt x => cases e1; rw [h] at h2; cases h2; rfl
      | ls x =>
        cases e1
        by_cases q : j = i
        · subst q
          have hl : j < ρ.length := (List.getElem?_eq_some_iff.mp hj).1
          rw [List.getElem?_set_self hl] at h2; cases h2
        · rw [List.getElem?_set_ne q, h] at h2; cases h2; rfl
      | dk x =>
        cases e1
        by_cases q : j = i
        · subst q
          rw [hj] at h; cases h
        · rw [List.getElem?_set_ne q, h] at h2; cases h2; rfl
      | _ => cases e1
  | nd x => cases e; rw [h] at h2; cases h2; rfl
  | _ => cases e
def nilK (rs : List Rs) (p : Prop) : Prop := match rs with
  | [] => p
  | _ => False
theorem nilK_e {rs : List Rs} {p : Prop} (h : nilK rs p) : rs = [] ∧ p := by
  cases rs with
  | nil => exact ⟨rfl, h⟩
  | cons _ _ => exact h.elim
def kApp : KL G := fun i ds rs ρ g Q => one (fun r => fz1 r ρ fun d ρ' => slK ρ'[i]? fun es => ltK es.length 16777216 (Q (.dt .none) (es ++ [d]) ρ' g)) rs
theorem m_app : SimL Z rAppend (kApp (G := G)) := fun f F ad ρ g σ H i vs ws ds rs Q R hi hH da hv q P hP => by
  obtain ⟨r, rfl, q2⟩ := one_of q
  obtain ⟨d, ρ', ef, q⟩ := fz1_of q2
  obtain ⟨es, hi', q⟩ := slK_e q
  cases fz_keep ef hi hi'
  obtain ⟨hl, q⟩ := ltK_e q
  obtain ⟨v, rfl, h0⟩ := vrs1 hv
  obtain ⟨F2, e2, R2, dv⟩ := R.hfz h0 ef
  exact ⟨_, vs, v, rfl, rfl, hH, by rw [sizeLine_eq, da.length]; exact hl, hP F2 ρ' .non _ _ (.dt .none) e2 R2 hi' ((daAll_mono e2 da).append (.cons dv .nil)) .non ⟨_, rfl⟩ q⟩
def kPop : KL G := fun i ds rs ρ g Q => nilK rs (opK ds[ds.length - 1]? fun d => Q (.dt d) ds.dropLast ρ g)
theorem m_pop : SimL Z rPop (kPop (G := G)) := fun f F ad ρ g σ H i vs ws ds rs Q R hi hH da hv q P hP => by
  obtain ⟨rfl, q⟩ := nilK_e q
  obtain ⟨d, hd, q⟩ := opK_e q
  cases hv
  obtain ⟨v, hv, dv⟩ := da.get hd
  exact ⟨_, vs, v, rfl, rfl, hH, by rw [da.length]; exact hv, hP F ρ v _ _ (.dt d) (Evl.Ex.refl F) R hi da.dropLast dv ⟨_, rfl⟩ q⟩
/-- x.m() -/
theorem sim_dnil : SimA Z tNil (dNil (G := G)) := fun f F ad ρ g σ H Q R h P hP => hP [] H ⟨F, ad, ρ, g, [], Evl.Ex.refl F, rfl, R, .nil, h⟩
end L3
end
section
namespace L3
open PySem L2
variable {G : Type} {K : PySem.W.Frag} {X : Cx} {Z : Zx K G}
section
variable {id : String} {r : V → List V → Hp → VK → Prop} {k : KL G} {i : Nat} {x name : Str} {px apos cpos : Pos} {e : Expr} {es : List Expr} {ta : TA} {a : DA G}
theorem e_ml (slot : Slot "list" name id) (hty : typeOf (.builtin id) = pure (.type "method_descriptor")) (hm : MtR X id r) (hs : SimL Z r k) (i : Nat) (ha : DAs X Z (e :: es) ta a) (hN : X.N[i]? = some x := by rfl)
    (hv : Vis X.env.scope x := by first | exact Or.inl rfl | exact Or.inr (Or.inl rfl) | exact Or.inr (Or.inr rfl)) (hd : (x == ("__debug__" : Str)) = false := by decide) (hcd : (x == ("__classdict__" : Str)) = false := by decide) (hK : K = X.K := by rfl)
    (hbase : attributeBase (.Name x px) name X.env (eval (.Name x px) X.env) = eval (.Name x px) X.env := by rfl)
    (hfew : ((backTo cpos (starEach (e :: es) X.env)).all (fun x => !x.1) && (backToKw cpos (keywordEach [] X.env)).all (fun x => x.1.isSome)
      && decide ((e :: es).length + ([] : List Keyword).length + (if ([] : List Keyword).isEmpty then 0 else 1) < 30)) = true := by rfl)
    (hline : (apos.endLine == cpos.line) = true := by rfl) (hst : starEach (e :: es) X.env = (false, eval e X.env) :: starEach es X.env := by rfl) (hplain : (backTo cpos (starEach es X.env)).any (·.1) = false := by rfl) :
    DE X Z (.Call (.Attribute (.Name x px) name apos) (e :: es) [] cpos) (tBM K "list" r (tVar i) ta) (dMl i a k) :=
  ⟨by rw [hK]; exact pe_bm PySem.F.plainAttrs_list slot hty hm (pe_var hN hv hd hcd) ha.pa hbase hfew hline hst hplain, sim_ml ha.sim hs⟩
theorem e_ml0 (slot : Slot "list" name id) (hty : typeOf (.builtin id) = pure (.type "method_descriptor")) (hm : MtR X id r) (hs : SimL Z r k) (i : Nat) (hN : X.N[i]? = some x := by rfl)
    (hv : Vis X.env.scope x := by first | exact Or.inl rfl | exact Or.inr (Or.inl rfl) | exact Or.inr (Or.inr rfl)) (hd : (x == ("__debug__" : Str)) = false := by decide) (hcd : (x == ("__classdict__" : Str)) = false := by decide) (hK : K = X.K := by rfl)
    (hbase : attributeBase (.Name x px) name X.env (eval (.Name x px) X.env) = eval (.Name x px) X.env := by rfl) (hline : (apos.endLine == cpos.line) = true := by rfl) :
    DE X Z (.Call (.Attribute (.Name x px) name apos) [] [] cpos) (tBM0 K "list" r (tVar i)) (dMl i dNil k) :=
  ⟨by rw [hK]; exact pe_bm0 PySem.F.plainAttrs_list slot hty hm (pe_var hN hv hd hcd) hbase hline, fun f F ad ρ g σ H Q R h P hP => sim_ml sim_dnil hs f F ad ρ g σ H Q R h P hP⟩
end
def dSetIx (i : Nat) (a b : DT G) : DS G := fun D ρ g => a ρ g fun r1 ρ1 g1 => ifh r1 (lsD (fun _ => b ρ1 g1 fun r2 ρ2 g2 => iiU (fun n => fz1 (st r1) ρ2 fun d ρ3 => lsD (fun ds => opK (ixN ds.length n) fun k => D.nx (ρ3.set i (.ls (ds.set k d))) g2) (dMl.ownL ρ3 i)) (rd r2 ρ2)) (dMl.ownL ρ1 i))
theorem sim_setIx {i : Nat} {ta tb : TE} {a b : DT G} (ha : Sim Z ta a) (hb : Sim Z tb b) : SimS Z (tAsg ta (gSub (tVar i) tb rSetL)) (dSetIx i a b) := fun f F ad ρ g σ H D R h D2 le => by
  refine ha f F ad ρ g σ H _ R h _ fun x H1 q => ?_
  obtain ⟨F1, ad1, ρ1, g1, r1, e1, eg1, R1, v1, q⟩ := q
  replace q := ifh_of q
  obtain ⟨F1', e1', R1', v1'⟩ := R1.hst v1
  obtain ⟨ds0, e0, q⟩ := lsD_of q
  have hi0 := ownL_of e0
  obtain ⟨z1, z2, vs0, z3, z4⟩ := R1'.slot i _ hi0
  refine ⟨.ref (ad1 i), z1, hb f F1' ad1 ρ1 g1 σ H1 _ R1' q _ fun y H2 q2 => ?_⟩
  obtain ⟨F2, ad2, ρ2, g2, r2, e2, eg2, R2, v2, q⟩ := q2
  obtain ⟨n, en, q⟩ := iiU_of q
  obtain ⟨d, ρ3, ef, q⟩ := fz1_of q
  obtain ⟨ds, el, q⟩ := lsD_of q
  obtain ⟨k, hk, q⟩ := opK_e q
  obtain ⟨F3, e3, R3, dv⟩ := R2.hfz (v1'.held e2 eg2) ef
  have hi := ownL_of el
  obtain ⟨y1, y2, vs, y3, y4⟩ := R3.slot i _ hi
  have ea : ad2 i = ad1 i := by
    have z : some (some (V.ref (ad2 i))) = some (some (V.ref (ad1 i))) := y1.symm.trans z1
    injection z with z; injection z with z; injection z
  rw [← ea]
  refine ⟨_, vs, n, k, rfl, R2.rInt v2 en, y3, by rw [y4.length]; exact hk, ?_⟩
  refine le.nx F3 ad2 _ g2 σ _ (eg2.trans eg1) (R3.wrote (s' := .ls (ds.set k d)) hi rfl ?_) q
  exact ⟨y1, y2, _, upd_same, y4.set dv k⟩
theorem s_setIx (i : Nat) {x : Str} {e j : Expr} {te tj : TE} {a b : DT G} {px ps pos : Pos} (he : DE X Z e te a) (hj : DE X Z j tj b) (hN : X.N[i]? = some x := by rfl)
    (hv : Vis X.env.scope x := by first | exact Or.inl rfl | exact Or.inr (Or.inl rfl) | exact Or.inr (Or.inr rfl)) (hd : (x == ("__debug__" : Str)) = false := by decide) (hcd : (x == ("__classdict__" : Str)) = false := by decide)
    (ha : ∀ v, assign (.Subscript (.Name x px) j ps) X.env v = (do
      let ov ← holding [v] (eval (.Name x px) X.env)
      let iv ← holding [v, ov] (eval j X.env)
      standAt ps
      holding [v, ov, iv] (setItem ov iv v)
      release [v, ov, iv] []) := by intro _; rfl)
    (hs : swapsWithSole [.Subscript (.Name x px) j ps] e pos.line X.env = pure false := by rfl) (hw : swappedStores [.Subscript (.Name x px) j ps] e X.env = pure none := by rfl)
    (h1 : (assignEach [.Subscript (.Name x px) j ps] X.env).map (·.2) = [assign (.Subscript (.Name x px) j ps) X.env] := by rfl) :
    DSt X Z (.Assign [.Subscript (.Name x px) j ps] e pos) (tAsg te (gSub (tVar i) tj rSetL)) (dSetIx i a b) :=
  ⟨ps_asg he.pe (pg_sub (pe_var hN hv hd hcd) hj.pe set_list ha) hs hw h1, sim_setIx he.sim hj.sim⟩
def tyN : PyData → String
  | .none => "NoneType"
  | .bool _ => "bool"
  | .int _ => "int"
  | .str _ => "str"
  | .list _ => "list"
  | .tuple _ => "tuple"
  | .dict _ => "dict"
theorem da_ty {K : PySem.W.Frag} {H : Hp} {v : V} {d : PyData} (h : Da K H v d) : TyX K H v (.type (tyN d)) := by
  cases h with
  | non => exact .base .non
  | bl b => exact .base (.bl b)
  | int i => exact .base (.int i)
  | str x => exact .base (.str x)
  | lst h1 h2 => exact .base (.lst h1)
  | tup h1 h2 =>
    rcases h1 with (h1 | ⟨o, h1⟩) | ⟨o, its, n, h1, h2, h3⟩
    · exact .base (.tup h1)
    · exact .fTuple h1
    · exact .kTuple h1 h2
  | dct h1 h2 => exact .base (.dK h1)
def dV (v : V) : DT G := fun ρ g Q => Q (.vv v) ρ g
theorem sim_v {v : V} : Sim Z (tC v) (dV v) := fun f F ad ρ g σ H Q R q P hP => hP v H (R.post (r := .vv v) rfl q)
/-- a built-in type's name as a value -/
theorem e_ty (n : String) {x : Str} {pos : Pos} (hm : X.mg x = none) (hv : bootBuiltins x = some (.type n)) (hg : Gl X x := by rfl) (hn : x ≠ "__name__" := by decide) (hd : (x == ("__debug__" : Str)) = false := by decide) : DE X Z (.Name x pos) (tC (.ty n)) (dV (.ty n)) :=
  ⟨pe_bltn hg hm hv (show Value.type n = Value.type n from rfl) hn hd, sim_v⟩
/-- isinstance(x, T) for the types that stand in the laws -/
def isT : String → PyData → Bool
  | "int", .int _ => true
  | "int", .bool _ => true
  | "bool", .bool _ => true
  | "str", .str _ => true
  | "list", .list _ => true
  | "tuple", .tuple _ => true
  | "dict", .dict _ => true
  | _, _ => false
def isTk (n : String) : Bool := n == "int" || n == "bool" || n == "str" || n == "list" || n == "tuple" || n == "dict"
theorem kit_all : ∀ a ∈ ["NoneType", "bool", "int", "float", "str", "list", "tuple", "dict"], ∀ b ∈ ["int", "bool", "str", "list", "tuple", "dict"], kitB a b = some (a == b || (a == "bool" && b == "int")) := by decide +kernel
theorem kit_da {K : PySem.W.Frag} {H : Hp} {v : V} {d : PyData} (h : Da K H v d) {n : String} (hn : isTk n = true) : PySem.W.kitOne K (.type (tyN d)) (.type n) = some (isT n d) := by
  have hm : n ∈ ["int", "bool", "str", "list", "tuple", "dict"] := by
    unfold isTk at hn
    simp only [Bool.or_eq_true, beq_iff_eq] at hn
    simp only [List.mem_cons, List.not_mem_nil, or_false]
    simpa only [or_assoc] using hn
  have key := kit_all (tyN d) (by cases h <;> simp [tyN]) n hm
  refine kit_ty (key.trans ?_)
  congr 1
  simp only [List.mem_cons, List.not_mem_nil, or_false] at hm
  rcases hm with rfl | rfl | rfl | rfl | rfl | rfl <;> cases h <;> rfl
def isiD (Q : PyData → Prop) (a : Option PyData) : Rs → Prop
  | .vv (.ty n) => tt (isTk n) (opK a fun d => Q (.bool (isT n d)))
  | _ => False
def oIsi : RA G := fun rs ρ g Q => two (fun r1 r2 => isiD (fun d => Q (.dt d) ρ g) (rd r1 ρ) r2) rs
theorem sim_isi : SimC Z (rIsi K) (oIsi (G := G)) := fun f F ad ρ g σ H vs rs Q R hv q P hP => by
  obtain ⟨r1, r2, rfl, q⟩ := two_of q
  obtain ⟨x, y, rfl, hx, hy⟩ := vrs2 hv
  replace q : isiD (fun d => Q (.dt d) ρ g) (rd r1 ρ) r2 := q
  unfold isiD at q
  split at q
  · rename_i n q
    obtain ⟨hn, q⟩ := tt_e q
    obtain ⟨d, e, q⟩ := opK_e q
    cases (show y = .ty n from hy)
    have dv := R.hrd hx e
    exact ⟨x, .ty n, _, _, _, rfl, .ty n, da_ty dv, kit_da dv hn, hP _ _ (R.dat (.bl _) q)⟩
  · cases q
theorem k_isi (hK : K = X.K := by rfl) : CallR X (.builtin "isinstance") (rIsi K) ∧ SimC Z (rIsi K) (oIsi (G := G)) := ⟨by rw [hK]; exact call_isi, sim_isi⟩
end L3
end
section
namespace L3
open PySem L2
variable {G : Type} {K : PySem.W.Frag} {X : Cx} {Z : Zx K G}
/-- a def that stands in the module -/
def Dfn (K : PySem.W.Frag) (mg : Str → Option Value) (x : Str) (s : Stmt) (ps : List Str) : Prop := ∃ fa fd, Fun K x x s fa fd ∧ mg x = some (.ref fa) ∧ Binds K fd ps []
/-- a def that keeps its promise -/
def Ok (P : Program) (w : World) (K : PySem.W.Frag) (mg : Str → Option Value) (base : Heap) (k : Nat) (x : Str) (ps : List Str) (sp : Sp) : Prop :=
  ∃ fa fd, mg x = some (.ref fa) ∧ PySem.W.keepIn K (.ref fa) = true ∧ Binds K fd ps [] ∧ (∃ oc od osl, K.lookup fa = some ⟨oc, od, .func fd, osl⟩) ∧ FnG P w K mg base (L2.CX P w) k fa fd ps sp
section
variable {P : Program} {w : World} {K : PySem.W.Frag} {mg : Str → Option Value} {base : Heap}
theorem Ok.up {j : Nat} {x : Str} {ps : List Str} {sp : Sp} (h : Ok P w K mg base j x ps sp) {k : Nat} (hk : j ≤ k) : Ok P w K mg base k x ps sp := by
  obtain ⟨fa, fd, h1, h2, h3, h0, h4⟩ := h
  exact ⟨fa, fd, h1, h2, h3, h0, h4.mono hk⟩
theorem Fun.at_ {x qual : Str} {s : Stmt} {fa : Addr} {fd : FuncData} (F : Fun K x qual s fa fd) : ∃ oc od osl, K.lookup fa = some ⟨oc, od, .func fd, osl⟩ := by
  obtain ⟨oc, od, kV, doc, pm, an, cdv, ct, osl, rfl, h, _⟩ := F.ex
  exact ⟨oc, od, osl, h⟩
/-- for the end: the function's object is known -/
theorem Ok.fn {k : Nat} {x : Str} {ps : List Str} {sp : Sp} (h : Ok P w K mg base k x ps sp) {fa : Addr} {fd : FuncData} {oc : Value} {od : Option Addr} {osl : Array (Option Value)} (hm : mg x = some (.ref fa)) (hl : K.lookup fa = some ⟨oc, od, .func fd, osl⟩) : FnG P w K mg base (L2.CX P w) k fa fd ps sp := by
  obtain ⟨fa', fd', h1, _, _, ⟨_, _, _, h0⟩, h4⟩ := h
  rw [hm] at h1
  cases h1
  rw [hl] at h0
  cases h0
  exact h4
theorem Dfn.ok {x : Str} {s : Stmt} {N ps : List Str} {k : Nat} {Z : Zx K G} {S : Spec G} (D : Dfn K mg x s ps) (Sc : FnScope N ps (defScope s)) (hS : ∀ as g T U, S as g T U → as.length = ps.length) (hN : ps.length ≤ N.length)
    (body : ∀ (fa : Addr) (cdv : Value) (A : Around) (outer : List Env) (s' : Shared) (H : Hp) (E : XK), RoomG k (A.deeper (PyProof.Rows.envOfC x (defScope s) s'.heap.objs.size fa cdv)) →
      ∃ ts t, DSs (cxOf (L2.CX P w) P w K mg base N x (defScope s) fa cdv A outer s' H E).nox (Z.wish (fun _ _ _ _ => False) Un) (defBody s) ts t ∧ ∀ as g T U, S as g T U → t { nx := fun _ g' => T (.dt .none) g', rt := T } (entry N as) g) : Ok P w K mg base (k + 1) x ps (spZ Z S) := by
  obtain ⟨fa, fd, Fu, hm, hb⟩ := D
  exact ⟨fa, fd, hm, Fu.kp, hb, Fun.at_ Fu, fun3 Fu Sc hS hN (body fa)⟩
/-- the same of a def that may raise -/
theorem Dfn.okX {x : Str} {s : Stmt} {N ps : List Str} {k : Nat} {Z : Zx K G} {S : Spec G} (D : Dfn K mg x s ps) (Sc : FnScope N ps (defScope s)) (hS : ∀ as g T U, S as g T U → as.length = ps.length) (hN : ps.length ≤ N.length)
    (body : ∀ (fa : Addr) (cdv : Value) (A : Around) (outer : List Env) (s' : Shared) (H : Hp) (E : XK) (U : XU G), RoomG k (A.deeper (PyProof.Rows.envOfC x (defScope s) s'.heap.objs.size fa cdv)) →
      Takes (cxOf (L2.CX P w) P w K mg base N x (defScope s) fa cdv A outer s' H E) (fun c d _ H => E c d H) →
      PassesOwn (model P w) (A.deeper (PyProof.Rows.envOfC x (defScope s) s'.heap.objs.size fa cdv)) (PyProof.Rows.envOfC x (defScope s) s'.heap.objs.size fa cdv) (cxOf (L2.CX P w) P w K mg base N x (defScope s) fa cdv A outer s' H E).xe →
      ∃ ts t, DSs (cxOf (L2.CX P w) P w K mg base N x (defScope s) fa cdv A outer s' H E) (Z.wish (fun c d _ H => E c d H) (fun c fs _ g => U c fs g)) (defBody s) ts t ∧ ∀ as g T, S as g T U → t { nx := fun _ g' => T (.dt .none) g', rt := T } (entry N as) g) : Ok P w K mg base (k + 1) x ps (spZ Z S) := by
  obtain ⟨fa, fd, Fu, hm, hb⟩ := D
  exact ⟨fa, fd, hm, Fu.kp, hb, Fun.at_ Fu, fun3X Fu Sc hS hN (body fa)⟩
/-- a promise that is never asked -/
theorem Dfn.none {x : Str} {s : Stmt} {ps : List Str} {k : Nat} {Z : Zx K G} {S : Spec G} (D : Dfn K mg x s ps) (h0 : ∀ as g T U, ¬ S as g T U) : Ok P w K mg base k x ps (spZ Z S) := by
  obtain ⟨fa, fd, Fu, hm, hb⟩ := D
  exact ⟨fa, fd, hm, Fu.kp, hb, Fun.at_ Fu, fun vs H Q E h => by obtain ⟨_, _, as, T, U, _, _, _, _, h, _⟩ := h; exact absurd h (h0 as _ T U), fun A outer s' H args us vs Q E _ _ _ _ h => by obtain ⟨_, _, as, T, U, _, _, _, _, h, _⟩ := h; exact absurd h (h0 as _ T U)⟩
/-- the same over the heap, no data layer -/
theorem Dfn.raw {x : Str} {s : Stmt} {N ps : List Str} {k : Nat} {sp : Sp} (D : Dfn K mg x s ps) (Sc : FnScope N ps (defScope s)) (hS : ∀ vs H Q E, sp vs H Q E → vs.length = ps.length)
    (body : ∀ (fa : Addr) (cdv : Value) (A : Around) (outer : List Env) (s' : Shared) (H : Hp) (vs : List V) (Q : VK) (E : XK), RoomG k (A.deeper (PyProof.Rows.envOfC x (defScope s) s'.heap.objs.size fa cdv)) → sp vs H Q E →
      ∃ t, PSs (cxOf (L2.CX P w) P w K mg base N x (defScope s) fa cdv A outer s' H E).nox (defBody s) t ∧ t { nx := fun _ H' => Q .non H', rt := Q } (L2.start N vs) H) : Ok P w K mg base (k + 1) x ps sp := by
  obtain ⟨fa, fd, Fu, hm, hb⟩ := D
  refine ⟨fa, fd, hm, Fu.kp, hb, Fun.at_ Fu, funG Fu Sc hS fun cdv A outer s' H vs Q E hr h => ?_⟩
  obtain ⟨t, h1, h2⟩ := body fa cdv A outer s' H vs Q E hr h
  exact ⟨t, h1.nox, h2⟩
end
section
variable {k : Nat} {ps : List Str} {x : Str} {p pos : Pos} {e : Expr} {es : List Expr} {ta : TA} {a : DA G}
/-- how a call's errors go: nowhere, or where the body's go -/
structure Let (X : Cx) (Z : Zx K G) (U : UX G) (E : St → XK) : Prop where
  pa : ∀ σ, PassesAt (L2.CX X.prog X.w) X σ (E σ)
  lw : LeW Z U E
theorem let_n : Let X Z Un (fun _ => E0) := ⟨fun _ => passN, leW_n⟩
/-- where the body's errors go -/
theorem let_w {W : WXH} {U : UX G} (tk : Takes X W) : Let X (Z.wish W U) U (WE W) := ⟨fun σ => passAt tk σ, leW_z (Z := Z.wish W U)⟩
/-- f(..) with the resource -/
theorem e_fnU {U : UX G} {E : St → XK} (L : Let X Z U E) {S : Spec G} {Z' : Zx K G} (F : Ok X.prog X.w X.K X.mg X.base k x ps (spZ Z' S)) (hr : RoomG k X.A) (ha : DAs X Z (e :: es) ta a) (hz : spZ Z' S = spZ Z S := by rfl) (hg : Gl X x := by rfl) (hdb : (x == ("__debug__" : Str)) = false := by decide)
    (he : starEach (e :: es) X.env = (false, eval e X.env) :: starEach es X.env := by rfl) (hpl : (backTo pos (starEach es X.env)).any (·.1) = false := by rfl) : DE X Z (.Call (.Name x p) (e :: es) [] pos) (tCallE (spZ Z' S) [] E ta) (dCall U S [] a) := by
  obtain ⟨fa, fd, hm, hk, hb, _, Fk⟩ := F
  exact ⟨pe_callG Fk hr hg hm hk hb .nil L.pa ha.pa hdb he hpl, by rw [hz]; exact sim_call L.lw (fun _ _ => .nil) ha.sim⟩
/-- f(..) of a def without one -/
theorem e_fn0U {U : UX G} {E : St → XK} (L : Let X Z U E) {S : Spec Unit} (F : Ok X.prog X.w X.K X.mg X.base k x ps (spZ (Z0 K) S)) (hr : RoomG k X.A) (ha : DAs X Z (e :: es) ta a) (hg : Gl X x := by rfl) (hdb : (x == ("__debug__" : Str)) = false := by decide)
    (he : starEach (e :: es) X.env = (false, eval e X.env) :: starEach es X.env := by rfl) (hpl : (backTo pos (starEach es X.env)).any (·.1) = false := by rfl) : DE X Z (.Call (.Name x p) (e :: es) [] pos) (tCallE (spZ (Z0 K) S) [] E ta) (dCall0 U S [] a) := by
  obtain ⟨fa, fd, hm, hk, hb, _, Fk⟩ := F
  exact ⟨pe_callG Fk hr hg hm hk hb .nil L.pa ha.pa hdb he hpl, sim_call0 L.lw (fun _ => .nil) ha.sim⟩
/-- f(..) at the heap -/
theorem pe_fn {sp : Sp} {ta : TA} (F : Ok X.prog X.w X.K X.mg X.base k x ps sp) (hr : RoomG k X.A) (ha : PA X (e :: es) ta) (hg : Gl X x := by rfl) (hdb : (x == ("__debug__" : Str)) = false := by decide)
    (he : starEach (e :: es) X.env = (false, eval e X.env) :: starEach es X.env := by rfl) (hpl : (backTo pos (starEach es X.env)).any (·.1) = false := by rfl) : PE X (.Call (.Name x p) (e :: es) [] pos) (tCallE sp [] (fun _ => E0) ta) := by
  obtain ⟨fa, fd, hm, hk, hb, _, Fk⟩ := F
  exact pe_callG Fk hr hg hm hk hb .nil (fun _ => passN) ha hdb he hpl
end
theorem tb {G : Type} {T : Rs → G → Prop} {g : G} {b c : Bool} (h : T (.dt (.bool b)) g) (e : b = c) : T (.dt (.bool c)) g := e ▸ h
theorem td {G : Type} {T : Rs → G → Prop} {g : G} {b c : PyData} (h : T (.dt b) g) (e : b = c) : T (.dt c) g := e ▸ h
mutual
/-- no list or tuple in it is too long -/
def smD : PyData → Bool
  | .list ds => decide (ds.length ≤ 16777216) && smDs ds
  | .tuple ds => decide (ds.length ≤ 16777216) && smDs ds
  | .dict _ => false
  | _ => true
def smDs : List PyData → Bool
  | [] => true
  | d :: r => smD d && smDs r
end
/-- a comprehension whose elements are told by a property -/
theorem lc_all {items : List PyData} {tg : DG G} {c : DB G} {e : DT G} {vs : List Nat} {ρ0 ρ1 : En} {g0 : G} {Q : Rs → En → G → Prop} (p : Nat → PyData → Prop) (hw : wipeE ρ1 vs = ρ0 := by rfl)
    (hs : ∀ (k : Nat) (d : PyData), items[k]? = some d → ∀ (C1 : PyData → En → G → Prop) (C0 : En → G → Prop), (∀ d', p k d' → C1 d' ρ0 g0) →
      tg d ρ0 g0 fun ρ2 g2 => c ρ2 g2 fun b ρ3 g3 => ifb b (e ρ3 g3 fun r ρ4 g4 => fz1 r ρ4 fun d' ρ5 => C1 d' (wipeE ρ5 vs) g4) (C0 (wipeE ρ3 vs) g3))
    (hQ : ∀ acc : List PyData, acc.length = items.length → (∀ k d', acc[k]? = some d' → p k d') → Q (.nl acc) ρ0 g0) (hU : unAll ρ0 vs := by first | exact ⟨rfl, trivial⟩ | exact ⟨rfl, rfl, trivial⟩ | exact ⟨rfl, rfl, rfl, trivial⟩) :
    LcP items tg c e vs ρ1 g0 Q := by
  subst hw
  refine ⟨⟨fun k acc ρ' g' => (acc.length = k ∧ ∀ j d', acc[j]? = some d' → p j d') ∧ ρ' = wipeE ρ1 vs ∧ g' = g0, ⟨⟨rfl, fun j d' e => by simp at e⟩, rfl, rfl⟩, fun k d acc ρ' g' hd hI => ?_, fun acc ρ' g' hI => ?_⟩⟩
  · obtain ⟨⟨hl, hp⟩, rfl, rfl⟩ := hI
    refine hs k d hd (fun d' ρ' g'' => ((acc ++ [d']).length = k + 1 ∧ ∀ j x, (acc ++ [d'])[j]? = some x → p j x) ∧ ρ' = wipeE ρ1 vs ∧ g'' = g') (fun ρ' g'' => (acc.length = k + 1 ∧ ∀ j d', acc[j]? = some d' → p j d') ∧ ρ' = wipeE ρ1 vs ∧ g'' = g') fun d' hd' => ⟨⟨by simp [hl], fun j x e => ?_⟩, rfl, rfl⟩
    by_cases hj : j < acc.length
    · rw [List.getElem?_append_left hj] at e
      exact hp j x e
    · have hj2 : j = acc.length := by
        have := (List.getElem?_eq_some_iff.mp e).1
        simp at this
        omega
      subst hj2
      simp at e
      subst e
      rw [hl]; exact hd'
  · obtain ⟨⟨hl, hp⟩, rfl, rfl⟩ := hI
    exact ⟨hU, hQ acc hl hp⟩
theorem boolsF {α : Type} (f : α → Bool) (xs : List α) : boolsL (xs.map fun x => PyData.bool (f x)) = some (xs.map f) := by
  have := boolsL_map (xs.map f)
  rwa [List.map_map] at this
theorem intsF {α : Type} (f : α → Int) (xs : List α) : intsL (xs.map fun x => PyData.int (f x)) = some (xs.map f) := by
  have := intsL_map (xs.map f)
  rwa [List.map_map] at this
theorem rngD_inv {lo : Int} {n k : Nat} {d : PyData} (h : (rngD lo n)[k]? = some d) : d = .int (lo + (k : Nat)) ∧ k < n := by
  have hk : k < n := by
    have := (List.getElem?_eq_some_iff.mp h).1
    rwa [rngD_len] at this
  rw [rngD_get lo hk] at h
  cases h
  exact ⟨rfl, hk⟩
theorem atI_mem {α : Type} {xs : List α} {i : Int} (h0 : 0 ≤ i) (h1 : i < xs.length) : ∃ x, x ∈ xs ∧ atI xs i = some x := by
  obtain ⟨n, rfl⟩ := Int.eq_ofNat_of_zero_le h0
  have hn : n < xs.length := by omega
  refine ⟨xs[n], List.getElem_mem hn, ?_⟩
  exact atI_nat (List.getElem?_eq_getElem hn)
theorem atI_int {zs : List Int} {i : Int} (h0 : 0 ≤ i) (h1 : i < zs.length) : ∃ z, z ∈ zs ∧ atI (zs.map PyData.int) i = some (.int z) := by
  obtain ⟨n, rfl⟩ := Int.eq_ofNat_of_zero_le h0
  have hn : n < zs.length := by omega
  refine ⟨zs[n], List.getElem_mem hn, ?_⟩
  exact atI_nat (by rw [List.getElem?_map, List.getElem?_eq_getElem hn]; rfl)
theorem atI_gen {ds : List PyData} {i : Int} {K : PyData → Prop} (h0 : 0 ≤ i) (h1 : i < ds.length) (k : ∀ d ∈ ds, K d) : opK (atI ds i) K := by
  obtain ⟨d, hd, e⟩ := atI_mem h0 h1
  exact opK_of e (k d hd)
theorem mulL {i j : Int} (h : (Builtin.Int.intBits i : Int) + (Builtin.Int.intBits j : Int) ≤ 134217728 := by decide +kernel) : MulOk i j := .inr h
theorem pk_of {i m : Int} {p : Prop} (h0 : 0 < m) (h1 : m < 2 ^ 64) (hp : p) : dvK i m p := dvK_of ⟨h0, log_small h0 h1⟩ hp
end L3
end
section
namespace L3
open PySem L2
variable {G : Type} {K : PySem.W.Frag} {X : Cx} {Z : Zx K G}
def kOf : PyData → Option Key
  | .int i => some (.inl i)
  | .str x => some (.inr x)
  | _ => none
def kq (d e : PyData) : Bool := match d, e with
  | .int i, .int j => decide (i = j)
  | .str x, .str y => decide (x = y)
  | _, _ => false
/-- what a dict holds at a key; with another value there -/
def lookD (kvs : List (PyData × PyData)) (k : PyData) : Option PyData := match kvs with
  | [] => none
  | p :: r => match kq p.1 k with
    | true => some p.2
    | false => lookD r k
theorem kq_kD (a b : Key) : kq (kD a) (kD b) = decide (a = b) := by
  cases a <;> cases b <;> simp [kq, kD]
theorem daKv_look {K : PySem.W.Frag} {F : Hp} : ∀ {vs : List (Key × V)} {ds : List (PyData × PyData)} (k : Key), DaKv K F vs ds → (∀ d, lookD ds (kD k) = some d → ∃ v, valV vs k = some v ∧ Da K F v d) ∧ (lookD ds (kD k) = none → valV vs k = none)
  | _, _, k, .nil => ⟨fun d e => (by cases e), fun _ => rfl⟩
  | _, _, k, @DaKv.cons _ _ k' v vs d ds h r => by
    obtain ⟨i1, i2⟩ := daKv_look k r
    by_cases e : k' = k
    · subst e
      rw [lookD, kq_kD, decide_eq_true rfl]
      exact ⟨fun d' e' => ⟨v, valV_pos rfl, by cases e'; exact h⟩, fun e' => by cases e'⟩
    · rw [lookD, kq_kD, decide_eq_false e, valV_neg (p := (k', v)) e]
      exact ⟨i1, i2⟩
/-- a dict's data: the keys differ -/
def ndD : List (PyData × PyData) → Bool
  | [] => true
  | p :: r => (lookD r p.1).isNone && ndD r
section
variable {f : Fx} {F F' : Hp} {ad : Nat → Addr} {ρ : En} {g : G} {σ : St} {H H' : Hp} {Q : Rs → En → G → Prop}
theorem Rel.key (R : Rel Z f F ad ρ g σ H) {v : V} {r : Rs} {d : PyData} {k : Key} (h : VR Z f F ad ρ g σ H v r) (e : rd r ρ = some d) (hk : kOf d = some k) : v = kV k ∧ d = kD k := by
  have q := R.hrd h e
  cases d <;> first | (cases hk; cases q; exact ⟨rfl, rfl⟩) | cases hk
theorem Rel.ditems (R : Rel Z f F ad ρ g σ H) {v : V} {r : Rs} {ds : List (PyData × PyData)} (h : VR Z f F ad ρ g σ H v r) (e : rd r ρ = some (.dict ds)) : ∃ a vs, v = .ref a ∧ H a = some (.dK vs) ∧ DaKv K F vs ds := by
  cases r with
  | dt d => cases e; cases h; rename_i a vs h1 h2; exact ⟨a, vs, rfl, R.fin.sub _ _ h1, h2⟩
  | nd ds => obtain ⟨a, vs, rfl, _, h1, h2⟩ := h; cases e; exact ⟨a, vs, rfl, h1, h2⟩
  | br i =>
    have e1 : rdS ρ[i]? = some (.dict ds) := e
    cases hi : ρ[i]? with
    | none => rw [hi] at e1; cases e1
    | some s =>
      rw [hi] at e1
      have q := R.slot i _ hi
      cases s with
      | dt d' =>
        cases e1
        obtain ⟨w, q1, q2⟩ := q
        have z : some (some w) = some (some v) := q1.symm.trans h
        cases z
        cases q2
        rename_i a vs h1 h2
        exact ⟨a, vs, rfl, R.fin.sub _ _ h1, h2⟩
      | dk ds =>
        cases e1
        obtain ⟨q1, _, vs, q3, q4⟩ := q
        have z : some (some (V.ref (ad i))) = some (some v) := q1.symm.trans h
        cases z
        exact ⟨_, vs, rfl, q3, q4⟩
      | _ => cases e1
  | _ => cases e
theorem Rel.dget (R : Rel Z f F ad ρ g σ H) {v y : V} {r r2 : Rs} {ds : List (PyData × PyData)} {k : PyData} {kk : Key} (h : VR Z f F ad ρ g σ H v r) (e : rd r ρ = some (.dict ds)) (h2 : VR Z f F ad ρ g σ H y r2) (e2 : rd r2 ρ = some k) (hk : kOf k = some kk) :
    ∃ a o, v = .ref a ∧ DGet H a y o ∧ (∀ d, lookD ds k = some d → ∃ w, o = some w ∧ Da K F w d) ∧ (lookD ds k = none → o = none) := by
  obtain ⟨a, vs, rfl, ha, da⟩ := R.ditems h e
  obtain ⟨rfl, rfl⟩ := R.key h2 e2 hk
  obtain ⟨l1, l2⟩ := daKv_look kk da
  exact ⟨a, _, rfl, DGet.k ha, l1, l2⟩
end
def rIxD : R2 := fun x y H Q => ∃ a v, x = .ref a ∧ DGet H a y (some v) ∧ Q v H
theorem ix_dict (hu : X.A.units + 1 < cLine) : IxR X rIxD := by
  intro value slice pins s σ H x y v u Q I rx ry h hs
  obtain ⟨a, w, rfl, gt, q⟩ := h
  cases rx
  have hT := dict_typeIs I gt
  unfold PyProof.Rows.subscriptTail
  refine wpAny_bind ?_
  rw [getitemInPython_of_ne hT.not_modules]
  refine wpAny_bind (wpAny_specialOf hT PySem.F.slot_dict_getitem.lookup ?_)
  have last : wpAny (model X.prog X.w) X.A (subscripted slice false (.ref a) u) (fun r t => wpAny (model X.prog X.w) X.A (letTemporaryGo value (.ref a) r >>= fun _ => pure r) (EP X pins σ Q) X.xe t) X.xe s := by
    rw [hs]
    exact wpAny_operating (wpAny_mono (d_getItem hu I gt ry fun w' s' I' rw' => ⟨w, H, I', rw', q⟩) (fun r t ht => wpAny_bind (wpAny_letTemporaryGo (wpAny_pure ht))) fun _ _ z => z)
  first
    | exact wpAny_pure (wpAny_bind last)
    | exact wpAny_bind (wpAny_pure (wpAny_bind last))
    | exact wpAny_bind last
def ixX (ρ : En) (g : G) (Q : Rs → En → G → Prop) : Option PyData → Option PyData → Prop
  | some (.list ds), some (.int i) => opK (atI ds i) fun d => Q (.dt d) ρ g
  | some (.tuple ds), some (.int i) => opK (atI ds i) fun d => Q (.dt d) ρ g
  | some (.str z), some (.int i) => z.length ≤ sizeLine ∧ opK (atI z.cps.toList i) fun c => Q (.dt (.str ⟨#[c]⟩)) ρ g
  | some (.dict ds), some k => opK (kOf k) fun _ => opK (lookD ds k) fun d => Q (.dt d) ρ g
  | _, _ => False
def oIxX : RO G := fun r1 r2 ρ g Q => ixX ρ g Q (rd r1 ρ) (rd r2 ρ)
def rIxX (K : PySem.W.Frag) : R2 := fun x y H Q => rIx K x y H Q ∨ rIxD x y H Q
theorem sim_ixX : SimO Z (rIxX K) (oIxX (G := G)) := fun f F ad ρ g σ H x y r1 r2 Q R h1 h2 q P hP => by
  have q' : ixX ρ g Q (rd r1 ρ) (rd r2 ρ) := q
  unfold ixX at q'
  split at q'
  · rename_i ds i e1 e2
    exact .inl (sim_ix f F ad ρ g σ H x y r1 r2 Q R h1 h2 (show ixD ρ g Q (rd r1 ρ) (rd r2 ρ) by rw [e1, e2]; exact q') P hP)
  · rename_i ds i e1 e2
    exact .inl (sim_ix f F ad ρ g σ H x y r1 r2 Q R h1 h2 (show ixD ρ g Q (rd r1 ρ) (rd r2 ρ) by rw [e1, e2]; exact q') P hP)
  · rename_i ds i e1 e2
    exact .inl (sim_ix f F ad ρ g σ H x y r1 r2 Q R h1 h2 (show ixD ρ g Q (rd r1 ρ) (rd r2 ρ) by rw [e1, e2]; exact q') P hP)
  · rename_i ds k e1 e2
    obtain ⟨kk, ek, q'⟩ := opK_e q'
    obtain ⟨d, el, q'⟩ := opK_e q'
    obtain ⟨a, o, rfl, gt, l1, _⟩ := R.dget h1 e1 h2 e2 ek
    obtain ⟨w, rfl, dw⟩ := l1 d el
    exact .inr ⟨a, w, rfl, gt, hP _ _ (R.dat dw q')⟩
  · cases q'
theorem e_ixX (hu : X.A.units + 64 < cLine) {ea eb : Expr} {ta tb : TE} {a b : DT G} {pos : Pos} (ha : DE X Z ea ta a) (hb : DE X Z eb tb b) (hs : PlainIx eb := by exact fun _ _ => rfl) (hK : K = X.K := by rfl) : DE X Z (.Subscript ea eb pos) (tOp (rIxX K) ta tb) (dOp oIxX a b) :=
  ⟨pe_ix (by rw [hK]; exact ix_seq.or (ix_dict (by omega))) ha.pe hb.pe hs, sim_op sim_ixX ha.sim hb.sim⟩
end L3
end
section
namespace L3
open PySem L2
variable {G : Type} {K : PySem.W.Frag} {X : Cx} {Z : Zx K G}
structure ShOk (d : PyData) : Prop where
  sh : d.showable = true
  nd : d.hasDict = false
  dp : d.depth ≤ 150
  sz : d.shown.length ≤ 16777216
mutual
theorem da_reads {K : PySem.W.Frag} {H : Hp} : ∀ {v : V} {d : PyData}, d.hasDict = false → Da K H v d → Dp K H v d
  | _, _, _, .non => .non
  | _, _, _, .bl b => .bl b
  | _, _, _, .int i => .int i
  | _, _, _, .str x => .str x
  | _, _, c, .lst h r => .lst (.inl (.inl h)) (daAll_reads (by rwa [PyData.hasDict] at c) r)
  | _, _, c, .tup h r => .tup h (daAll_reads (by rwa [PyData.hasDict] at c) r)
  | _, _, c, .dct h r => by rw [PyData.hasDict] at c; cases c
theorem daAll_reads {K : PySem.W.Frag} {H : Hp} : ∀ {vs : List V} {ds : List PyData}, PyData.hasDictAll ds = false → DaAll K H vs ds → DpAll K H vs ds
  | _, _, _, .nil => .nil
  | _, _, c, .cons h r => by
    rw [PyData.hasDictAll, Bool.or_eq_false_iff] at c
    exact .cons (da_reads c.1 h) (daAll_reads c.2 r)
end
def rReprX (K : PySem.W.Frag) : List V → Hp → VK → Prop := fun xs H Q => ∃ v d, xs = [v] ∧ Dp K H v d ∧ ShOk d ∧ Q (.str d.shown) H
theorem call_reprX (hr : RoomG 0 X.A) : CallR X (.builtin "repr") (rReprX X.K) := by
  intro pins s σ H xs us Q I r h
  obtain ⟨v, d, rfl, dp, ok, q⟩ := h
  obtain ⟨u, rfl, ru⟩ := vals1 r
  obtain ⟨as, rd⟩ := Dp.reads I d v u dp ru
  have hz : d.shown.length ≤ sizeLine := by rw [sizeLine_eq]; exact ok.sz
  have hun : X.A.units + (d.depth + 1) < cLine := by
    have h1 := hr.rm.un
    have h2 := ok.dp
    omega
  have obj : ∀ {a : Addr}, Reads s.heap (.ref a) d as → wpAny (model X.prog X.w) X.A (call (.builtin "repr") [.ref a]) (EP X pins σ Q) X.xe s := fun {a} rd =>
    repr_of_reads' rd ok.sh (PyData.noDict_hsm ok.nd) hr.gd hun (fun _ _ e => e) (fun h' w tk keep => ⟨.str d.shown, H, I.kept keep, ⟨_, rfl⟩, q⟩) hz
  cases dp with
  | non =>
    cases ru
    exact PySem.P.repr_of_none ⟨.str _, H, I.tok _, ⟨_, rfl⟩, q⟩
  | bl b =>
    cases ru
    exact PySem.P.repr_of_bool ⟨.str _, H, I.tok _, ⟨_, rfl⟩, q⟩
  | int i =>
    obtain ⟨t, rfl⟩ := ru
    exact PySem.P.repr_of_int (by have := ok.sh; simpa [PyData.showable] using this) ⟨.str _, H, I.tok _, ⟨_, rfl⟩, by rw [PyData.shown_int] at q; exact q⟩
  | str x =>
    obtain ⟨t, rfl⟩ := ru
    exact PySem.P.repr_of_str ⟨.str _, H, I.tok _, ⟨_, rfl⟩, by rw [PyData.shown_str] at q; exact q⟩ (by rw [PyData.shown_str] at hz; exact hz)
  | lst h1 h2 => cases ru; exact obj rd
  | tup h1 h2 => cases ru; exact obj rd
/-- repr(x): what is asked stands as it is, to be seen by hand -/
structure ShK (d : PyData) (p : Prop) : Prop where
  ok : ShOk d
  p : p
def oRepr : RA G := fun rs ρ g Q => one (fun r => opK (rd r ρ) fun d => ShK d (Q (.dt (.str d.shown)) ρ g)) rs
theorem k_reprX {k : Nat} (hr : RoomG k X.A) (hK : K = X.K := by rfl) : CallR X (.builtin "repr") (rReprX K) ∧ SimC Z (rReprX K) (oRepr (G := G)) := ⟨by rw [hK]; exact call_reprX (hr.mono (Nat.zero_le _)), fun f F ad ρ g σ H vs rs Q R h q P hP => by
  obtain ⟨r, rfl, q2⟩ := one_of q
  obtain ⟨v, rfl, h0⟩ := vrs1 h
  obtain ⟨d, e, q3⟩ := opK_e q2
  exact ⟨v, d, rfl, da_reads q3.ok.nd (R.hrd h0 e), q3.ok, hP _ _ (R.dat (.str _) q3.p)⟩⟩
mutual
def wd : PyData → Nat
  | .none => 4
  | .bool _ => 5
  | .int i => i.natAbs.log2 + 3
  | .str x => 10 * x.length + 2
  | .list xs => wdAll xs + 2
  | .tuple xs => wdAll xs + 3
  | .dict _ => 0
def wdAll : List PyData → Nat
  | [] => 0
  | x :: xs => wd x + 2 + wdAll xs
end
mutual
def okTx : PyData → Bool
  | .none => true
  | .bool _ => true
  | .int i => decide (i.natAbs.log2 < 1920)
  | .str x => x.cps.toList.all fun c => decide (c < 4294967296)
  | .list xs => okTxs xs
  | .tuple xs => okTxs xs
  | .dict _ => false
def okTxs : List PyData → Bool
  | [] => true
  | x :: xs => okTx x && okTxs xs
end
theorem strlen_append (x y : Str) : (x ++ y).length = x.length + y.length := by
  show (x.cps ++ y.cps).size = _
  rw [Array.size_append]; rfl
theorem join_le (ts : List Str) : (Str.join ", " ts).length ≤ piled ts := by
  by_cases h : ts = []
  · subst h; exact Nat.zero_le _
  · have := join_length_add ts h
    omega
theorem txt_len (i : Int) : ((toString i : String) : Str).length ≤ i.natAbs.log2 + 3 := by
  have h1 := int_text_length_le (a := i) (k := i.natAbs.log2 + 1) (by omega) (by omega)
  rw [ofString_length]
  omega
mutual
theorem wd_shown : ∀ d : PyData, okTx d = true → d.shown.length ≤ wd d
  | .none, _ => by rw [PyData.shown_none]; decide
  | .bool b, _ => by rw [PyData.shown_bool]; cases b <;> decide
  | .int i, h => by
    rw [PyData.shown_int]
    exact txt_len i
  | .str x, h => by
    rw [PyData.shown_str]
    rw [okTx, List.all_eq_true] at h
    exact PySem.StrLaws.reprText_len x fun c hc => by have := of_decide_eq_true (h c hc); omega
  | .list xs, h => by
    rw [okTx] at h
    rw [PyData.shown_list, strlen_append, strlen_append]
    have := Nat.le_trans (join_le _) (wdAll_shown xs h)
    show 1 + _ + 1 ≤ wdAll xs + 2
    omega
  | .tuple xs, h => by
    rw [okTx] at h
    rw [PyData.shown_tuple, strlen_append, strlen_append]
    have := Nat.le_trans (join_le _) (wdAll_shown xs h)
    have e : (((if xs.length == 1 then ",)" else ")" : String) : Str)).length ≤ 2 := by split <;> decide
    show 1 + _ + _ ≤ wdAll xs + 3
    omega
  | .dict _, h => by cases h
theorem wdAll_shown : ∀ ds : List PyData, okTxs ds = true → piled (PyData.shownAll ds) ≤ wdAll ds
  | [], _ => by rw [PyData.shownAll_nil]; exact Nat.zero_le _
  | x :: xs, h => by
    rw [okTxs, Bool.and_eq_true] at h
    rw [PyData.shownAll_cons, piled_cons, wdAll]
    have h1 := wd_shown x h.1
    have h2 := wdAll_shown xs h.2
    omega
end
theorem shOk_of {d : PyData} (h1 : d.showable = true) (h2 : d.hasDict = false) (h3 : d.depth ≤ 150) (h4 : okTx d = true) (h5 : wd d ≤ 16777216) : ShOk d := ⟨h1, h2, h3, Nat.le_trans (wd_shown d h4) h5⟩
theorem shK_of {d : PyData} {p : Prop} (h : ShOk d) (hp : p) : ShK d p := ⟨h, hp⟩
end L3
end
section
namespace L3
open PySem L2
variable {G : Type} {K : PySem.W.Frag} {X : Cx} {Z : Zx K G}
/-- the class that a name of the module holds -/
def cv (mg : Str → Option Value) (x : Str) : Value := (mg x).getD .none
structure ExX (K : PySem.W.Frag) (mg : Str → Option Value) (x : Str) : Prop where
  ex : ∃ C, mg x = some (.ref C) ∧ PySem.W.excIn K C [.type "ValueError", .type "Exception", .type "BaseException", .type "object"] "ValueError.__new__" = true ∧ PySem.W.keepIn K (.ref C) = true ∧
    PySem.W.subIn K (.ref C) (.type "BaseException") = some true ∧ PySem.W.typeIn K (.ref C) = some (.type "type") ∧ PySem.W.hasDictIn K C = true
def SubX (K : PySem.W.Frag) (mg : Str → Option Value) (x y : Str) (b : Bool) : Prop := PySem.W.subIn K (cv mg x) (cv mg y) = some b
theorem cv_of {mg : Str → Option Value} {x : Str} {v : Value} (h : mg x = some v) : cv mg x = v := by unfold cv; rw [h]; rfl
/-- what an except clause for y asks of a class -/
def Takes1 (K : PySem.W.Frag) (mg : Str → Option Value) (c : Value) (y : Str) (b : Bool) : Prop := PySem.W.exmOne K c (cv mg y) = some b
theorem takes1_of {mg : Str → Option Value} {x y : Str} {b : Bool} (e : ExX K mg y) (h : SubX K mg x y b) : Takes1 K mg (cv mg x) y b := by
  obtain ⟨C, h1, _, _, h2, h3, h4⟩ := e.ex
  unfold Takes1
  unfold SubX at h
  rw [cv_of h1] at h ⊢
  exact PySem.W.exm_ref h2 h4 h3 h
def dRaise (U : UX G) (c : Value) : DS G := fun _ ρ g => U c [] ρ g
theorem s_raise {W : WXH} {U : UX G} {x m : Str} {j : Nat} {p p2 p3 pos : Pos} (e : ExX X.K X.mg x) (tk : Takes X W) (hc : X.calm = true := by rfl) (hg : Gl X x := by rfl) (hdb : (x == ("__debug__" : Str)) = false := by decide) :
    DSt X (Z.wish W U) (.Raise (some (.Call (.Name x p) [.Constant (.str m) j p2] [] p3)) none pos) (fun _ σ H => W (cv X.mg x) none σ H) (dRaise U (cv X.mg x)) := by
  obtain ⟨C, h1, h2, h3, h4, h5, h6⟩ := e.ex
  rw [cv_of h1]
  exact ⟨ps_raise hc tk (pmk_own PySem.F.excBase_ValueError h2 h1 h3 (raises_own h4 h5) hg hdb), fun f F ad ρ g σ H D R h D2 le => R.lx F ad ρ g σ H (.ref C) none [] rfl R.toRel0 (.inl ⟨rfl, rfl⟩) h⟩
theorem Fin.wish {f : Fx} {F : Hp} {g : G} {H : Hp} {W W' : WXH} {U U' : UX G} (R : Fin (Z.wish W U) f F g H) : Fin (Z.wish W' U') f F g H := ⟨R.base, R.sub, R.keep, R.keepN, R.new, R.res, R.fpF, R.fpB, R.fpo⟩
theorem Rel0.wish {f : Fx} {F : Hp} {ad : Nat → Addr} {ρ : En} {g : G} {σ : St} {H : Hp} {W W' : WXH} {U U' : UX G} (R : Rel0 (Z.wish W U) f F ad ρ g σ H) : Rel0 (Z.wish W' U') f F ad ρ g σ H :=
  ⟨R.fin.wish, R.len, fun i s hi => by
    have q := R.slot i s hi
    cases s <;> exact q, R.inj⟩
theorem Rel.wish {f : Fx} {F : Hp} {ad : Nat → Addr} {ρ : En} {g : G} {σ : St} {H : Hp} {W W' : WXH} {U U' : UX G} (R : Rel (Z.wish W U) f F ad ρ g σ H) (lx : LeX (Z.wish W' U') f (Z.ra g)) : Rel (Z.wish W' U') f F ad ρ g σ H := ⟨R.toRel0.wish, lx⟩
theorem VFin.wish {f : Fx} {F : Hp} {g : G} {H : Hp} {v : V} {r : Rs} {W W' : WXH} {U U' : UX G} (h : VFin (Z.wish W U) f F g H v r) : VFin (Z.wish W' U') f F g H v r := by cases r <;> exact h
theorem Le.wish {f : Fx} {ra0 : Nat → Addr} {D : D3 G} {D2 : Ends} {W W' : WXH} {U U' : UX G} (h : Le (Z.wish W U) f ra0 D D2) (lx : LeX (Z.wish W U) f ra0) : Le (Z.wish W' U') f ra0 D D2 :=
  ⟨fun F ad ρ g σ H e R => h.nx F ad ρ g σ H e (R.wish (by rw [show Z.ra g = ra0 from e]; exact lx)), fun F g H v r e R hv => h.rt F g H v r e R.wish hv.wish, fun F ad ρ g σ H e R => h.bk F ad ρ g σ H e (R.wish (by rw [show Z.ra g = ra0 from e]; exact lx)), fun F ad ρ g σ H e R => h.ct F ad ρ g σ H e (R.wish (by rw [show Z.ra g = ra0 from e]; exact lx))⟩
/-- the data's reading, at the heap -/
def dTS (Z : Zx K G) (t : DS G) : TS := fun D2 σ H => ∃ f F ad ρ g D, Rel Z f F ad ρ g σ H ∧ t D ρ g ∧ Le Z f (Z.ra g) D D2
theorem DSs.imp {st : List Stmt} {ts : TS} {t : DS G} (h : DSs X Z st ts t) : PSs X st (dTS Z t) := ⟨fun pins s σ H D I q => by
  obtain ⟨f, F, ad, ρ, g, D1, R, q, le⟩ := q
  exact h.ps.run pins s σ H D I (h.sim f F ad ρ g σ H D1 R q D le)⟩
end L3
end
section
namespace L3
open PySem L2
end L3
end
section
namespace L3
open PySem L2
structure DLG where
  da : Addr
  es : List (Key × Addr)
  ls : Addr → List PyData
def DLG.adr (g : DLG) (k : Key) : Option Addr := (g.es.find? fun p => decide (p.1 = k)).map (·.2)
def DLG.look (g : DLG) (k : Key) : Option (List PyData) := (g.adr k).map g.ls
def DLG.fp (g : DLG) : List Addr := g.da :: g.es.map (·.2)
section
variable {K : PySem.W.Frag} {X : Cx} {W : WXH} {U : UX DLG}
/-- one of the resource's cells is written -/
theorem Rel.upR {G : Type} {Z : Zx K G} {f : Fx} {F : Hp} {ad : Nat → Addr} {ρ : En} {g g' : G} {σ : St} {H : Hp} (R : Rel Z f F ad ρ g σ H) {a : Addr} {o : HO} (ha : a ∈ Z.fp g) (hf : Z.fp g' = Z.fp g) (hr : Z.ra g' = Z.ra g) (hR : Z.R g' F (L2.upd H a o)) : Rel Z f F ad ρ g' σ (L2.upd H a o) := by
  have ne : ∀ i s, ρ[i]? = some s → s.own = true → ad i ≠ a := fun i s hi ho e => by
    have q := R.slot i s hi
    cases s with
    | ls ds => exact q.2.1.2.2 (by rw [e]; exact ha)
    | dk ds => exact q.2.1.2.2 (by rw [e]; exact ha)
    | _ => cases ho
  refine ⟨⟨⟨R.fin.base, fun b u e => ?_, fun b u e h0 => ?_, fun b hb => ?_, R.fin.new, hR, by rw [hf]; exact R.fin.fpF, by rw [hf]; exact R.fin.fpB, R.fin.fpo⟩, R.len, fun i s hi => ?_, R.inj⟩, by rw [hr]; exact R.lx⟩
  · rw [upd_ne fun z => by rw [z, R.fin.fpF a ha] at e; cases e]
    exact R.fin.sub b u e
  · rw [upd_ne fun z => ?_]
    · exact R.fin.keep b u e h0
    · rcases R.fin.fpB a ha with h | h
      · exact h0 (by rw [z]; exact h)
      · rw [z, h] at e; cases e
  · by_cases z : b = a
    · rw [z, upd_same]; intro y; cases y
    · rw [upd_ne z]; exact R.fin.keepN b hb
  · have q := R.slot i s hi
    cases s with
    | un => trivial
    | dt d => exact q
    | ls ds => obtain ⟨q1, q2, vs, q3, q4⟩ := q; exact ⟨q1, ⟨q2.1, q2.2.1, by rw [hf]; exact q2.2.2⟩, vs, by rw [upd_ne (ne i _ hi rfl)]; exact q3, q4⟩
    | dk ds => obtain ⟨q1, q2, vs, q3, q4⟩ := q; exact ⟨q1, ⟨q2.1, q2.2.1, by rw [hf]; exact q2.2.2⟩, vs, by rw [upd_ne (ne i _ hi rfl)]; exact q3, q4⟩
    | rs n => exact (show σ[i]? = some (some (.ref (Z.ra g n))) from q).trans (by rw [hr])
    | vv v => exact q
end
end L3
namespace L3
open PySem L2
end L3
end
section
namespace L3
open PySem L2
structure JG where
  a : Addr
  b : Addr
  most : Option Int := none
  turns : Option Int := none
def kCl : Key := .inr "cells"
def kRs : Key := .inr "rest"
def kSd : Key := .inr "seed"
def kTn : Key := .inr "turn"
def kMs : Key := .inr "most"
def kTs : Key := .inr "turns"
abbrev MT := Option Int × Option Int
def mostKv : MT → List (Key × V)
  | (none, none) => []
  | (some m, none) => [(kMs, .int m)]
  | (none, some t) => [(kTs, .int t)]
  | (some m, some t) => [(kTs, .int t), (kMs, .int m)]
def jarKv (m : MT) (cl : Addr) (r s t : Int) : List (Key × V) := (kCl, .ref cl) :: (kRs, .int r) :: (kSd, .int s) :: (kTn, .int t) :: mostKv m
/-- the jar at ja, its cells at cl -/
def JAt (ja cl : Addr) (m : MT) (cells : List Int) (r s t : Int) (H : Hp) : Prop := H ja = some (.dK (jarKv m cl r s t)) ∧ H cl = some (.lst (cells.map V.int)) ∧ ja ≠ cl
def JR (g : JG) (H : Hp) : Prop := ∃ cells r s t, JAt g.1 g.2 (g.most, g.turns) cells r s t H
def ZJ (K : PySem.W.Frag) : Zx K JG where
  fp g := [g.1, g.2]
  ra g _ := g.1
  R g _ H := JR g H
  loc := fun {g F F' H H'} ⟨cells, r, s, t, h1, h2, h3⟩ _ e => ⟨cells, r, s, t, (e g.1 (by simp)).trans h1, (e g.2 (by simp)).trans h2, h3⟩
  there := fun {g F H} ⟨cells, r, s, t, h1, h2, h3⟩ a ha => by
    simp at ha
    rcases ha with rfl | rfl
    · rw [h1]; intro z; cases z
    · rw [h2]; intro z; cases z
/-- what is left as it was but for the jar -/
structure JF (ja cl : Addr) (H H' : Hp) : Prop where
  keep : ∀ b o, H b = some o → b ≠ ja → b ≠ cl → H' b = some o
  keepN : ∀ b, H b ≠ none → H' b ≠ none
section
variable {ja cl : Addr} {m : MT} {cells : List Int} {r s t : Int} {H H' H2 : Hp}
theorem JF.refl : JF ja cl H H := ⟨fun _ _ e _ _ => e, fun _ h => h⟩
theorem JF.trans (a : JF ja cl H H') (b : JF ja cl H' H2) : JF ja cl H H2 := ⟨fun x o e n1 n2 => b.keep x o (a.keep x o e n1 n2) n1 n2, fun x h => b.keepN x (a.keepN x h)⟩
theorem JF.same (e : ∀ b o, H b = some o → H' b = some o) : JF ja cl H H' := ⟨fun b o h _ _ => e b o h, fun b h => by
  cases q : H b with
  | none => exact absurd q h
  | some o => rw [e b o q]; intro z; cases z⟩
theorem JF.dict {o : HO} : JF ja cl H (upd H ja o) := ⟨fun b x e n1 _ => by rw [upd_ne n1]; exact e, fun b h => by
  by_cases e : b = ja
  · subst e; rw [upd_same]; intro z; cases z
  · rw [upd_ne e]; exact h⟩
theorem JF.lst {o : HO} : JF ja cl H (upd H cl o) := ⟨fun b x e _ n2 => by rw [upd_ne n2]; exact e, fun b h => by
  by_cases e : b = cl
  · subst e; rw [upd_same]; intro z; cases z
  · rw [upd_ne e]; exact h⟩
theorem JF.new {p : Addr} {o : HO} (h : H p = none) : JF ja cl H (upd H p o) := .same fun b x e => by rw [upd_ne (ne_of_none e h)]; exact e
theorem jar_len (m : MT) {cl : Addr} {r s t : Int} : (jarKv m cl r s t).length < sizeLine := by rcases m with ⟨_ | _, _ | _⟩ <;> (show (_ : Nat) < _; first | (show 4 < sizeLine; decide) | (show 5 < sizeLine; decide) | (show 6 < sizeLine; decide))
theorem JAt.keep (j : JAt ja cl m cells r s t H) (e : ∀ b o, H b = some o → H' b = some o) : JAt ja cl m cells r s t H' := ⟨e _ _ j.1, e _ _ j.2.1, j.2.2⟩
theorem JAt.put {r' s' t' : Int} (j : JAt ja cl m cells r s t H) : JAt ja cl m cells r' s' t' (upd H ja (.dK (jarKv m cl r' s' t'))) := ⟨upd_same, by rw [upd_ne j.2.2.symm]; exact j.2.1, j.2.2⟩
theorem JAt.cut {cells' : List Int} (j : JAt ja cl m cells r s t H) : JAt ja cl m cells' r s t (upd H cl (.lst (cells'.map V.int))) := ⟨by rw [upd_ne j.2.2]; exact j.1, upd_same, j.2.2⟩
theorem JAt.getR (j : JAt ja cl m cells r s t H) : DGet H ja (.str "rest") (some (.int r)) := by have := DGet.k (k := kRs) j.1; exact this
theorem JAt.getS (j : JAt ja cl m cells r s t H) : DGet H ja (.str "seed") (some (.int s)) := by have := DGet.k (k := kSd) j.1; exact this
theorem JAt.getT (j : JAt ja cl m cells r s t H) : DGet H ja (.str "turn") (some (.int t)) := by have := DGet.k (k := kTn) j.1; exact this
theorem JAt.getC (j : JAt ja cl m cells r s t H) : DGet H ja (.str "cells") (some (.ref cl)) := by have := DGet.k (k := kCl) j.1; exact this
theorem JAt.putR {x : Int} (j : JAt ja cl m cells r s t H) : DPut H ja (.str "rest") (.int x) (upd H ja (.dK (jarKv m cl x s t))) := by rcases m with ⟨_ | _, _ | _⟩ <;> (have := DPut.k (k := kRs) (v := .int x) j.1 (jar_len _); exact this)
theorem JAt.putS {x : Int} (j : JAt ja cl m cells r s t H) : DPut H ja (.str "seed") (.int x) (upd H ja (.dK (jarKv m cl r x t))) := by rcases m with ⟨_ | _, _ | _⟩ <;> (have := DPut.k (k := kSd) (v := .int x) j.1 (jar_len _); exact this)
theorem JAt.putT {x : Int} (j : JAt ja cl m cells r s t H) : DPut H ja (.str "turn") (.int x) (upd H ja (.dK (jarKv m cl r s x))) := by rcases m with ⟨_ | _, _ | _⟩ <;> (have := DPut.k (k := kTn) (v := .int x) j.1 (jar_len _); exact this)
theorem JF.frm {K : PySem.W.Frag} {F : Hp} {g : JG} (h : JF g.1 g.2 H H') (e1 : Ex F H) (e2 : ∀ a ∈ (ZJ K).fp g, F a = none) (hR : JR g H') : Frm (ZJ K) F H g F H' g := ⟨Evl.Ex.refl F, fun b o e hn => h.keep b o e (fun z => hn (by rw [z]; exact List.mem_cons_self)) (fun z => hn (by rw [z]; exact List.mem_cons_of_mem _ List.mem_cons_self)), h.keepN, fun b o e => .inl e,
  fun b o e => h.keep b o (e1 b o e) (fun z => by rw [z, e2 g.1 List.mem_cons_self] at e; cases e) (fun z => by rw [z, e2 g.2 (List.mem_cons_of_mem _ List.mem_cons_self)] at e; cases e), hR, e2, fun a ha => .inl ha⟩
end
/-- a draw: anything below many -/
def S__law_pick : Spec JG := fun as g T U => match as with
  | [.rs 0, .dt (.int m)] => dvK 0 m (∀ r : Int, 0 ≤ r → r < m → T (.dt (.int r)) g)
  | _ => False
end L3
namespace L3
open PySem
theorem canLay_ints : ∀ ns : List Int, PyData.canLayAll0 (ns.map PyData.int) = true
  | [] => rfl
  | n :: ns => by
    rw [List.map_cons, PyData.canLayAll0, canLay_ints ns]; rfl
theorem depth_ints : ∀ ns : List Int, PyData.depthAll (ns.map PyData.int) = 0
  | [] => rfl
  | n :: ns => by
    rw [List.map_cons, PyData.depthAll, depth_ints ns]; rfl
theorem shaped_ints (ns : List Int) : SeqAt.shaped (.list (ns.map PyData.int)) = true := by
  unfold SeqAt.shaped
  rw [Bool.and_eq_true]
  refine ⟨?_, ?_⟩
  · rw [PyData.canLay0]; exact canLay_ints ns
  · rw [PyData.depth, depth_ints]; rfl
end L3
namespace L3
open PySem L2
/-- the jar is made -/
def spJar (K : PySem.W.Frag) : Sp := fun vs H Q _ => ∃ (a : Addr) (ns : List Int), vs = [.ref a] ∧ SqL K H a (ns.map V.int) ∧
  ∀ (H' : Hp) (g : JG), (∀ b o, H b = some o → H' b = some o) → H g.1 = none → H g.2 = none → JR g H' → g.most = none → Q (.ref g.1) H'
theorem cut_ints (ns : List Int) (lo hi : Option Int) : ∃ ms : List Int, cutV (ns.map V.int) lo hi = ms.map V.int := by
  unfold cutV
  rw [← List.map_drop, ← List.map_take]
  exact ⟨_, rfl⟩
end L3
namespace L3
open PySem L2
/-- the law's promise: true -/
def spLaw (K : PySem.W.Frag) : Sp := fun vs H Q _ => ∃ (a : Addr) (ns : List Int), vs = [.ref a] ∧ SqL K H a (ns.map V.int) ∧ ∀ H', Q (.bl true) H'
def lawD (G : Type) : D3 G := { nx := fun _ _ => False, rt := fun r _ => r = .dt (.bool true) }
def lawE (N : List Str) (j : Nat) : En := (List.replicate N.length .un).set j (.rs 0)
theorem law_rel {G : Type} {K : PySem.W.Frag} {Z : Zx K G} {N : List Str} {j : Nat} {g : G} {H : Hp} {σ : St} (hR : Z.R g (fun _ => none) H) (hl : σ.length = N.length) (hj : σ[j]? = some (some (.ref (Z.ra g 0)))) (hU : ∀ c fs ρ g, ¬ Z.U c fs ρ g) : Rel Z ⟨H, fun _ => none, Z.fp g⟩ (fun _ => none) (fun _ => 0) (lawE N j) g σ H := by
  refine ⟨⟨⟨Evl.Ex.refl _, fun b o e => (by cases e), fun b o e _ => e, fun b h => h, fun b o e => (by cases e), hR, fun a _ => rfl, fun a h => .inl h, fun a ha => Z.there hR a ha⟩, by unfold lawE; rw [List.length_set, List.length_replicate, hl], fun i s hi => ?_, fun i i2 s t hi hi2 hs ht => ?_⟩, fun _ _ _ _ _ _ c fs _ _ _ _ z => (hU _ _ _ _ z).elim⟩
  · unfold lawE at hi
    by_cases e : j = i
    · subst e
      have hlt := (List.getElem?_eq_some_iff.mp hi).1
      rw [List.length_set] at hlt
      rw [List.getElem?_set_self hlt] at hi
      cases hi
      exact hj
    · rw [List.getElem?_set_ne e, List.getElem?_replicate] at hi
      split at hi
      · cases hi; trivial
      · cases hi
  · unfold lawE at hi
    by_cases e : j = i
    · subst e
      have hlt := (List.getElem?_eq_some_iff.mp hi).1
      rw [List.length_set] at hlt
      rw [List.getElem?_set_self hlt] at hi
      cases hi
      cases hs
    · rw [List.getElem?_set_ne e, List.getElem?_replicate] at hi
      split at hi
      · cases hi; cases hs
      · cases hi
theorem law_simJm {K : PySem.W.Frag} {ts : TS} {t : DS JG} {N : List Str} {j : Nat} {a : Addr} {ns : List Int} {H : Hp} {Q : VK} (hd : SimS ((ZJ K).wish (fun _ _ _ _ => False) Un) ts t) (hS : SqL K H a (ns.map V.int)) (hq : ∀ H', Q (.bl true) H') (hj : j < N.length)
    (hN : 0 < N.length) (hb : ∀ g, g.most = none → t (lawD JG) (lawE N j) g) : tSeq (tAsg (tCallE (spJar K) [] (fun _ => E0) (tCons (tVar 0) tNil)) (gName j)) ts { nx := fun _ H' => Q .non H', rt := Q } (L2.start N [.ref a]) H := by
  have h0 : (L2.start N [.ref a])[0]? = some (some (.ref a)) := by
    unfold L2.start
    rfl
  have hl : (L2.start N [.ref a]).length = N.length := by
    unfold L2.start
    rw [List.length_append, List.length_map, List.length_replicate]
    show 1 + (N.length - 1) = N.length
    omega
  refine ⟨.ref a, h0, a, ns, rfl, hS, fun H' g e n1 n2 hJ hm => ?_⟩
  refine hd ⟨H', fun _ => none, (ZJ K).fp g⟩ (fun _ => none) (fun _ => 0) (lawE N j) g _ H' (lawD JG) (law_rel (Z := (ZJ K).wish (fun _ _ _ _ => False) Un) hJ (by rw [List.length_set, hl]) (by rw [List.getElem?_set_self (by rw [hl]; exact hj)]; rfl) fun _ _ _ _ z => z) (hb g hm) _ ⟨fun _ _ _ _ _ _ _ _ z => z.elim, fun F' g' H2 v r _ _ hv hT => ?_, fun _ _ _ _ _ _ _ _ z => z.elim, fun _ _ _ _ _ _ _ _ z => z.elim⟩
  cases (show r = .dt (.bool true) from hT)
  cases (show Da K F' v (.bool true) from hv)
  exact hq H2
theorem law_simJ {K : PySem.W.Frag} {ts : TS} {t : DS JG} {N : List Str} {j : Nat} {a : Addr} {ns : List Int} {H : Hp} {Q : VK} (hd : SimS ((ZJ K).wish (fun _ _ _ _ => False) Un) ts t) (hS : SqL K H a (ns.map V.int)) (hq : ∀ H', Q (.bl true) H') (hj : j < N.length)
    (hN : 0 < N.length) (hb : ∀ g, t (lawD JG) (lawE N j) g) : tSeq (tAsg (tCallE (spJar K) [] (fun _ => E0) (tCons (tVar 0) tNil)) (gName j)) ts { nx := fun _ H' => Q .non H', rt := Q } (L2.start N [.ref a]) H := law_simJm hd hS hq hj hN fun g _ => hb g
end L3
end
section
namespace L3
open PySem L2
/-- a statement that the stepper leaves alone -/
structure Hold (p : Prop) : Prop where
  h : p
  t : True
theorem hold {p : Prop} (h : p) : Hold p := ⟨h, trivial⟩
structure Way where
  a : Int
  b : Int
  gs : List Int
structure Book where
  rooms : Int
  purses : Int
  ways : List Way
def Way.d (w : Way) : PyData := .tuple [.int w.a, .int w.b, .tuple (w.gs.map PyData.int)]
def Book.d (b : Book) : PyData := .tuple [.int b.rooms, .int b.purses, .tuple (b.ways.map Way.d)]
structure Way.Ok (w : Way) (rooms purses : Int) : Prop where
  a0 : 0 ≤ w.a
  a1 : w.a < rooms
  b0 : 0 ≤ w.b
  b1 : w.b < rooms
  len : (w.gs.length : Int) = purses
  g : ∀ x ∈ w.gs, -99 ≤ x ∧ x ≤ 99
structure Book.Ok (b : Book) (mr mw : Int) : Prop where
  r0 : 1 ≤ b.rooms
  r1 : b.rooms ≤ mr
  p0 : 1 ≤ b.purses
  p1 : b.purses ≤ 6
  n : (b.ways.length : Int) ≤ mw
  w : ∀ x ∈ b.ways, x.Ok b.rooms b.purses
theorem atI_map {α β : Type} (f : α → β) {xs : List α} {i : Int} {x : α} (h : atI xs i = some x) : atI (xs.map f) i = some (f x) := by
  unfold atI at h ⊢
  rw [List.length_map]
  cases e : ixN xs.length i with
  | none => rw [e] at h; cases h
  | some j =>
    rw [e] at h
    show (xs.map f)[j]? = some (f x)
    rw [List.getElem?_map, show xs[j]? = some x from h]; rfl
theorem atI_at {α : Type} {xs : List α} {i : Int} (h0 : 0 ≤ i) (h1 : i < xs.length) : ∃ (h : i.toNat < xs.length), atI xs i = some xs[i.toNat] := by
  obtain ⟨n, rfl⟩ := Int.eq_ofNat_of_zero_le h0
  have hn : n < xs.length := by omega
  exact ⟨hn, atI_nat (List.getElem?_eq_getElem hn)⟩
theorem ixN_at {n : Nat} {i : Int} (h0 : 0 ≤ i) (h1 : i < n) : ixN n i = some i.toNat := by
  obtain ⟨m, rfl⟩ := Int.eq_ofNat_of_zero_le h0
  unfold ixN
  first
    | (rw [if_pos h0, if_pos h1]; done)
    | (simp; omega)
end L3
namespace L3
open PySem L2
variable {G : Type}
theorem eqv_nil (xs : List PyData) : PyData.eqv (.list xs) (.list []) = xs.isEmpty := by cases xs <;> rfl
theorem shaped_tints (ns : List Int) : SeqAt.shaped (.tuple (ns.map PyData.int)) = true := by
  unfold SeqAt.shaped
  rw [Bool.and_eq_true]
  exact ⟨by rw [PyData.canLay0]; exact canLay_ints ns, by rw [PyData.depth, depth_ints]; rfl⟩
/-- slices -/
def cutL {α : Type} (xs : List α) (lo hi : Option Int) : List α := (xs.drop (HT.sIx xs.length 0 lo)).take (HT.sIx xs.length xs.length hi - HT.sIx xs.length 0 lo)
theorem cutD_map {α : Type} (f : α → PyData) (xs : List α) (lo hi : Option Int) : L3.cutD (xs.map f) lo hi = (cutL xs lo hi).map f := by
  unfold L3.cutD cutL
  rw [List.length_map, List.map_take, List.map_drop]
theorem sIx_int {n d : Nat} {i : Int} (h : 0 ≤ i) : HT.sIx n d (some i) = min i.toNat n := by
  unfold HT.sIx
  simp
  intro h2
  omega
theorem cutL_drop {α : Type} {xs : List α} {i : Int} (h : 0 ≤ i) : cutL xs (some i) none = xs.drop i.toNat := by
  unfold cutL
  rw [sIx_int h, HT.sIx_none]
  rw [List.take_of_length_le (by rw [List.length_drop]; exact Nat.le_refl _)]
  by_cases h2 : i.toNat ≤ xs.length
  · rw [Nat.min_eq_left h2]
  · rw [Nat.min_eq_right (by omega), List.drop_of_length_le (Nat.le_refl _), List.drop_of_length_le (by omega)]
theorem cutL_take {α : Type} {xs : List α} {i : Int} (h : 0 ≤ i) : cutL xs none (some i) = xs.take i.toNat := by
  unfold cutL
  rw [sIx_int h, HT.sIx_none, List.drop_zero, Nat.sub_zero]
  by_cases h2 : i.toNat ≤ xs.length
  · rw [Nat.min_eq_left h2]
  · rw [Nat.min_eq_right (by omega), List.take_of_length_le (Nat.le_refl _), List.take_of_length_le (by omega)]
theorem zipD_map {α β : Type} (f : α → PyData) (g : β → PyData) : ∀ (xs : List α) (ys : List β), zipD (xs.map f) (ys.map g) = (xs.zip ys).map fun p => .tuple [f p.1, g p.2]
  | [], _ => rfl
  | _ :: _, [] => rfl
  | x :: xs, y :: ys => by
    have := zipD_map f g xs ys
    unfold zipD at this ⊢
    rw [List.map_cons, List.map_cons, List.zipWith_cons_cons, this]; rfl
theorem zipD_self : ∀ ds : List PyData, zipD ds ds = ds.map fun d => .tuple [d, d]
  | [] => rfl
  | d :: r => by
    have := zipD_self r
    unfold zipD at this ⊢
    rw [List.zipWith_cons_cons, this]; rfl
theorem enumD_map {α : Type} (f : α → PyData) (xs : List α) : enumD (xs.map f) = (List.zip (List.range xs.length) xs).map fun p => .tuple [.int (p.1 : Nat), f p.2] := by
  unfold enumD
  rw [List.length_map, List.zipWith_map_right]
  rw [show (List.zip (List.range xs.length) xs).map (fun p => PyData.tuple [.int (p.1 : Nat), f p.2]) = List.zipWith (fun (a : Nat) b => PyData.tuple [.int (a : Nat), f b]) (List.range xs.length) xs from by rw [List.zip, List.map_zipWith]]
/-- a comprehension over a mapped list -/
theorem lc_fmL {α : Type} {L : List α} {h : α → PyData} {tg : DG G} {c : DB G} {e : DT G} {vs : List Nat} {ρ0 ρ1 : En} {g0 : G} {Q : Rs → En → G → Prop} (φ : α → Option PyData) (hw : wipeE ρ1 vs = ρ0 := by rfl)
    (hs : ∀ p ∈ L, ∀ (C1 : PyData → En → G → Prop) (C0 : En → G → Prop), (match φ p with | some d' => C1 d' ρ0 g0 | none => C0 ρ0 g0) →
      tg (h p) ρ0 g0 fun ρ2 g2 => c ρ2 g2 fun b ρ3 g3 => ifb b (e ρ3 g3 fun r ρ4 g4 => fz1 r ρ4 fun d' ρ5 => C1 d' (wipeE ρ5 vs) g4) (C0 (wipeE ρ3 vs) g3))
    (hQ : Q (.nl (L.filterMap φ)) ρ0 g0) (hU : unAll ρ0 vs := by first | exact ⟨rfl, trivial⟩ | exact ⟨rfl, rfl, trivial⟩ | exact ⟨rfl, rfl, rfl, trivial⟩) : LcP (L.map h) tg c e vs ρ1 g0 Q := by
  subst hw
  refine ⟨⟨fun k acc ρ' g' => acc = (L.take k).filterMap φ ∧ ρ' = wipeE ρ1 vs ∧ g' = g0, ⟨rfl, rfl, rfl⟩, fun k d acc ρ' g' hd hI => ?_, fun acc ρ' g' hI => ?_⟩⟩
  · obtain ⟨rfl, rfl, rfl⟩ := hI
    rw [List.getElem?_map] at hd
    obtain ⟨p, hp, rfl⟩ := Option.map_eq_some_iff.mp hd
    refine hs p (List.mem_of_getElem? hp) (fun d' ρ' g'' => List.filterMap φ (L.take k) ++ [d'] = (L.take (k + 1)).filterMap φ ∧ ρ' = wipeE ρ1 vs ∧ g'' = g') (fun ρ' g'' => List.filterMap φ (L.take k) = (L.take (k + 1)).filterMap φ ∧ ρ' = wipeE ρ1 vs ∧ g'' = g') ?_
    rw [List.take_add_one, hp]
    cases h : φ p with
    | none => simp [h]
    | some d' => simp [h]
  · obtain ⟨rfl, rfl, rfl⟩ := hI
    rw [List.length_map, List.take_length]
    exact ⟨hU, hQ⟩
theorem lc_mapL {α : Type} {L : List α} {h : α → PyData} {tg : DG G} {c : DB G} {e : DT G} {vs : List Nat} {ρ0 ρ1 : En} {g0 : G} {Q : Rs → En → G → Prop} (φ : α → PyData) (hw : wipeE ρ1 vs = ρ0 := by rfl)
    (hs : ∀ p ∈ L, ∀ (C1 : PyData → En → G → Prop) (C0 : En → G → Prop), C1 (φ p) ρ0 g0 →
      tg (h p) ρ0 g0 fun ρ2 g2 => c ρ2 g2 fun b ρ3 g3 => ifb b (e ρ3 g3 fun r ρ4 g4 => fz1 r ρ4 fun d' ρ5 => C1 d' (wipeE ρ5 vs) g4) (C0 (wipeE ρ3 vs) g3))
    (hQ : Q (.nl (L.map φ)) ρ0 g0) (hU : unAll ρ0 vs := by first | exact ⟨rfl, trivial⟩ | exact ⟨rfl, rfl, trivial⟩ | exact ⟨rfl, rfl, rfl, trivial⟩) : LcP (L.map h) tg c e vs ρ1 g0 Q :=
  lc_fmL (fun d => some (φ d)) hw hs (by rw [show List.filterMap (fun d => some (φ d)) L = L.map φ from by rw [← List.filterMap_eq_map]; rfl]; exact hQ) hU
theorem fm_if {α β : Type} (p : α → Bool) (φ : α → β) : ∀ L : List α, (L.filterMap fun x => if p x = true then some (φ x) else none) = (L.filter p).map φ
  | [] => rfl
  | x :: r => by
    have ih := fm_if p φ r
    cases e : p x with
    | true => simp [e, ih]
    | false => simp [e, ih]
/-- [h x for x in L if p x] -/
theorem lc_filL {α : Type} {L : List α} {h : α → PyData} {tg : DG G} {c : DB G} {e : DT G} {vs : List Nat} {ρ0 ρ1 : En} {g0 : G} {Q : Rs → En → G → Prop} (p : α → Bool) (φ : α → PyData) (hw : wipeE ρ1 vs = ρ0 := by rfl)
    (hs : ∀ x ∈ L, ∀ (C1 : PyData → En → G → Prop) (C0 : En → G → Prop), (p x = true → C1 (φ x) ρ0 g0) → (p x = false → C0 ρ0 g0) →
      tg (h x) ρ0 g0 fun ρ2 g2 => c ρ2 g2 fun b ρ3 g3 => ifb b (e ρ3 g3 fun r ρ4 g4 => fz1 r ρ4 fun d' ρ5 => C1 d' (wipeE ρ5 vs) g4) (C0 (wipeE ρ3 vs) g3))
    (hQ : Q (.nl ((L.filter p).map φ)) ρ0 g0) (hU : unAll ρ0 vs := by first | exact ⟨rfl, trivial⟩ | exact ⟨rfl, rfl, trivial⟩ | exact ⟨rfl, rfl, rfl, trivial⟩) : LcP (L.map h) tg c e vs ρ1 g0 Q :=
  lc_fmL (fun x => if p x = true then some (φ x) else none) hw (fun x hx C1 C0 q => hs x hx C1 C0 (fun e => by rw [if_pos e] at q; exact q) (fun e => by rw [if_neg (by rw [e]; exact Bool.false_ne_true)] at q; exact q))
    (by rw [fm_if]; exact hQ) hU
end L3
namespace L3
open PySem L2
theorem canLayAll_of {ds : List PyData} (h : ∀ d ∈ ds, d.canLay0 = true) : PyData.canLayAll0 ds = true := by
  induction ds with
  | nil => rfl
  | cons d r ih => rw [PyData.canLayAll0, h d List.mem_cons_self, ih fun x hx => h x (List.mem_cons_of_mem _ hx)]; rfl
theorem depthAll_of {ds : List PyData} {n : Nat} (h : ∀ d ∈ ds, d.depth ≤ n) : PyData.depthAll ds ≤ n := by
  induction ds with
  | nil => exact Nat.zero_le _
  | cons d r ih =>
    rw [PyData.depthAll]
    exact Nat.max_le.mpr ⟨h d List.mem_cons_self, ih fun x hx => h x (List.mem_cons_of_mem _ hx)⟩
theorem Way.lay (w : Way) : w.d.canLay0 = true ∧ w.d.depth ≤ 2 := by
  unfold Way.d
  refine ⟨?_, ?_⟩
  · rw [PyData.canLay0]
    simp [PyData.canLayAll0, PyData.canLay0, canLay_ints]
  · rw [PyData.depth]
    simp [PyData.depthAll, PyData.depth, depth_ints]
theorem shaped_ways (ws : List Way) : SeqAt.shaped (.tuple (ws.map Way.d)) = true := by
  unfold SeqAt.shaped
  rw [Bool.and_eq_true]
  refine ⟨?_, ?_⟩
  · rw [PyData.canLay0]
    refine canLayAll_of fun d hd => ?_
    obtain ⟨w, _, rfl⟩ := List.mem_map.mp hd
    exact w.lay.1
  · rw [PyData.depth]
    have : PyData.depthAll (ws.map Way.d) ≤ 2 := depthAll_of fun d hd => by
      obtain ⟨w, _, rfl⟩ := List.mem_map.mp hd
      exact w.lay.2
    exact decide_eq_true (by omega)
end L3
namespace L3
open PySem
end L3
namespace L3
open PySem
theorem sh_of {d e : PyData} {p : Prop} (h1 : SeqAt.shaped d = true) (h2 : SeqAt.shaped e = true) (hp : p) : SeqAt.shaped d = true ∧ SeqAt.shaped e = true ∧ p := ⟨h1, h2, hp⟩
end L3
end
section
namespace L3
open PySem L2
def wAt (B : Book) (k : Int) : Way := B.ways.getD k.toNat ⟨0, 0, []⟩
def inW (B : Book) (k : Int) : Bool := decide (0 ≤ k) && decide (k < (B.ways.length : Int))
theorem wAt_at {B : Book} {k : Int} (h : inW B k = true) : atI (B.ways.map Way.d) k = some (wAt B k).d := by
  simp [inW] at h
  obtain ⟨hl, e⟩ := atI_at (xs := B.ways) h.1 h.2
  rw [atI_map Way.d e]
  unfold wAt
  rw [List.getD_eq_getElem?_getD, List.getElem?_eq_getElem hl]; rfl
/-- the ways of a list can be gone one behind the other -/
def chainW (B : Book) : List Int → Bool
  | [] => true
  | [k] => inW B k
  | k :: l :: r => inW B k && decide ((wAt B k).b = (wAt B l).a) && chainW B (l :: r)
theorem ints_of_get {acc : List PyData} {p : Int → Prop} (h : ∀ (k : Nat) (d : PyData), acc[k]? = some d → ∃ z, d = .int z ∧ p z) : ∃ zs : List Int, acc = zs.map PyData.int ∧ ∀ z ∈ zs, p z := by
  induction acc with
  | nil => exact ⟨[], rfl, fun z hz => by cases hz⟩
  | cons d r ih =>
    obtain ⟨z, rfl, hz⟩ := h 0 d rfl
    obtain ⟨zs, rfl, hs⟩ := ih fun k d e => h (k + 1) d (by simpa using e)
    exact ⟨z :: zs, rfl, fun x hx => by
      rcases List.mem_cons.mp hx with rfl | hx
      · exact hz
      · exact hs x hx⟩
def addL (xs ys : List Int) : List Int := List.zipWith (· + ·) xs ys
def gainL (B : Book) (ns : List Int) : List Int := ns.foldl (fun acc k => addL acc (wAt B k).gs) (List.replicate B.purses.toNat 0)
theorem gainL_push (B : Book) (ns : List Int) (k : Int) : gainL B (ns ++ [k]) = addL (gainL B ns) (wAt B k).gs := by
  unfold gainL
  rw [List.foldl_append]; rfl
theorem gainL_len {B : Book} {ns : List Int} (h : ∀ k ∈ ns, ((wAt B k).gs.length : Int) = B.purses) : (gainL B ns).length = B.purses.toNat := by
  have key : ∀ (ns : List Int) (acc : List Int), acc.length = B.purses.toNat → (∀ k ∈ ns, ((wAt B k).gs.length : Int) = B.purses) → (ns.foldl (fun acc k => addL acc (wAt B k).gs) acc).length = B.purses.toNat := by
    intro ns
    induction ns with
    | nil => intro acc h _; exact h
    | cons k r ih =>
      intro acc ha hk
      refine ih _ ?_ fun x hx => hk x (List.mem_cons_of_mem _ hx)
      have := hk k List.mem_cons_self
      show (List.zipWith (· + ·) acc (wAt B k).gs).length = _
      rw [List.length_zipWith]
      omega
  exact key ns _ (List.length_replicate ..) h
def colSum (B : Book) (ns : List Int) (p : Nat) : Int := (ns.map fun k => (wAt B k).gs.getD p 0).sum
theorem gainL_col {B : Book} : ∀ {ns : List Int}, (∀ k ∈ ns, ((wAt B k).gs.length : Int) = B.purses) → ∀ p, p < B.purses.toNat → (gainL B ns)[p]? = some (colSum B ns p) := by
  intro ns
  have key : ∀ (ns : List Int) (acc : List Int), acc.length = B.purses.toNat → (∀ k ∈ ns, ((wAt B k).gs.length : Int) = B.purses) → ∀ p, p < B.purses.toNat → (ns.foldl (fun acc k => addL acc (wAt B k).gs) acc)[p]? = some (acc.getD p 0 + colSum B ns p) := by
    intro ns
    induction ns with
    | nil =>
      intro acc ha _ p hp
      have hlt : p < acc.length := by omega
      show acc[p]? = _
      rw [List.getElem?_eq_getElem hlt, List.getD_eq_getElem?_getD, List.getElem?_eq_getElem hlt]
      show some acc[p] = some (acc[p] + 0)
      rw [Int.add_zero]
    | cons k r ih =>
      intro acc ha hk p hp
      have hg := hk k List.mem_cons_self
      have hlen : (addL acc (wAt B k).gs).length = B.purses.toNat := by
        show (List.zipWith (· + ·) acc (wAt B k).gs).length = _
        rw [List.length_zipWith]
        omega
      have h1 : p < acc.length := by omega
      have h2 : p < (wAt B k).gs.length := by omega
      have e : (addL acc (wAt B k).gs).getD p 0 = acc.getD p 0 + (wAt B k).gs.getD p 0 := by
        simp only [List.getD_eq_getElem?_getD, addL, List.getElem?_zipWith, List.getElem?_eq_getElem h1, List.getElem?_eq_getElem h2]
        rfl
      show (List.foldl _ (addL acc (wAt B k).gs) r)[p]? = _
      rw [ih _ hlen (fun x hx => hk x (List.mem_cons_of_mem _ hx)) p hp, e]
      unfold colSum
      rw [List.map_cons, List.sum_cons, Int.add_assoc]
  intro h p hp
  have := key ns (List.replicate B.purses.toNat 0) (List.length_replicate ..) h p hp
  rw [show (List.replicate B.purses.toNat (0 : Int)).getD p 0 = 0 from by simp [List.getD_eq_getElem?_getD, List.getElem?_replicate]; split <;> rfl, Int.zero_add] at this
  exact this
theorem wAt_mem {B : Book} {k : Int} (h : inW B k = true) : wAt B k ∈ B.ways := by
  simp [inW] at h
  unfold wAt
  rw [List.getD_eq_getElem?_getD, List.getElem?_eq_getElem (show k.toNat < B.ways.length by omega)]
  exact List.getElem_mem _
def minI (a b : Int) : Int := if b < a then b else a
def minL (xs ys : List Int) : List Int := List.zipWith minI xs ys
/-- where a walk stands and the least numbers on the way -/
def stepN (B : Book) (s : List Int × List Int) (k : Int) : List Int × List Int := (addL s.1 (wAt B k).gs, minL s.2 (addL s.1 (wAt B k).gs))
def zeros (B : Book) : List Int := List.replicate B.purses.toNat 0
def needS (B : Book) (ns : List Int) : List Int × List Int := ns.foldl (stepN B) (zeros B, zeros B)
def needL (B : Book) (ns : List Int) : List Int := (needS B ns).2.map fun x => 0 - x
theorem addL_len {xs ys : List Int} {n : Nat} (h1 : xs.length = n) (h2 : ys.length = n) : (addL xs ys).length = n := by
  show (List.zipWith _ xs ys).length = n
  rw [List.length_zipWith]; omega
theorem minL_len {xs ys : List Int} {n : Nat} (h1 : xs.length = n) (h2 : ys.length = n) : (minL xs ys).length = n := by
  show (List.zipWith _ xs ys).length = n
  rw [List.length_zipWith]; omega
theorem needS_len {B : Book} {ns : List Int} (h : ∀ k ∈ ns, ((wAt B k).gs.length : Int) = B.purses) : (needS B ns).1.length = B.purses.toNat ∧ (needS B ns).2.length = B.purses.toNat := by
  have key : ∀ (ns : List Int) (s : List Int × List Int), s.1.length = B.purses.toNat ∧ s.2.length = B.purses.toNat → (∀ k ∈ ns, ((wAt B k).gs.length : Int) = B.purses) → (ns.foldl (stepN B) s).1.length = B.purses.toNat ∧ (ns.foldl (stepN B) s).2.length = B.purses.toNat := by
    intro ns
    induction ns with
    | nil => intro s h _; exact h
    | cons k r ih =>
      intro s hs hk
      have hg := hk k List.mem_cons_self
      have h1 : (addL s.1 (wAt B k).gs).length = B.purses.toNat := addL_len hs.1 (by omega)
      exact ih _ ⟨h1, minL_len hs.2 h1⟩ fun x hx => hk x (List.mem_cons_of_mem _ hx)
  exact key ns _ ⟨List.length_replicate .., List.length_replicate ..⟩ h
end L3
end
section
namespace L3
open PySem L2
/-- what the way k puts to the purse p -/
def gC (B : Book) (p : Nat) (k : Int) : Int := (wAt B k).gs.getD p 0
def mxI (a : Int) : Int := if a > 0 then a else 0
theorem mxI_nn (a : Int) : 0 ≤ mxI a := by unfold mxI; split <;> omega
/-- what a purse needs -/
def dueC (B : Book) (p : Nat) : List Int → Int
  | [] => 0
  | k :: r => mxI (dueC B p r - gC B p k)
theorem dueC_nn (B : Book) (p : Nat) : ∀ ns : List Int, 0 ≤ dueC B p ns
  | [] => Int.le_refl 0
  | _ :: _ => mxI_nn _
def dueL (B : Book) (ns : List Int) : List Int := (List.range B.purses.toNat).map fun p => dueC B p ns
def GsOk (B : Book) (ns : List Int) : Prop := ∀ k ∈ ns, ((wAt B k).gs.length : Int) = B.purses
theorem addL_getD {xs ys : List Int} {p : Nat} (h1 : p < xs.length) (h2 : p < ys.length) : (addL xs ys).getD p 0 = xs.getD p 0 + ys.getD p 0 := by
  simp only [List.getD_eq_getElem?_getD, addL, List.getElem?_zipWith, List.getElem?_eq_getElem h1, List.getElem?_eq_getElem h2]
  rfl
theorem minL_getD {xs ys : List Int} {p : Nat} (h1 : p < xs.length) (h2 : p < ys.length) : (minL xs ys).getD p 0 = minI (xs.getD p 0) (ys.getD p 0) := by
  simp only [List.getD_eq_getElem?_getD, minL, List.getElem?_zipWith, List.getElem?_eq_getElem h1, List.getElem?_eq_getElem h2]
  rfl
theorem ext_getD {xs ys : List Int} (hl : xs.length = ys.length) (h : ∀ p, p < xs.length → xs.getD p 0 = ys.getD p 0) : xs = ys := by
  apply List.ext_getElem hl
  intro p h1 h2
  have := h p h1
  simpa [List.getD_eq_getElem?_getD, List.getElem?_eq_getElem h1, List.getElem?_eq_getElem h2] using this
theorem needS_low {B : Book} : ∀ (ns : List Int) (s : List Int × List Int), s.1.length = B.purses.toNat → s.2.length = B.purses.toNat → GsOk B ns → ∀ p, p < B.purses.toNat → s.2.getD p 0 ≤ s.1.getD p 0 →
    (ns.foldl (stepN B) s).2.getD p 0 = minI (s.2.getD p 0) (s.1.getD p 0 - dueC B p ns)
  | [], s, _, _, _, p, _, h => by
    show s.2.getD p 0 = _
    unfold dueC minI
    split <;> omega
  | k :: r, s, h1, h2, hg, p, hp, h => by
    have hk := hg k List.mem_cons_self
    have l1 : (addL s.1 (wAt B k).gs).length = B.purses.toNat := addL_len h1 (by omega)
    have e1 : (addL s.1 (wAt B k).gs).getD p 0 = s.1.getD p 0 + gC B p k := addL_getD (by omega) (by omega)
    have e2 : (minL s.2 (addL s.1 (wAt B k).gs)).getD p 0 = minI (s.2.getD p 0) (s.1.getD p 0 + gC B p k) := by rw [minL_getD (by omega) (by omega), e1]
    show (r.foldl (stepN B) (stepN B s k)).2.getD p 0 = _
    rw [needS_low r (stepN B s k) l1 (minL_len h2 l1) (fun x hx => hg x (List.mem_cons_of_mem _ hx)) p hp (by
      show (minL s.2 (addL s.1 (wAt B k).gs)).getD p 0 ≤ (addL s.1 (wAt B k).gs).getD p 0
      rw [e1, e2]; unfold minI; split <;> omega)]
    show minI ((minL s.2 (addL s.1 (wAt B k).gs)).getD p 0) ((addL s.1 (wAt B k).gs).getD p 0 - dueC B p r) = _
    rw [e1, e2]
    have := dueC_nn B p r
    show _ = minI _ (_ - mxI (dueC B p r - gC B p k))
    unfold minI mxI
    split <;> split <;> split <;> split <;> omega
theorem zeros_getD (B : Book) (p : Nat) : (zeros B).getD p 0 = 0 := by
  unfold zeros
  rw [List.getD_eq_getElem?_getD, List.getElem?_replicate]
  split <;> rfl
theorem needL_due {B : Book} {ns : List Int} (hg : GsOk B ns) : needL B ns = dueL B ns := by
  have hl := needS_len hg
  refine ext_getD (by rw [needL, dueL, List.length_map, List.length_map, List.length_range]; exact hl.2) fun p hp => ?_
  have hp : p < B.purses.toNat := by rw [needL, List.length_map] at hp; omega
  have e := needS_low ns (zeros B, zeros B) (List.length_replicate ..) (List.length_replicate ..) hg p hp (Int.le_refl _)
  have e : (needS B ns).2.getD p 0 = minI ((zeros B).getD p 0) ((zeros B).getD p 0 - dueC B p ns) := e
  rw [zeros_getD] at e
  have h1 : (needL B ns).getD p 0 = 0 - (needS B ns).2.getD p 0 := by
    rw [needL, List.getD_eq_getElem?_getD, List.getElem?_map, List.getD_eq_getElem?_getD, List.getElem?_eq_getElem (by omega)]; rfl
  have h2 : (dueL B ns).getD p 0 = dueC B p ns := by
    rw [dueL, List.getD_eq_getElem?_getD, List.getElem?_map, List.getElem?_range hp]; rfl
  rw [h1, h2, e]
  have := dueC_nn B p ns
  unfold minI
  split <;> omega
/-- the needs from the last way back -/
def stepD (B : Book) (d : List Int) (k : Int) : List Int := List.zipWith (fun o m => mxI (o - m)) d (wAt B k).gs
theorem dueL_len (B : Book) (ns : List Int) : (dueL B ns).length = B.purses.toNat := by rw [dueL, List.length_map, List.length_range]
theorem dueL_getD {B : Book} {ns : List Int} {p : Nat} (hp : p < B.purses.toNat) : (dueL B ns).getD p 0 = dueC B p ns := by
  rw [dueL, List.getD_eq_getElem?_getD, List.getElem?_map, List.getElem?_range hp]; rfl
end L3
end
section
namespace L3
open PySem L2
inductive Rch (B : Book) (ws : List Int) : Int → Int → Prop
  | refl (a : Int) : Rch B ws a a
  | step {a k : Int} : Rch B ws a (wAt B k).a → k ∈ ws → Rch B ws a (wAt B k).b
theorem Rch.trans {B : Book} {ws : List Int} {a b c : Int} (h : Rch B ws a b) (k : Rch B ws b c) : Rch B ws a c := by
  induction k with
  | refl => exact h
  | step _ m ih => exact .step ih m
theorem Rch.one {B : Book} {ws : List Int} {k : Int} (h : k ∈ ws) : Rch B ws (wAt B k).a (wAt B k).b := .step (.refl _) h
theorem Rch.mono {B : Book} {ws vs : List Int} {a b : Int} (h : Rch B ws a b) (s : ∀ k ∈ ws, k ∈ vs) : Rch B vs a b := by
  induction h with
  | refl => exact .refl _
  | step _ m ih => exact .step ih (s _ m)
noncomputable def rch (B : Book) (ws : List Int) (a b : Int) : Bool := @decide (Rch B ws a b) (Classical.propDecidable _)
theorem rch_iff {B : Book} {ws : List Int} {a b : Int} : rch B ws a b = true ↔ Rch B ws a b := by
  unfold rch
  exact @decide_eq_true_iff (Rch B ws a b) (Classical.propDecidable _)
theorem rch_trans {B : Book} {ws : List Int} {a b c : Int} (h : rch B ws a b = true) (k : rch B ws b c = true) : rch B ws a c = true := rch_iff.mpr ((rch_iff.mp h).trans (rch_iff.mp k))
/-- a closed set of rooms with a in it holds all that is met -/
theorem rch_closed {B : Book} {ws : List Int} {a : Int} {ms : List Int} (ha : a ∈ ms) (hc : ∀ k ∈ ws, (wAt B k).a ∈ ms → (wAt B k).b ∈ ms) {x : Int} (h : Rch B ws a x) : x ∈ ms := by
  induction h with
  | refl => exact ha
  | step _ m ih => exact hc _ m ih
/-- no more than n numbers below n -/
theorem nodup_len : ∀ (n : Nat) {ms : List Int}, ms.Nodup → (∀ x ∈ ms, 0 ≤ x ∧ x < n) → ms.length ≤ n
  | 0, ms, _, h => by
    cases ms with
    | nil => exact Nat.le_refl _
    | cons x r => have := h x List.mem_cons_self; omega
  | n + 1, ms, nd, h => by
    by_cases e : (n : Int) ∈ ms
    · have nd2 := nd.erase (n : Int)
      have := nodup_len n nd2 fun x hx => by
        have h1 := h x (List.mem_of_mem_erase hx)
        have h2 : x ≠ (n : Int) := fun q => by
          subst q
          exact (List.Nodup.mem_erase_iff nd).mp hx |>.1 rfl
        omega
      rw [List.length_erase_of_mem e] at this
      omega
    · have := nodup_len n nd fun x hx => by
        have h1 := h x hx
        have h2 : x ≠ (n : Int) := fun q => e (by rw [← q]; exact hx)
        omega
      omega
noncomputable def onR (B : Book) (ws : List Int) (k : Int) : Bool := rch B ws (wAt B k).b (wAt B k).a
noncomputable def inRg (B : Book) (ws : List Int) (k j : Int) : Bool := rch B ws (wAt B k).b (wAt B j).a && rch B ws (wAt B j).b (wAt B k).a
noncomputable def ringOf (B : Book) (ws : List Int) (k : Int) : List Int := ws.filter (inRg B ws k)
noncomputable def ringStep (B : Book) (ws : List Int) (acc : List (List Int)) (k : Int) : List (List Int) := if onR B ws k = true ∧ ringOf B ws k ∉ acc then acc ++ [ringOf B ws k] else acc
noncomputable def ringsL (B : Book) (ws : List Int) : List (List Int) := ws.foldl (ringStep B ws) []
theorem onR_mem {B : Book} {ws : List Int} {k : Int} (h : k ∈ ws) (o : onR B ws k = true) : k ∈ ringOf B ws k := by
  unfold ringOf
  rw [List.mem_filter]
  unfold onR at o
  exact ⟨h, by unfold inRg; rw [o]; rfl⟩
theorem ring_mem {B : Book} {ws : List Int} {k j : Int} : j ∈ ringOf B ws k ↔ j ∈ ws ∧ rch B ws (wAt B k).b (wAt B j).a = true ∧ rch B ws (wAt B j).b (wAt B k).a = true := by
  unfold ringOf
  rw [List.mem_filter]
  unfold inRg
  rw [Bool.and_eq_true]
theorem rch_one {B : Book} {ws : List Int} {k : Int} (h : k ∈ ws) : rch B ws (wAt B k).a (wAt B k).b = true := rch_iff.mpr (.one h)
/-- the ways of a ring have it for theirs -/
theorem ring_eq {B : Book} {ws : List Int} {k j : Int} (hk : k ∈ ws) (h : j ∈ ringOf B ws k) : ringOf B ws j = ringOf B ws k ∧ onR B ws j = true ∧ onR B ws k = true := by
  obtain ⟨hj, h1, h2⟩ := ring_mem.mp h
  have k1 := rch_one (B := B) hk
  have j1 := rch_one (B := B) hj
  refine ⟨?_, ?_, ?_⟩
  · unfold ringOf
    apply List.filter_congr
    intro x _
    unfold inRg
    rw [Bool.eq_iff_iff, Bool.and_eq_true, Bool.and_eq_true]
    constructor
    · rintro ⟨a, b⟩
      exact ⟨rch_trans (rch_trans h1 j1) a, rch_trans (rch_trans b j1) h2⟩
    · rintro ⟨a, b⟩
      exact ⟨rch_trans (rch_trans h2 k1) a, rch_trans (rch_trans b k1) h1⟩
  · unfold onR
    exact rch_trans (rch_trans h2 k1) h1
  · unfold onR
    exact rch_trans (rch_trans h1 j1) h2
/-- what stands in the list of rings that are told so far -/
structure RingInv (B : Book) (ws done : List Int) (acc : List (List Int)) : Prop where
  sub : ∀ r ∈ acc, ∃ k ∈ done, onR B ws k = true ∧ r = ringOf B ws k
  all : ∀ k ∈ done, onR B ws k = true → ringOf B ws k ∈ acc
theorem RingInv.step {B : Book} {ws done : List Int} {acc : List (List Int)} {k : Int} (h : RingInv B ws done acc) : RingInv B ws (done ++ [k]) (ringStep B ws acc k) := by
  unfold ringStep
  split
  · rename_i q
    refine ⟨fun r hr => ?_, fun x hx ho => ?_⟩
    · rcases List.mem_append.mp hr with hr | hr
      · obtain ⟨y, hy, z⟩ := h.sub r hr
        exact ⟨y, List.mem_append_left _ hy, z⟩
      · rw [List.mem_singleton.mp hr]
        exact ⟨k, by simp, q.1, rfl⟩
    · rcases List.mem_append.mp hx with hx | hx
      · exact List.mem_append_left _ (h.all x hx ho)
      · rw [List.mem_singleton.mp hx]; simp
  · rename_i q
    refine ⟨fun r hr => ?_, fun x hx ho => ?_⟩
    · obtain ⟨y, hy, z⟩ := h.sub r hr
      exact ⟨y, List.mem_append_left _ hy, z⟩
    · rcases List.mem_append.mp hx with hx | hx
      · exact h.all x hx ho
      · rw [List.mem_singleton.mp hx] at ho ⊢
        exact Classical.byContradiction fun z => q ⟨ho, z⟩
theorem ringInv_take {B : Book} {ws : List Int} : ∀ n, RingInv B ws (ws.take n) ((ws.take n).foldl (ringStep B ws) [])
  | 0 => by
    rw [List.take_zero]
    exact ⟨fun r h => (by cases h), fun k h => (by cases h)⟩
  | n + 1 => by
    rw [List.take_add_one, List.foldl_append]
    cases e : ws[n]? with
    | none => simpa using ringInv_take (B := B) (ws := ws) n
    | some k => exact (ringInv_take (B := B) (ws := ws) n).step
theorem ringsF_len {B : Book} {ws : List Int} : ∀ (ns : List Int) (acc : List (List Int)), (ns.foldl (ringStep B ws) acc).length ≤ acc.length + ns.length
  | [], acc => Nat.le_refl _
  | k :: r, acc => by
    have h := ringsF_len (B := B) (ws := ws) r (ringStep B ws acc k)
    have h2 : (ringStep B ws acc k).length ≤ acc.length + 1 := by
      unfold ringStep
      split
      · simp
      · omega
    show (r.foldl (ringStep B ws) (ringStep B ws acc k)).length ≤ _
    rw [List.length_cons]
    omega
end L3
namespace L3
open PySem L2
/-- what stands while rooms are being met -/
structure MetI (B : Book) (ns : List Int) (room : Int) (ms wl : List Int) (cl : Int → Int → Prop) : Prop where
  mem : room ∈ ms
  sub : ∀ x ∈ wl, x ∈ ms
  rc : ∀ x ∈ ms, Rch B ns room x
  cl : ∀ x ∈ ms, x ∉ wl → ∀ k ∈ ns, (wAt B k).a = x → cl x k → (wAt B k).b ∈ ms
  nd : ms.Nodup
  rg : ∀ x ∈ ms, 0 ≤ x ∧ x < B.rooms
theorem MetI.len {B : Book} {ns ms wl : List Int} {room : Int} {cl : Int → Int → Prop} (h : MetI B ns room ms wl cl) : ms.length ≤ B.rooms.toNat :=
  nodup_len _ h.nd fun x hx => by have := h.rg x hx; omega
theorem MetI.fin {B : Book} {ns ms : List Int} {room : Int} (h : MetI B ns room ms [] fun _ _ => True) (x : Int) : x ∈ ms ↔ Rch B ns room x :=
  ⟨h.rc x, fun q => rch_closed h.mem (fun k hk hm => h.cl _ hm (by simp) k hk rfl trivial) q⟩
theorem MetI.push {B : Book} {ns ms wl : List Int} {room k : Int} {cl cl2 : Int → Int → Prop} (h : MetI B ns room ms wl cl) (hk : k ∈ ns) (ha : (wAt B k).a ∈ ms) (hb : (wAt B k).b ∉ ms) (hr : 0 ≤ (wAt B k).b ∧ (wAt B k).b < B.rooms) (hc : ∀ x j, cl2 x j → cl x j ∨ (wAt B j).b = (wAt B k).b) : MetI B ns room (ms ++ [(wAt B k).b]) (wl ++ [(wAt B k).b]) cl2 where
  mem := List.mem_append_left _ h.mem
  sub := fun x hx => by
    rcases List.mem_append.mp hx with q | q
    · exact List.mem_append_left _ (h.sub x q)
    · exact List.mem_append_right _ q
  rc := fun x hx => by
    rcases List.mem_append.mp hx with q | q
    · exact h.rc x q
    · rw [List.mem_singleton.mp q]
      exact .step (h.rc _ ha) hk
  cl := fun x hx hw j hj e c => by
    have hw1 : x ∉ wl := fun q => hw (List.mem_append_left _ q)
    have hx1 : x ∈ ms := by
      rcases List.mem_append.mp hx with q | q
      · exact q
      · exact absurd (List.mem_append_right _ q) hw
    rcases hc x j c with c | c
    · exact List.mem_append_left _ (h.cl x hx1 hw1 j hj e c)
    · rw [c]; simp
  nd := by
    rw [List.nodup_append]
    refine ⟨h.nd, by simp, fun a ha b hb' => ?_⟩
    rw [List.mem_singleton.mp hb']
    exact fun q => hb (by rw [← q]; exact ha)
  rg := fun x hx => by
    rcases List.mem_append.mp hx with q | q
    · exact h.rg x q
    · rw [List.mem_singleton.mp q]; exact hr
end L3
namespace L3
open PySem L2
def upM (m : Nat → List Int) (k : Nat) (ms : List Int) : Nat → List Int := fun i => if i = k then ms else m i
end L3
namespace L3
end L3
namespace L3
open PySem L2
def intsLD (r : List Int) : PyData := .list (r.map PyData.int)
/-- the lists of rooms met, as the resource holds them -/
def LK (m : Nat → List Int) (n : Nat) (g : DLG) : Prop := ∀ j, g.look j = match j with
  | .inl x => if 0 ≤ x ∧ x < n then some ((m x.toNat).map PyData.int) else none
  | .inr _ => none
theorem LK.put {m : Nat → List Int} {n : Nat} {g g' : DLG} (h : LK m n g) {ms : List Int} (e : ∀ x, g'.look x = if x = .inl (n : Nat) then some (ms.map PyData.int) else g.look x) : LK (upM m n ms) (n + 1) g' := fun j => by
  rw [e j, h j]
  cases j with
  | inl x =>
    by_cases q : x = (n : Int)
    · subst q
      rw [if_pos rfl]
      show _ = if (0 ≤ (n : Int) ∧ (n : Int) < (n + 1 : Nat)) then _ else _
      rw [if_pos (by omega)]
      unfold upM
      rw [if_pos (by omega)]
    · rw [if_neg fun z => q (Sum.inl.inj z)]
      show (if (0 ≤ x ∧ x < n) then _ else _) = if (0 ≤ x ∧ x < (n + 1 : Nat)) then _ else _
      by_cases c : 0 ≤ x ∧ x < n
      · rw [if_pos c, if_pos (by omega)]
        unfold upM
        rw [if_neg (by omega)]
      · rw [if_neg c, if_neg (by omega)]
  | inr x => rw [if_neg (by intro z; cases z)]
theorem LK.again {m : Nat → List Int} {n : Nat} {g g' : DLG} {a : Nat} (h : LK m n g) (ha : a < n) {ms : List Int} (e : ∀ x, g'.look x = if x = .inl (a : Nat) then some (ms.map PyData.int) else g.look x) : LK (upM m a ms) n g' := fun j => by
  rw [e j, h j]
  cases j with
  | inl x =>
    by_cases q : x = (a : Int)
    · subst q
      rw [if_pos rfl]
      show _ = if (0 ≤ (a : Int) ∧ (a : Int) < n) then _ else _
      rw [if_pos (by omega)]
      unfold upM
      rw [if_pos (by omega)]
    · rw [if_neg fun z => q (Sum.inl.inj z)]
      show (if (0 ≤ x ∧ x < n) then _ else _) = if (0 ≤ x ∧ x < n) then _ else _
      by_cases c : 0 ≤ x ∧ x < n
      · rw [if_pos c, if_pos c]
        unfold upM
        rw [if_neg (by omega)]
      · rw [if_neg c, if_neg c]
  | inr x => rw [if_neg (by intro z; cases z)]
theorem LK.at {m : Nat → List Int} {n : Nat} {g : DLG} (h : LK m n g) {x : Int} (h0 : 0 ≤ x) (h1 : x < n) : g.look (.inl x) = some ((m x.toNat).map PyData.int) := by
  rw [h (.inl x)]
  exact if_pos ⟨h0, h1⟩
theorem LK.no {m : Nat → List Int} {n : Nat} {g : DLG} (h : LK m n g) : g.look (.inl (n : Nat)) = none := by
  rw [h (.inl (n : Nat))]
  exact if_neg (by omega)
/-- rooms gathered by turns -/
structure TurnI (B : Book) (ns : List Int) (room : Int) (ms : List Int) : Prop where
  mem : room ∈ ms
  rc : ∀ x ∈ ms, Rch B ns room x
  nd : ms.Nodup
  rg : ∀ x ∈ ms, 0 ≤ x ∧ x < B.rooms
def ClsM (B : Book) (ks ms : List Int) : Prop := ∀ k ∈ ks, (wAt B k).a ∈ ms → (wAt B k).b ∈ ms
theorem TurnI.push {B : Book} {ns ms : List Int} {room k : Int} (h : TurnI B ns room ms) (hk : k ∈ ns) (ha : (wAt B k).a ∈ ms) (hb : (wAt B k).b ∉ ms) (hr : 0 ≤ (wAt B k).b ∧ (wAt B k).b < B.rooms) : TurnI B ns room (ms ++ [(wAt B k).b]) :=
  ⟨List.mem_append_left _ h.mem, fun x hx => by
    rcases List.mem_append.mp hx with q | q
    · exact h.rc x q
    · rw [List.mem_singleton.mp q]; exact .step (h.rc _ ha) hk, by
    rw [List.nodup_append]
    refine ⟨h.nd, by simp, fun a ha b hb' => ?_⟩
    rw [List.mem_singleton.mp hb']
    exact fun q => hb (by rw [← q]; exact ha), fun x hx => by
    rcases List.mem_append.mp hx with q | q
    · exact h.rg x q
    · rw [List.mem_singleton.mp q]; exact hr⟩
theorem TurnI.len {B : Book} {ns ms : List Int} {room : Int} (h : TurnI B ns room ms) : ms.length ≤ B.rooms.toNat :=
  nodup_len _ h.nd fun x hx => by have := h.rg x hx; omega
theorem TurnI.fin {B : Book} {ns ms : List Int} {room : Int} (h : TurnI B ns room ms) (c : B.rooms.toNat + 1 ≤ ms.length ∨ ClsM B ns ms) (x : Int) : x ∈ ms ↔ Rch B ns room x := by
  rcases c with c | c
  · have := h.len; omega
  · exact ⟨h.rc x, fun q => rch_closed h.mem c q⟩
end L3
namespace L3
open PySem L2
end L3
namespace L3
open PySem L2
end L3
end
section
namespace L3
open PySem L2
variable {G : Type} {K : PySem.W.Frag} {X : Cx} {Z : Zx K G}
theorem minOf_spec : ∀ (x : Int) (xs : List Int), PySem.W.minOf x xs ∈ x :: xs ∧ ∀ y ∈ x :: xs, PySem.W.minOf x xs ≤ y
  | x, [] => ⟨List.mem_singleton.mpr rfl, fun y hy => by rw [List.mem_singleton.mp hy]; exact Int.le_refl _⟩
  | x, y :: ys => by
    have e : PySem.W.minOf x (y :: ys) = PySem.W.minOf (if y < x then y else x) ys := by
      unfold PySem.W.minOf
      rw [List.foldl_cons]
      congr 1
      by_cases h : y < x <;> simp [PySem.W.DatumOrd.lt, h]
    obtain ⟨h1, h2⟩ := minOf_spec (if y < x then y else x) ys
    rw [e]
    refine ⟨?_, fun z hz => ?_⟩
    · rcases List.mem_cons.mp h1 with h | h
      · rw [h]; split <;> simp
      · exact List.mem_cons_of_mem _ (List.mem_cons_of_mem _ h)
    · have h0 := h2 _ List.mem_cons_self
      have h3 := fun z hz => h2 z (List.mem_cons_of_mem _ hz)
      clear h1 h2 e
      generalize hm : PySem.W.minOf _ ys = m at h0 h3 ⊢
      clear hm
      rcases List.mem_cons.mp hz with rfl | hz
      · split at h0 <;> omega
      · rcases List.mem_cons.mp hz with rfl | hz
        · split at h0 <;> omega
        · exact h3 z hz
theorem maxOf_spec : ∀ (x : Int) (xs : List Int), PySem.W.maxOf x xs ∈ x :: xs ∧ ∀ y ∈ x :: xs, y ≤ PySem.W.maxOf x xs
  | x, [] => ⟨List.mem_singleton.mpr rfl, fun y hy => by rw [List.mem_singleton.mp hy]; exact Int.le_refl _⟩
  | x, y :: ys => by
    have e : PySem.W.maxOf x (y :: ys) = PySem.W.maxOf (if x < y then y else x) ys := by
      unfold PySem.W.maxOf
      rw [List.foldl_cons]
      congr 1
      by_cases h : x < y <;> simp [PySem.W.DatumOrd.lt, h]
    obtain ⟨h1, h2⟩ := maxOf_spec (if x < y then y else x) ys
    rw [e]
    refine ⟨?_, fun z hz => ?_⟩
    · rcases List.mem_cons.mp h1 with h | h
      · rw [h]; split <;> simp
      · exact List.mem_cons_of_mem _ (List.mem_cons_of_mem _ h)
    · have h0 := h2 _ List.mem_cons_self
      have h3 := fun z hz => h2 z (List.mem_cons_of_mem _ hz)
      clear h1 h2 e
      generalize hm : PySem.W.maxOf _ ys = m at h0 h3 ⊢
      clear hm
      rcases List.mem_cons.mp hz with rfl | hz
      · split at h0 <;> omega
      · rcases List.mem_cons.mp hz with rfl | hz
        · split at h0 <;> omega
        · exact h3 z hz
def rMaxT (K : PySem.W.Frag) : List V → Hp → VK → Prop := fun vs H Q => ∃ (a : Addr) (ns : List Int), vs = [V.ref a] ∧ SqT K H a (ns.map V.int) ∧ 0 < ns.length ∧ ∀ m, m ∈ ns → (∀ y, y ∈ ns → y ≤ m) → Q (.int m) H
def rMinT (K : PySem.W.Frag) : List V → Hp → VK → Prop := fun vs H Q => ∃ (a : Addr) (ns : List Int), vs = [V.ref a] ∧ SqT K H a (ns.map V.int) ∧ 0 < ns.length ∧ ∀ m, m ∈ ns → (∀ y, y ∈ ns → m ≤ y) → Q (.int m) H
theorem cr_maxT (hc : X.calm = true) (hu : X.A.units + 64 < cLine) : CallR X (.builtin "max") (rMaxT X.K) := by
  intro pins s σ H vs us Q I r h
  obtain ⟨a, ns, rfl, hs, hne, q⟩ := h
  obtain ⟨its, rv, hl, _⟩ := I.tuple hs
  rw [Vals.ref1 r]
  cases ns with
  | nil => simp at hne
  | cons x xs =>
    obtain ⟨h1, h2⟩ := maxOf_spec x xs
    refine PySem.W.max_tuple_datum (I.ok.hd hc) hl (x := x) (xs := xs) (by simpa using PySem.W.HoldAll.of_ints rv.ints) (by show X.A.units + 1 + 0 < _; omega) fun i v h' tk hi hv hk => ?_
    obtain ⟨as, hv⟩ := hv
    cases hv
    exact ⟨.int _, H, I.kept hk, ⟨_, rfl⟩, q _ h1 h2⟩
theorem cr_minT (hc : X.calm = true) (hu : X.A.units + 64 < cLine) : CallR X (.builtin "min") (rMinT X.K) := by
  intro pins s σ H vs us Q I r h
  obtain ⟨a, ns, rfl, hs, hne, q⟩ := h
  obtain ⟨its, rv, hl, _⟩ := I.tuple hs
  rw [Vals.ref1 r]
  cases ns with
  | nil => simp at hne
  | cons x xs =>
    obtain ⟨h1, h2⟩ := minOf_spec x xs
    refine PySem.W.min_tuple_datum (I.ok.hd hc) hl (x := x) (xs := xs) (by simpa using PySem.W.HoldAll.of_ints rv.ints) (by show X.A.units + 1 + 0 < _; omega) fun i v h' tk hi hv hk => ?_
    obtain ⟨as, hv⟩ := hv
    cases hv
    exact ⟨.int _, H, I.kept hk, ⟨_, rfl⟩, q _ h1 h2⟩
def oMaxX : RA G := fun rs ρ g Q => one (fun r => seqD (fun ds => opK (intsL ds) fun ns => 0 < ns.length ∧ ∀ m, m ∈ ns → (∀ y, y ∈ ns → y ≤ m) → Q (.dt (.int m)) ρ g) (rd r ρ)) rs
def oMinX : RA G := fun rs ρ g Q => one (fun r => seqD (fun ds => opK (intsL ds) fun ns => 0 < ns.length ∧ ∀ m, m ∈ ns → (∀ y, y ∈ ns → m ≤ y) → Q (.dt (.int m)) ρ g) (rd r ρ)) rs
def rMaxX (K : PySem.W.Frag) : List V → Hp → VK → Prop := fun vs H Q => rMax K vs H Q ∨ rMaxT K vs H Q
def rMinX (K : PySem.W.Frag) : List V → Hp → VK → Prop := fun vs H Q => rMin K vs H Q ∨ rMinT K vs H Q
theorem k_maxX (hu : X.A.units + 64 < cLine) (hc : X.calm = true := by rfl) (hK : K = X.K := by rfl) : CallR X (.builtin "max") (rMaxX K) ∧ SimC Z (rMaxX K) (oMaxX (G := G)) := ⟨by
  rw [hK]
  intro pins s σ H vs us Q I r h
  rcases h with h | h
  · exact cr_max hc pins s σ H vs us Q I r h
  · exact cr_maxT hc hu pins s σ H vs us Q I r h, fun f F ad ρ g σ H vs rs Q R h q P hP => by
  obtain ⟨r, rfl, q2⟩ := one_of q
  obtain ⟨v, rfl, h0⟩ := vrs1 h
  obtain ⟨ds, e, q3⟩ := seqD_of q2
  obtain ⟨ns, ei, hn, q4⟩ := opK_e q3
  rcases e with e | e
  · obtain ⟨a, vs, rfl, ha, da⟩ := R.items h0 e
    rw [intsL_of ei] at da
    have ev := daAll_ints da
    subst ev
    exact .inl ⟨a, ns, rfl, .inl (.inl ha), hn, fun m h1 h2 => hP _ _ (R.dat (.int _) (q4 m h1 h2))⟩
  · obtain ⟨a, vs, rfl, ha, da⟩ := R.titems h0 e
    rw [intsL_of ei] at da
    have ev := daAll_ints da
    subst ev
    exact .inr ⟨a, ns, rfl, Evl.ex_t R.fin.sub ha, hn, fun m h1 h2 => hP _ _ (R.dat (.int _) (q4 m h1 h2))⟩⟩
theorem k_minX (hu : X.A.units + 64 < cLine) (hc : X.calm = true := by rfl) (hK : K = X.K := by rfl) : CallR X (.builtin "min") (rMinX K) ∧ SimC Z (rMinX K) (oMinX (G := G)) := ⟨by
  rw [hK]
  intro pins s σ H vs us Q I r h
  rcases h with h | h
  · exact cr_min hc pins s σ H vs us Q I r h
  · exact cr_minT hc hu pins s σ H vs us Q I r h, fun f F ad ρ g σ H vs rs Q R h q P hP => by
  obtain ⟨r, rfl, q2⟩ := one_of q
  obtain ⟨v, rfl, h0⟩ := vrs1 h
  obtain ⟨ds, e, q3⟩ := seqD_of q2
  obtain ⟨ns, ei, hn, q4⟩ := opK_e q3
  rcases e with e | e
  · obtain ⟨a, vs, rfl, ha, da⟩ := R.items h0 e
    rw [intsL_of ei] at da
    have ev := daAll_ints da
    subst ev
    exact .inl ⟨a, ns, rfl, .inl (.inl ha), hn, fun m h1 h2 => hP _ _ (R.dat (.int _) (q4 m h1 h2))⟩
  · obtain ⟨a, vs, rfl, ha, da⟩ := R.titems h0 e
    rw [intsL_of ei] at da
    have ev := daAll_ints da
    subst ev
    exact .inr ⟨a, ns, rfl, Evl.ex_t R.fin.sub ha, hn, fun m h1 h2 => hP _ _ (R.dat (.int _) (q4 m h1 h2))⟩⟩
end L3
end
section
namespace L3
open PySem L2
/-- a list of ways that leads from a to b -/
def Pth (B : Book) : Int → List Int → Int → Prop
  | a, [], b => a = b
  | a, k :: ns, b => inW B k = true ∧ (wAt B k).a = a ∧ Pth B (wAt B k).b ns b
theorem Pth.app {B : Book} {b c : Int} : ∀ {ns ms : List Int} {a : Int}, Pth B a ns b → Pth B b ms c → Pth B a (ns ++ ms) c
  | [], _, _, h, k => by cases h; exact k
  | _ :: _, _, _, h, k => ⟨h.1, h.2.1, Pth.app h.2.2 k⟩
theorem Pth.snoc {B : Book} {ns : List Int} {a b k : Int} (h : Pth B a ns b) (hk : inW B k = true) (e : (wAt B k).a = b) : Pth B a (ns ++ [k]) (wAt B k).b :=
  h.app ⟨hk, e, rfl⟩
theorem Pth.mem {B : Book} {b : Int} : ∀ {ns : List Int} {a : Int}, Pth B a ns b → ∀ k ∈ ns, inW B k = true
  | k :: ns, _, h, j, hj => by
    rcases List.mem_cons.mp hj with rfl | hj
    · exact h.1
    · exact Pth.mem h.2.2 j hj
/-- rooms with the paths to them, as a dict -/
def pathsD (kp : List (Int × List Int)) : List (PyData × PyData) := kp.map fun p => (.int p.1, intsLD p.2)
theorem lookD_paths : ∀ (kp : List (Int × List Int)) (x : Int), (lookD (pathsD kp) (.int x) = none ∧ x ∉ kp.map Prod.fst) ∨ ∃ ns, (x, ns) ∈ kp ∧ lookD (pathsD kp) (.int x) = some (intsLD ns)
  | [], x => .inl ⟨rfl, by simp⟩
  | p :: kp, x => by
    have e : lookD (pathsD (p :: kp)) (.int x) = match kq (.int p.1) (.int x) with | true => some (intsLD p.2) | false => lookD (pathsD kp) (.int x) := rfl
    by_cases h : p.1 = x
    · right
      refine ⟨p.2, by rw [← h]; exact List.mem_cons_self, ?_⟩
      rw [e]
      subst h
      simp [kq, kOf]
    · have hq : kq (.int p.1) (.int x) = false := by simp [kq, kOf, h]
      rw [e, hq]
      rcases lookD_paths kp x with ⟨h1, h2⟩ | ⟨ns, h1, h2⟩
      · left
        refine ⟨h1, ?_⟩
        rw [List.map_cons, List.mem_cons]
        rintro (h3 | h3)
        · exact h h3.symm
        · exact h2 h3
      · exact .inr ⟨ns, List.mem_cons_of_mem _ h1, h2⟩
structure BkI (B : Book) (first : Int) (kp : List (Int × List Int)) (wl : List Int) : Prop where
  nd : (kp.map Prod.fst).Nodup
  ok : ∀ p ∈ kp, (0 ≤ p.1 ∧ p.1 < B.rooms) ∧ Pth B first p.2 p.1 ∧ p.2.length < kp.length
  wt : ∀ x ∈ wl, x ∈ kp.map Prod.fst
theorem BkI.len {B : Book} {first : Int} {kp : List (Int × List Int)} {wl : List Int} (h : BkI B first kp wl) : kp.length ≤ B.rooms.toNat := by
  have := nodup_len B.rooms.toNat h.nd (fun x hx => by
    obtain ⟨p, hp, rfl⟩ := List.mem_map.mp hx
    have := (h.ok p hp).1
    omega)
  rwa [List.length_map] at this
theorem BkI.at {B : Book} {first : Int} {kp : List (Int × List Int)} {wl : List Int} (h : BkI B first kp wl) {x : Int} (hx : x ∈ kp.map Prod.fst) : ∃ ns, lookD (pathsD kp) (.int x) = some (intsLD ns) ∧ Pth B first ns x ∧ ns.length < kp.length := by
  rcases lookD_paths kp x with ⟨_, h2⟩ | ⟨ns, h1, h2⟩
  · exact absurd hx h2
  · exact ⟨ns, h2, (h.ok _ h1).2⟩
theorem BkI.push {B : Book} {first : Int} {kp : List (Int × List Int)} {wl ns : List Int} {x : Int} (h : BkI B first kp wl) (hx : x ∉ kp.map Prod.fst) (hr : 0 ≤ x ∧ x < B.rooms) (hp : Pth B first ns x) (hl : ns.length ≤ kp.length) : BkI B first (kp ++ [(x, ns)]) (wl ++ [x]) := by
  refine ⟨?_, fun p hp2 => ?_, fun y hy => ?_⟩
  · rw [List.map_append, List.nodup_append]
    exact ⟨h.nd, by simp, fun a ha b hb => by simp at hb; subst hb; exact fun e => hx (e ▸ ha)⟩
  · rw [List.length_append]
    rcases List.mem_append.mp hp2 with hp2 | hp2
    · obtain ⟨h1, h2, h3⟩ := h.ok p hp2
      exact ⟨h1, h2, by simp; omega⟩
    · rw [List.mem_singleton.mp hp2]
      exact ⟨hr, hp, by simp; omega⟩
  · rw [List.map_append]
    rcases List.mem_append.mp hy with hy | hy
    · exact List.mem_append_left _ (h.wt y hy)
    · rw [List.mem_singleton.mp hy]; exact List.mem_append_right _ (by simp)
/-- how often each way is counted: pairs of a count and a walk -/
def cntW (wk : List (Int × List Int)) (j : Int) : Int := (wk.map fun p => p.1 * ((p.2.count j : Nat) : Int)).sum
def cntL (n : Nat) (wk : List (Int × List Int)) : List Int := (List.range n).map fun i => cntW wk (i : Nat)
theorem cntL_len (n : Nat) (wk : List (Int × List Int)) : (cntL n wk).length = n := by simp [cntL]
theorem cntL_get {n i : Nat} (wk : List (Int × List Int)) (h : i < n) : (cntL n wk)[i]? = some (cntW wk (i : Nat)) := by simp [cntL, h]
end L3
end
section
namespace L3
open PySem L2
end L3
end
section
namespace L3
open PySem L2
theorem addL_len' {n : Nat} {xs ys : List Int} (h : xs.length = n) (k : ys.length = n) : (addL xs ys).length = n := by
  unfold addL; rw [List.length_zipWith]; omega
theorem addL_getD' {xs ys : List Int} {p : Nat} (h : p < xs.length) (k : p < ys.length) : (addL xs ys).getD p 0 = xs.getD p 0 + ys.getD p 0 := by
  simp only [List.getD_eq_getElem?_getD, addL, List.getElem?_zipWith, List.getElem?_eq_getElem h, List.getElem?_eq_getElem k]
  rfl
def posW (n : Nat) (cs : List Int) : List Int := ((List.range n).filter fun i => decide (cs.getD i 0 > 0)).map fun i => ((i : Nat) : Int)
theorem pth_reach {B : Book} {ws : List Int} {b : Int} : ∀ {ns : List Int} {a : Int}, Pth B a ns b → (∀ k ∈ ns, k ∈ ws) → Rch B ws a b ∧ ∀ x ∈ ns, Rch B ws a (wAt B x).a ∧ Rch B ws (wAt B x).b b
  | [], a, h, _ => by cases h; exact ⟨.refl _, fun x hx => by cases hx⟩
  | k :: ns, a, h, hs => by
    obtain ⟨h1, h2⟩ := pth_reach h.2.2 fun x hx => hs x (List.mem_cons_of_mem _ hx)
    have hk : Rch B ws (wAt B k).a (wAt B k).b := .one (hs k List.mem_cons_self)
    rw [h.2.1] at hk
    refine ⟨hk.trans h1, fun x hx => ?_⟩
    rcases List.mem_cons.mp hx with rfl | hx
    · rw [h.2.1]; exact ⟨.refl _, h1⟩
    · exact ⟨hk.trans (h2 x hx).1, (h2 x hx).2⟩
theorem rings_one {B : Book} {ws : List Int} (hne : ws ≠ []) (h : ∀ k ∈ ws, ∀ j ∈ ws, Rch B ws (wAt B k).b (wAt B j).a) : ringsL B ws = [ws] := by
  have e : ∀ k ∈ ws, ringOf B ws k = ws := fun k hk => by
    unfold ringOf
    refine List.filter_eq_self.mpr fun j hj => ?_
    unfold inRg
    rw [rch_iff.mpr (h k hk j hj), rch_iff.mpr (h j hj k hk)]; rfl
  have o : ∀ k ∈ ws, onR B ws k = true := fun k hk => rch_iff.mpr (h k hk k hk)
  have key : ∀ ks : List Int, (∀ k ∈ ks, k ∈ ws) → ks.foldl (ringStep B ws) [ws] = [ws] := by
    intro ks
    induction ks with
    | nil => intro _; rfl
    | cons k r ih =>
      intro hk
      have : ringStep B ws [ws] k = [ws] := by
        unfold ringStep
        rw [e k (hk k List.mem_cons_self), if_neg (by simp)]
      rw [List.foldl_cons, this]
      exact ih fun x hx => hk x (List.mem_cons_of_mem _ hx)
  unfold ringsL
  obtain ⟨k, r, hr⟩ := List.exists_cons_of_ne_nil hne
  have hm : ∀ x ∈ k :: r, x ∈ ws := fun x hx => by rw [hr]; exact hx
  have s : ringStep B ws [] k = [ws] := by
    unfold ringStep
    rw [e k (hm k List.mem_cons_self), if_pos ⟨o k (hm k List.mem_cons_self), by simp⟩]
    rfl
  have : ws.foldl (ringStep B ws) [] = (k :: r).foldl (ringStep B ws) [] := by rw [← hr]
  rw [this, List.foldl_cons, s]
  exact key r fun x hx => hm x (List.mem_cons_of_mem _ hx)
end L3
end
section
namespace L3
open PySem L2
def Lay (n : Nat) (d : PyData) : Prop := d.canLay0 = true ∧ d.depth ≤ n
theorem Lay.up {n m : Nat} {d : PyData} (h : Lay n d) (k : n ≤ m) : Lay m d := ⟨h.1, Nat.le_trans h.2 k⟩
theorem lay_int (n : Nat) (i : Int) : Lay n (.int i) := ⟨rfl, Nat.zero_le _⟩
theorem lay_tup {n : Nat} {ds : List PyData} (h : ∀ d ∈ ds, Lay n d) : Lay (n + 1) (.tuple ds) :=
  ⟨by rw [PyData.canLay0]; exact canLayAll_of fun d hd => (h d hd).1, by rw [PyData.depth]; exact Nat.succ_le_succ (depthAll_of fun d hd => (h d hd).2)⟩
theorem lay_list {n : Nat} {ds : List PyData} (h : ∀ d ∈ ds, Lay n d) : Lay (n + 1) (.list ds) :=
  ⟨by rw [PyData.canLay0]; exact canLayAll_of fun d hd => (h d hd).1, by rw [PyData.depth]; exact Nat.succ_le_succ (depthAll_of fun d hd => (h d hd).2)⟩
theorem lay_ints {n : Nat} (ns : List Int) : ∀ d ∈ ns.map PyData.int, Lay n d := fun d hd => by
  obtain ⟨x, _, rfl⟩ := List.mem_map.mp hd
  exact lay_int _ _
theorem Lay.shaped {n : Nat} {d : PyData} (h : Lay n d) (k : n ≤ 64 := by decide) : SeqAt.shaped d = true := by
  unfold SeqAt.shaped
  rw [h.1, Bool.true_and]
  exact decide_eq_true (Nat.le_trans h.2 k)
def standD (r : Int) (xs : List Int) : PyData := .tuple [.int r, .tuple (xs.map PyData.int)]
theorem lay_stand (r : Int) (xs : List Int) : Lay 2 (standD r xs) := lay_tup fun d hd => by
  simp at hd
  rcases hd with rfl | rfl
  · exact lay_int _ _
  · exact lay_tup (lay_ints xs)
def fitsW (w : Way) (r : Int) (xs : List Int) : Bool := decide (w.a = r) && (addL xs w.gs).all fun x => decide (0 ≤ x)
def canL (B : Book) (r : Int) (xs : List Int) : List Int := (((List.range B.ways.length).zip B.ways).filter fun p => fitsW p.2 r xs).map fun p => ((p.1 : Nat) : Int)
def geL (xs ys : List Int) : Bool := (xs.zip ys).all fun p => decide (p.1 ≥ p.2)
theorem all_getD {xs : List Int} {p : Int → Bool} : xs.all p = true ↔ ∀ i, i < xs.length → p (xs.getD i 0) = true := by
  rw [List.all_eq_true]
  constructor
  · intro h i hi
    rw [List.getD_eq_getElem?_getD, List.getElem?_eq_getElem hi]
    exact h _ (List.getElem_mem hi)
  · intro h x hx
    obtain ⟨i, hi, rfl⟩ := List.getElem_of_mem hx
    have := h i hi
    rwa [List.getD_eq_getElem?_getD, List.getElem?_eq_getElem hi] at this
theorem geL_iff {n : Nat} : ∀ {xs ys : List Int}, xs.length = n → ys.length = n → (geL xs ys = true ↔ ∀ p, p < n → ys.getD p 0 ≤ xs.getD p 0) := by
  intro xs ys h k
  unfold geL
  rw [List.all_eq_true]
  constructor
  · intro q p hp
    have hm : (xs.getD p 0, ys.getD p 0) ∈ xs.zip ys := by
      refine List.mem_iff_getElem?.mpr ⟨p, ?_⟩
      rw [List.getElem?_zip_eq_some]
      simp [List.getD_eq_getElem?_getD, List.getElem?_eq_getElem (show p < xs.length by omega), List.getElem?_eq_getElem (show p < ys.length by omega)]
    simpa using q _ hm
  · intro q p hp
    obtain ⟨i, hi⟩ := List.mem_iff_getElem?.mp hp
    rw [List.getElem?_zip_eq_some] at hi
    have h1 : i < n := by
      have := (List.getElem?_eq_some_iff.mp hi.1).1
      omega
    have := q i h1
    rw [List.getD_eq_getElem?_getD, List.getD_eq_getElem?_getD, hi.1, hi.2] at this
    simpa using this
theorem canL_mem {B : Book} {r k : Int} {xs : List Int} : k ∈ canL B r xs ↔ inW B k = true ∧ fitsW (wAt B k) r xs = true := by
  unfold canL
  rw [List.mem_map]
  constructor
  · rintro ⟨⟨i, w⟩, h, rfl⟩
    obtain ⟨h1, h2⟩ := List.mem_filter.mp h
    obtain ⟨j, hj⟩ := List.mem_iff_getElem?.mp h1
    rw [List.getElem?_zip_eq_some] at hj
    obtain ⟨e1, e2⟩ := hj
    obtain ⟨e3, e4⟩ := List.getElem?_eq_some_iff.mp e1
    obtain ⟨e5, e6⟩ := List.getElem?_eq_some_iff.mp e2
    simp at e4
    subst e4
    have e7 : wAt B ((j : Nat) : Int) = w := by
      unfold wAt
      rw [Int.toNat_natCast, List.getD_eq_getElem?_getD, List.getElem?_eq_getElem e5]
      exact e6
    refine ⟨by simp [inW]; omega, ?_⟩
    show fitsW (wAt B ((j : Nat) : Int)) r xs = true
    rw [e7]; exact h2
  · rintro ⟨h1, h2⟩
    simp [inW] at h1
    have h3 : k.toNat < B.ways.length := by omega
    refine ⟨(k.toNat, wAt B k), List.mem_filter.mpr ⟨List.mem_iff_getElem?.mpr ⟨k.toNat, ?_⟩, h2⟩, by show ((k.toNat : Nat) : Int) = k; omega⟩
    rw [List.getElem?_zip_eq_some]
    refine ⟨by simp [h3], ?_⟩
    unfold wAt
    rw [List.getD_eq_getElem?_getD, List.getElem?_eq_getElem h3]; rfl
theorem colSum_app (B : Book) (ns ms : List Int) (p : Nat) : colSum B (ns ++ ms) p = colSum B ns p + colSum B ms p := by
  unfold colSum; rw [List.map_append, List.sum_append]
theorem colSum_cons (B : Book) (k : Int) (ns : List Int) (p : Nat) : colSum B (k :: ns) p = gC B p k + colSum B ns p := rfl
def mx2 (a b : Int) : Int := if b > a then b else a
theorem dueC_app (B : Book) (p : Nat) (ms : List Int) : ∀ ns : List Int, dueC B p (ns ++ ms) = mx2 (dueC B p ns) (dueC B p ms - colSum B ns p)
  | [] => by
    have := dueC_nn B p ms
    show dueC B p ms = mx2 0 (dueC B p ms - 0)
    unfold mx2; split <;> omega
  | k :: ns => by
    show mxI (dueC B p (ns ++ ms) - gC B p k) = mx2 (mxI (dueC B p ns - gC B p k)) _
    rw [dueC_app B p ms ns, colSum_cons]
    unfold mx2 mxI
    split <;> split <;> split <;> omega
theorem dueC_sum (B : Book) (p : Nat) : ∀ ns : List Int, 0 ≤ dueC B p ns + colSum B ns p
  | [] => Int.le_refl 0
  | k :: ns => by
    have := dueC_sum B p ns
    rw [colSum_cons]
    show 0 ≤ mxI (dueC B p ns - gC B p k) + _
    unfold mxI; split <;> omega
theorem gainL_getD {B : Book} {ns : List Int} (h : GsOk B ns) {p : Nat} (hp : p < B.purses.toNat) : (gainL B ns).getD p 0 = colSum B ns p := by
  rw [List.getD_eq_getElem?_getD, gainL_col h p hp]; rfl
/-- a way more can be done just where it fits where the walk has come to -/
theorem ge_push {B : Book} {ns ys : List Int} {k : Int} (hl : ys.length = B.purses.toNat) (hg : GsOk B (ns ++ [k])) (h : geL ys (needL B ns) = true) :
    geL ys (needL B (ns ++ [k])) = (addL (addL ys (gainL B ns)) (wAt B k).gs).all fun x => decide (0 ≤ x) := by
  have hg1 : GsOk B ns := fun x hx => hg x (List.mem_append_left _ hx)
  have hk : (wAt B k).gs.length = B.purses.toNat := by have := hg k (by simp); omega
  have l1 : (gainL B ns).length = B.purses.toNat := gainL_len hg1
  have l2 : (addL ys (gainL B ns)).length = B.purses.toNat := addL_len hl l1
  have l3 : (addL (addL ys (gainL B ns)) (wAt B k).gs).length = B.purses.toNat := addL_len l2 hk
  rw [needL_due hg1] at h
  rw [needL_due hg, Bool.eq_iff_iff, geL_iff hl (dueL_len B _), all_getD, l3]
  have h := (geL_iff hl (dueL_len B _)).mp h
  refine forall_congr' fun p => forall_congr' fun hp => ?_
  have h := h p hp
  rw [dueL_getD hp] at h
  rw [dueL_getD hp, dueC_app, addL_getD (by omega) (by omega), addL_getD (by omega) (by omega), gainL_getD hg1 hp]
  have s := dueC_sum B p ns
  have e : dueC B p [k] = mxI (0 - gC B p k) := rfl
  have e2 : (wAt B k).gs.getD p 0 = gC B p k := rfl
  rw [e, e2, decide_eq_true_eq]
  unfold mx2 mxI
  split <;> split <;> omega
theorem gain_push (B : Book) (ns : List Int) (k : Int) (ys : List Int) (hl : ys.length = B.purses.toNat) (hg : GsOk B (ns ++ [k])) : addL ys (gainL B (ns ++ [k])) = addL (addL ys (gainL B ns)) (wAt B k).gs := by
  have hg1 : GsOk B ns := fun x hx => hg x (List.mem_append_left _ hx)
  have hk : (wAt B k).gs.length = B.purses.toNat := by have := hg k (by simp); omega
  have l1 : (gainL B ns).length = B.purses.toNat := gainL_len hg1
  have l2 : (addL ys (gainL B ns)).length = B.purses.toNat := addL_len hl l1
  rw [gainL_push]
  refine ext_getD ?_ fun p hp => ?_
  · rw [addL_len hl (addL_len l1 hk), addL_len l2 hk]
  · rw [addL_len hl (addL_len l1 hk)] at hp
    rw [addL_getD (by omega) (by rw [addL_len l1 hk]; exact hp), addL_getD (by omega) (by omega), addL_getD (by omega) (by omega), addL_getD (by omega) (by omega), Int.add_assoc]
/-- whether a walk can be done -/
def okW (B : Book) (r : Int) (xs ns : List Int) : Bool := match ns with
  | [] => false
  | k :: _ => decide (r = (wAt B k).a) && geL xs (needL B ns)
def endW (B : Book) (ns : List Int) : Int := match ns.getLast? with
  | none => 0
  | some k => (wAt B k).b
theorem okW_eq {B : Book} {r : Int} {xs ns : List Int} (h : ns ≠ []) : okW B r xs ns = (decide (r = (wAt B (ns.head h)).a) && geL xs (needL B ns)) := by
  cases ns with
  | nil => exact absurd rfl h
  | cons k ks => rfl
theorem pth_ends {B : Book} {b : Int} : ∀ {ns : List Int} {a : Int}, Pth B a ns b → ∀ h : ns ≠ [], chainW B ns = true ∧ (wAt B (ns.head h)).a = a ∧ (wAt B (ns.getLast h)).b = b
  | [k], a, h, _ => ⟨h.1, h.2.1, h.2.2⟩
  | k :: j :: ns, a, h, _ => by
    obtain ⟨h1, h2, h3⟩ := pth_ends h.2.2 (by simp)
    replace h2 : (wAt B j).a = (wAt B k).b := h2
    refine ⟨?_, h.2.1, by simpa using h3⟩
    show (inW B k && decide ((wAt B k).b = (wAt B j).a) && chainW B (j :: ns)) = true
    rw [h.1, h1, h2]
    simp
/-- a walk that was gone along from a stand -/
structure GoneI (B : Book) (f : Int) (ys ns : List Int) (r : Int) (xs : List Int) : Prop where
  p : Pth B f ns r
  l : ys.length = B.purses.toNat
  x : xs = addL ys (gainL B ns)
  n : geL ys (needL B ns) = true
theorem addL_zero {n : Nat} {ys : List Int} (h : ys.length = n) : addL ys (List.replicate n 0) = ys := by
  refine ext_getD (by rw [addL_len h (by simp)]; exact h.symm) fun p hp => ?_
  rw [addL_len h (by simp)] at hp
  rw [addL_getD (by omega) (by simp; exact hp)]
  rw [show (List.replicate n (0 : Int)).getD p 0 = 0 from by simp [List.getD_eq_getElem?_getD, List.getElem?_replicate]; split <;> rfl, Int.add_zero]
theorem GoneI.start {B : Book} {f : Int} {ys : List Int} (l : ys.length = B.purses.toNat) (h : ∀ y ∈ ys, 0 ≤ y) : GoneI B f ys [] f ys :=
  ⟨rfl, l, (addL_zero l).symm, (geL_iff l (by simp [needL, needS, zeros])).mpr fun p hp => by
    rw [needL_due (fun k hk => by cases hk), dueL_getD hp]
    show 0 ≤ ys.getD p 0
    rw [List.getD_eq_getElem?_getD, List.getElem?_eq_getElem (by omega)]
    exact h _ (List.getElem_mem _)⟩
theorem GoneI.gs {B : Book} {f r : Int} {ys ns xs : List Int} (h : GoneI B f ys ns r xs) (hB : ∀ w ∈ B.ways, w.gs.length = B.purses.toNat) (hp : 0 ≤ B.purses) {k : Int} (hk : inW B k = true) : GsOk B (ns ++ [k]) := fun x hx => by
  rcases List.mem_append.mp hx with hx | hx
  · have := hB _ (wAt_mem (h.p.mem x hx)); omega
  · rw [List.mem_singleton.mp hx]; have := hB _ (wAt_mem hk); omega
theorem GoneI.push {B : Book} {f r k : Int} {ys ns xs : List Int} (h : GoneI B f ys ns r xs) (hB : ∀ w ∈ B.ways, w.gs.length = B.purses.toNat) (hp : 0 ≤ B.purses) (hk : inW B k = true) (hf : fitsW (wAt B k) r xs = true) : GoneI B f ys (ns ++ [k]) (wAt B k).b (addL xs (wAt B k).gs) := by
  unfold fitsW at hf
  rw [Bool.and_eq_true, decide_eq_true_eq] at hf
  refine ⟨h.p.snoc hk hf.1, h.l, ?_, ?_⟩
  · rw [gain_push B ns k ys h.l (h.gs hB hp hk), h.x]
  · rw [ge_push h.l (h.gs hB hp hk) h.n, ← h.x]; exact hf.2
theorem GoneI.len {B : Book} {f r : Int} {ys ns xs : List Int} (h : GoneI B f ys ns r xs) (hB : ∀ w ∈ B.ways, w.gs.length = B.purses.toNat) (hp : 0 ≤ B.purses) : (gainL B ns).length = B.purses.toNat ∧ xs.length = B.purses.toNat := by
  have hg : GsOk B ns := fun x hx => by have := hB _ (wAt_mem (h.p.mem x hx)); omega
  have l1 : (gainL B ns).length = B.purses.toNat := gainL_len hg
  exact ⟨l1, by rw [h.x, addL_len h.l l1]⟩
end L3
end
section
namespace L2
open PySem PySem.Spec PyProof.Rows
end L2
namespace L3
open PySem L2
end L3
end
section
namespace L3
open PySem L2
theorem Pth.split {B : Book} {c : Int} : ∀ {ns ms : List Int} {a : Int}, Pth B a (ns ++ ms) c → ∃ b, Pth B a ns b ∧ Pth B b ms c
  | [], _, a, h => ⟨a, rfl, h⟩
  | _ :: _, _, _, h => by
    obtain ⟨b, h1, h2⟩ := Pth.split h.2.2
    exact ⟨b, ⟨h.1, h.2.1, h1⟩, h2⟩
theorem gsOk_l {B : Book} {ns ms : List Int} (h : GsOk B (ns ++ ms)) : GsOk B ns := fun k hk => h k (List.mem_append_left _ hk)
theorem gsOk_r {B : Book} {ns ms : List Int} (h : GsOk B (ns ++ ms)) : GsOk B ms := fun k hk => h k (List.mem_append_right _ hk)
theorem gainL_app {B : Book} {ns ms : List Int} (h : GsOk B (ns ++ ms)) : gainL B (ns ++ ms) = addL (gainL B ns) (gainL B ms) := by
  have l1 : (gainL B ns).length = B.purses.toNat := gainL_len (gsOk_l h)
  have l2 : (gainL B ms).length = B.purses.toNat := gainL_len (gsOk_r h)
  have l3 : (gainL B (ns ++ ms)).length = B.purses.toNat := gainL_len h
  refine ext_getD (by rw [l3, addL_len l1 l2]) fun p hp => ?_
  rw [l3] at hp
  rw [addL_getD (by omega) (by omega), gainL_getD h hp, gainL_getD (gsOk_l h) hp, gainL_getD (gsOk_r h) hp, colSum_app]
theorem needL_len' {B : Book} {ns : List Int} (h : GsOk B ns) : (needL B ns).length = B.purses.toNat := by rw [needL_due h, dueL_len]
theorem needL_getD {B : Book} {ns : List Int} (h : GsOk B ns) {p : Nat} (hp : p < B.purses.toNat) : (needL B ns).getD p 0 = dueC B p ns := by rw [needL_due h, dueL_getD hp]
end L3
end
section
namespace L3
open PySem L2
structure Nice (n w : Nat) (d : PyData) : Prop where
  sh : d.showable = true
  nd : d.hasDict = false
  dp : d.depth ≤ n
  tx : okTx d = true
  wd : wd d ≤ w
  sm : smD d = true
theorem Nice.mono {n m w v : Nat} {d : PyData} (h : Nice n w d) (k : n ≤ m) (l : w ≤ v) : Nice m v d := ⟨h.sh, h.nd, Nat.le_trans h.dp k, h.tx, Nat.le_trans h.wd l, h.sm⟩
theorem nice_int {i : Int} (h : i.natAbs.log2 ≤ 400) : Nice 0 403 (.int i) := ⟨by simp [PyData.showable]; omega, rfl, Nat.le_refl _, by rw [okTx]; exact decide_eq_true (by omega), by rw [L3.wd]; omega, rfl⟩
theorem nice_small {i : Int} (h1 : -1000000 ≤ i) (h2 : i ≤ 1000000) : Nice 0 403 (.int i) := nice_int (by
  have : i.natAbs < 2 ^ 20 := by omega
  by_cases z : i.natAbs = 0
  · rw [z]; decide
  · have := (Nat.log2_lt z).mpr this; omega)
theorem Nice.ok {n w : Nat} {d : PyData} (h : Nice n w d) (k : n ≤ 150) (l : w ≤ 16777216) : ShOk d := shOk_of h.sh h.nd (Nat.le_trans h.dp k) h.tx (Nat.le_trans h.wd l)
theorem nices_all {n w : Nat} : ∀ {ds : List PyData}, (∀ d ∈ ds, Nice n w d) → PyData.showableAll ds = true ∧ PyData.hasDictAll ds = false ∧ PyData.depthAll ds ≤ n ∧ okTxs ds = true ∧ wdAll ds ≤ ds.length * (w + 2) ∧ smDs ds = true
  | [], _ => ⟨rfl, rfl, Nat.zero_le _, rfl, Nat.zero_le _, rfl⟩
  | d :: ds, h => by
    have h0 := h d List.mem_cons_self
    obtain ⟨a1, a2, a3, a4, a5, a6⟩ := nices_all (ds := ds) fun x hx => h x (List.mem_cons_of_mem _ hx)
    refine ⟨by rw [PyData.showableAll, h0.sh, a1]; rfl, by rw [PyData.hasDictAll, h0.nd, a2]; rfl, by rw [PyData.depthAll]; exact Nat.max_le.mpr ⟨h0.dp, a3⟩, by rw [okTxs, h0.tx, a4]; rfl, ?_, by rw [smDs, h0.sm, a6]; rfl⟩
    have := h0.wd
    rw [wdAll, List.length_cons, Nat.add_mul]
    omega
theorem nice_tup {n w m : Nat} {ds : List PyData} (h : ∀ d ∈ ds, Nice n w d) (l : ds.length ≤ m) (hm : m ≤ 16777216 := by decide) : Nice (n + 1) (m * (w + 2) + 3) (.tuple ds) := by
  obtain ⟨a1, a2, a3, a4, a5, a6⟩ := nices_all h
  have := Nat.mul_le_mul_right (w + 2) l
  exact ⟨by rw [PyData.showable]; exact a1, by rw [PyData.hasDict]; exact a2, by rw [PyData.depth]; exact Nat.succ_le_succ a3, by rw [okTx]; exact a4, by rw [L3.wd]; omega, by rw [smD, a6, decide_eq_true (Nat.le_trans l hm)]; rfl⟩
theorem nice_list {n w m : Nat} {ds : List PyData} (h : ∀ d ∈ ds, Nice n w d) (l : ds.length ≤ m) (hm : m ≤ 16777216 := by decide) : Nice (n + 1) (m * (w + 2) + 3) (.list ds) := by
  obtain ⟨a1, a2, a3, a4, a5, a6⟩ := nices_all h
  have := Nat.mul_le_mul_right (w + 2) l
  exact ⟨by rw [PyData.showable]; exact a1, by rw [PyData.hasDict]; exact a2, by rw [PyData.depth]; exact Nat.succ_le_succ a3, by rw [okTx]; exact a4, by rw [L3.wd]; omega, by rw [smD, a6, decide_eq_true (Nat.le_trans l hm)]; rfl⟩
theorem nice_str (x : Str) (h : okTx (.str x) = true) (l : x.length ≤ 20) : Nice 0 202 (.str x) := ⟨rfl, rfl, Nat.le_refl _, h, by rw [L3.wd]; omega, rfl⟩
theorem log_le {i : Int} (h0 : 0 ≤ i) (h : i < 2 ^ 400) : i.natAbs.log2 ≤ 400 := by
  by_cases z : i.natAbs = 0
  · rw [z]; decide
  · have := (Nat.log2_lt z).mpr (show i.natAbs < 2 ^ 400 by omega); omega
theorem cutD_sub {ds : List PyData} {lo hi : Option Int} {d : PyData} (h : d ∈ L3.cutD ds lo hi) : d ∈ ds := by
  unfold L3.cutD at h
  exact List.mem_of_mem_drop (List.mem_of_mem_take h)
theorem nice_tupW {n v W : Nat} {ds : List PyData} (h : ∀ d ∈ ds, Nice n v d) (l : ds.length ≤ 16777216) (hW : wdAll ds ≤ W) : Nice (n + 1) (W + 3) (.tuple ds) := by
  have k := nice_tup (m := ds.length) h (Nat.le_refl _) l
  exact ⟨k.sh, k.nd, k.dp, k.tx, by rw [L3.wd]; omega, k.sm⟩
theorem nice_tiny {i : Int} (h1 : -127 ≤ i) (h2 : i ≤ 127) : Nice 0 9 (.int i) := by
  have hl : i.natAbs.log2 ≤ 6 := by
    by_cases z : i.natAbs = 0
    · rw [z]; decide
    · have := (Nat.log2_lt z).mpr (show i.natAbs < 2 ^ 7 by omega); omega
  have k := nice_int (i := i) (by omega)
  exact ⟨k.sh, k.nd, k.dp, k.tx, by rw [L3.wd]; omega, k.sm⟩
end L3
end
section
namespace L3
open PySem L2
end L3
end
section
namespace L3
open PySem L2
/-- gains and needs in all purses -/
def bhL (f g : List Int × List Int) : List Int × List Int := (addL f.1 g.1, (f.2.zip (g.2.zip f.1)).map fun p => mx2 p.1 (p.2.1 - p.2.2))
def clL (f : List Int × List Int) (n : Int) : List Int × List Int := (f.1.map fun x => n * x, (f.2.zip f.1).map fun p => mx2 p.1 (p.1 - (n - 1) * p.2))
end L3
namespace L3
open PySem L2
/-- what a law tells of a told walk: length, first and last room, gain, need -/
structure Fa where
  l : Int
  a : Int
  b : Int
  gs : List Int
  ns : List Int
def Fa.d (f : Fa) : PyData := .tuple [.int f.l, .int f.a, .int f.b, .tuple (f.gs.map PyData.int), .tuple (f.ns.map PyData.int)]
def bhF (f g : Fa) : Fa := ⟨f.l + g.l, f.a, g.b, (bhL (f.gs, f.ns) (g.gs, g.ns)).1, (bhL (f.gs, f.ns) (g.gs, g.ns)).2⟩
def oftF (f : Fa) (n : Int) : Fa := ⟨n * f.l, f.a, f.b, (clL (f.gs, f.ns) n).1, (clL (f.gs, f.ns) n).2⟩
end L3
end
section
namespace L3
open PySem L2
inductive Tw where
  | way (k : Int)
  | row (ps : List Tw)
  | times (n : Int) (t : Tw)
mutual
def Tw.d : Tw → PyData
  | .way k => .tuple [.str "way", .int k]
  | .row ps => .tuple [.str "row", .tuple (Tw.ds ps)]
  | .times n t => .tuple [.str "times", .int n, t.d]
def Tw.ds : List Tw → List PyData
  | [] => []
  | t :: r => t.d :: Tw.ds r
end
theorem Tw.ds_map : ∀ ps : List Tw, Tw.ds ps = ps.map Tw.d
  | [] => rfl
  | t :: r => by rw [Tw.ds, Tw.ds_map r]; rfl
def mx0 (x : Int) : Int := mx2 0 (0 - x)
mutual
def Tw.fa (B : Book) : Tw → Fa
  | .way k => ⟨1, (wAt B k).a, (wAt B k).b, (wAt B k).gs, (wAt B k).gs.map mx0⟩
  | .row ps => Tw.fas B ps
  | .times n t => oftF (t.fa B) n
def Tw.fas (B : Book) : List Tw → Fa
  | [] => ⟨0, 0, 0, [], []⟩
  | t :: r => Tw.fol B (t.fa B) r
def Tw.fol (B : Book) (acc : Fa) : List Tw → Fa
  | [] => acc
  | t :: r => Tw.fol B (bhF acc (t.fa B)) r
end
/-- a told walk of a book, to a depth, its counts below a bound -/
def OkT (B : Book) (most : Int) : Nat → Tw → Prop
  | _, .way k => inW B k = true
  | 0, _ => False
  | n + 1, .row ps => ps ≠ [] ∧ ps.length ≤ 10000 ∧ ∀ p ∈ ps, OkT B most n p
  | n + 1, .times c t => (1 ≤ c ∧ c ≤ most) ∧ OkT B most n t
theorem OkT.up {B : Book} {most : Int} : ∀ {n : Nat} {t : Tw}, OkT B most n t → OkT B most (n + 1) t
  | 0, .way k, h => h
  | _ + 1, .way k, h => h
  | 0, .row _, h => h.elim
  | 0, .times _ _, h => h.elim
  | n + 1, .row ps, h => ⟨h.1, h.2.1, fun p hp => (h.2.2 p hp).up⟩
  | n + 1, .times c t, h => ⟨h.1, h.2.up⟩
/-- how long the told walk is -/
theorem fas_l (B : Book) : ∀ (ps : List Tw) (acc : Fa), (Tw.fol B acc ps).l = acc.l + (ps.map fun t => (t.fa B).l).sum
  | [], acc => by rw [Tw.fol]; simp
  | t :: r, acc => by
    rw [Tw.fol, fas_l B r, List.map_cons, List.sum_cons]
    show acc.l + (t.fa B).l + _ = _
    omega
theorem row_l (B : Book) (ps : List Tw) : (Tw.fa B (.row ps)).l = (ps.map fun t => (t.fa B).l).sum := by
  rw [Tw.fa]
  cases ps with
  | nil => rfl
  | cons t r => rw [Tw.fas, fas_l, List.map_cons, List.sum_cons]
theorem fol_a (B : Book) : ∀ (ps : List Tw) (acc : Fa), (Tw.fol B acc ps).a = acc.a
  | [], acc => by rw [Tw.fol]
  | t :: r, acc => by rw [Tw.fol, fol_a B r]; rfl
theorem atI_lastM {α β : Type} (f : α → β) {xs : List α} (h : xs ≠ []) : atI (xs.map f) (-1) = some (f (xs.getLast h)) := by
  have e : xs.map f = xs.dropLast.map f ++ [f (xs.getLast h)] := by
    rw [← List.map_singleton, ← List.map_append, List.dropLast_concat_getLast]
  rw [e]
  exact atI_last _ _
structure FaOk (n : Nat) (f : Fa) : Prop where
  g : f.gs.length = n
  l : f.ns.length = n
  p : ∀ x ∈ f.ns, 0 ≤ x
theorem mx2_le (a b : Int) : a ≤ mx2 a b := by unfold mx2; split <;> omega
theorem bhF_ok {n : Nat} {e f : Fa} (h : FaOk n e) (k : FaOk n f) : FaOk n (bhF e f) := by
  refine ⟨addL_len h.g k.g, ?_, fun x hx => ?_⟩
  · unfold bhF bhL
    dsimp only
    rw [List.length_map, List.length_zip, List.length_zip, h.l, k.l, h.g]
    omega
  · unfold bhF bhL at hx
    obtain ⟨p, hp, rfl⟩ := List.mem_map.mp hx
    exact Int.le_trans (h.p _ (List.of_mem_zip hp).1) (mx2_le _ _)
theorem oftF_ok {n : Nat} {f : Fa} (h : FaOk n f) (c : Int) : FaOk n (oftF f c) := by
  refine ⟨?_, ?_, fun x hx => ?_⟩
  · unfold oftF clL; dsimp only; rw [List.length_map]; exact h.g
  · unfold oftF clL
    dsimp only
    rw [List.length_map, List.length_zip, h.l, h.g]
    omega
  · unfold oftF clL at hx
    obtain ⟨p, hp, rfl⟩ := List.mem_map.mp hx
    exact Int.le_trans (h.p _ (List.of_mem_zip hp).1) (mx2_le _ _)
theorem fol_ok {n : Nat} (B : Book) : ∀ (ps : List Tw) (acc : Fa), FaOk n acc → (∀ p ∈ ps, FaOk n (p.fa B)) → FaOk n (Tw.fol B acc ps)
  | [], acc, h, _ => by rw [Tw.fol]; exact h
  | t :: r, acc, h, k => by
    rw [Tw.fol]
    exact fol_ok B r _ (bhF_ok h (k t List.mem_cons_self)) fun p hp => k p (List.mem_cons_of_mem _ hp)
theorem fa_ok {B : Book} {most : Int} {k : Nat} (hB : ∀ w ∈ B.ways, w.gs.length = k) : ∀ {n : Nat} {t : Tw}, OkT B most n t → FaOk k (t.fa B)
  | 0, .way j, h => by
    rw [Tw.fa]
    refine ⟨hB _ (wAt_mem h), by rw [List.length_map]; exact hB _ (wAt_mem h), fun x hx => ?_⟩
    obtain ⟨y, _, rfl⟩ := List.mem_map.mp hx
    exact mx2_le 0 _
  | n + 1, .way j, h => by
    rw [Tw.fa]
    refine ⟨hB _ (wAt_mem h), by rw [List.length_map]; exact hB _ (wAt_mem h), fun x hx => ?_⟩
    obtain ⟨y, _, rfl⟩ := List.mem_map.mp hx
    exact mx2_le 0 _
  | 0, .row _, h => h.elim
  | 0, .times _ _, h => h.elim
  | n + 1, .row ps, h => by
    obtain ⟨hne, _, hp⟩ := h
    rw [Tw.fa]
    cases ps with
    | nil => exact absurd rfl hne
    | cons t r =>
      rw [Tw.fas]
      exact fol_ok B r _ (fa_ok hB (hp t List.mem_cons_self)) fun p hq => fa_ok hB (hp p (List.mem_cons_of_mem _ hq))
  | n + 1, .times c t, h => by
    rw [Tw.fa]
    exact oftF_ok (fa_ok hB h.2) c
def gnL (B : Book) (n : Nat) (ps : List Tw) : List Int × List Int := ps.foldl (fun s t => bhL s ((t.fa B).gs, (t.fa B).ns)) (List.replicate n 0, List.replicate n 0)
theorem fol_gn (B : Book) : ∀ (ps : List Tw) (acc : Fa), ((Tw.fol B acc ps).gs, (Tw.fol B acc ps).ns) = ps.foldl (fun s t => bhL s ((t.fa B).gs, (t.fa B).ns)) (acc.gs, acc.ns)
  | [], acc => by rw [Tw.fol]; rfl
  | t :: r, acc => by
    rw [Tw.fol, fol_gn B r, List.foldl_cons]
    rfl
theorem bhL_zero : ∀ {gs ns : List Int}, gs.length = ns.length → (∀ x ∈ ns, 0 ≤ x) → bhL (List.replicate gs.length 0, List.replicate gs.length 0) (gs, ns) = (gs, ns)
  | [], [], _, _ => rfl
  | g :: gs, x :: ns, h, k => by
    have ih := bhL_zero (gs := gs) (ns := ns) (by simpa using h) fun y hy => k y (List.mem_cons_of_mem _ hy)
    have k0 := k x List.mem_cons_self
    unfold bhL addL at ih ⊢
    rw [List.length_cons, List.replicate_succ]
    simp only [List.map_cons, List.zip_cons_cons, List.zipWith_cons_cons] at ih ⊢
    injection ih with i1 i2
    rw [i1, i2, Int.zero_add, show mx2 0 (x - 0) = x from by unfold mx2; split <;> omega]
  | [], _ :: _, h, _ => by cases h
  | _ :: _, [], h, _ => by cases h
theorem gnL_row {B : Book} {n : Nat} {ps : List Tw} (h : ps ≠ []) (k : ∀ p ∈ ps, FaOk n (p.fa B)) : gnL B n ps = ((Tw.fa B (.row ps)).gs, (Tw.fa B (.row ps)).ns) := by
  cases ps with
  | nil => exact absurd rfl h
  | cons t r =>
    have f := k t List.mem_cons_self
    rw [Tw.fa, Tw.fas, fol_gn]
    unfold gnL
    rw [List.foldl_cons]
    have e := bhL_zero (gs := (t.fa B).gs) (ns := (t.fa B).ns) (by rw [f.g, f.l]) f.p
    rw [f.g] at e
    rw [e]
theorem addL_mem {xs ys : List Int} {z : Int} (h : z ∈ addL xs ys) : ∃ x ∈ xs, ∃ y ∈ ys, z = x + y := by
  unfold addL at h
  obtain ⟨i, hi, rfl⟩ := List.mem_iff_getElem.mp h
  rw [List.length_zipWith] at hi
  exact ⟨xs[i], List.getElem_mem _, ys[i], List.getElem_mem _, by rw [List.getElem_zipWith]⟩
end L3
end
section
namespace L3
open PySem L2
def WsIn (B : Book) : Prop := ∀ k, inW B k = true → (0 ≤ (wAt B k).a ∧ (wAt B k).a < B.rooms) ∧ 0 ≤ (wAt B k).b ∧ (wAt B k).b < B.rooms
theorem wsIn_ok {B : Book} {mr mw : Int} (h : B.Ok mr mw) : WsIn B := fun k hk => by
  have w := h.w _ (wAt_mem hk)
  exact ⟨⟨w.a0, w.a1⟩, w.b0, w.b1⟩
theorem OkT.mono {B : Book} {most : Int} {t : Tw} {n m : Nat} (h : OkT B most n t) (le : n ≤ m) : OkT B most m t := by
  obtain ⟨d, rfl⟩ := Nat.exists_eq_add_of_le le
  clear le
  induction d with
  | zero => exact h
  | succ d ih => exact ih.up
theorem OkT.more {B : Book} {most mo2 : Int} (le : most ≤ mo2) : ∀ {n : Nat} {t : Tw}, OkT B most n t → OkT B mo2 n t
  | 0, .way k, h => h
  | _ + 1, .way k, h => h
  | 0, .row _, h => h.elim
  | 0, .times _ _, h => h.elim
  | n + 1, .row ps, h => ⟨h.1, h.2.1, fun p hp => (h.2.2 p hp).more le⟩
  | n + 1, .times c t, h => ⟨⟨h.1.1, Int.le_trans h.1.2 le⟩, h.2.more le⟩
mutual
/-- a told walk leads from a room to a room -/
def ChT (B : Book) : Tw → Int → Int → Prop
  | .way k, a, b => inW B k = true ∧ (wAt B k).a = a ∧ (wAt B k).b = b
  | .row ps, a, b => ps ≠ [] ∧ ChTs B ps a b
  | .times n t, a, b => ChT B t a b ∧ (n = 1 ∨ a = b)
def ChTs (B : Book) : List Tw → Int → Int → Prop
  | [], a, b => a = b
  | t :: r, a, b => ∃ c, ChT B t a c ∧ ChTs B r c b
end
theorem ChTs.app {B : Book} {b c : Int} : ∀ {ps qs : List Tw} {a : Int}, ChTs B ps a b → ChTs B qs b c → ChTs B (ps ++ qs) a c
  | [], qs, a, h, k => by rw [ChTs] at h; subst h; exact k
  | t :: r, qs, a, h, k => by
    rw [ChTs] at h
    obtain ⟨d, h1, h2⟩ := h
    rw [List.cons_append, ChTs]
    exact ⟨d, h1, h2.app k⟩
theorem chTs_one {B : Book} {t : Tw} {a b : Int} (h : ChT B t a b) : ChTs B [t] a b := by
  rw [ChTs]
  exact ⟨b, h, by rw [ChTs]⟩
theorem chTs_path {B : Book} {b : Int} : ∀ {ns : List Int} {a : Int}, Pth B a ns b → ChTs B (ns.map Tw.way) a b
  | [], a, h => by rw [List.map_nil, ChTs]; exact h
  | k :: r, a, h => by
    rw [List.map_cons, ChTs]
    exact ⟨(wAt B k).b, by rw [ChT]; exact ⟨h.1, h.2.1, rfl⟩, chTs_path h.2.2⟩
mutual
theorem ChT.ab {B : Book} : ∀ {t : Tw} {a b : Int}, ChT B t a b → (t.fa B).a = a ∧ (t.fa B).b = b
  | .way k, a, b, h => by
    rw [ChT] at h
    rw [Tw.fa]
    exact ⟨h.2.1, h.2.2⟩
  | .row ps, a, b, h => by
    rw [ChT] at h
    rw [Tw.fa]
    obtain ⟨h0, h⟩ := h
    cases ps with
    | nil => exact absurd rfl h0
    | cons t r =>
      rw [ChTs] at h
      obtain ⟨c, h1, h2⟩ := h
      obtain ⟨e1, e2⟩ := h1.ab
      rw [Tw.fas]
      exact ⟨(fol_a B r _).trans e1, h2.fb e2⟩
  | .times n t, a, b, h => by
    rw [ChT] at h
    rw [Tw.fa]
    exact h.1.ab
theorem ChTs.fb {B : Book} : ∀ {ps : List Tw} {a b : Int} {acc : Fa}, ChTs B ps a b → acc.b = a → (Tw.fol B acc ps).b = b
  | [], a, b, acc, h, e => by rw [ChTs] at h; rw [Tw.fol, e, h]
  | t :: r, a, b, acc, h, e => by
    rw [ChTs] at h
    obtain ⟨c, h1, h2⟩ := h
    rw [Tw.fol]
    exact h2.fb (acc := bhF acc (t.fa B)) h1.ab.2
end
end L3
end
section
namespace L3
open PySem L2
structure TPg where
  a : Addr
  b : Addr
  left : Nat
/-- with so many draws left -/
def TPg.w (g : TPg) (n : Nat) : TPg := ⟨g.a, g.b, n⟩
def TAt (ta cl : Addr) (cells : List Int) (at_ rest : Int) (H : Hp) : Prop := H ta = some (.lst [.ref cl, .int at_, .int rest]) ∧ H cl = some (.lst (cells.map V.int)) ∧ ta ≠ cl
section
variable {ta cl : Addr} {cells : List Int} {s t : Int} {H H' : Hp}
theorem TAt.keep (j : TAt ta cl cells s t H) (e : ∀ b o, H b = some o → H' b = some o) : TAt ta cl cells s t H' := ⟨e _ _ j.1, e _ _ j.2.1, j.2.2⟩
theorem TAt.put {s' t' : Int} (j : TAt ta cl cells s t H) : TAt ta cl cells s' t' (upd H ta (.lst [.ref cl, .int s', .int t'])) := ⟨upd_same, by rw [upd_ne j.2.2.symm]; exact j.2.1, j.2.2⟩
end
theorem TPg.self {g : TPg} : g.w g.left = g := rfl
end L3
end
section
namespace L3
open PySem L2
theorem wAt_nat {B : Book} {k : Nat} (h : k < B.ways.length) : inW B (k : Int) = true := by simp [inW]; exact h
mutual
theorem Tw.lay : ∀ t : Tw, t.d.canLay0 = true
  | .way k => by
    rw [Tw.d, PyData.canLay0]
    simp [PyData.canLayAll0, PyData.canLay0]
    decide +kernel
  | .row ps => by
    rw [Tw.d, PyData.canLay0]
    simp [PyData.canLayAll0, PyData.canLay0]
    exact ⟨by decide +kernel, Tw.lays ps⟩
  | .times c t => by
    rw [Tw.d, PyData.canLay0]
    simp [PyData.canLayAll0, PyData.canLay0]
    exact ⟨by decide +kernel, Tw.lay t⟩
theorem Tw.lays : ∀ ps : List Tw, PyData.canLayAll0 (Tw.ds ps) = true
  | [] => by rw [Tw.ds]; rfl
  | t :: r => by
    rw [Tw.ds, PyData.canLayAll0, Tw.lay t, Tw.lays r]; rfl
end
end L3
namespace L3
open PySem L2
end L3
namespace L3
open PySem L2
theorem ds_depth {n : Nat} : ∀ {ps : List Tw}, (∀ p ∈ ps, p.d.depth ≤ n) → PyData.depthAll (Tw.ds ps) ≤ n := by
  intro ps h
  rw [Tw.ds_map]
  exact depthAll_of fun d hd => by
    obtain ⟨p, hp, rfl⟩ := List.mem_map.mp hd
    exact h p hp
theorem OkT.depth {B : Book} {most : Int} : ∀ {n : Nat} {t : Tw}, OkT B most n t → t.d.depth ≤ 2 * n + 1
  | n, .way k, _ => by
    rw [Tw.d, PyData.depth]
    simp [PyData.depthAll, PyData.depth]
  | 0, .row _, h => h.elim
  | 0, .times _ _, h => h.elim
  | n + 1, .row ps, h => by
    have := ds_depth fun p hp => OkT.depth (h.2.2 p hp)
    rw [Tw.d, PyData.depth]
    simp [PyData.depthAll, PyData.depth]
    omega
  | n + 1, .times c t, h => by
    have := OkT.depth h.2
    rw [Tw.d, PyData.depth]
    simp [PyData.depthAll, PyData.depth]
    omega
end L3
namespace L3
open PySem L2
end L3
namespace L3
open PySem L2
end L3
namespace L3
open PySem L2
def totD (ws hs : List Int) : PyData := .tuple [.tuple (ws.map PyData.int), .tuple (hs.map PyData.int)]
end L3
namespace L3
open PySem L2
/-- small things in a row -/
def All3 (ds : List PyData) : Prop := ∀ d ∈ ds, Nice 3 2000 d
theorem All3.app {xs ys : List PyData} (h : All3 xs) (k : All3 ys) : All3 (xs ++ ys) := fun d hd => (List.mem_append.mp hd).elim (h d) (k d)
theorem All3.cut {xs : List PyData} (h : All3 xs) (lo hi : Option Int) : All3 (L3.cutD xs lo hi) := fun d hd => h d (cutD_sub hd)
theorem All3.one {d : PyData} (h : Nice 3 2000 d) : All3 [d] := fun x hx => by cases List.mem_singleton.mp hx; exact h
theorem All3.zero : All3 [.int 0] := .one ((nice_small (by decide) (by decide)).mono (by decide) (by decide))
theorem All3.nil : All3 [] := fun _ h => nomatch h
theorem All3.ints {ns : List Int} (h : ∀ x ∈ ns, -1000 ≤ x ∧ x ≤ 1000) : All3 (ns.map PyData.int) := fun d hd => by
  obtain ⟨x, hx, rfl⟩ := List.mem_map.mp hd
  have := h x hx
  exact (nice_small (by omega) (by omega)).mono (by decide) (by decide)
theorem All3.tup {ds : List PyData} (h : All3 ds) (l : ds.length ≤ 30) : Nice 4 60063 (.tuple ds) := nice_tup h l
theorem All3.lst {ds : List PyData} (h : All3 ds) (l : ds.length ≤ 30) : Nice 4 60063 (.list ds) := nice_list h l
end L3
namespace L3
open PySem L2
/-- numbers of less than a hundred and thirty figures -/
def Big (x : Int) : Prop := x.natAbs < 2 ^ 400
theorem big_lt {x : Int} (h0 : -(2 ^ 399) ≤ x) (h1 : x ≤ 2 ^ 399) : Big x := by
  show x.natAbs < 2 ^ 400
  omega
def dotL (xs ys : List Int) : Int := ((xs.zip ys).map fun p => p.1 * p.2).sum
def fallL (B : Book) (ws hs : List Int) (k : Int) : Int := hs.getD (wAt B k).a.toNat 0 - hs.getD (wAt B k).b.toNat 0 - dotL ws (wAt B k).gs
def worthL (ws hs : List Int) (r : Int) (xs : List Int) : Int := hs.getD r.toNat 0 + dotL ws xs
theorem take_sum {α : Type} (f : α → Int) {L : List α} {k : Nat} {x : α} (h : L[k]? = some x) : ((L.take (k + 1)).map f).sum = ((L.take k).map f).sum + f x := by
  rw [List.take_add_one, h, List.map_append, List.sum_append]
  simp
end L3
namespace L3
open PySem L2
def everyW (n : Nat) : List Int := (List.range n).map fun k : Nat => (k : Int)
theorem everyW_mem {B : Book} {k : Int} (h : k ∈ everyW B.ways.length) : inW B k = true := by
  unfold everyW at h
  obtain ⟨i, hi, rfl⟩ := List.mem_map.mp h
  have := List.mem_range.mp hi
  simp [inW]; omega
theorem everyW_up (n : Nat) : (everyW n).Pairwise (· < ·) := by
  unfold everyW
  rw [List.pairwise_map]
  exact List.pairwise_lt_range.imp fun h => by omega
theorem everyW_len (n : Nat) : (everyW n).length = n := by simp [everyW]
end L3
end
section
namespace L3
open PySem PySem.Spec PyProof.Rows L2
variable {G : Type} {K : PySem.W.Frag} {X : Cx} {Z : Zx K G}
/-- the def as it stands, whatever its defaults -/
structure FunA (K : PySem.W.Frag) (x : Str) (st : Stmt) (fa : Addr) (fd : FuncData) : Prop where
  ex : ∃ (oc : Value) (od : Option Addr) (dV kV doc pm : Value) (an : Option Addr) (cdv ct : Value) (osl : Array (Option Value)),
    fd = PySem.W.fnOf x x (defArgs st) (defBody st) (defScope st) dV kV doc pm an cdv ct ∧ K.lookup fa = some ⟨oc, od, .func fd, osl⟩ ∧ PySem.W.codeIn K cdv x = true
  kp : PySem.W.keepIn K (.ref fa) = true
def DfnD (K : PySem.W.Frag) (mg : Str → Option Value) (x : Str) (s : Stmt) (ps : List Str) (dvs : List V) : Prop := ∃ fa fd, FunA K x s fa fd ∧ mg x = some (.ref fa) ∧ ∃ ds, Vals dvs ds ∧ Binds K fd ps ds
def OkD (P : Program) (w : World) (K : PySem.W.Frag) (mg : Str → Option Value) (base : Heap) (k : Nat) (x : Str) (ps : List Str) (dvs : List V) (sp : Sp) : Prop :=
  ∃ fa fd, mg x = some (.ref fa) ∧ PySem.W.keepIn K (.ref fa) = true ∧ (∃ ds, Vals dvs ds ∧ Binds K fd ps ds) ∧ FnG P w K mg base (L2.CX P w) k fa fd ps sp
section
variable {P : Program} {w : World} {mg : Str → Option Value} {base : Heap}
theorem OkD.up {j : Nat} {x : Str} {ps : List Str} {dvs : List V} {sp : Sp} (h : OkD P w K mg base j x ps dvs sp) {k : Nat} (hk : j ≤ k) : OkD P w K mg base k x ps dvs sp := by
  obtain ⟨fa, fd, h1, h2, h3, h4⟩ := h
  exact ⟨fa, fd, h1, h2, h3, h4.mono hk⟩
theorem funGD {CC : CXT} {x : Str} {st : Stmt} {fa : Addr} {fd : FuncData} {N qs : List Str} {n : Nat} {sp : Sp} (Fu : FunA K x st fa fd) (Sc : FnScope N qs (defScope st)) (len : ∀ us H Q E, sp us H Q E → us.length = qs.length)
    (body : ∀ (cdv : Value) (B : Around) (oe : List Env) (s : Shared) (H : Hp) (vs : List V) (Q : VK) (E : XK), RoomG n (B.deeper (PyProof.Rows.envOfC x (defScope st) s.heap.objs.size fa cdv)) → sp vs H Q E →
      ∃ t, PSs (cxOf CC P w K mg base N x (defScope st) fa cdv B oe s H E) (defBody st) t ∧ t { nx := fun _ H' => Q .non H', rt := Q } (L2.start N vs) H) : FnG P w K mg base CC (n + 1) fa fd qs sp := by
  obtain ⟨oc, od, dV, kV, doc, pm, an, cdv, ct, osl, rfl, lk, hcd⟩ := Fu.ex
  refine ⟨len, fun B oe s H as us vs Q E hr c0 hb r hsp => ?_⟩
  have vl := len _ _ _ _ hsp
  have kin : K.In s.heap := c0.mod.kin.keeps fun b o q => (c0.bs b o q).1
  have nol : s.heap.NoLimit := c0.mod.nolimit.keeps fun b o q => (c0.bs b o q).1
  have kinds : ∀ y ∈ qs.zip us, (defScope st).names.lookup y.1 = some .local ∨ ((defScope st).names.lookup y.1 = some .cell ∧ ((cellsFrom (s.heap.objs.size + 1) (defScope st).names []).lookup y.1).isSome = true) := fun ⟨m, v⟩ hy => by
    rcases Sc.par m (List.of_mem_zip hy).1 with q | q
    · exact .inl q
    · exact .inr ⟨q, PySem.W.cellsFrom_some _ _ _ (.inl q)⟩
  refine codeAny_call_function hr.rm.depth (kin _ _ lk) rfl Sc.co Sc.gen rfl (PySem.W.codeRec_of kin hcd) (hb _ _ _ _ ?_)
  refine wpAny_newFunctionEnv_cells Sc.kind kinds fun en he s1 y => ?_
  subst he
  refine ⟨nol.keeps y.toInCall.keep, codeAny_func ?_⟩
  obtain ⟨t, ht, hq⟩ := body cdv B oe s H vs Q E (hr.deeper _) hsp
  have J : Inv (cxOf CC P w K mg base N x (defScope st) fa cdv B oe s H E) [] (L2.start N vs) H s1 := inv_start Sc hr.rm.hd c0 vl r y
  refine wpAny_mono (ht.run [] s1 (L2.start N vs) H _ J hq) (fun fl s' hs => ?_) fun e s' hs => hs
  cases fl with
  | ret u => obtain ⟨v, σ', H', I, rv, q⟩ := hs; exact ⟨v, H', I.os, I.bare, I.base, I.hok, rv, q⟩
  | next => obtain ⟨σ', H', I, q⟩ := hs; exact ⟨.non, H', I.os, I.bare, I.base, I.hok, rfl, q⟩
  | brk => obtain ⟨_, _, _, q⟩ := hs; exact q.elim
  | cont => obtain ⟨_, _, _, q⟩ := hs; exact q.elim
theorem DfnD.ok {x : Str} {s : Stmt} {N ps : List Str} {dvs : List V} {k : Nat} {Z : Zx K G} {S : Spec G} (D : DfnD K mg x s ps dvs) (Sc : FnScope N ps (defScope s)) (hS : ∀ as g T U, S as g T U → as.length = ps.length) (hN : ps.length ≤ N.length)
    (body : ∀ (fa : Addr) (cdv : Value) (A : Around) (outer : List Env) (s' : Shared) (H : Hp) (E : XK), RoomG k (A.deeper (PyProof.Rows.envOfC x (defScope s) s'.heap.objs.size fa cdv)) →
      ∃ ts t, DSs (cxOf (L2.CX P w) P w K mg base N x (defScope s) fa cdv A outer s' H E).nox (Z.wish (fun _ _ _ _ => False) Un) (defBody s) ts t ∧ ∀ as g T U, S as g T U → t { nx := fun _ g' => T (.dt .none) g', rt := T } (entry N as) g) : OkD P w K mg base (k + 1) x ps dvs (spZ Z S) := by
  obtain ⟨fa, fd, Fu, hm, hb⟩ := D
  refine ⟨fa, fd, hm, Fu.kp, hb, funGD Fu Sc (fun vs H Q E h => ?_) (fun cdv A outer s H vs Q E hr h => ?_)⟩
  · obtain ⟨F, g, as, T, U, h1, h2, h3, h4, h5, _⟩ := h
    rw [argR_len h4]
    exact hS as g T U h5
  · obtain ⟨F, g, as, T, U, h1, h2, h3, h4, h5, h6, h7⟩ := h
    obtain ⟨ts, t, hd, hb⟩ := body fa cdv A outer s H E hr
    exact ⟨ts, hd.ps.nox, body3 h1 h2 h3 h4 (hS as g T U h5) hN (fun _ _ _ _ _ _ _ _ _ _ _ _ z => z.elim) h6 hd.sim (hb as g T U h5)⟩
end
end L3
end
section
namespace L3
open PySem L2
mutual
def Tw.op : Tw → List Int
  | .way k => [k]
  | .row ps => Tw.ops ps
  | .times n t => (List.replicate n.toNat t.op).flatten
def Tw.ops : List Tw → List Int
  | [] => []
  | t :: r => t.op ++ Tw.ops r
end
theorem op_ne {B : Book} {most : Int} : ∀ {n : Nat} {t : Tw}, OkT B most n t → t.op ≠ []
  | 0, .way j, h => by rw [Tw.op]; simp
  | _ + 1, .way j, h => by rw [Tw.op]; simp
  | 0, .row _, h => h.elim
  | 0, .times _ _, h => h.elim
  | n + 1, .row ps, h => by
    rw [Tw.op]
    obtain ⟨h0, _, h⟩ := h
    cases ps with
    | nil => exact absurd rfl h0
    | cons t r =>
      rw [Tw.ops]
      intro z
      exact op_ne (h t List.mem_cons_self) (List.append_eq_nil_iff.mp z).1
  | n + 1, .times c t, h => by
    rw [Tw.op]
    have hc := h.1.1
    have := op_ne h.2
    obtain ⟨m, hm⟩ : ∃ m, c.toNat = m + 1 := ⟨c.toNat - 1, by omega⟩
    rw [hm, List.replicate_succ, List.flatten_cons]
    intro z
    exact this (List.append_eq_nil_iff.mp z).1
end L3
namespace L3
open PySem L2
end L3
namespace L3
open PySem L2
end L3
end
section
namespace L3
open PySem L2
end L3
end
section
namespace L3
open PySem PySem.Spec PyProof.Rows L2
/-- a def called where an error is at hand, which it is told (p is the error) -/
def FnK (P : Program) (w : World) (K : PySem.W.Frag) (mg : Str → Option Value) (base : Heap) (n : Nat) (fa : Addr) (fd : FuncData) (qs : List Str) (sp : Addr × Obj → Sp) : Prop :=
  ∀ (p : Addr × Obj) (B : Around) (oe : List Env) (s : Shared) (H : Hp) (as : Args) (us : List Value) (vs : List V) (Q : VK), L2H.RoomH n B → L2H.PinOk oe H s p → Env0 P w K mg base B oe s H → BindsTo s fd as (qs.zip us) → Vals vs us → us.length = qs.length → sp p vs H Q E0 →
    codeAny (model P w) B (.call (.ref fa) as) (CR (L2.CX P w) oe P w H s Q E0) s
theorem funK {P : Program} {w : World} {K : PySem.W.Frag} {mg : Str → Option Value} {base : Heap} {x : Str} {st : Stmt} {fa : Addr} {fd : FuncData} {N qs : List Str} {n : Nat} {sp : Addr × Obj → Sp} (Fu : Fun K x x st fa fd) (Sc : FnScope N qs (defScope st))
    (body : ∀ (p : Addr × Obj) (cdv : Value) (B : Around) (oe : List Env) (s : Shared) (H : Hp) (vs : List V) (Q : VK), L2H.RoomH n (B.deeper (PyProof.Rows.envOfC x (defScope st) s.heap.objs.size fa cdv)) → sp p vs H Q E0 →
      ∃ t, PSs (L2H.cxH (L2.CX P w) P w K mg base N x (defScope st) fa cdv B oe s H E0 p) (defBody st) t ∧ t { nx := fun _ H' => Q .non H', rt := Q } (L2.start N vs) H) : FnK P w K mg base (n + 1) fa fd qs sp := by
  obtain ⟨oc, od, kV, doc, pm, an, cdv, ct, osl, rfl, lk, hcd⟩ := Fu.ex
  intro p B oe s H as us vs Q hr hpin c0 hb r hlen hsp
  have vl : vs.length = qs.length := by rw [r.length]; exact hlen
  have kin : K.In s.heap := c0.mod.kin.keeps fun b o q => (c0.bs b o q).1
  have nol : s.heap.NoLimit := c0.mod.nolimit.keeps fun b o q => (c0.bs b o q).1
  have kinds : ∀ y ∈ qs.zip us, (defScope st).names.lookup y.1 = some .local ∨ ((defScope st).names.lookup y.1 = some .cell ∧ ((cellsFrom (s.heap.objs.size + 1) (defScope st).names []).lookup y.1).isSome = true) := fun ⟨m, v⟩ hy => by
    rcases Sc.par m (List.of_mem_zip hy).1 with q | q
    · exact .inl q
    · exact .inr ⟨q, PySem.W.cellsFrom_some _ _ _ (.inl q)⟩
  refine codeAny_call_function hr.depth (kin _ _ lk) rfl Sc.co Sc.gen rfl (PySem.W.codeRec_of kin hcd) (hb _ _ _ _ ?_)
  refine wpAny_newFunctionEnv_cells Sc.kind kinds fun en he s1 y => ?_
  subst he
  refine ⟨nol.keeps y.toInCall.keep, codeAny_func ?_⟩
  obtain ⟨t, ht, hq⟩ := body p cdv B oe s H vs Q (hr.deeper _) hsp
  have J : Inv (L2H.cxH (L2.CX P w) P w K mg base N x (defScope st) fa cdv B oe s H E0 p) [] (L2.start N vs) H s1 := L2H.inv_startH Sc hpin c0 vl r y
  refine wpAny_mono (ht.run [] s1 (L2.start N vs) H _ J hq) (fun fl s' hs => ?_) fun e s' hs => hs
  cases fl with
  | ret u => obtain ⟨v, σ', H', I, rv, q⟩ := hs; exact ⟨v, H', I.os, I.bare, I.base, I.hok, rv, q⟩
  | next => obtain ⟨σ', H', I, q⟩ := hs; exact ⟨.non, H', I.os, I.bare, I.base, I.hok, rfl, q⟩
  | brk => obtain ⟨_, _, _, q⟩ := hs; exact q.elim
  | cont => obtain ⟨_, _, _, q⟩ := hs; exact q.elim
/-- an error's dict, where it has one -/
def DX (H : Hp) (d : Option Addr) : Prop := d = none ∨ ∃ dd vs, d = some dd ∧ H dd = some (.xd vs)
theorem DX.keep {H H' : Hp} {d : Option Addr} (h : DX H d) (k : ∀ b o, H b = some o → H' b = some o) : DX H' d := by
  rcases h with h | ⟨dd, vs, h1, h2⟩
  · exact .inl h
  · exact .inr ⟨dd, vs, h1, k _ _ h2⟩
def rIsP (K : PySem.W.Frag) (D : Addr) (d : Option Addr) (a : Addr) : List V → Hp → VK → Prop := fun xs H Q => ∃ (c : V) (cv : Value) (b : Bool), xs = [.ref a, c] ∧ (∀ u, RelV c u → u = cv) ∧ PySem.W.kitOne K (.ref D) cv = some b ∧ DX H d ∧ Q (.bl b) H
theorem call_isP2 {X : Cx} {p : Addr × Obj} {D : Addr} {d : Option Addr} (C : ExcC X.K D) (hp : p ∈ X.pn) (hz : Zc (.ref D) d p.2) (hf : ∃ vs, p.2.data = .fields vs) : CallR X (.builtin "isinstance") (rIsP X.K D d p.1) := fun pins s σ H xs us Q I r h => by
  obtain ⟨c, cv, b, rfl, hcv, e, hd, q⟩ := h
  match us, r with
  | [_, _], .cons rx (.cons rt .nil) =>
    cases rx
    cases hcv _ rt
    have hget := (I.pin p (List.mem_append_left _ hp)).1
    obtain ⟨vs, hv⟩ := hf
    obtain ⟨pa, oc, d0, oda, osl⟩ := p
    obtain ⟨h1, h2⟩ := hz
    dsimp only at h1 h2 hv
    subst h1 h2 hv
    have J : ∃ od, PySem.W.InstAt s.heap pa { cls := .ref D, dict := d0, data := .fields vs, slots := osl } D od := by
      rcases hd with rfl | ⟨dd, ws, rfl, hx⟩
      · exact ⟨none, hget, rfl, rfl, trivial⟩
      · have hx : ObjOk X.prog X.w H s.heap dd (.xd ws) := I.hok dd _ hx
        obtain ⟨mA, hns, _⟩ := hx
        obtain ⟨o, ho, _⟩ := lookIn_ns hns
        exact ⟨some o, hget, rfl, rfl, ho⟩
    obtain ⟨od, J⟩ := J
    obtain ⟨cdD, hcD, _⟩ := PySem.W.any_some C.hd
    exact PySem.W.kia_one (PySem.W.kitx_exc (by rw [hcD]; rfl) C.hg C.hk C.hs C.ha C.hn C.ht C.hm) I.kIn J e (fun z => nomatch z) fun tk => ⟨.bl b, H, I.kept (t' := tk) fun _ _ z => z, rfl, q⟩
/-- the classes that a law asks for, in their order -/
def kindNs : List Str := ["NoWay", "NoRound", "NoRing", "NoPurse", "NoEnd", "NoStand", "TooMany", "NoLine", "NoRow"]
/-- what isinstance tells of a class's instances -/
structure KindsOf (K : PySem.W.Frag) (mg : Str → Option Value) (D : Addr) (f : Str → Bool) : Prop where
  k : ∀ x ∈ kindNs, PySem.W.kitOne K (.ref D) (cv mg x) = some (f x)
  v : PySem.W.kitOne K (.ref D) (.type "ValueError") = some true
def kindL (f : Str → Bool) : List Bool := kindNs.map f ++ [true]
def spKinds (K : PySem.W.Frag) (mg : Str → Option Value) : Addr × Obj → Sp := fun p vs H Q _ => vs = [.ref p.1] ∧ ∃ (D : Addr) (f : Str → Bool) (d : Option Addr), ExcC K D ∧ Zc (.ref D) d p.2 ∧ (∃ fs, p.2.data = .fields fs) ∧ DX H d ∧ KindsOf K mg D f ∧
  ∀ (H' : Hp) (l : Addr), (∀ b o, H b = some o → H' b = some o) → H l = none → H' l = some (.lst ((kindL f).map V.bl)) → Q (.ref l) H'
/-- a def that keeps such a promise -/
def OkK (P : Program) (w : World) (K : PySem.W.Frag) (mg : Str → Option Value) (base : Heap) (k : Nat) (x : Str) (ps : List Str) (sp : Addr × Obj → Sp) : Prop :=
  ∃ fa fd, mg x = some (.ref fa) ∧ PySem.W.keepIn K (.ref fa) = true ∧ Binds K fd ps [] ∧ FnK P w K mg base k fa fd ps sp
theorem OkK.up {P : Program} {w : World} {K : PySem.W.Frag} {mg : Str → Option Value} {base : Heap} {j : Nat} {x : Str} {ps : List Str} {sp : Addr × Obj → Sp} (h : OkK P w K mg base j x ps sp) {k : Nat} (hk : j ≤ k) : OkK P w K mg base k x ps sp := by
  obtain ⟨fa, fd, h1, h2, h3, h4⟩ := h
  exact ⟨fa, fd, h1, h2, h3, fun p B oe s H as us vs Q hr => h4 p B oe s H as us vs Q (hr.mono hk)⟩
theorem isE_pe2 {X : Cx} {p : Addr × Obj} {D : Addr} {d : Option Addr} {x : Str} {px pp pos : Pos} {C : Addr} (c : ExcC X.K D) (hp : p ∈ X.pn) (hz : Zc (.ref D) d p.2) (hf : ∃ vs, p.2.data = .fields vs) (z : X.mg "isinstance" = none) (hx : X.mg x = some (.ref C)) {y : Str} {py : Pos} {te : TE} (he : PE X (.Name y py) te)
    (hg : Gl X "isinstance" := by rfl) (hg2 : Gl X x := by rfl) (hd : (x == ("__debug__" : Str)) = false := by decide) :
    PE X (.Call (.Name "isinstance" pp) [.Name y py, .Name x px] [] pos) (tCB (rIsP X.K D d p.1) (tCons te (tCons (tC (.ref C)) tNil))) :=
  pe_callB (call_isP2 c hp hz hf) hg z rfl (pa_cons he (pa_cons (pe_glob hg2 hx rfl hd) pa_nil))
theorem isT_pe2 {X : Cx} {p : Addr × Obj} {D : Addr} {d : Option Addr} {x : Str} {n : String} {px pp pos : Pos} (c : ExcC X.K D) (hp : p ∈ X.pn) (hz : Zc (.ref D) d p.2) (hf : ∃ vs, p.2.data = .fields vs) (z : X.mg "isinstance" = none) (hx : X.mg x = none) (hb : bootBuiltins x = some (.type n)) {y : Str} {py : Pos} {te : TE} (he : PE X (.Name y py) te)
    (hg : Gl X "isinstance" := by rfl) (hg2 : Gl X x := by rfl) (hn : x ≠ "__name__" := by decide) (hd : (x == ("__debug__" : Str)) = false := by decide) :
    PE X (.Call (.Name "isinstance" pp) [.Name y py, .Name x px] [] pos) (tCB (rIsP X.K D d p.1) (tCons te (tCons (tC (.ty n)) tNil))) :=
  pe_callB (call_isP2 c hp hz hf) hg z rfl (pa_cons he (pa_cons (pe_bltn hg2 hx hb (show Value.type n = Value.type n from rfl) hn hd) pa_nil))
/-- kinds(e), e what is caught -/
def tKinds (K : PySem.W.Frag) (mg : Str → Option Value) (p : Addr × Obj) (te : TE) : TE := fun σ H Q => te σ H fun v H1 => spKinds K mg p [v] H1 Q E0
theorem pe_kinds {X : Cx} {k : Nat} {x q : Str} {pp pos : Pos} {p : Addr × Obj} {y : Str} {py : Pos} {te : TE} (F : OkK X.prog X.w X.K X.mg X.base k x [q] (spKinds X.K X.mg)) (hr : L2H.RoomH k X.A) (hp : p ∈ X.pn) (he : PE X (.Name y py) te) (hg : Gl X x := by rfl) (hdb : (x == ("__debug__" : Str)) = false := by decide) : PE X (.Call (.Name x pp) [.Name y py] [] pos) (tKinds X.K X.mg p te) := by
  obtain ⟨fa, fd, hm, hk, hb, Fk⟩ := F
  refine ⟨fun pins s σ H Q I h => wpAny_Call_Name_kw (ld_glob I hg hm ?_ hdb)⟩
  refine PySem.W.callWith_K (h₀ := X.base) I.ok.mod.kin hk (thn ((pa_cons he pa_nil).run pos pins s σ H (fun vs H1 => spKinds X.K X.mg p vs H1 Q E0) I h) fun us s1 ⟨vs, H1, I1, r, hq⟩ => ⟨I1.kIn, ?_⟩) (by rfl) (by rfl)
  have hl : us.length = [q].length := by
    rw [← r.length]
    obtain ⟨rfl, _⟩ := hq
    rfl
  have b := hb s1 us I1.kIn (by rw [List.append_nil]; exact hl)
  rw [List.append_nil] at b
  have pi := I1.pin p (List.mem_append_left _ hp)
  have hpin : L2H.PinOk X.stack H1 s1 p := ⟨pi.1, pi.2.1, fun hm => (List.mem_cons.mp (I1.stkSub p.1 hm)).elim pi.2.2.1 pi.2.2.2.1, pi.2.2.2.2⟩
  refine wpAny_call (codeAny_mono (Fk p X.A X.stack s1 H1 ⟨us, []⟩ us vs Q hr hpin I1.env0 b r hl hq) fun res s' hh => ?_)
  cases res with
  | error er => exact passN (σ := σ) pins H1 s1 er s' I1 hh
  | ok fl =>
    cases fl with
    | ret u => exact I1.after hh
    | next => exact hh.elim
    | brk => exact hh.elim
    | cont => exact hh.elim
end L3
end
section
namespace L3
open PySem L2
variable {G : Type} {K : PySem.W.Frag} {X : Cx} {Z : Zx K G}
/-- what is told of a class -/
def KOk (K : PySem.W.Frag) (mg : Str → Option Value) (c : Value) (k : List Bool → Prop) : Prop := ∃ (D : Addr) (f : Str → Bool), c = .ref D ∧ ExcC K D ∧ KindsOf K mg D f ∧ k (kindL f)
def dTryK (K : PySem.W.Frag) (mg : Str → Option Value) (y : Str) (ie ik : Nat) (U : UX G) (db : UX G → DS G) : DS G := fun D ρ g =>
  db (fun c fs ρ' g' => (fs = [] ∧ Takes1 K mg c y true ∧ KOk K mg c fun bs => ltK ie ρ'.length (ltK ik ρ'.length (D.nx ((ρ'.set ie .un).set ik (.ls (bs.map PyData.bool))) g'))) ∨ (Takes1 K mg c y false ∧ U c fs ρ' g')) D ρ g
/-- the suite: kinds = f(e) -/
def tsK (K : PySem.W.Frag) (mg : Str → Option Value) (ie ik : Nat) (a : Addr) (cls : Value) (d : Option Addr) : TS := fun D σ H => ∃ (Dd : Addr) (f : Str → Bool), cls = .ref Dd ∧ d = none ∧ ExcC K Dd ∧ KindsOf K mg Dd f ∧ σ[ie]? = some (some (.ref a)) ∧
  ∀ (H' : Hp) (l : Addr), (∀ b o, H b = some o → H' b = some o) → H l = none → H' l = some (.lst ((kindL f).map V.bl)) → D.nx (σ.set ik (some (.ref l))) H'
theorem bools_da {K : PySem.W.Frag} {F : Hp} : ∀ bs : List Bool, DaAll K F (bs.map V.bl) (bs.map PyData.bool)
  | [] => .nil
  | b :: r => .cons (.bl b) (bools_da r)
theorem Rel.unset {f : Fx} {F : Hp} {ad : Nat → Addr} {ρ : En} {g : G} {σ : St} {H : Hp} (R : Rel Z f F ad ρ g σ H) (i : Nat) (x : Option V) : Rel Z f F ad (ρ.set i .un) g (σ.set i x) H := by
  refine ⟨⟨R.fin, by rw [List.length_set, List.length_set]; exact R.len, fun j s hj => ?_, fun j k s t hj hk hs ht => ?_⟩, R.lx⟩
  · by_cases e : i = j
    · subst e
      have hl := (List.getElem?_eq_some_iff.mp hj).1
      rw [List.length_set] at hl
      rw [List.getElem?_set_self hl] at hj
      cases hj
      trivial
    · rw [List.getElem?_set_ne e] at hj
      have q := R.slot j s hj
      cases s with
      | un => trivial
      | dt d => obtain ⟨w, q1, q2⟩ := q; exact ⟨w, by rw [List.getElem?_set_ne e]; exact q1, q2⟩
      | ls ds => exact ⟨by rw [List.getElem?_set_ne e]; exact q.1, q.2⟩
      | dk ds => exact ⟨by rw [List.getElem?_set_ne e]; exact q.1, q.2⟩
      | rs n => unfold Slo at q ⊢; rw [List.getElem?_set_ne e]; exact q
      | vv u => unfold Slo at q ⊢; rw [List.getElem?_set_ne e]; exact q
  · have own : ∀ {m : Nat} {x : Sl}, (ρ.set i .un)[m]? = some x → x.own = true → ρ[m]? = some x := fun {m x} hm hx => by
      by_cases e : i = m
      · subst e
        have hl := (List.getElem?_eq_some_iff.mp hm).1
        rw [List.length_set] at hl
        rw [List.getElem?_set_self hl] at hm
        cases hm
        cases hx
      · rw [List.getElem?_set_ne e] at hm; exact hm
    exact R.inj j k s t (own hj hs) (own hk ht) hs ht
/-- an own list that has come to stand at l -/
theorem Rel.come {f : Fx} {F : Hp} {ad : Nat → Addr} {ρ : En} {g : G} {σ : St} {H H' : Hp} (R : Rel Z f F ad ρ g σ H) {i : Nat} (hi : i < σ.length) {l : Addr} {vs : List V} {ds : List PyData} (k : ∀ b o, H b = some o → H' b = some o) (n : H l = none) (h : H' l = some (.lst vs)) (d : DaAll K F vs ds) :
    Rel Z f F (adS ad i l) (ρ.set i (.ls ds)) g (σ.set i (some (.ref l))) H' := by
  have ow := R.fin.own n
  refine (R.grown k).setSl ⟨by rw [List.getElem?_set_self hi, adS_same], by rw [adS_same]; exact ow, vs, by rw [adS_same]; exact h, d⟩ fun _ j t hj ht _ e => ?_
  have q := R.slot j t hj
  cases t with
  | ls ds => obtain ⟨_, _, ws, q3, _⟩ := q; rw [e, n] at q3; cases q3
  | dk ds => obtain ⟨_, _, ws, q3, _⟩ := q; rw [e, n] at q3; cases q3
  | _ => cases ht
theorem s_tryK {W : WXH} {U : UX G} {k : Nat} {y n kn fn q : Str} (ie ik : Nat) {body : List Stmt} {np p1 p2 p3 p4 p5 pos pos2 : Pos} {db : UX G → DS G} (e : ExX X.K X.mg y) (tk : Takes X W) (F : OkK X.prog X.w X.K X.mg X.base k fn [q] (spKinds X.K X.mg)) (hr : RoomG k X.A)
    (hb : ∀ (W' : WXH) (U' : UX G) (pn : List (Addr × Obj)) (xe : Value → Shared → Prop), Takes (X.tr pn xe) W' → PassesOwn (model X.prog X.w) X.A X.env xe → ∃ ts, DSs (X.tr pn xe) (Z.wish W' U') body ts (db U'))
    (hN : X.N.Nodup) (hne : ie ≠ ik := by decide) (hie : X.N[ie]? = some n := by rfl) (hik : X.N[ik]? = some kn := by rfl) (hln : X.env.kindOf n = some .local := by rfl) (hlk : X.env.scope.names.lookup kn = some .local := by rfl) (hgf : Gl X fn := by rfl) (hdf : (fn == ("__debug__" : Str)) = false := by decide)
    (hdn : (n == ("__debug__" : Str)) = false := by decide) (hcn : (n == ("__classdict__" : Str)) = false := by decide) (hv : Vis X.env.scope n := by first | exact Or.inl rfl | exact Or.inr (Or.inl rfl) | exact Or.inr (Or.inr rfl))
    (hK : K = X.K := by rfl) (hs : X.stack = X.env :: X.outer := by rfl) (hf : X.env.frame = some X.env.locals := by rfl) (hg : Gl X y := by rfl) (hdb : (y == ("__debug__" : Str)) = false := by decide)
    (hsw : swapsWith (.Call (.Name fn p2) [.Name n p3] [] p4) (some (.Name kn p1)) p5.line X.env = pure false := by rfl) :
    DSt X (Z.wish W U) (.Try body [.ExceptHandler (some (.Name y np)) (some n) [.Assign [.Name kn p1] (.Call (.Name fn p2) [.Name n p3] [] p4) p5] pos] [] [] pos2)
      (fun D σ H => (fun W' : WXH => fun D σ H => ∃ U', dTS (Z.wish W' U') (db U') D σ H) (wAs X.K (cv X.mg y) ie (tsK X.K X.mg ie ik) W D) D σ H) (dTryK K X.mg y ie ik U db) := by
  subst hK
  obtain ⟨C, h1, _⟩ := e.ex
  refine ⟨ps_try_as (tb := fun W' D σ H => ∃ U', dTS (Z.wish W' U') (db U') D σ H) hs hf hN hie hln ⟨hg, hdb, .inl (by rw [cv_of h1]; exact h1)⟩ tk (fun W' pn xe tk' po => ⟨fun pins s σ H D I q => ?_⟩) (fun a oe cls d pn hz hv2 => ?_), fun f F0 ad ρ g σ H D R h D2 le => ?_⟩
  · obtain ⟨U', q⟩ := q
    obtain ⟨ts, hd⟩ := hb W' U' pn xe tk' po
    exact (DSs.imp hd).run pins s σ H D I q
  · have hrH : L2H.RoomH k (X.suite a ((a, oe) :: pn)).A := ⟨hr.rm.dp, hr.rm.un⟩
    have P1 := pss_one (ps_set (X := X.suite a ((a, oe) :: pn)) (i := ik) hN hik (.inl hlk) (pe_kinds (X := X.suite a ((a, oe) :: pn)) (p := (a, oe)) F hrH List.mem_cons_self (pe_var (X := X.suite a ((a, oe) :: pn)) hie hv hdn hcn) hgf hdf) hsw (.inr hlk))
    refine ⟨fun pins s σ H D I q => P1.run pins s σ H D I ?_⟩
    obtain ⟨Dd, ff, rfl, rfl, c, kk, hσ, hq⟩ := q
    exact ⟨.ref a, hσ, rfl, Dd, ff, none, c, hz, hv2, .inl rfl, kk, hq⟩
  · have lx : LeX (Z.wish (wAs X.K (cv X.mg y) ie (tsK X.K X.mg ie ik) W D2) (fun c fs ρ' g' => (fs = [] ∧ Takes1 X.K X.mg c y true ∧ KOk X.K X.mg c fun bs => ltK ie ρ'.length (ltK ik ρ'.length (D.nx ((ρ'.set ie .un).set ik (.ls (bs.map PyData.bool))) g'))) ∨ (Takes1 X.K X.mg c y false ∧ U c fs ρ' g'))) f (Z.ra g) := fun F' ad' ρ' g' σ' H' c dx fs er R' hx hu => by
      rcases hu with ⟨e0, t1, Dd, ff, rfl, ec, kk, hq⟩ | ⟨t1, h2⟩
      · obtain ⟨l1, hq⟩ := ltK_e hq
        obtain ⟨l2, hq⟩ := ltK_e hq
        have hd : dx = none := by
          rcases hx with ⟨_, z⟩ | ⟨_, _, z, _⟩
          · exact z
          · exact absurd e0 z
        have s1 : ie < σ'.length := by rw [← R'.len]; exact l1
        have s2 : ik < σ'.length := by rw [← R'.len]; exact l2
        refine ⟨true, t1, fun _ a ha => ⟨Dd, ff, rfl, hd, ec, kk, by rw [List.getElem?_set_self s1], fun H2 l k2 n2 h2 => ?_⟩, fun z => by cases z⟩
        have R2 : Rel (Z.wish W U) f F' ad' ρ' g' σ' H' := ⟨R'.wish, by rw [show (Z.wish W U).ra g' = (Z.wish W U).ra g from er]; exact R.lx⟩
        have R3 := (R2.unset ie none).come (i := ik) (by rw [List.length_set]; exact s2) k2 n2 h2 (bools_da (kindL ff))
        have es : ((σ'.set ie (some (.ref a))).set ik (some (.ref l))).set ie none = (σ'.set ie none).set ik (some (.ref l)) := by
          rw [List.set_comm _ _ (Ne.symm hne), List.set_set]
        show D2.nx _ H2
        rw [es]
        exact le.nx F' _ _ g' _ H2 er R3 hq
      · exact ⟨false, t1, fun z => (by cases z), fun _ => R.lx F' ad' ρ' g' σ' H' c dx fs er R'.wish hx h2⟩
    exact ⟨_, f, F0, ad, ρ, g, D, R.wish lx, h, le.wish R.lx⟩
end L3
end
section
namespace L3
open PySem L2
variable {G : Type} {K : PySem.W.Frag} {X : Cx} {Z : Zx K G}
/-- a class that is of its own kind alone -/
def KX (K : PySem.W.Frag) (mg : Str → Option Value) (x : Str) : Prop := ∃ D, cv mg x = .ref D ∧ ExcC K D ∧ KindsOf K mg D (fun y => y == x)
theorem KX.ok {mg : Str → Option Value} {x : Str} (h : KX K mg x) {k : List Bool → Prop} (q : k (kindL fun y => y == x)) : KOk K mg (cv mg x) k := by
  obtain ⟨D, h1, h2, h3⟩ := h
  exact ⟨D, _, h1, h2, h3, q⟩
theorem holdAll_bools {h : Heap} : ∀ {bs : List Bool} {us : List Value}, Vals (bs.map V.bl) us → PySem.W.HoldAll h us bs
  | [], _, .nil => .nil
  | b :: bs, _, .cons r rs => by
    cases r
    exact .cons (PySem.W.holds_bool b) (holdAll_bools rs)
def bbU (k : Bool → Prop) : Option PyData → Prop
  | some (.bool i) => k i
  | _ => False
theorem bbU_of {k : Bool → Prop} {a : Option PyData} (h : bbU k a) : ∃ i, a = some (.bool i) ∧ k i := by
  unfold bbU at h
  split at h
  · exact ⟨_, rfl, h⟩
  · cases h
def rCntB (K : PySem.W.Frag) : V → List V → Hp → VK → Prop := fun x vs H Q => ∃ (a : Addr) (ns : List Bool) (i : Bool), x = .ref a ∧ vs = [.bl i] ∧ SqL K H a (ns.map V.bl) ∧ Q (.int ((ns.count i : Nat) : Int)) H
def rIdxB (K : PySem.W.Frag) : V → List V → Hp → VK → Prop := fun x vs H Q => ∃ (a : Addr) (ns : List Bool) (i : Bool), x = .ref a ∧ vs = [.bl i] ∧ SqL K H a (ns.map V.bl) ∧ i ∈ ns ∧ ns.length ≤ sizeLine ∧ Q (.int ((ns.idxOf i : Nat) : Int)) H
theorem mt_cntB (hu : X.A.units + 64 < cLine) : MtR X "list.count" (rCntB X.K) := by
  intro pins s σ H x xs v us Q I rx rxs h
  obtain ⟨a, ns, i, rfl, rfl, hs, q⟩ := h
  cases rx
  obtain ⟨u, rfl, ru⟩ := rxs.one
  cases ru
  obtain ⟨its, rv, hl, _⟩ := I.list hs
  refine PySem.W.count_list_datum hl.isList (by simpa using holdAll_bools rv) (PySem.W.holds_bool i) (by show X.A.units + 1 + 0 < _; omega) ?_
  have e : (ns.countP fun y => decide (y = i)) = ns.count i := by
    unfold List.count
    congr 1
  refine ⟨.int _, H, I.tok _, ⟨_, rfl⟩, ?_⟩
  rw [e]
  exact q
theorem mt_idxB (hu : X.A.units + 64 < cLine) : MtR X "list.index" (rIdxB X.K) := by
  intro pins s σ H x xs v us Q I rx rxs h
  obtain ⟨a, ns, i, rfl, rfl, hs, hm, hn, q⟩ := h
  cases rx
  obtain ⟨u, rfl, ru⟩ := rxs.one
  cases ru
  obtain ⟨its, rv, hl, _⟩ := I.list hs
  refine PySem.W.index_list_datum hl.isList (holdAll_bools rv) (PySem.W.holds_bool i) (by show X.A.units + 1 + 0 < _; omega) hn hm ?_
  exact ⟨.int _, H, I.tok _, ⟨_, rfl⟩, q⟩
def dCntB (a b : DT G) : DT G := fun ρ g Q => a ρ g fun r1 ρ1 g1 => lsD (fun _ => b ρ1 g1 fun r2 ρ2 g2 => lsD (fun ds => opK (boolsL ds) fun ns => bbU (fun i => Q (.dt (.int ((ns.count i : Nat) : Int))) ρ2 g2) (rd r2 ρ2)) (rd (st r1) ρ2)) (rd r1 ρ1)
def dIdxB (a b : DT G) : DT G := fun ρ g Q => a ρ g fun r1 ρ1 g1 => lsD (fun _ => b ρ1 g1 fun r2 ρ2 g2 => lsD (fun ds => opK (boolsL ds) fun ns => bbU (fun i => i ∈ ns ∧ ns.length ≤ sizeLine ∧ Q (.dt (.int ((ns.idxOf i : Nat) : Int))) ρ2 g2) (rd r2 ρ2)) (rd (st r1) ρ2)) (rd r1 ρ1)
theorem sim_cntB {ta : TE} {tb : TA} {tb' : TE} {a b : DT G} (ha : Sim Z ta a) (hb : Sim Z tb' b) (e : tb = fun σ H Q => tb' σ H fun x H1 => Q [x] H1) : Sim Z (tBM K "list" (rCntB K) ta tb) (dCntB a b) := fun f F ad ρ g σ H Q R h P hP => by
  subst e
  refine ha f F ad ρ g σ H _ R h _ fun x H1 q => ?_
  obtain ⟨F1, ad1, ρ1, g1, r1, e1, eg1, R1, v1, q⟩ := q
  obtain ⟨ds0, e0, q⟩ := lsD_of q
  obtain ⟨a0, vs0, rfl, ha0, da0⟩ := R1.items v1 e0
  obtain ⟨F1', e1', R1', v1'⟩ := R1.hst v1
  refine ⟨.inl ⟨rfl, _, .inl (.inl ha0)⟩, hb f F1' ad1 ρ1 g1 σ H1 _ R1' q _ fun y H2 q2 => ?_⟩
  obtain ⟨F2, ad2, ρ2, g2, r2, e2, eg2, R2, v2, q⟩ := q2
  obtain ⟨ds, ed, q⟩ := lsD_of q
  obtain ⟨ns, ei, q⟩ := opK_e q
  obtain ⟨i, en, q⟩ := bbU_of q
  obtain ⟨a1, vs1, ea, ha1, da1⟩ := R2.items (v1'.held e2 eg2) ed
  cases ea
  rw [boolsL_of ei] at da1
  have ev := daAll_bools da1
  subst ev
  exact ⟨a0, ns, i, rfl, by rw [R2.rBool v2 en], .inl (.inl ha1), hP _ _ ((R2.dat (.int _) q).mono ((e1.trans e1').trans e2) (eg2.trans eg1))⟩
theorem sim_idxB {ta : TE} {tb : TA} {tb' : TE} {a b : DT G} (ha : Sim Z ta a) (hb : Sim Z tb' b) (e : tb = fun σ H Q => tb' σ H fun x H1 => Q [x] H1) : Sim Z (tBM K "list" (rIdxB K) ta tb) (dIdxB a b) := fun f F ad ρ g σ H Q R h P hP => by
  subst e
  refine ha f F ad ρ g σ H _ R h _ fun x H1 q => ?_
  obtain ⟨F1, ad1, ρ1, g1, r1, e1, eg1, R1, v1, q⟩ := q
  obtain ⟨ds0, e0, q⟩ := lsD_of q
  obtain ⟨a0, vs0, rfl, ha0, da0⟩ := R1.items v1 e0
  obtain ⟨F1', e1', R1', v1'⟩ := R1.hst v1
  refine ⟨.inl ⟨rfl, _, .inl (.inl ha0)⟩, hb f F1' ad1 ρ1 g1 σ H1 _ R1' q _ fun y H2 q2 => ?_⟩
  obtain ⟨F2, ad2, ρ2, g2, r2, e2, eg2, R2, v2, q⟩ := q2
  obtain ⟨ds, ed, q⟩ := lsD_of q
  obtain ⟨ns, ei, q⟩ := opK_e q
  obtain ⟨i, en, qm, qn, q⟩ := bbU_of q
  obtain ⟨a1, vs1, ea, ha1, da1⟩ := R2.items (v1'.held e2 eg2) ed
  cases ea
  rw [boolsL_of ei] at da1
  have ev := daAll_bools da1
  subst ev
  exact ⟨a0, ns, i, rfl, by rw [R2.rBool v2 en], .inl (.inl ha1), qm, qn, hP _ _ ((R2.dat (.int _) q).mono ((e1.trans e1').trans e2) (eg2.trans eg1))⟩
theorem e_cntB (hu : X.A.units + 64 < cLine) {apos cpos : Pos} {o e : Expr} {to te : TE} {a b : DT G} (ho : DE X Z o to a) (he : DE X Z e te b) (hK : K = X.K := by rfl)
    (hbase : attributeBase o "count" X.env (eval o X.env) = eval o X.env := by rfl)
    (hfew : ((backTo cpos (starEach [e] X.env)).all (fun x => !x.1) && (backToKw cpos (keywordEach [] X.env)).all (fun x => x.1.isSome)
      && decide (([e] : List Expr).length + ([] : List Keyword).length + (if ([] : List Keyword).isEmpty then 0 else 1) < 30)) = true := by rfl)
    (hline : (apos.endLine == cpos.line) = true := by rfl) (hst : starEach [e] X.env = (false, eval e X.env) :: starEach [] X.env := by rfl) (hplain : (backTo cpos (starEach [] X.env)).any (·.1) = false := by rfl) :
    DE X Z (.Call (.Attribute o "count" apos) [e] [] cpos) (tBM K "list" (rCntB K) to (tCons te tNil)) (dCntB a b) :=
  ⟨by rw [hK]; exact pe_bm PySem.F.plainAttrs_list PySem.F.slot_list_count PySem.F.type_list_count (mt_cntB hu) ho.pe (pa_cons he.pe pa_nil hst) hbase hfew hline hst hplain, sim_cntB ho.sim he.sim rfl⟩
theorem e_idxB (hu : X.A.units + 64 < cLine) {apos cpos : Pos} {o e : Expr} {to te : TE} {a b : DT G} (ho : DE X Z o to a) (he : DE X Z e te b) (hK : K = X.K := by rfl)
    (hbase : attributeBase o "index" X.env (eval o X.env) = eval o X.env := by rfl)
    (hfew : ((backTo cpos (starEach [e] X.env)).all (fun x => !x.1) && (backToKw cpos (keywordEach [] X.env)).all (fun x => x.1.isSome)
      && decide (([e] : List Expr).length + ([] : List Keyword).length + (if ([] : List Keyword).isEmpty then 0 else 1) < 30)) = true := by rfl)
    (hline : (apos.endLine == cpos.line) = true := by rfl) (hst : starEach [e] X.env = (false, eval e X.env) :: starEach [] X.env := by rfl) (hplain : (backTo cpos (starEach [] X.env)).any (·.1) = false := by rfl) :
    DE X Z (.Call (.Attribute o "index" apos) [e] [] cpos) (tBM K "list" (rIdxB K) to (tCons te tNil)) (dIdxB a b) :=
  ⟨by rw [hK]; exact pe_bm PySem.F.plainAttrs_list PySem.F.slot_list_index PySem.F.type_list_index (mt_idxB hu) ho.pe (pa_cons he.pe pa_nil hst) hbase hfew hline hst hplain, sim_idxB ho.sim he.sim rfl⟩
/-- the words of the classes -/
def kindW : List (Str × Str) := [("NoWay", "way"), ("NoRound", "round"), ("NoRing", "ring"), ("NoPurse", "purse"), ("NoEnd", "end"), ("NoStand", "stand"), ("TooMany", "many"), ("NoLine", "line"), ("NoRow", "row")]
end L3
end
section
namespace L3
open PySem L2
inductive Cell where
  | d (x : PyData) | r (a : Addr)
inductive OO where
  | ls (cs : List Cell) | dk (kvs : List (Key × Cell)) | ins (x : Str) (L : List Str) (cs : List Cell) | tp (cs : List Cell)
  /-- a dict whose keys are tuples of whole numbers -/
  | td (kvs : List (List Int × PyData))
abbrev OS := List (Addr × OO)
def OS.look : OS → Addr → Option OO
  | [], _ => none
  | (b, x) :: r, a => if b = a then some x else OS.look r a
def OS.put : OS → Addr → OO → OS
  | [], _, _ => []
  | (b, x) :: r, a, y => if b = a then (b, y) :: r else (b, x) :: OS.put r a y
def OS.ads (o : OS) : List Addr := o.map (·.1)
theorem OS.look_cons {b : Addr} {x : OO} {o : OS} {a : Addr} : OS.look ((b, x) :: o) a = if b = a then some x else OS.look o a := rfl
theorem OS.look_new {b : Addr} {x : OO} {o : OS} : OS.look ((b, x) :: o) b = some x := if_pos rfl
theorem OS.look_old {b a : Addr} {x y : OO} {o : OS} (h : OS.look o b = none) (h2 : OS.look o a = some y) : OS.look ((b, x) :: o) a = some y := by
  rw [OS.look_cons, if_neg (fun e => by rw [e, h2] at h; cases h)]; exact h2
theorem OS.look_put : ∀ {o : OS} {a : Addr} {x y : OO} (b : Addr), OS.look o a = some x → OS.look (OS.put o a y) b = if a = b then some y else OS.look o b
  | [], _, _, _, _, h => by cases h
  | (c, z) :: o, a, x, y, b, h => by
    unfold OS.put
    by_cases e : c = a
    · subst e
      rw [if_pos rfl, OS.look_cons, OS.look_cons]
      by_cases e2 : c = b
      · rw [if_pos e2, if_pos e2]
      · rw [if_neg e2, if_neg e2, if_neg e2]
    · rw [OS.look_cons, if_neg e] at h
      rw [if_neg e, OS.look_cons, OS.look_cons, OS.look_put b h]
      by_cases e2 : c = b
      · rw [if_pos e2, if_pos e2, if_neg (fun z => e (e2.trans z.symm))]
      · rw [if_neg e2, if_neg e2]
theorem OS.put_self {o : OS} {a : Addr} {x y : OO} (h : OS.look o a = some x) : OS.look (OS.put o a y) a = some y := by rw [OS.look_put a h, if_pos rfl]
theorem OS.put_ne {o : OS} {a b : Addr} {x y : OO} (h : OS.look o a = some x) (n : a ≠ b) : OS.look (OS.put o a y) b = OS.look o b := by rw [OS.look_put b h, if_neg n]
theorem OS.put_ads : ∀ (o : OS) (a : Addr) (y : OO), (OS.put o a y).ads = o.ads
  | [], _, _ => rfl
  | (c, z) :: o, a, y => by
    unfold OS.put
    by_cases e : c = a
    · rw [if_pos e]; rfl
    · rw [if_neg e]
      show c :: (OS.put o a y).ads = c :: OS.ads o
      rw [OS.put_ads o a y]
theorem OS.look_mem : ∀ {o : OS} {a : Addr} {x : OO}, OS.look o a = some x → (a, x) ∈ o
  | [], _, _, h => by cases h
  | (c, z) :: o, a, x, h => by
    rw [OS.look_cons] at h
    by_cases e : c = a
    · rw [if_pos e] at h; cases h; rw [e]; exact List.mem_cons_self
    · rw [if_neg e] at h; exact List.mem_cons_of_mem _ (OS.look_mem h)
theorem OS.look_ads {o : OS} {a : Addr} {x : OO} (h : OS.look o a = some x) : a ∈ o.ads := List.mem_map.mpr ⟨_, OS.look_mem h, rfl⟩
theorem OS.mem_look : ∀ {o : OS}, o.ads.Nodup → ∀ p ∈ o, OS.look o p.1 = some p.2
  | [], _, p, h => by cases h
  | (c, z) :: o, nd, p, h => by
    have nd2 : (c :: OS.ads o).Nodup := nd
    rw [List.nodup_cons] at nd2
    rcases List.mem_cons.mp h with rfl | h
    · exact OS.look_new
    · rw [OS.look_cons, if_neg (fun e => nd2.1 (by rw [e]; exact List.mem_map.mpr ⟨p, h, rfl⟩))]
      exact OS.mem_look nd2.2 p h
section
variable (K : PySem.W.Frag) (mg : Str → Option Value)
def CellV (F : Hp) (v : V) : Cell → Prop
  | .d x => Da K F v x
  | .r a => v = .ref a
abbrev CellsV (F : Hp) : List V → List Cell → Prop := Paired (CellV K F)
def tdH (ks : List Int) : Int := reduceHash (Builtin.Tuple.tupleHashOf (ks.map hashInt))
/-- the object of a dict of such keys -/
def TdO (a : Addr) (xs : List (List Int × Addr × Value)) (h : Heap) : Prop := ∃ o es ep, h.get? a = some o ∧ o.ExactDict ∧ o.data = .dict es ep ∧ es.toList = xs.map (fun x => (⟨tdH x.1, .ref x.2.1, x.2.2⟩ : DictEntry)) ∧ (xs.map (·.1)).Nodup
def TdP (F H : Hp) (a : Addr) (kvs : List (List Int × V)) : Prop := ∃ xs, (a == sysModules) = false ∧ xs.length ≤ sizeLine ∧ H a = some (.ext (TdO a xs)) ∧ Paired (fun (x : List Int × Addr × Value) (q : List Int × V) => x.1 = q.1 ∧ SqT K F x.2.1 (q.1.map V.int) ∧ RelV q.2 x.2.2) xs kvs
def OOat (F H : Hp) (a : Addr) : OO → Prop
  | .ls cs => ∃ vs, H a = some (.lst vs) ∧ CellsV K F vs cs
  | .dk kvs => ∃ vs, H a = some (.dK vs) ∧ Paired (fun (p : Key × V) (q : Key × Cell) => p.1 = q.1 ∧ CellV K F p.2 q.2) vs kvs
  | .ins x L cs => ∃ C dx vs, mg x = some (.ref C) ∧ H a = some (.ins C dx ((L.take cs.length).zip vs)) ∧ CellsV K F vs cs ∧ cs.length ≤ L.length
  | .tp cs => ∃ vs, H a = some (.tup vs) ∧ CellsV K F vs cs
  | .td kvs => ∃ vs, TdP K F H a vs ∧ Paired (fun (p : List Int × V) (q : List Int × PyData) => p.1 = q.1 ∧ Da K F p.2 q.2) vs kvs
structure OSR (o : OS) (F H : Hp) : Prop where
  at_ : ∀ p ∈ o, OOat K mg F H p.1 p.2
  nd : o.ads.Nodup
end
section
variable {K : PySem.W.Frag} {mg : Str → Option Value} {G : Type} {F F' H H' : Hp}
theorem CellV.mono {v : V} {c : Cell} (e : Ex F F') (h : CellV K F v c) : CellV K F' v c := by
  cases c with
  | d x => exact da_mono e h
  | r a => exact h
theorem CellsV.mono {vs : List V} {cs : List Cell} (e : Ex F F') (h : CellsV K F vs cs) : CellsV K F' vs cs := Paired.mapP h fun _ _ q => q.mono e
theorem TdP.keep {a : Addr} {kvs : List (List Int × V)} (h : TdP K F H a kvs) (e : Ex F F') (k : H' a = H a) : TdP K F' H' a kvs := by
  obtain ⟨xs, h1, h2, h3, h4⟩ := h
  exact ⟨xs, h1, h2, k.trans h3, Paired.mapP h4 fun _ _ q => ⟨q.1, Evl.ex_t e q.2.1, q.2.2⟩⟩
theorem OOat.keep {a : Addr} {x : OO} (h : OOat K mg F H a x) (e : Ex F F') (k : H' a = H a) : OOat K mg F' H' a x := by
  cases x with
  | ls cs => obtain ⟨vs, h1, h2⟩ := h; exact ⟨vs, k.trans h1, h2.mono e⟩
  | dk cs => obtain ⟨vs, h1, h2⟩ := h; exact ⟨vs, k.trans h1, Paired.mapP h2 fun _ _ q => ⟨q.1, q.2.mono e⟩⟩
  | ins x L cs => obtain ⟨C, dx, vs, h0, h1, h2, h3⟩ := h; exact ⟨C, dx, vs, h0, k.trans h1, h2.mono e, h3⟩
  | tp cs => obtain ⟨vs, h1, h2⟩ := h; exact ⟨vs, k.trans h1, h2.mono e⟩
  | td kvs => obtain ⟨vs, h1, h2⟩ := h; exact ⟨vs, h1.keep e k, Paired.mapP h2 fun _ _ q => ⟨q.1, da_mono e q.2⟩⟩
theorem OOat.there {a : Addr} {x : OO} (h : OOat K mg F H a x) : H a ≠ none := by
  cases x with
  | ls cs => obtain ⟨vs, h1, _⟩ := h; rw [h1]; intro z; cases z
  | dk cs => obtain ⟨vs, h1, _⟩ := h; rw [h1]; intro z; cases z
  | ins x L cs => obtain ⟨C, dx, vs, h0, h1, _⟩ := h; rw [h1]; intro z; cases z
  | tp cs => obtain ⟨vs, h1, _⟩ := h; rw [h1]; intro z; cases z
  | td kvs => obtain ⟨vs, ⟨xs, _, _, h1, _⟩, _⟩ := h; rw [h1]; intro z; cases z
theorem OSR.get {o : OS} (h : OSR K mg o F H) {a : Addr} {x : OO} (l : OS.look o a = some x) : OOat K mg F H a x := h.at_ _ (OS.look_mem l)
theorem OSR.keep {o : OS} (h : OSR K mg o F H) (e : Ex F F') (k : ∀ a ∈ o.ads, H' a = H a) : OSR K mg o F' H' := ⟨fun p hp => (h.at_ p hp).keep e (k _ (List.mem_map.mpr ⟨p, hp, rfl⟩)), h.nd⟩
/-- one of the objects is written -/
theorem OSR.put {o : OS} (h : OSR K mg o F H) {a : Addr} {x y : OO} (l : OS.look o a = some x) (u : HO) (hy : OOat K mg F (L2.upd H a u) a y) : OSR K mg (o.put a y) F (L2.upd H a u) := by
  have nd : (o.put a y).ads.Nodup := by rw [OS.put_ads]; exact h.nd
  refine ⟨fun p hp => ?_, nd⟩
  have q := OS.mem_look nd p hp
  rw [OS.look_put p.1 l] at q
  by_cases e : a = p.1
  · rw [if_pos e] at q
    cases q
    rw [← e]; exact hy
  · rw [if_neg e] at q
    exact (h.get q).keep (Evl.Ex.refl F) (upd_ne fun z => e z.symm)
variable (mg) in
/-- with an own store -/
def ZS (Z : Zx K G) : Zx K (G × OS) where
  fp g := Z.fp g.1 ++ g.2.ads
  ra g := Z.ra g.1
  R g F H := Z.R g.1 F H ∧ OSR K mg g.2 F H ∧ ∀ a ∈ Z.fp g.1, a ∉ g.2.ads
  loc := fun {g F F' H H'} ⟨h1, h2, h3⟩ e k => ⟨Z.loc h1 e fun a ha => k a (List.mem_append_left _ ha), h2.keep e fun a ha => k a (List.mem_append_right _ ha), h3⟩
  there := fun {g F H} ⟨h1, h2, h3⟩ a ha => by
    rcases List.mem_append.mp ha with ha | ha
    · exact Z.there h1 a ha
    · obtain ⟨p, hp, rfl⟩ := List.mem_map.mp ha
      exact (h2.at_ p hp).there
end
abbrev ZSw {K : PySem.W.Frag} (mg : Str → Option Value) {G : Type} (Z : Zx K G) (W : WXH) (U : UX (G × OS)) : Zx K (G × OS) := (ZS mg Z).wish W U
def vvK (r : Rs) (k : Addr → Prop) : Prop := match r with
  | .vv (.ref a) => k a
  | _ => False
theorem vvK_e {r : Rs} {k : Addr → Prop} (h : vvK r k) : ∃ a, r = .vv (.ref a) ∧ k a := by
  unfold vvK at h
  split at h
  · exact ⟨_, rfl, h⟩
  · cases h
def insK (x : Str) (L : List Str) (o : Option OO) (k : List Cell → Prop) : Prop := match o with
  | some (.ins y M cs) => y = x ∧ M = L ∧ k cs
  | _ => False
theorem insK_of {x : Str} {L : List Str} {o : Option OO} {k : List Cell → Prop} {cs : List Cell} (e : o = some (.ins x L cs)) (h : k cs) : insK x L o k := by subst e; exact ⟨rfl, rfl, h⟩
/-- the name stands at place n of the layout, and nowhere ahead -/
def FldAt : List Str → Nat → Str → Prop
  | [], _, _ => False
  | f :: _, 0, g => f = g
  | f :: r, n + 1, g => f ≠ g ∧ FldAt r n g
theorem FldAt.lt : ∀ {L : List Str} {n : Nat} {f : Str}, FldAt L n f → n < L.length
  | _ :: _, 0, _, _ => Nat.succ_pos _
  | _ :: r, n + 1, _, h => Nat.succ_lt_succ (FldAt.lt (L := r) h.2)
/-- a method that stands in its class -/
def DfnM (K : PySem.W.Frag) (mg : Str → Option Value) (x m q : Str) (s : Stmt) (ps : List Str) : Prop := ∃ C fa fd, mg x = some (.ref C) ∧ Fun K m q s fa fd ∧ Meth K C m fa ∧ Binds K fd ps []
def OkM (P : Program) (w : World) (K : PySem.W.Frag) (mg : Str → Option Value) (base : Heap) (k : Nat) (x m : Str) (ps : List Str) (sp : Sp) : Prop :=
  ∃ C fa fd, mg x = some (.ref C) ∧ Meth K C m fa ∧ Binds K fd ps [] ∧ FnG P w K mg base (L2.CX P w) k fa fd ps sp
section
variable {P : Program} {w : World} {K : PySem.W.Frag} {mg : Str → Option Value} {base : Heap} {G : Type}
theorem OkM.up {j : Nat} {x m : Str} {ps : List Str} {sp : Sp} (h : OkM P w K mg base j x m ps sp) {k : Nat} (hk : j ≤ k) : OkM P w K mg base k x m ps sp := by
  obtain ⟨C, fa, fd, h1, h2, h3, h4⟩ := h
  exact ⟨C, fa, fd, h1, h2, h3, h4.mono hk⟩
theorem DfnM.ok {x m q : Str} {s : Stmt} {N ps : List Str} {k : Nat} {Z : Zx K G} {S : Spec G} (D : DfnM K mg x m q s ps) (Sc : FnScope N ps (defScope s)) (hS : ∀ as g T U, S as g T U → as.length = ps.length) (hN : ps.length ≤ N.length)
    (body : ∀ (fa : Addr) (cdv : Value) (A : Around) (outer : List Env) (s' : Shared) (H : Hp) (E : XK), RoomG k (A.deeper (PyProof.Rows.envOfC q (defScope s) s'.heap.objs.size fa cdv)) →
      ∃ ts t, DSs (cxOf (L2.CX P w) P w K mg base N q (defScope s) fa cdv A outer s' H E).nox (Z.wish (fun _ _ _ _ => False) Un) (defBody s) ts t ∧ ∀ as g T U, S as g T U → t { nx := fun _ g' => T (.dt .none) g', rt := T } (entry N as) g) : OkM P w K mg base (k + 1) x m ps (spZ Z S) := by
  obtain ⟨C, fa, fd, hm, Fu, Me, hb⟩ := D
  exact ⟨C, fa, fd, hm, Me, hb, fun3 Fu Sc hS hN (body fa)⟩
theorem DfnM.none {x m q : Str} {s : Stmt} {ps : List Str} {k : Nat} {Z : Zx K G} {S : Spec G} (D : DfnM K mg x m q s ps) (h0 : ∀ as g T U, ¬ S as g T U) : OkM P w K mg base k x m ps (spZ Z S) := by
  obtain ⟨C, fa, fd, hm, Fu, Me, hb⟩ := D
  exact ⟨C, fa, fd, hm, Me, hb, fun vs H Q E h => by obtain ⟨_, _, as, T, U, _, _, _, _, h, _⟩ := h; exact absurd h (h0 as _ T U), fun A outer s' H args us vs Q E _ _ _ _ h => by obtain ⟨_, _, as, T, U, _, _, _, _, h, _⟩ := h; exact absurd h (h0 as _ T U)⟩
end
end L3
end
section
namespace L3
open PySem L2
variable {G : Type} {K : PySem.W.Frag} {mg : Str → Option Value} {X : Cx} {Z : Zx K G} {W : WXH} {U : UX (G × OS)}
theorem paired_get {α β : Type} {R : α → β → Prop} : ∀ {xs : List α} {ys : List β} {n : Nat} {y : β}, Paired R xs ys → ys[n]? = some y → ∃ x, xs[n]? = some x ∧ R x y
  | _, _, _, _, .nil, e => by simp at e
  | _, _, 0, _, .cons h _, e => by simp at e; subst e; exact ⟨_, rfl, h⟩
  | _, _, n + 1, _, .cons _ r, e => by
    obtain ⟨x, h1, h2⟩ := paired_get (n := n) r (by simpa using e)
    exact ⟨x, by simpa using h1, h2⟩
theorem paired_app {α β : Type} {R : α → β → Prop} : ∀ {xs xs2 : List α} {ys ys2 : List β}, Paired R xs ys → Paired R xs2 ys2 → Paired R (xs ++ xs2) (ys ++ ys2)
  | _, _, _, _, .nil, r => r
  | _, _, _, _, .cons q s, r => .cons q (paired_app s r)
section
variable {f : Fx} {F F' : Hp} {ad : Nat → Addr} {ρ ρ' : En} {g g' : G × OS} {σ : St} {H H' : Hp}
/-- an object of the store is written -/
theorem Rel.putS (R : Rel (ZSw mg Z W U) f F ad ρ g σ H) {p : Addr} {x y : OO} {u : HO} (l : OS.look g.2 p = some x) (hy : OOat K mg F (L2.upd H p u) p y) : Rel (ZSw mg Z W U) f F ad ρ (g.1, OS.put g.2 p y) σ (L2.upd H p u) := by
  have hp := OS.look_ads l
  obtain ⟨r1, r2, r3⟩ : Z.R g.1 F H ∧ OSR K mg g.2 F H ∧ ∀ a ∈ Z.fp g.1, a ∉ g.2.ads := R.fin.res
  have e : (OS.put g.2 p y).ads = g.2.ads := OS.put_ads _ _ _
  refine R.upR (g' := (g.1, OS.put g.2 p y)) (a := p) (o := u) (List.mem_append_right _ hp) ?_ rfl ⟨Z.loc r1 (Evl.Ex.refl F) fun a ha => upd_ne fun z => r3 a ha (by rw [z]; exact hp), r2.put l u hy, fun a ha => ?_⟩
  · show Z.fp g.1 ++ (OS.put g.2 p y).ads = Z.fp g.1 ++ g.2.ads
    rw [e]
  · show a ∉ (OS.put g.2 p y).ads
    rw [e]; exact r3 a ha
end
def cellK (r : Rs) (ρ : En) (k : Cell → En → Prop) : Prop := match r with
  | .vv (.ref a) => k (.r a) ρ
  | .dt d => k (.d d) ρ
  | .nl ds => k (.d (.list ds)) ρ
  | .nd ds => k (.d (.dict ds)) ρ
  | .br i => fz1S ρ i (fun d ρ' => k (.d d) ρ') ρ[i]?
  | _ => False
theorem Rel.cell {G : Type} {Z : Zx K G} {f : Fx} {F : Hp} {ad : Nat → Addr} {ρ : En} {g : G} {σ : St} {H : Hp} {v : V} {r : Rs} {k : Cell → En → Prop} (R : Rel Z f F ad ρ g σ H) (h : VR Z f F ad ρ g σ H v r) (q : cellK r ρ k) :
    ∃ F' c ρ', Ex F F' ∧ Rel Z f F' ad ρ' g σ H ∧ CellV K F' v c ∧ k c ρ' := by
  have go : ∀ r, VR Z f F ad ρ g σ H v r → fz1 r ρ (fun d ρ' => k (.d d) ρ') → ∃ F' c ρ', Ex F F' ∧ Rel Z f F' ad ρ' g σ H ∧ CellV K F' v c ∧ k c ρ' := fun r h q => by
    obtain ⟨d, ρ', ef, q⟩ := fz1_of q
    obtain ⟨F', e, R', dv⟩ := R.hfz h ef
    exact ⟨F', .d d, ρ', e, R', dv, q⟩
  cases r with
  | dt d => exact go _ h q
  | nl d => exact go _ h q
  | nd d => exact go _ h q
  | br i => exact go _ h q
  | rs n => cases q
  | vv u =>
    cases u <;> first | exact ⟨F, .r _, ρ, Evl.Ex.refl F, R, h, q⟩ | cases q
end L3
namespace L3
open PySem L2
end L3
end
section
namespace L3
open PySem L2
mutual
def Tw.sz : Tw → Nat
  | .way _ => 1
  | .row ps => 1 + Tw.szs ps
  | .times _ t => 1 + t.sz
def Tw.szs : List Tw → Nat
  | [] => 0
  | t :: r => t.sz + Tw.szs r
end
mutual
def Tw.dp : Tw → Nat
  | .way _ => 1
  | .row ps => 1 + Tw.dps ps
  | .times _ t => 1 + t.dp
def Tw.dps : List Tw → Nat
  | [] => 0
  | t :: r => max t.dp (Tw.dps r)
end
theorem Tw.sz_pos (t : Tw) : 1 ≤ t.sz := by
  cases t with
  | way k => rw [Tw.sz]; exact Nat.le_refl _
  | row ps => rw [Tw.sz]; omega
  | times n t => rw [Tw.sz]; omega
mutual
def Zr : Tw → Prop
  | .way k => k = 0
  | .row ps => ps ≠ [] ∧ Zrs ps
  | .times n t => 1 ≤ n ∧ Zr t
def Zrs : List Tw → Prop
  | [] => True
  | t :: r => Zr t ∧ Zrs r
end
mutual
theorem Zr.ch {B : Book} (h0 : inW B 0 = true) (ha : (wAt B 0).a = 0) (hb : (wAt B 0).b = 0) : ∀ {t : Tw}, Zr t → ChT B t 0 0
  | .way k, h => by rw [Zr] at h; subst h; rw [ChT]; exact ⟨h0, ha, hb⟩
  | .row ps, h => by rw [Zr] at h; rw [ChT]; exact ⟨h.1, Zrs.ch h0 ha hb h.2⟩
  | .times n t, h => by rw [Zr] at h; rw [ChT]; exact ⟨Zr.ch h0 ha hb h.2, .inr rfl⟩
theorem Zrs.ch {B : Book} (h0 : inW B 0 = true) (ha : (wAt B 0).a = 0) (hb : (wAt B 0).b = 0) : ∀ {ps : List Tw}, Zrs ps → ChTs B ps 0 0
  | [], _ => by rw [ChTs]
  | t :: r, h => by rw [Zrs] at h; rw [ChTs]; exact ⟨0, Zr.ch h0 ha hb h.1, Zrs.ch h0 ha hb h.2⟩
end
theorem szs_app : ∀ (ps qs : List Tw), Tw.szs (ps ++ qs) = Tw.szs ps + Tw.szs qs
  | [], qs => by rw [List.nil_append, Tw.szs]; omega
  | t :: r, qs => by rw [List.cons_append, Tw.szs, Tw.szs, szs_app r qs]; omega
theorem dps_le {M : Nat} : ∀ {ps : List Tw}, (∀ p ∈ ps, p.dp ≤ M) → Tw.dps ps ≤ M
  | [], _ => by rw [Tw.dps]; omega
  | t :: r, h => by
    have h1 := h t List.mem_cons_self
    have h2 := dps_le (ps := r) fun p hp => h p (List.mem_cons_of_mem _ hp)
    rw [Tw.dps]
    omega
end L3
end
section
namespace L3
open PySem L2
/-- t is another telling of the ways of u, from a to e; to a depth, its parts counted -/
structure Oth (B : Book) (u : List Int) (a e : Int) (n s : Nat) (t : Tw) : Prop where
  op : t.op = u
  ch : ChT B t a e
  ok : OkT B (2 ^ 400) n t
  sz : t.sz ≤ s
  dp : t.dp ≤ n + 1
theorem Oth.mono {B : Book} {u : List Int} {a e : Int} {n s m r : Nat} {t : Tw} (h : Oth B u a e n s t) (hn : n ≤ m) (hs : s ≤ r) : Oth B u a e m r t := ⟨h.op, h.ch, h.ok.mono hn, Nat.le_trans h.sz hs, Nat.le_trans h.dp (by omega)⟩
/-- a row of tellings -/
def OthS (B : Book) (n : Nat) : List Int → Int → Int → Nat → List Tw → Prop
  | u, a, e, s, [] => u = [] ∧ a = e
  | u, a, e, s, t :: r => ∃ u1 u2 c s1 s2, u = u1 ++ u2 ∧ s = s1 + s2 ∧ Oth B u1 a c n s1 t ∧ OthS B n u2 c e s2 r
theorem othS_parts {B : Book} {n : Nat} : ∀ {ts : List Tw} {u : List Int} {a e : Int} {s : Nat}, OthS B n u a e s ts → Tw.ops ts = u ∧ ChTs B ts a e ∧ (∀ p ∈ ts, OkT B (2 ^ 400) n p ∧ p.dp ≤ n + 1) ∧ Tw.szs ts ≤ s
  | [], u, a, e, s, h => ⟨by rw [Tw.ops, h.1], by rw [ChTs]; exact h.2, fun p hp => (nomatch hp), by rw [Tw.szs]; exact Nat.zero_le _⟩
  | t :: r, u, a, e, s, h => by
    obtain ⟨u1, u2, c, s1, s2, rfl, rfl, h1, h2⟩ := h
    obtain ⟨k1, k2, k3, k4⟩ := othS_parts h2
    refine ⟨by rw [Tw.ops, h1.op, k1], by rw [ChTs]; exact ⟨c, h1.ch, k2⟩, fun p hp => ?_, by rw [Tw.szs]; have := h1.sz; omega⟩
    rcases List.mem_cons.mp hp with rfl | hp
    · exact ⟨h1.ok, h1.dp⟩
    · exact k3 p hp
theorem szs_len : ∀ ts : List Tw, ts.length ≤ Tw.szs ts
  | [] => Nat.zero_le _
  | t :: r => by have := szs_len r; have := t.sz_pos; rw [Tw.szs, List.length_cons]; omega
theorem dps_max {M : Nat} : ∀ {ps : List Tw}, (∀ p ∈ ps, p.dp ≤ M) → Tw.dps ps ≤ M := fun h => dps_le h
theorem OthS.row {B : Book} {n : Nat} {ts : List Tw} {u : List Int} {a e : Int} {s : Nat} (h : OthS B n u a e s ts) (hne : ts ≠ []) (hs : s ≤ 10000) : Oth B u a e (n + 1) (1 + s) (.row ts) := by
  obtain ⟨k1, k2, k3, k4⟩ := othS_parts h
  refine ⟨by rw [Tw.op, k1], by rw [ChT]; exact ⟨hne, k2⟩, ⟨hne, by have := szs_len ts; omega, fun p hp => (k3 p hp).1⟩, by rw [Tw.sz]; omega, ?_⟩
  rw [Tw.dp]
  have := dps_max (M := n + 1) fun p hp => (k3 p hp).2
  omega
theorem OthS.app {B : Book} {n : Nat} : ∀ {ts vs : List Tw} {u w : List Int} {a c e : Int} {s r : Nat}, OthS B n u a c s ts → OthS B n w c e r vs → OthS B n (u ++ w) a e (s + r) (ts ++ vs)
  | [], vs, u, w, a, c, e, s, r, h, k => by
    obtain ⟨rfl, rfl⟩ := h
    rw [List.nil_append, List.nil_append]
    cases vs with
    | nil => exact k
    | cons v vs =>
      obtain ⟨u1, u2, c, s1, s2, h1, rfl, h2, h3⟩ := k
      exact ⟨u1, u2, c, s + s1, s2, h1, by omega, h2.mono (Nat.le_refl _) (by omega), h3⟩
  | t :: ts, vs, u, w, a, c, e, s, r, h, k => by
    obtain ⟨u1, u2, c1, s1, s2, rfl, rfl, h1, h2⟩ := h
    exact ⟨u1, u2 ++ w, c1, s1, s2 + r, by rw [List.append_assoc], by omega, h1, h2.app k⟩
theorem OthS.mono {B : Book} {n m : Nat} (hm : n ≤ m) : ∀ {ts : List Tw} {u : List Int} {a e : Int} {s : Nat}, OthS B n u a e s ts → OthS B m u a e s ts
  | [], _, _, _, _, h => h
  | t :: r, _, _, _, _, h => by
    obtain ⟨u1, u2, c, s1, s2, h0, h1, h2, h3⟩ := h
    exact ⟨u1, u2, c, s1, s2, h0, h1, h2.mono hm (Nat.le_refl _), h3.mono hm⟩
/-- cut in two -/
theorem OthS.cut {B : Book} {n : Nat} : ∀ {ts : List Tw} (i : Nat) {u : List Int} {a e : Int} {s : Nat}, OthS B n u a e s ts → ∃ u1 u2 c s1 s2, u = u1 ++ u2 ∧ s1 + s2 = s ∧ OthS B n u1 a c s1 (ts.take i) ∧ OthS B n u2 c e s2 (ts.drop i)
  | [], i, u, a, e, s, h => by
    obtain ⟨rfl, rfl⟩ := h
    exact ⟨[], [], a, 0, s, rfl, by omega, by rw [List.take_nil]; exact ⟨rfl, rfl⟩, by rw [List.drop_nil]; exact ⟨rfl, rfl⟩⟩
  | t :: ts, 0, u, a, e, s, h => ⟨[], u, a, 0, s, rfl, by omega, ⟨rfl, rfl⟩, h⟩
  | t :: ts, i + 1, u, a, e, s, h => by
    obtain ⟨u1, u2, c, s1, s2, rfl, rfl, h1, h2⟩ := h
    obtain ⟨w1, w2, d, r1, r2, rfl, rfl, k1, k2⟩ := h2.cut i
    exact ⟨u1 ++ w1, w2, d, s1 + r1, r2, by rw [List.append_assoc], by omega, ⟨u1, w1, c, s1, r1, rfl, rfl, h1, k1⟩, k2⟩
theorem Oth.times {B : Book} {u : List Int} {a e : Int} {n s : Nat} {t : Tw} (h : Oth B u a e n s t) {c : Int} (h1 : 1 ≤ c) (h2 : c ≤ 2 ^ 400) (h3 : c = 1 ∨ a = e) : Oth B (List.replicate c.toNat u).flatten a e (n + 1) (1 + s) (.times c t) :=
  ⟨by rw [Tw.op, h.op], by rw [ChT]; exact ⟨h.ch, h3⟩, ⟨⟨h1, h2⟩, h.ok⟩, by rw [Tw.sz]; have := h.sz; omega, by rw [Tw.dp]; have := h.dp; omega⟩
end L3
end
section
namespace L2
open PySem PySem.Spec PyProof.Rows
end L2
namespace L3
open PySem L2
end L3
end
section
namespace L3
open PySem PySem.Spec PyProof.Rows L2
variable {G : Type} {K : PySem.W.Frag} {X : Cx} {Z : Zx K G}
/-- the last parameter given by its name -/
def KwB (K : PySem.W.Frag) (fd : FuncData) (ps : List Str) (q : Str) : Prop := ∀ (s : Shared) (us : List Value) (v : Value), K.In s.heap → us.length + 1 = ps.length → BindsTo s fd ⟨us, [(q, v)]⟩ (ps.zip (us ++ [v]))
def DfnE (K : PySem.W.Frag) (mg : Str → Option Value) (x : Str) (s : Stmt) (ps : List Str) (q : Str) (dvs : List V) : Prop := ∃ fa fd, FunA K x s fa fd ∧ mg x = some (.ref fa) ∧ (∃ ds, Vals dvs ds ∧ Binds K fd ps ds) ∧ Binds K fd ps [] ∧ KwB K fd ps q
def OkE (P : Program) (w : World) (K : PySem.W.Frag) (mg : Str → Option Value) (base : Heap) (k : Nat) (x : Str) (ps : List Str) (q : Str) (dvs : List V) (sp : Sp) : Prop :=
  ∃ fa fd, mg x = some (.ref fa) ∧ PySem.W.keepIn K (.ref fa) = true ∧ (∃ ds, Vals dvs ds ∧ Binds K fd ps ds) ∧ Binds K fd ps [] ∧ KwB K fd ps q ∧ FnG P w K mg base (L2.CX P w) k fa fd ps sp
section
variable {P : Program} {w : World} {mg : Str → Option Value} {base : Heap}
theorem OkE.up {j : Nat} {x q : Str} {ps : List Str} {dvs : List V} {sp : Sp} (h : OkE P w K mg base j x ps q dvs sp) {k : Nat} (hk : j ≤ k) : OkE P w K mg base k x ps q dvs sp := by
  obtain ⟨fa, fd, h1, h2, h3, h5, h6, h4⟩ := h
  exact ⟨fa, fd, h1, h2, h3, h5, h6, h4.mono hk⟩
theorem DfnE.ok {x q : Str} {s : Stmt} {N ps : List Str} {dvs : List V} {k : Nat} {Z : Zx K G} {S : Spec G} (D : DfnE K mg x s ps q dvs) (Sc : FnScope N ps (defScope s)) (hS : ∀ as g T U, S as g T U → as.length = ps.length) (hN : ps.length ≤ N.length)
    (body : ∀ (fa : Addr) (cdv : Value) (A : Around) (outer : List Env) (s' : Shared) (H : Hp) (E : XK), RoomG k (A.deeper (PyProof.Rows.envOfC x (defScope s) s'.heap.objs.size fa cdv)) →
      ∃ ts t, DSs (cxOf (L2.CX P w) P w K mg base N x (defScope s) fa cdv A outer s' H E).nox (Z.wish (fun _ _ _ _ => False) Un) (defBody s) ts t ∧ ∀ as g T U, S as g T U → t { nx := fun _ g' => T (.dt .none) g', rt := T } (entry N as) g) : OkE P w K mg base (k + 1) x ps q dvs (spZ Z S) := by
  obtain ⟨fa, fd, Fu, hm, hb, hb2, hb3⟩ := D
  refine ⟨fa, fd, hm, Fu.kp, hb, hb2, hb3, funGD Fu Sc (fun vs H Q E h => ?_) (fun cdv A outer s H vs Q E hr h => ?_)⟩
  · obtain ⟨F, g, as, T, U, h1, h2, h3, h4, h5, _⟩ := h
    rw [argR_len h4]
    exact hS as g T U h5
  · obtain ⟨F, g, as, T, U, h1, h2, h3, h4, h5, h6, h7⟩ := h
    obtain ⟨ts, t, hd, hb⟩ := body fa cdv A outer s H E hr
    exact ⟨ts, hd.ps.nox, body3 h1 h2 h3 h4 (hS as g T U h5) hN (fun _ _ _ _ _ _ _ _ _ _ _ _ z => z.elim) h6 hd.sim (hb as g T U h5)⟩
theorem DfnE.okX {x q : Str} {s : Stmt} {N ps : List Str} {dvs : List V} {k : Nat} {Z : Zx K G} {S : Spec G} (D : DfnE K mg x s ps q dvs) (Sc : FnScope N ps (defScope s)) (hS : ∀ as g T U, S as g T U → as.length = ps.length) (hN : ps.length ≤ N.length)
    (body : ∀ (fa : Addr) (cdv : Value) (A : Around) (outer : List Env) (s' : Shared) (H : Hp) (E : XK) (U : XU G), RoomG k (A.deeper (PyProof.Rows.envOfC x (defScope s) s'.heap.objs.size fa cdv)) →
      Takes (cxOf (L2.CX P w) P w K mg base N x (defScope s) fa cdv A outer s' H E) (fun c d _ H => E c d H) →
      PassesOwn (model P w) (A.deeper (PyProof.Rows.envOfC x (defScope s) s'.heap.objs.size fa cdv)) (PyProof.Rows.envOfC x (defScope s) s'.heap.objs.size fa cdv) (cxOf (L2.CX P w) P w K mg base N x (defScope s) fa cdv A outer s' H E).xe →
      ∃ ts t, DSs (cxOf (L2.CX P w) P w K mg base N x (defScope s) fa cdv A outer s' H E) (Z.wish (fun c d _ H => E c d H) (fun c fs _ g => U c fs g)) (defBody s) ts t ∧ ∀ as g T, S as g T U → t { nx := fun _ g' => T (.dt .none) g', rt := T } (entry N as) g) : OkE P w K mg base (k + 1) x ps q dvs (spZ Z S) := by
  obtain ⟨fa, fd, Fu, hm, hb, hb2, hb3⟩ := D
  refine ⟨fa, fd, hm, Fu.kp, hb, hb2, hb3, funGD Fu Sc (fun vs H Q E h => ?_) (fun cdv A outer s H vs Q E hr h => ?_)⟩
  · obtain ⟨F, g, as, T, U, h1, h2, h3, h4, h5, _⟩ := h
    rw [argR_len h4]
    exact hS as g T U h5
  · obtain ⟨F, g, as, T, U, h1, h2, h3, h4, h5, h6, h7⟩ := h
    obtain ⟨ts, t, hd, hb⟩ := body fa cdv A outer s H E U hr (takes_of rfl rfl rfl rfl) (passes_of rfl)
    refine ⟨ts, hd.ps, body3 h1 h2 h3 h4 (hS as g T U h5) hN (fun F' ad ρ g' σ H' c dx fs er R hx hu => ?_) h6 hd.sim (hb as g T h5)⟩
    exact h7 c fs dx F' g' H' ⟨R.fin.base, R.fin.keep, R.fin.keepN, R.fin.new, R.fin.sub, R.fin.res, R.fin.fpF, R.fin.fpB⟩ er hx hu
end
/-- a default that is a whole number, behind n parameters -/
theorem dfnE_int {mg : Str → Option Value} {x : Str} {st : Stmt} {fa T : Addr} {oc oc2 : Value} {od od2 an : Option Addr} {osl osl2 : Array (Option Value)} {kV doc pm cdv ct : Value} {i : Int} {tk : Tok} {n : Nat} {ps : List Str} {q : Str} (m : Nat) (hp : ps.length = m + 1)
    (hm : mg x = some (.ref fa)) (l : K.lookup fa = some ⟨oc, od, .func (PySem.W.fnOf x x (defArgs st) (defBody st) (defScope st) (.ref T) kV doc pm an cdv ct), osl⟩) (lT : K.lookup T = some ⟨oc2, od2, .seq #[.int i tk] n, osl2⟩) (c : PySem.W.codeIn K cdv x = true) (k : PySem.W.keepIn K (.ref fa) = true)
    (h : ∀ (T : Addr) (kV doc pm : Value) (an : Option Addr) (cdv ct : Value) (us its : List Value), us.length = m → its.length = 1 →
      ∃ kk, bindArgs (PySem.W.fnOf x x (defArgs st) (defBody st) (defScope st) (.ref T) kV doc pm an cdv ct) ⟨us, []⟩ = seqItems? (.ref T) >>= kk ∧ kk (some its.toArray) = pure (ps.zip (us ++ its.drop 0)))
    (h2 : ∀ (T : Addr) (kV doc pm : Value) (an : Option Addr) (cdv ct : Value) (us its : List Value), us.length = m + 1 → its.length = 1 →
      ∃ kk, bindArgs (PySem.W.fnOf x x (defArgs st) (defBody st) (defScope st) (.ref T) kV doc pm an cdv ct) ⟨us, []⟩ = seqItems? (.ref T) >>= kk ∧ kk (some its.toArray) = pure (ps.zip (us ++ its.drop 1)))
    (h3 : ∀ (T : Addr) (kV doc pm : Value) (an : Option Addr) (cdv ct : Value) (us its : List Value) (v : Value), us.length = m → its.length = 1 →
      ∃ kk, bindArgs (PySem.W.fnOf x x (defArgs st) (defBody st) (defScope st) (.ref T) kV doc pm an cdv ct) ⟨us, [(q, v)]⟩ = seqItems? (.ref T) >>= kk ∧ kk (some its.toArray) = pure (ps.zip (us ++ [v]))) : DfnE K mg x st ps q [.int i] := by
  have F : FunD K x x (defArgs st) (defBody st) (defScope st) [.int i] [] fa (PySem.W.fnOf x x (defArgs st) (defBody st) (defScope st) (.ref T) kV doc pm an cdv ct) :=
    ⟨⟨oc, od, _, kV, doc, pm, an, cdv, ct, osl, rfl, l, c, .inr ⟨by simp, T, _, [.int i tk], n, rfl, lT, rfl, .cons ⟨tk, rfl⟩ .nil⟩, .inl rfl⟩, k⟩
  obtain ⟨ds, hv, hb⟩ := F.binds1 (ps := ps) m 0 (by simp) (by simp [hp]) h
  obtain ⟨ds2, hv2, hb2⟩ := F.binds1 (ps := ps) (m + 1) 1 (by simp) (by simp [hp]) h2
  cases hv2
  refine ⟨fa, _, ⟨⟨oc, od, _, kV, doc, pm, an, cdv, ct, osl, rfl, l, c⟩, k⟩, hm, ⟨ds, hv, hb⟩, hb2, fun s us v X hl => ?_⟩
  obtain ⟨kk, e1, e2⟩ := h3 T kV doc pm an cdv ct us [.int i tk] v (by omega) rfl
  refine BindsTo.of_looks fun M => ?_
  rw [e1]
  exact looks_items X lT rfl (.of_pure e2)
def tApp1 (t : TA) (te : TE) : TA := fun σ H Q => t σ H fun vs H1 => te σ H1 fun z H2 => Q (vs ++ [z]) H2
def dApp1 (a : DA G) (b : DT G) : DA G := fun ρ g Q => a ρ g fun rs ρ1 g1 => b ρ1 g1 fun r ρ2 g2 => Q (rs ++ [st r]) ρ2 g2
theorem sim_app1 {ta : TA} {te : TE} {a : DA G} {b : DT G} (ha : SimA Z ta a) (hb : Sim Z te b) : SimA Z (tApp1 ta te) (dApp1 a b) := fun f F ad ρ g σ H Q R q P hP => by
  refine ha f F ad ρ g σ H _ R q _ fun vs H1 q => ?_
  obtain ⟨F1, ad1, ρ1, g1, rs, e1, eg1, R1, v1, q⟩ := q
  refine hb f F1 ad1 ρ1 g1 σ H1 _ R1 q _ fun x H2 q2 => ?_
  obtain ⟨F2, ad2, ρ2, g2, r, e2, eg2, R2, v2, q⟩ := q2
  obtain ⟨F2', e2', R2', v2'⟩ := R2.hst v2
  refine hP _ _ ⟨F2', ad2, ρ2, g2, _, (e1.trans e2).trans e2', eg2.trans eg1, R2', ?_, q⟩
  exact paired_app (Paired.mapP v1 fun v r0 ⟨r1, er, z⟩ => ⟨r1, er, z.held (e2.trans e2') eg2⟩) (.cons ⟨r, rfl, v2'⟩ .nil)
section
variable {CC : CXT} {n : Nat} {fa : Addr} {fd : FuncData} {qs : List Str} {sp : Sp} {x q : Str} {p pos kpos : Pos} {e e2 : Expr} {es : List Expr} {t : TA} {te : TE}
theorem pe_callGK {E : L2.St → XK} (F : FnG X.prog X.w X.K X.mg X.base CC n fa fd qs sp) (hr : RoomG n X.A) (hg : Gl X x) (hm : X.mg x = some (.ref fa)) (hk : PySem.W.keepIn X.K (.ref fa) = true) (hb : KwB X.K fd qs q) (hx : ∀ σ, PassesAt CC X σ (E σ))
    (ha : PA X (e :: es) t) (he2 : PE X e2 te) (hall : (backToKw pos (keywordEach [⟨some q, e2, kpos⟩] X.env)).all (·.1.isSome) = true := by rfl) (hks : (backToKw pos (keywordEach [⟨some q, e2, kpos⟩] X.env)).filterMap (·.1) = [q] := by rfl)
    (hdb : (x == ("__debug__" : Str)) = false := by decide) (he : starEach (e :: es) X.env = (false, eval e X.env) :: starEach es X.env := by rfl)
    (hpl : ((backTo pos (starEach (e :: es) X.env)).any (·.1) || (backToKw pos (keywordEach [⟨some q, e2, kpos⟩] X.env)).any (·.1.isNone)) = false := by rfl) :
    PE X (.Call (.Name x p) (e :: es) [⟨some q, e2, kpos⟩] pos) (tCallE sp [] E (tApp1 t te)) := by
  refine ⟨fun pins s σ H Q I h => ?_⟩
  refine wpAny_Call_Name_kw (ld_glob I hg hm ?_ hdb)
  refine PySem.W.callWith_KW (h₀ := X.base) I.ok.mod.kin hk hall (thn (ha.run pos pins s σ H _ I h) fun us s1 ⟨vs, H1, I1, r, q1⟩ => ?_) hpl he
  refine thn ((pk_cons (nm := some q) (kpos := kpos) he2 pk_nil).run pos pins s1 σ H1 (fun zs H2 => ∃ z, zs = [z] ∧ sp ((vs ++ [z]) ++ []) H2 Q (E σ)) I1 ?_) fun ws s2 ⟨zs, H2, I2, rz, z, ez, q2⟩ => ⟨I2.kIn, ?_⟩
  · have mono : ∀ z H2, sp ((vs ++ [z]) ++ []) H2 Q (E σ) → ∃ z', [z] = [z'] ∧ sp ((vs ++ [z']) ++ []) H2 Q (E σ) := fun z H2 h => ⟨z, rfl, h⟩
    show te σ H1 fun z H2 => ∃ z', [z] = [z'] ∧ sp ((vs ++ [z']) ++ []) H2 Q (E σ)
    rw [show (fun (z : V) (H2 : Hp) => ∃ z', [z] = [z'] ∧ sp ((vs ++ [z']) ++ []) H2 Q (E σ)) = fun z H2 => sp ((vs ++ [z]) ++ []) H2 Q (E σ) from funext fun z => funext fun H2 => propext ⟨fun ⟨z', e, h⟩ => by cases e; exact h, mono z H2⟩]
    exact q1
  · rw [hks]
    subst ez
    obtain ⟨u, rfl, ru⟩ := rz.one
    rw [List.append_nil] at q2
    have rr : Vals (vs ++ [z]) (us ++ [u]) := r.append (.cons ru .nil)
    have ul : (us ++ [u]).length = qs.length := by rw [← rr.length]; exact F.len _ _ _ _ q2
    rw [List.length_append] at ul
    refine wpAny_call (codeAny_mono (F.run X.A X.stack s2 H2 ⟨us, [(q, u)]⟩ (us ++ [u]) (vs ++ [z]) Q (E σ) hr I2.env0 (hb s2 us u I2.kIn ul) rr q2) fun res s' hq => ?_)
    cases res with
    | error er => exact hx σ pins H2 s2 er s' I2 hq
    | ok fl =>
      cases fl with
      | ret u => exact I2.after hq
      | next => exact hq.elim
      | brk => exact hq.elim
      | cont => exact hq.elim
end
section
variable {k : Nat} {ps : List Str} {x q : Str} {p pos kpos : Pos} {e e2 : Expr} {es : List Expr} {ta : TA} {te : TE} {a : DA G} {b : DT G}
theorem e_fnE1 {U : UX G} {E : L2.St → XK} (L : Let X Z U E) {dvs : List V} {S : Spec Unit} (F : OkE X.prog X.w X.K X.mg X.base k x ps q dvs (spZ (Z0 K) S)) (hr : RoomG k X.A) (ha : DAs X Z (e :: es) ta a) (hg : Gl X x := by rfl) (hdb : (x == ("__debug__" : Str)) = false := by decide)
    (he : starEach (e :: es) X.env = (false, eval e X.env) :: starEach es X.env := by rfl) (hpl : (backTo pos (starEach es X.env)).any (·.1) = false := by rfl) : DE X Z (.Call (.Name x p) (e :: es) [] pos) (tCallE (spZ (Z0 K) S) [] E ta) (dCall0 U S [] a) := by
  obtain ⟨fa, fd, hm, hk, _, hb, _, Fk⟩ := F
  exact ⟨pe_callG Fk hr hg hm hk hb .nil L.pa ha.pa hdb he hpl, sim_call0 L.lw (fun _ => .nil) ha.sim⟩
theorem e_fnEK {U : UX G} {E : L2.St → XK} (L : Let X Z U E) {dvs : List V} {S : Spec Unit} (F : OkE X.prog X.w X.K X.mg X.base k x ps q dvs (spZ (Z0 K) S)) (hr : RoomG k X.A) (ha : DAs X Z (e :: es) ta a) (he2 : DE X Z e2 te b) (hg : Gl X x := by rfl) (hdb : (x == ("__debug__" : Str)) = false := by decide)
    (hall : (backToKw pos (keywordEach [⟨some q, e2, kpos⟩] X.env)).all (·.1.isSome) = true := by rfl) (hks : (backToKw pos (keywordEach [⟨some q, e2, kpos⟩] X.env)).filterMap (·.1) = [q] := by rfl)
    (he : starEach (e :: es) X.env = (false, eval e X.env) :: starEach es X.env := by rfl)
    (hpl : ((backTo pos (starEach (e :: es) X.env)).any (·.1) || (backToKw pos (keywordEach [⟨some q, e2, kpos⟩] X.env)).any (·.1.isNone)) = false := by rfl) :
    DE X Z (.Call (.Name x p) (e :: es) [⟨some q, e2, kpos⟩] pos) (tCallE (spZ (Z0 K) S) [] E (tApp1 ta te)) (dCall0 U S [] (dApp1 a b)) := by
  obtain ⟨fa, fd, hm, hk, _, _, hb, Fk⟩ := F
  exact ⟨pe_callGK Fk hr hg hm hk hb L.pa ha.pa he2.pe hall hks hdb he hpl, sim_call0 L.lw (fun _ => .nil) (sim_app1 ha.sim he2.sim)⟩
end
end L3
end
section
namespace L3
open PySem L2
inductive Wo where
  | put (gs : List Int) | again (w : Wo) | row (ws : List Wo) | either (ws : List Wo)
mutual
def Wo.d : Wo → PyData
  | .put gs => .tuple [.str "put", .tuple (gs.map PyData.int)]
  | .again w => .tuple [.str "again", w.d]
  | .row ws => .tuple [.str "row", .tuple (Wo.ds ws)]
  | .either ws => .tuple [.str "either", .tuple (Wo.ds ws)]
def Wo.ds : List Wo → List PyData
  | [] => []
  | w :: r => w.d :: Wo.ds r
end
theorem Wo.ds_map : ∀ ws : List Wo, Wo.ds ws = ws.map Wo.d
  | [] => rfl
  | w :: r => by rw [Wo.ds, Wo.ds_map r]; rfl
mutual
def Wo.puts : Wo → Nat
  | .put _ => 1
  | .again w => w.puts
  | .row ws => Wo.putss ws
  | .either ws => Wo.putss ws
def Wo.putss : List Wo → Nat
  | [] => 0
  | w :: r => w.puts + Wo.putss r
end
mutual
def Wo.dp : Wo → Nat
  | .put _ => 1
  | .again w => 1 + w.dp
  | .row ws => 1 + Wo.dps ws
  | .either ws => 1 + Wo.dps ws
def Wo.dps : List Wo → Nat
  | [] => 0
  | w :: r => max w.dp (Wo.dps r)
end
mutual
def Wo.sz : Wo → Nat
  | .put _ => 1
  | .again w => 1 + w.sz
  | .row ws => 1 + Wo.szs ws
  | .either ws => 1 + Wo.szs ws
def Wo.szs : List Wo → Nat
  | [] => 0
  | w :: r => w.sz + Wo.szs r
end
mutual
def Wo.Ok (P : Nat) : Wo → Prop
  | .put gs => gs.length = P ∧ ∀ x ∈ gs, -99 ≤ x ∧ x ≤ 99
  | .again w => w.Ok P
  | .row ws => ws ≠ [] ∧ Wo.Oks P ws
  | .either ws => ws ≠ [] ∧ Wo.Oks P ws
def Wo.Oks (P : Nat) : List Wo → Prop
  | [] => True
  | w :: r => w.Ok P ∧ Wo.Oks P r
end
mutual
theorem Wo.puts_pos {P : Nat} : ∀ {w : Wo}, w.Ok P → 1 ≤ w.puts
  | .put gs, h => by rw [Wo.puts]; exact Nat.le_refl _
  | .again w, h => by rw [Wo.Ok] at h; rw [Wo.puts]; exact Wo.puts_pos h
  | .row ws, h => by rw [Wo.Ok] at h; rw [Wo.puts]; exact Wo.putss_pos h.1 h.2
  | .either ws, h => by rw [Wo.Ok] at h; rw [Wo.puts]; exact Wo.putss_pos h.1 h.2
theorem Wo.putss_pos {P : Nat} : ∀ {ws : List Wo}, ws ≠ [] → Wo.Oks P ws → 1 ≤ Wo.putss ws
  | [], hn, _ => absurd rfl hn
  | w :: r, _, h => by rw [Wo.Oks] at h; rw [Wo.putss]; have := Wo.puts_pos h.1; omega
end
theorem ok_put : okTx (.str "put") = true := by decide +kernel
theorem ok_again : okTx (.str "again") = true := by decide +kernel
theorem ok_row : okTx (.str "row") = true := by decide +kernel
theorem ok_either : okTx (.str "either") = true := by decide +kernel
theorem nice_head {s : Str} (hs : okTx (.str s) = true) (hl : s.length ≤ 20) {n w : Nat} {d : PyData} (h : Nice n w d) : Nice (n + 1) (w + 209) (.tuple [.str s, d]) := by
  have h1 := nice_str s hs hl
  have k := nice_tupW (n := n) (v := max 202 w) (W := w + 206) (ds := [.str s, d]) (fun x hx => by
    simp only [List.mem_cons, List.not_mem_nil, or_false] at hx
    rcases hx with rfl | rfl
    · exact h1.mono (by omega) (by omega)
    · exact h.mono (Nat.le_refl _) (by omega)) (by simp) (by
    have e1 := h1.wd
    have e2 := h.wd
    simp only [wdAll]
    omega)
  exact k
mutual
theorem Wo.nice {P : Nat} (hP : P ≤ 6) : ∀ {w : Wo}, w.Ok P → w.puts ≤ 1000 → Nice (2 * w.dp) (420 * w.sz - 2) w.d
  | .put gs, h, _ => by
    rw [Wo.Ok] at h
    rw [Wo.d, Wo.dp, Wo.sz]
    have k := nice_tup (n := 0) (w := 9) (m := 6) (ds := gs.map PyData.int) (fun d hd => by
      obtain ⟨x, hx, rfl⟩ := List.mem_map.mp hd
      have := h.2 x hx
      exact nice_tiny (by omega) (by omega)) (by rw [List.length_map]; omega)
    exact (nice_head ok_put (by decide) k).mono (by omega) (by omega)
  | .again w, h, hp => by
    rw [Wo.Ok] at h
    rw [Wo.puts] at hp
    rw [Wo.d, Wo.dp, Wo.sz]
    have k := Wo.nice hP h hp
    have := Wo.sz_pos w
    exact (nice_head ok_again (by decide) k).mono (by omega) (by omega)
  | .row ws, h, hp => by
    rw [Wo.Ok] at h
    rw [Wo.puts] at hp
    rw [Wo.d, Wo.dp, Wo.sz]
    obtain ⟨k1, k2, k3⟩ := Wo.nices hP h.2 hp
    exact (nice_head ok_row (by decide) (nice_tupW k1 (by omega) k2)).mono (by omega) (by omega)
  | .either ws, h, hp => by
    rw [Wo.Ok] at h
    rw [Wo.puts] at hp
    rw [Wo.d, Wo.dp, Wo.sz]
    obtain ⟨k1, k2, k3⟩ := Wo.nices hP h.2 hp
    exact (nice_head ok_either (by decide) (nice_tupW k1 (by omega) k2)).mono (by omega) (by omega)
theorem Wo.sz_pos : ∀ w : Wo, 1 ≤ w.sz
  | .put _ => by rw [Wo.sz]; exact Nat.le_refl _
  | .again _ => by rw [Wo.sz]; omega
  | .row _ => by rw [Wo.sz]; omega
  | .either _ => by rw [Wo.sz]; omega
theorem Wo.nices {P : Nat} (hP : P ≤ 6) : ∀ {ws : List Wo}, Wo.Oks P ws → Wo.putss ws ≤ 1000 → (∀ d ∈ Wo.ds ws, Nice (2 * Wo.dps ws) (420 * Wo.szs ws) d) ∧ wdAll (Wo.ds ws) ≤ 420 * Wo.szs ws ∧ (Wo.ds ws).length ≤ 1000
  | [], _, _ => ⟨fun d hd => (nomatch hd), by rw [Wo.ds, wdAll]; omega, by rw [Wo.ds]; simp⟩
  | w :: r, h, hp => by
    rw [Wo.Oks] at h
    rw [Wo.putss] at hp
    have hpp := Wo.puts_pos h.1
    have k := Wo.nice hP h.1 (by omega)
    obtain ⟨k1, k2, k3⟩ := Wo.nices hP h.2 (by omega)
    have hs := Wo.sz_pos w
    have hw := k.wd
    have hl := Wo.len_le h.2
    rw [Wo.ds, Wo.dps, Wo.szs]
    refine ⟨fun d hd => ?_, by rw [wdAll]; omega, by rw [List.length_cons, Wo.ds_map, List.length_map]; omega⟩
    rcases List.mem_cons.mp hd with rfl | hd
    · exact k.mono (by omega) (by omega)
    · exact (k1 d hd).mono (by omega) (by omega)
theorem Wo.len_le {P : Nat} : ∀ {ws : List Wo}, Wo.Oks P ws → ws.length ≤ Wo.putss ws
  | [], _ => Nat.zero_le _
  | w :: r, h => by
    rw [Wo.Oks] at h
    rw [Wo.putss, List.length_cons]
    have := Wo.puts_pos h.1
    have := Wo.len_le h.2
    omega
end
end L3
end
section
namespace L3
open PySem L2
structure NiceC (n w : Nat) (d : PyData) : Prop extends Nice n w d where
  cl : d.canLay0 = true
theorem NiceC.mono {n m w v : Nat} {d : PyData} (h : NiceC n w d) (k : n ≤ m) (l : w ≤ v) : NiceC m v d := ⟨h.toNice.mono k l, h.cl⟩
theorem NiceC.shaped {n w : Nat} {d : PyData} (h : NiceC n w d) (k : n ≤ 64) : SeqAt.shaped d = true := by
  unfold SeqAt.shaped
  rw [h.cl, Bool.true_and]
  exact decide_eq_true (Nat.le_trans h.dp k)
mutual
theorem Wo.cl {P : Nat} : ∀ {w : Wo}, w.Ok P → w.d.canLay0 = true
  | .put gs, _ => by
    rw [Wo.d, PyData.canLay0, PyData.canLayAll0, PyData.canLayAll0, PyData.canLay0, PyData.canLay0, canLay_ints, PyData.canLayAll0]
    decide +kernel
  | .again w, h => by
    rw [Wo.Ok] at h
    rw [Wo.d, PyData.canLay0, PyData.canLayAll0, PyData.canLayAll0, PyData.canLay0, Wo.cl h, PyData.canLayAll0]
    decide +kernel
  | .row ws, h => by
    rw [Wo.Ok] at h
    rw [Wo.d, PyData.canLay0, PyData.canLayAll0, PyData.canLayAll0, PyData.canLay0, PyData.canLay0, Wo.cls h.2, PyData.canLayAll0]
    decide +kernel
  | .either ws, h => by
    rw [Wo.Ok] at h
    rw [Wo.d, PyData.canLay0, PyData.canLayAll0, PyData.canLayAll0, PyData.canLay0, PyData.canLay0, Wo.cls h.2, PyData.canLayAll0]
    decide +kernel
theorem Wo.cls {P : Nat} : ∀ {ws : List Wo}, Wo.Oks P ws → PyData.canLayAll0 (Wo.ds ws) = true
  | [], _ => by rw [Wo.ds, PyData.canLayAll0]
  | w :: r, h => by
    rw [Wo.Oks] at h
    rw [Wo.ds, PyData.canLayAll0, Wo.cl h.1, Wo.cls h.2]
    rfl
end
end L3
end
section
namespace L3
open PySem L2
variable {G : Type} {K : PySem.W.Frag} {mg : Str → Option Value} {X : Cx} {Z : Zx K G} {W : WXH} {U : UX (G × OS)}
mutual
inductive ODat (o : OS) : Cell → PyData → Prop
  | d (x : PyData) : ODat o (.d x) x
  | r {a : Addr} {cs : List Cell} {ds : List PyData} : OS.look o a = some (.ls cs) → ODats o cs ds → ODat o (.r a) (.list ds)
  | t {a : Addr} {cs : List Cell} {ds : List PyData} : OS.look o a = some (.tp cs) → ODats o cs ds → ODat o (.r a) (.tuple ds)
inductive ODats (o : OS) : List Cell → List PyData → Prop
  | nil : ODats o [] []
  | cons {c : Cell} {cs : List Cell} {d : PyData} {ds : List PyData} : ODat o c d → ODats o cs ds → ODats o (c :: cs) (d :: ds)
end
def frzS (o : OS) (F H : Hp) : Hp := fun b => if b ∈ OS.ads o then H b else F b
section
variable {o : OS} {F H : Hp}
theorem frzS_ex (h : ∀ a ∈ OS.ads o, F a = none) : Ex F (frzS o F H) := fun b u e => by
  unfold frzS
  rw [if_neg fun hm => by rw [h b hm] at e; cases e]
  exact e
mutual
theorem ODat.da (hF : ∀ a ∈ OS.ads o, F a = none) (hR : OSR K mg o F H) : ∀ {c : Cell} {d : PyData}, ODat o c d → ∀ {v : V}, CellV K F v c → Da K (frzS o F H) v d
  | _, _, .d x, v, h => da_mono (frzS_ex hF) h
  | _, _, .r l hs, v, h => by
    cases (show v = .ref _ from h)
    obtain ⟨vs, hH, hv⟩ := hR.get l
    exact .lst (by unfold frzS; rw [if_pos (OS.look_ads l)]; exact hH) (hs.da hF hR hv)
  | _, _, .t l hs, v, h => by
    cases (show v = .ref _ from h)
    obtain ⟨vs, hH, hv⟩ := hR.get l
    exact .tup (.inl (.inl (by unfold frzS; rw [if_pos (OS.look_ads l)]; exact hH))) (hs.da hF hR hv)
theorem ODats.da (hF : ∀ a ∈ OS.ads o, F a = none) (hR : OSR K mg o F H) : ∀ {cs : List Cell} {ds : List PyData}, ODats o cs ds → ∀ {vs : List V}, CellsV K F vs cs → DaAll K (frzS o F H) vs ds
  | _, _, .nil, _, .nil => .nil
  | _, _, .cons h r, _, .cons q s => .cons (h.da hF hR q) (r.da hF hR s)
end
end
end L3
end
section
namespace L3
open PySem PySem.Spec PyProof.Rows L2
end L3
end
section
namespace L3
open PySem L2
variable {G : Type} {K : PySem.W.Frag} {X : Cx} {Z : Zx K G}
def revD (n : Nat) : List PyData := (List.range n).map fun i => .int ((n : Int) - 1 - (i : Nat))
theorem revD_len (n : Nat) : (revD n).length = n := by unfold revD; rw [List.length_map, List.length_range]
theorem revD_get {n i : Nat} (h : i < n) : (revD n)[i]? = some (.int ((n : Int) - 1 - (i : Nat))) := by
  unfold revD
  rw [List.getElem?_map, List.getElem?_range h]; rfl
theorem revD_inv {n i : Nat} {d : PyData} (h : (revD n)[i]? = some d) : d = .int ((n : Int) - 1 - (i : Nat)) ∧ i < n := by
  have hi : i < n := by have := (List.getElem?_eq_some_iff.mp h).1; rw [revD_len] at this; exact this
  rw [revD_get hi] at h
  cases h
  exact ⟨rfl, hi⟩
theorem wk_rev {f : Fx} {F : Hp} {n : Nat} {lo : Int} (hlo : lo = (n : Int) - 1) : Wk Z f F (Itc lo (-1) n) (revD n) := fun f1 F1 ad ρ g σ H e R => by
  subst hlo
  rw [revD_len]
  refine ⟨Nat.le_refl _, fun i hi => ⟨hi, fun x H' y => ?_⟩⟩
  obtain ⟨rfl, rfl⟩ := y
  refine ⟨F1, _, revD_get hi, Evl.Ex.refl F1, R, ?_⟩
  rw [show (n : Int) - 1 + (i : Nat) * (-1) = (n : Int) - 1 - (i : Nat) from by omega]
  exact .int _
def dRev1 (t : DT G) : DI G := fun ρ g Q => t ρ g fun r ρ1 g1 => iiU (fun n => rgK n (Q (revD n.toNat) ρ1 g1)) (rd r ρ1)
theorem i_rev1 {tg a : Expr} {ta : TE} {t : DT G} {p p2 pos pos2 : Pos} (hm : X.mg "reversed" = none) (hm2 : X.mg "range" = none) (ha : DE X Z a ta t) (hg : Gl X "reversed" := by rfl) (hg2 : Gl X "range" := by rfl)
    (hs : starEach [a] X.env = (false, eval a X.env) :: starEach [] X.env := by rfl) (hs2 : starEach [(.Call (.Name "range" p2) [a] [] pos2 : Expr)] X.env = (false, eval (.Call (.Name "range" p2) [a] [] pos2) X.env) :: starEach [] X.env := by rfl) :
    DIt X Z tg (.Call (.Name "reversed" p) [.Call (.Name "range" p2) [a] [] pos2] [] pos) (iRevR (tRg1 ta)) (dRev1 t) :=
  ⟨pi_revR hg hm (prg_1 hg2 hm2 ha.pe hs) hs2, fun f F ad ρ g σ H Q R q P hP => by
    refine ha.sim f F ad ρ g σ H _ R q _ fun v H1 q => ?_
    obtain ⟨F1, ad1, ρ1, g1, r, e1, eg1, R1, v1, q⟩ := q
    obtain ⟨n, e, q⟩ := iiU_of q
    obtain ⟨⟨b1, b2⟩, q⟩ := rgK_e q
    have ev := R1.rInt v1 e
    refine ⟨n, ev, by decide, by decide, b1, b2, ?_⟩
    rw [Int.sub_zero]
    exact hP _ _ F1 ad1 ρ1 g1 _ e1 eg1 R1 (wk_rev (by omega)) q⟩
end L3
end
section
namespace L3
open PySem PySem.Spec PyProof.Rows L2
section
variable {G : Type} {K : PySem.W.Frag} {X : Cx} {Z : Zx K G}
/-- a statement behind which the walk halts: what holds there is said once -/
structure CutP (t u : DS G) (D : D3 G) (ρ : En) (g : G) : Prop where
  h : dSeq t u D ρ g
def dCut (t u : DS G) : DS G := fun D ρ g => CutP t u D ρ g
theorem s_cut {s : Stmt} {ss : List Stmt} {t u : TS} {a b : DS G} (h : DSt X Z s t a) (k : DSs X Z ss u b) : DSs X Z (s :: ss) (tSeq t u) (dCut a b) :=
  ⟨pss_cons h.ps k.ps, fun f F ad ρ g σ H D R q D2 le => sim_seq h.sim k.sim f F ad ρ g σ H D R q.h D2 le⟩
theorem dCut_of {t u : DS G} {D : D3 G} {ρ : En} {g : G} (I : En → G → Prop) (h1 : ∀ N : En → G → Prop, (∀ ρ1 g1, I ρ1 g1 → N ρ1 g1) → t { D with nx := N } ρ g) (h2 : ∀ ρ1 g1, I ρ1 g1 → u D ρ1 g1) : CutP t u D ρ g :=
  ⟨h1 _ h2⟩
end
end L3
end
section
namespace L3
open PySem L2
variable {G : Type} {K : PySem.W.Frag} {X : Cx} {Z : Zx K G}
theorem dpAll_at {K : PySem.W.Frag} {H : Hp} : ∀ {vs : List V} {ds : List PyData} {i : Nat} {v : V}, DpAll K H vs ds → vs[i]? = some v → ∃ d, ds[i]? = some d ∧ Dp K H v d
  | _, _, 0, _, .cons h _, e => by cases e; exact ⟨_, rfl, h⟩
  | _, _, i + 1, _, .cons _ r, e => by
    rw [List.getElem?_cons_succ] at e ⊢
    exact dpAll_at r e
theorem daAll_nat {K : PySem.W.Frag} {H : Hp} : ∀ {vs : List V} {ds : List PyData} {i : Nat} {v : V}, DaAll K H vs ds → vs[i]? = some v → ∃ d, ds[i]? = some d ∧ Da K H v d
  | _, _, 0, _, .cons h _, e => by cases e; exact ⟨_, rfl, h⟩
  | _, _, i + 1, _, .cons _ r, e => by
    rw [List.getElem?_cons_succ] at e ⊢
    exact daAll_nat r e
def rMinQ (K : PySem.W.Frag) : List V → Hp → VK → Prop := fun vs H Q => ∃ (α : Type) (_ : DecidableEq α) (_ : PySem.W.DatumOrd α) (a : Addr) (ws : List V) (x : α) (xs : List α), vs = [V.ref a] ∧ SqL K H a ws ∧ DpAll K H ws (PySem.W.Datum.toD x :: xs.map (PySem.W.Datum.toD (α := α))) ∧ PySem.W.Datum.depth α ≤ 60 ∧
  ∀ (i : Nat) (w : V), ws[i]? = some w → (PySem.W.Datum.toD x :: xs.map (PySem.W.Datum.toD (α := α)))[i]? = some (PySem.W.Datum.toD (PySem.W.minOf x xs)) → Q w H
theorem cr_minQ (hc : X.calm = true) (hu : X.A.units + 64 < cLine) : CallR X (.builtin "min") (rMinQ X.K) := by
  intro pins s σ H vs us Q I r h
  obtain ⟨α, i1, i2, a, ws, x, xs, rfl, hs, hd, hdep, q⟩ := h
  obtain ⟨its, rv, hl, _⟩ := I.list hs
  rw [Vals.ref1 r]
  obtain ⟨as, hr⟩ := Dp.readsAll I _ _ _ hd rv
  refine PySem.W.min_list_datum (I.ok.hd hc) hl.isList (x := x) (xs := xs) ⟨as, by simpa using hr⟩ (by omega) fun i v h' tk hi hv hk => ?_
  obtain ⟨bs, hv⟩ := hv
  have hi2 : its[i]? = some v := by simpa using hi
  have hil : i < ws.length := by
    have := (List.getElem?_eq_some_iff.mp hi2).1
    rw [rv.length]
    exact this
  obtain ⟨v2, hv2, hwv⟩ := rv.get (List.getElem?_eq_getElem hil)
  rw [hi2] at hv2
  cases hv2
  generalize hw0 : ws[i] = w at hwv
  have hw : ws[i]? = some w := by rw [List.getElem?_eq_getElem hil, hw0]
  obtain ⟨d, hd1, hd2⟩ := dpAll_at hd hw
  obtain ⟨cs, hrd⟩ := Dp.reads I _ _ _ hd2 hwv
  have e := (PyProof.Rows.reads_det (fun b o e _ => hk b o e) hrd hv).1
  exact ⟨w, H, I.kept hk, hwv, q i w hw (by rw [hd1, e])⟩
mutual
theorem noDict_of_plain : ∀ d : PyData, d.plain = true → d.hasDict = false
  | .none, _ => rfl
  | .bool _, _ => rfl
  | .int _, _ => rfl
  | .str _, _ => rfl
  | .list xs, h => by
    rw [PyData.plain] at h
    rw [PyData.hasDict]
    exact noDict_of_plainAll xs h
  | .tuple xs, h => by
    rw [PyData.plain] at h
    rw [PyData.hasDict]
    exact noDict_of_plainAll xs h
  | .dict _, h => by rw [PyData.plain] at h; cases h
theorem noDict_of_plainAll : ∀ ds : List PyData, PyData.plainAll ds = true → PyData.hasDictAll ds = false
  | [], _ => rfl
  | x :: xs, h => by
    rw [PyData.plainAll, Bool.and_eq_true] at h
    rw [PyData.hasDictAll, noDict_of_plain x h.1, noDict_of_plainAll xs h.2]
    rfl
end
theorem noDict_datum {α : Type} [DecidableEq α] [PySem.W.Datum α] : ∀ xs : List α, PyData.hasDictAll (xs.map (PySem.W.Datum.toD (α := α))) = false
  | [] => rfl
  | x :: xs => by
    rw [List.map_cons, PyData.hasDictAll, noDict_datum xs, Bool.or_false]
    exact noDict_of_plain _ (PySem.W.Datum.plain x)
/-- min(xs): what its items are as Lean data is named by hand -/
def oMinQ : RA G := fun rs ρ g Q => one (fun r => lsD (fun ds => ∃ (α : Type) (_ : DecidableEq α) (_ : PySem.W.DatumOrd α) (x : α) (xs : List α), ds = PySem.W.Datum.toD x :: xs.map (PySem.W.Datum.toD (α := α)) ∧ PySem.W.Datum.depth α ≤ 60 ∧ Q (.dt (PySem.W.Datum.toD (PySem.W.minOf x xs))) ρ g) (rd r ρ)) rs
theorem k_minQ (hu : X.A.units + 64 < cLine) (hc : X.calm = true := by rfl) (hK : K = X.K := by rfl) : CallR X (.builtin "min") (rMinQ K) ∧ SimC Z (rMinQ K) (oMinQ (G := G)) := ⟨by
  rw [hK]
  exact cr_minQ hc hu, fun f F ad ρ g σ H vs rs Q R h q P hP => by
  obtain ⟨r, rfl, q2⟩ := one_of q
  obtain ⟨v, rfl, h0⟩ := vrs1 h
  obtain ⟨ds, e, q3⟩ := lsD_of q2
  obtain ⟨α, i1, i2, x, xs, rfl, hd, q4⟩ := q3
  obtain ⟨a, vs, rfl, ha, da⟩ := R.items h0 e
  refine ⟨α, i1, i2, a, vs, x, xs, rfl, .inl (.inl ha), daAll_reads (noDict_datum (x :: xs)) (daAll_mono R.fin.sub da), hd, fun i w hw hd => hP _ _ ?_⟩
  obtain ⟨d, h1, h2⟩ := daAll_nat da hw
  rw [hd] at h1
  cases h1
  exact R.dat h2 q4⟩
end L3
end
section
namespace L3
open PySem PySem.Spec PyProof.Rows L2
abbrev Stn := Int × List Int
def stnD (p : Stn) : PyData := standD p.1 p.2
def againN (st : List Stn) (r : Int) (xs : List Int) : Nat → Option Nat
  | 0 => none
  | n + 1 => if decide ((st.getD n (0, [])).1 = r) && geL xs (st.getD n (0, [])).2 then some n else againN st r xs n
def againF (st : List Stn) : Option Nat := match st.getLast? with
  | none => none
  | some p => againN st p.1 p.2 (st.length - 1)
def optN : Option Nat → PyData
  | none => .none
  | some n => .int n
abbrev Wst := List Int × List Stn
def wstD (p : Wst) : PyData := .tuple [.list (p.1.map PyData.int), .list (p.2.map stnD)]
structure Fs where
  later : List Wst
  many : Int
  again : Option (List Int × List Int)
def agD : Option (List Int × List Int) → PyData
  | none => .none
  | some p => .tuple [.str "again", .list (p.1.map PyData.int), .list (p.2.map PyData.int)]
def lgD : Option (List Int) → PyData
  | none => .none
  | some w => .list (w.map PyData.int)
def lstS (st : List Stn) : Stn := st.getLast?.getD (0, [])
def nxtS (B : Book) (st : List Stn) (k : Int) : List Stn := st ++ [((wAt B k).b, addL (lstS st).2 (wAt B k).gs)]
def stpKid (B : Book) (p : Wst) (s : Fs) (k : Int) : Fs := match againF (nxtS B p.2 k) with
  | none => ⟨s.later ++ [(p.1 ++ [k], nxtS B p.2 k)], s.many + 1, s.again⟩
  | some i => ⟨s.later, s.many + 1, s.again.or (some ((p.1 ++ [k]).take i, (p.1 ++ [k]).drop i))⟩
def stpOf (B : Book) (s : Fs) (p : Wst) : Fs := (canL B (lstS p.2).1 (lstS p.2).2).foldl (stpKid B p) s
def layF (B : Book) (lay : List Wst) (many : Int) (ag : Option (List Int × List Int)) : Fs := lay.foldl (stpOf B) ⟨[], many, ag⟩
def resD (ag : Option (List Int × List Int)) (lg : Option (List Int)) : PyData := match ag with
  | some p => agD (some p)
  | none => .tuple [.str "ends", lgD lg]
/-- none: out of steps; some none: too many -/
def outF (B : Book) (lim : Int) : Nat → List Wst → Int → Option (List Int × List Int) → Option (List Int) → Option (Option PyData)
  | 0, _, _, _, _ => none
  | n + 1, lay, many, ag, lg => match lay with
    | [] => some (some (resD ag lg))
    | p :: r => if (layF B (p :: r) many ag).many > lim then some none
      else outF B lim n (layF B (p :: r) many ag).later (layF B (p :: r) many ag).many (layF B (p :: r) many ag).again (match (layF B (p :: r) many ag).later with | [] => lg | q :: _ => some q.1)
theorem stpKid_many (B : Book) (p : Wst) (s : Fs) (k : Int) : (stpKid B p s k).many = s.many + 1 := by
  unfold stpKid
  split <;> rfl
theorem stpsKid_many (B : Book) (p : Wst) : ∀ (ks : List Int) (s : Fs), (ks.foldl (stpKid B p) s).many = s.many + ks.length
  | [], s => by simp
  | k :: r, s => by
    rw [List.foldl_cons, stpsKid_many B p r, stpKid_many, List.length_cons]
    omega
theorem stpOf_many (B : Book) (s : Fs) (p : Wst) : s.many ≤ (stpOf B s p).many := by
  unfold stpOf
  rw [stpsKid_many]
  omega
theorem lay_many (B : Book) : ∀ (lay : List Wst) (s : Fs), s.many ≤ (lay.foldl (stpOf B) s).many
  | [], s => Int.le_refl _
  | p :: r, s => by
    rw [List.foldl_cons]
    exact Int.le_trans (stpOf_many B s p) (lay_many B r _)
theorem lay_from {B : Book} {L : List Wst} {i : Nat} {p : Wst} {s s0 : Fs} (hp : L[i]? = some p) (hs : s = (L.take i).foldl (stpOf B) s0) : (stpOf B s p).many ≤ (L.foldl (stpOf B) s0).many := by
  have e : L.take (i + 1) ++ L.drop (i + 1) = L := List.take_append_drop _ _
  rw [← e, List.foldl_append]
  refine Int.le_trans ?_ (lay_many B _ _)
  rw [List.take_add_one, hp, List.foldl_append, ← hs]
  exact Int.le_refl _
structure WOk (P : Nat) (M : Int) (p : Wst) : Prop where
  ne : p.2 ≠ []
  le : (p.2.length : Int) ≤ M
  one : p.1.length + 1 = p.2.length
  q : ∀ q ∈ p.2, q.2.length = P
theorem lay_wst (p : Wst) : Lay 4 (wstD p) := lay_tup fun d hd => by
  simp at hd
  rcases hd with rfl | rfl
  · exact (lay_list (lay_ints p.1) : Lay 1 _).up (by decide)
  · exact lay_list fun d hd => by
      obtain ⟨x, _, rfl⟩ := List.mem_map.mp hd
      exact lay_stand _ _
theorem lay_lay (lay : List Wst) : Lay 5 (.list (lay.map wstD)) := lay_list fun d hd => by
  obtain ⟨x, _, rfl⟩ := List.mem_map.mp hd
  exact lay_wst x
theorem outF_many {B : Book} {lim : Int} {m : Nat} {lay : List Wst} {mn : Int} {ag : Option (List Int × List Int)} {lg : Option (List Int)} {o : Option PyData} (ho : outF B lim m lay mn ag lg = some o) (hne : lay ≠ []) (h : lim < (layF B lay mn ag).many) : o = none := by
  cases m with
  | zero => cases ho
  | succ n =>
    cases lay with
    | nil => exact absurd rfl hne
    | cons p r =>
      rw [outF, if_pos h] at ho
      cases ho
      rfl
def endR (B : Book) (f : Int) (w : List Int) : Int := match w.getLast? with
  | none => f
  | some k => (wAt B k).b
def atS (B : Book) (f : Int) (ys w : List Int) : Stn := (endR B f w, addL ys (gainL B w))
def stW (B : Book) (f : Int) (ys w : List Int) : List Stn := (List.range (w.length + 1)).map fun j => atS B f ys (w.take j)
def nd (B : Book) (f : Int) (ys w : List Int) : Wst := (w, stW B f ys w)
def nnL (zs : List Int) : Bool := zs.all fun z => decide (0 ≤ z)
def agN (B : Book) (f : Int) (w : List Int) : Nat → Option Nat
  | 0 => none
  | n + 1 => if decide (endR B f (w.take n) = endR B f w) && nnL (gainL B (w.drop n)) then some n else agN B f w n
def agW (B : Book) (f : Int) (w : List Int) : Option Nat := agN B f w w.length
structure TB (B : Book) (ys : List Int) : Prop where
  hB : ∀ w ∈ B.ways, w.gs.length = B.purses.toNat
  hp : 0 ≤ B.purses
  l : ys.length = B.purses.toNat
  nn : ∀ y ∈ ys, 0 ≤ y
theorem TB.gs {B : Book} {ys w : List Int} (T : TB B ys) (h : ∀ k ∈ w, inW B k = true) : GsOk B w := fun k hk => by
  have := T.hB _ (wAt_mem (h k hk))
  have := T.hp
  omega
theorem endR_snoc (B : Book) (f : Int) (w : List Int) (k : Int) : endR B f (w ++ [k]) = (wAt B k).b := by
  unfold endR
  rw [List.getLast?_concat]
theorem stW_snoc (B : Book) (f : Int) (ys w : List Int) (k : Int) : stW B f ys (w ++ [k]) = stW B f ys w ++ [atS B f ys (w ++ [k])] := by
  unfold stW
  rw [List.length_append, List.length_singleton, List.range_succ (n := w.length + 1), List.map_append, List.map_singleton]
  congr 1
  · refine List.map_congr_left fun j hj => ?_
    rw [List.mem_range] at hj
    rw [List.take_append_of_le_length (by omega)]
  · rw [List.take_of_length_le (by simp)]
theorem stW_last (B : Book) (f : Int) (ys w : List Int) : (stW B f ys w).getLast? = some (atS B f ys w) := by
  unfold stW
  rw [List.range_succ, List.map_append, List.map_singleton, List.getLast?_concat, List.take_of_length_le (Nat.le_refl _)]
theorem stW_len (B : Book) (f : Int) (ys w : List Int) : (stW B f ys w).length = w.length + 1 := by simp [stW]
theorem lst_stW (B : Book) (f : Int) (ys w : List Int) : lstS (stW B f ys w) = atS B f ys w := by
  unfold lstS
  rw [stW_last]
  rfl
theorem nxt_stW {B : Book} {f : Int} {ys w : List Int} {k : Int} (T : TB B ys) (h : ∀ k ∈ w, inW B k = true) (hk : inW B k = true) : nxtS B (stW B f ys w) k = stW B f ys (w ++ [k]) := by
  unfold nxtS
  rw [lst_stW, stW_snoc]
  have hg : GsOk B (w ++ [k]) := T.gs fun x hx => by
    rcases List.mem_append.mp hx with hx | hx
    · exact h x hx
    · rw [List.mem_singleton.mp hx]; exact hk
  unfold atS
  rw [endR_snoc, gain_push B w k ys T.l hg]
theorem again_stW {B : Book} {f : Int} {ys w : List Int} (T : TB B ys) (h : ∀ k ∈ w, inW B k = true) : againF (stW B f ys w) = agW B f w := by
  have key : ∀ n, n ≤ w.length → againN (stW B f ys w) (atS B f ys w).1 (atS B f ys w).2 n = agN B f w n := by
    intro n
    induction n with
    | zero => intro _; rfl
    | succ n ih =>
      intro hn
      have e1 : (stW B f ys w).getD n (0, []) = atS B f ys (w.take n) := by
        unfold stW
        rw [List.getD_eq_getElem?_getD, List.getElem?_map, List.getElem?_range (by omega)]
        rfl
      have hg := T.gs h
      have hg2 : GsOk B (w.take n ++ w.drop n) := by rw [List.take_append_drop]; exact hg
      have l1 : (gainL B (w.take n)).length = B.purses.toNat := gainL_len (gsOk_l hg2)
      have l2 : (gainL B (w.drop n)).length = B.purses.toNat := gainL_len (gsOk_r hg2)
      have e2 : geL (addL ys (gainL B w)) (addL ys (gainL B (w.take n))) = nnL (gainL B (w.drop n)) := by
        have e3 : gainL B w = addL (gainL B (w.take n)) (gainL B (w.drop n)) := by
          rw [← gainL_app hg2, List.take_append_drop]
        have l3 := addL_len l1 l2
        rw [e3, Bool.eq_iff_iff, geL_iff (addL_len T.l l3) (addL_len T.l l1)]
        unfold nnL
        rw [all_getD, l2]
        refine forall_congr' fun p => forall_congr' fun hp => ?_
        have := T.l
        rw [addL_getD (by omega) (by omega), addL_getD (by omega) (by omega), addL_getD (by omega) (by omega), decide_eq_true_eq]
        constructor <;> intro _ <;> omega
      rw [againN, e1, ih (by omega), agN]
      unfold atS
      simp only
      rw [e2]
  unfold againF
  rw [stW_last]
  show againN (stW B f ys w) (atS B f ys w).1 (atS B f ys w).2 ((stW B f ys w).length - 1) = _
  rw [stW_len]
  exact key w.length (Nat.le_refl _)
def canW (B : Book) (f : Int) (ys w : List Int) : List Int := canL B (endR B f w) (addL ys (gainL B w))
def kidW (B : Book) (f : Int) (ys w : List Int) : List (List Int) := (canW B f ys w).map fun k => w ++ [k]
def LW (B : Book) (f : Int) (ys : List Int) : Nat → List (List Int)
  | 0 => [[]]
  | i + 1 => ((LW B f ys i).flatMap (kidW B f ys)).filter fun w => (agW B f w).isNone
/-- the knots of layer i + 1 -/
def AW (B : Book) (f : Int) (ys : List Int) (i : Nat) : List (List Int) := (LW B f ys i).flatMap (kidW B f ys)
theorem LW_succ (B : Book) (f : Int) (ys : List Int) (i : Nat) : LW B f ys (i + 1) = (AW B f ys i).filter fun w => (agW B f w).isNone := rfl
theorem canW_in {B : Book} {f : Int} {ys w : List Int} {k : Int} (h : k ∈ canW B f ys w) : inW B k = true := (canL_mem.mp h).1
theorem mem_AW {B : Book} {f : Int} {ys : List Int} {i : Nat} {w : List Int} : w ∈ AW B f ys i ↔ ∃ u ∈ LW B f ys i, ∃ k ∈ canW B f ys u, w = u ++ [k] := by
  unfold AW kidW
  rw [List.mem_flatMap]
  constructor
  · rintro ⟨u, hu, h⟩
    obtain ⟨k, hk, rfl⟩ := List.mem_map.mp h
    exact ⟨u, hu, k, hk, rfl⟩
  · rintro ⟨u, hu, k, hk, rfl⟩
    exact ⟨u, hu, List.mem_map.mpr ⟨k, hk, rfl⟩⟩
theorem mem_LW {B : Book} {f : Int} {ys : List Int} {i : Nat} {w : List Int} : w ∈ LW B f ys (i + 1) ↔ w ∈ AW B f ys i ∧ agW B f w = none := by
  rw [LW_succ, List.mem_filter, Option.isNone_iff_eq_none]
theorem LW_in {B : Book} {f : Int} {ys : List Int} : ∀ {i : Nat} {w : List Int}, w ∈ LW B f ys i → ∀ k ∈ w, inW B k = true
  | 0, w, h, k, hk => by
    rw [LW, List.mem_singleton] at h
    subst h
    cases hk
  | i + 1, w, h, k, hk => by
    obtain ⟨u, hu, j, hj, rfl⟩ := mem_AW.mp (mem_LW.mp h).1
    rcases List.mem_append.mp hk with hk | hk
    · exact LW_in hu k hk
    · rw [List.mem_singleton.mp hk]; exact canW_in hj
/-- the first walk of some that comes again, in two parts -/
def fstAg (B : Book) (f : Int) : List (List Int) → Option (List Int × List Int)
  | [] => none
  | w :: ws => match agW B f w with
    | some j => some (w.take j, w.drop j)
    | none => fstAg B f ws
theorem fold_step {B : Book} {f : Int} {ys : List Int} (T : TB B ys) {w : List Int} (hw : ∀ k ∈ w, inW B k = true) : ∀ (ks : List Int) (s : Fs), (∀ k ∈ ks, inW B k = true) →
    ks.foldl (stpKid B (nd B f ys w)) s = ⟨s.later ++ (((ks.map fun k => w ++ [k]).filter fun w => (agW B f w).isNone).map (nd B f ys)), s.many + ks.length, s.again.or (fstAg B f (ks.map fun k => w ++ [k]))⟩
  | [], s, _ => by simp [fstAg]
  | k :: ks, s, h => by
    have hk := h k List.mem_cons_self
    have hwk : ∀ x ∈ w ++ [k], inW B x = true := fun x hx => by
      rcases List.mem_append.mp hx with hx | hx
      · exact hw x hx
      · rw [List.mem_singleton.mp hx]; exact hk
    have e1 : nxtS B (nd B f ys w).2 k = stW B f ys (w ++ [k]) := nxt_stW T hw hk
    rw [List.foldl_cons, fold_step T hw ks _ fun x hx => h x (List.mem_cons_of_mem _ hx)]
    unfold stpKid
    rw [e1, again_stW T hwk]
    cases ha : agW B f (w ++ [k]) with
    | none =>
      simp only [List.map_cons, List.filter_cons, ha, Option.isNone_none, if_true, List.length_cons, fstAg]
      refine Fs.mk.injEq .. |>.mpr ⟨?_, ?_, rfl⟩
      · rw [List.append_assoc]; rfl
      · omega
    | some j =>
      simp only [List.map_cons, List.filter_cons, ha, Option.isNone_some, Bool.false_eq_true, if_false, List.length_cons, fstAg]
      refine Fs.mk.injEq .. |>.mpr ⟨rfl, ?_, ?_⟩
      · omega
      · cases s.again <;> rfl
theorem fstAg_app (B : Book) (f : Int) : ∀ (a b : List (List Int)), fstAg B f (a ++ b) = (fstAg B f a).or (fstAg B f b)
  | [], b => by simp [fstAg]
  | w :: a, b => by
    rw [List.cons_append, fstAg, fstAg]
    cases agW B f w with
    | none => exact fstAg_app B f a b
    | some j => rfl
theorem layF_LW {B : Book} {f : Int} {ys : List Int} (T : TB B ys) (i : Nat) (m : Int) (ag : Option (List Int × List Int)) : layF B ((LW B f ys i).map (nd B f ys)) m ag = ⟨(LW B f ys (i + 1)).map (nd B f ys), m + (AW B f ys i).length, ag.or (fstAg B f (AW B f ys i))⟩ := by
  have key : ∀ (ws : List (List Int)) (s : Fs), (∀ w ∈ ws, ∀ k ∈ w, inW B k = true) → (ws.map (nd B f ys)).foldl (stpOf B) s = ⟨s.later ++ ((ws.flatMap (kidW B f ys)).filter fun w => (agW B f w).isNone).map (nd B f ys), s.many + (ws.flatMap (kidW B f ys)).length, s.again.or (fstAg B f (ws.flatMap (kidW B f ys)))⟩ := by
    intro ws
    induction ws with
    | nil => intro s _; simp [fstAg]
    | cons w ws ih =>
      intro s h
      have e1 : stpOf B s (nd B f ys w) = ⟨s.later ++ ((kidW B f ys w).filter fun w => (agW B f w).isNone).map (nd B f ys), s.many + (kidW B f ys w).length, s.again.or (fstAg B f (kidW B f ys w))⟩ := by
        unfold stpOf
        rw [show lstS (nd B f ys w).2 = atS B f ys w from lst_stW B f ys w]
        rw [fold_step T (h w List.mem_cons_self) _ _ fun k hk => (canL_mem.mp hk).1]
        unfold kidW
        rw [List.length_map]
        rfl
      rw [List.map_cons, List.foldl_cons, e1, ih _ fun x hx => h x (List.mem_cons_of_mem _ hx), List.flatMap_cons]
      refine Fs.mk.injEq .. |>.mpr ⟨?_, ?_, ?_⟩
      · rw [List.filter_append, List.map_append, List.append_assoc]
      · rw [List.length_append]
        show s.many + _ + _ = _
        omega
      · rw [fstAg_app]
        show (s.again.or _).or _ = _
        rw [Option.or_assoc]
  unfold layF
  rw [key _ _ fun w hw => LW_in hw]
  rfl
def knW (B : Book) (f : Int) (ys : List Int) : Nat → Nat
  | 0 => 1
  | i + 1 => knW B f ys i + (AW B f ys i).length
def agnW (B : Book) (f : Int) (ys : List Int) : Nat → Option (List Int × List Int)
  | 0 => none
  | i + 1 => (agnW B f ys i).or (fstAg B f (AW B f ys i))
def lgW (B : Book) (f : Int) (ys : List Int) : Nat → Option (List Int)
  | 0 => none
  | i + 1 => match LW B f ys (i + 1) with
    | [] => lgW B f ys i
    | q :: _ => some q
theorem out_step {B : Book} {f : Int} {ys : List Int} (T : TB B ys) (lim : Int) (n i : Nat) (h : LW B f ys i ≠ []) :
    outF B lim (n + 1) ((LW B f ys i).map (nd B f ys)) (knW B f ys i : Nat) (agnW B f ys i) (lgW B f ys i) =
      if (knW B f ys (i + 1) : Int) > lim then some none else outF B lim n ((LW B f ys (i + 1)).map (nd B f ys)) (knW B f ys (i + 1) : Nat) (agnW B f ys (i + 1)) (lgW B f ys (i + 1)) := by
  have hl := layF_LW (f := f) T i (knW B f ys i : Nat) (agnW B f ys i)
  have e : ((knW B f ys i : Nat) : Int) + ((AW B f ys i).length : Nat) = ((knW B f ys (i + 1) : Nat) : Int) := by rw [knW]; omega
  rw [e] at hl
  cases hL : LW B f ys i with
  | nil => exact absurd hL h
  | cons w ws =>
    rw [hL] at hl
    rw [List.map_cons] at hl ⊢
    rw [outF, hl]
    simp only
    have e2 : (match (LW B f ys (i + 1)).map (nd B f ys) with
      | [] => lgW B f ys i
      | q :: _ => some q.1) = lgW B f ys (i + 1) := by
      rw [lgW]
      cases LW B f ys (i + 1) <;> rfl
    rw [e2]
    rfl
theorem out_told {B : Book} {f : Int} {ys : List Int} (T : TB B ys) (lim : Int) : ∀ (n i : Nat) (o : Option PyData), (knW B f ys i : Int) ≤ lim → outF B lim n ((LW B f ys i).map (nd B f ys)) (knW B f ys i : Nat) (agnW B f ys i) (lgW B f ys i) = some o →
    (o = none → ∃ D, lim < (knW B f ys D : Nat)) ∧ ∀ d, o = some d → ∃ D, i ≤ D ∧ LW B f ys D = [] ∧ (∀ j, i ≤ j → j < D → LW B f ys j ≠ []) ∧ (knW B f ys D : Int) ≤ lim ∧ d = resD (agnW B f ys D) (lgW B f ys D)
  | 0, _, _, _, h => by cases h
  | n + 1, i, o, hc, h => by
    by_cases hL : LW B f ys i = []
    · rw [hL, List.map_nil, outF] at h
      cases h
      exact ⟨fun e => (by cases e), fun d e => by cases e; exact ⟨i, Nat.le_refl _, hL, fun j h1 h2 => by omega, hc, rfl⟩⟩
    · rw [out_step T lim n i hL] at h
      by_cases hm : (knW B f ys (i + 1) : Int) > lim
      · rw [if_pos hm] at h
        cases h
        exact ⟨fun _ => ⟨_, hm⟩, fun d e => by cases e⟩
      · rw [if_neg hm] at h
        obtain ⟨h1, h2⟩ := out_told T lim n (i + 1) o (by omega) h
        refine ⟨h1, fun d e => ?_⟩
        obtain ⟨D, d1, d2, d3, d4, d5⟩ := h2 d e
        refine ⟨D, by omega, d2, fun j j1 j2 => ?_, d4, d5⟩
        by_cases hj : j = i
        · subst hj; exact hL
        · exact d3 j (by omega) j2
theorem out_ends {B : Book} {f : Int} {ys : List Int} (T : TB B ys) (lim : Int) : ∀ (m i : Nat), (lim - knW B f ys i).toNat ≤ m → ∃ n o, outF B lim n ((LW B f ys i).map (nd B f ys)) (knW B f ys i : Nat) (agnW B f ys i) (lgW B f ys i) = some o := by
  intro m
  induction m with
  | zero =>
    intro i hm
    by_cases hL : LW B f ys i = []
    · exact ⟨1, _, by rw [hL]; rfl⟩
    · by_cases hA : AW B f ys i = []
      · refine ⟨2, ?_⟩
        rw [out_step T lim 1 i hL]
        split
        · exact ⟨_, rfl⟩
        · rw [LW_succ, hA]
          exact ⟨_, rfl⟩
      · refine ⟨1, none, ?_⟩
        have := List.length_pos_iff.mpr hA
        rw [out_step T lim 0 i hL, if_pos (by rw [knW]; omega)]
  | succ m ih =>
    intro i hm
    by_cases hL : LW B f ys i = []
    · exact ⟨1, _, by rw [hL]; rfl⟩
    · by_cases hA : AW B f ys i = []
      · refine ⟨2, ?_⟩
        rw [out_step T lim 1 i hL]
        split
        · exact ⟨_, rfl⟩
        · rw [LW_succ, hA]
          exact ⟨_, rfl⟩
      · have := List.length_pos_iff.mpr hA
        obtain ⟨n, o, h⟩ := ih (i + 1) (by rw [knW]; omega)
        by_cases hq : (knW B f ys (i + 1) : Int) > lim
        · exact ⟨n + 1, none, by rw [out_step T lim n i hL, if_pos hq]⟩
        · exact ⟨n + 1, o, by rw [out_step T lim n i hL, if_neg hq]; exact h⟩
theorem root_nd {B : Book} {f : Int} {ys : List Int} (T : TB B ys) : (LW B f ys 0).map (nd B f ys) = [([], [(f, ys)])] := by
  have : addL ys (gainL B []) = ys := addL_zero T.l
  show [([], [(f, addL ys (gainL B []))])] = _
  rw [this]
/-- what from_stand tells, told of the tree -/
theorem out_tree {B : Book} {f : Int} {ys : List Int} (T : TB B ys) (lim : Int) (hl : 1 ≤ lim) : ∃ n o, outF B lim n [([], [(f, ys)])] 1 none none = some o ∧
    (o = none → ∃ D, lim < (knW B f ys D : Nat)) ∧ ∀ d, o = some d → ∃ D, LW B f ys D = [] ∧ (∀ j, j < D → LW B f ys j ≠ []) ∧ (knW B f ys D : Int) ≤ lim ∧ d = resD (agnW B f ys D) (lgW B f ys D) := by
  obtain ⟨n, o, h⟩ := out_ends (f := f) T lim _ 0 (Nat.le_refl _)
  obtain ⟨h1, h2⟩ := out_told T lim n 0 o hl h
  rw [root_nd T] at h
  exact ⟨n, o, h, h1, fun d e => by
    obtain ⟨D, _, d2, d3, d4, d5⟩ := h2 d e
    exact ⟨D, d2, fun j hj => d3 j (Nat.zero_le _) hj, d4, d5⟩⟩
end L3
end
section
namespace L3
open PySem L2
variable {B : Book} {f : Int} {ys : List Int}
theorem LW_len : ∀ {i : Nat} {w : List Int}, w ∈ LW B f ys i → w.length = i
  | 0, w, h => by
    rw [LW, List.mem_singleton] at h
    subst h
    rfl
  | i + 1, w, h => by
    obtain ⟨u, hu, j, hj, rfl⟩ := mem_AW.mp (mem_LW.mp h).1
    rw [List.length_append, LW_len hu]
    rfl
theorem AW_len {i : Nat} {w : List Int} (h : w ∈ AW B f ys i) : w.length = i + 1 := by
  obtain ⟨u, hu, j, hj, rfl⟩ := mem_AW.mp h
  rw [List.length_append, LW_len hu]
  rfl
/-- what the walks of the tree are: gone along from the stand -/
def GnW (B : Book) (f : Int) (ys w : List Int) : Prop := GoneI B f ys w (endR B f w) (addL ys (gainL B w))
theorem GnW.push {w : List Int} {k : Int} (T : TB B ys) (h : GnW B f ys w) (hk : k ∈ canW B f ys w) : GnW B f ys (w ++ [k]) := by
  obtain ⟨h1, h2⟩ := canL_mem.mp hk
  have := GoneI.push h T.hB T.hp h1 h2
  unfold GnW
  rw [endR_snoc, gain_push B w k ys T.l (h.gs T.hB T.hp h1)]
  exact this
theorem GnW.start (T : TB B ys) : GnW B f ys [] := by
  have h := GoneI.start (B := B) (f := f) T.l T.nn
  unfold GnW
  have e : addL ys (gainL B []) = ys := addL_zero T.l
  rw [e]
  exact h
theorem LW_nil {D : Nat} (h : LW B f ys D = []) : ∀ k, LW B f ys (D + k) = [] ∧ AW B f ys (D + k) = []
  | 0 => ⟨h, by unfold AW; rw [Nat.add_zero, h]; rfl⟩
  | k + 1 => by
    obtain ⟨_, h2⟩ := LW_nil h k
    have h3 : LW B f ys (D + (k + 1)) = [] := by
      rw [← Nat.add_assoc, LW_succ, h2]
      rfl
    exact ⟨h3, by unfold AW; rw [h3]; rfl⟩
theorem fstAg_none {ws : List (List Int)} : fstAg B f ws = none ↔ ∀ w ∈ ws, agW B f w = none := by
  induction ws with
  | nil => simp [fstAg]
  | cons w ws ih =>
    rw [fstAg, List.forall_mem_cons, ← ih]
    cases h : agW B f w <;> simp
theorem fstAg_some {p : List Int × List Int} : ∀ {ws : List (List Int)}, fstAg B f ws = some p → ∃ w ∈ ws, ∃ j, agW B f w = some j ∧ p = (w.take j, w.drop j)
  | w :: ws, h => by
    rw [fstAg] at h
    cases e : agW B f w with
    | none =>
      rw [e] at h
      obtain ⟨u, hu, j, h1, h2⟩ := fstAg_some h
      exact ⟨u, List.mem_cons_of_mem _ hu, j, h1, h2⟩
    | some j =>
      rw [e] at h
      cases h
      exact ⟨w, List.mem_cons_self, j, e, rfl⟩
theorem agnW_none : ∀ {D : Nat}, agnW B f ys D = none → ∀ i, i < D → ∀ w ∈ AW B f ys i, agW B f w = none
  | D + 1, h, i, hi, w, hw => by
    rw [agnW, Option.or_eq_none_iff] at h
    by_cases hd : i = D
    · subst hd
      exact fstAg_none.mp h.2 w hw
    · exact agnW_none h.1 i (by omega) w hw
theorem agnW_some {p : List Int × List Int} : ∀ {D : Nat}, agnW B f ys D = some p → ∃ i, i < D ∧ ∃ w ∈ AW B f ys i, ∃ j, agW B f w = some j ∧ p = (w.take j, w.drop j)
  | D + 1, h => by
    rw [agnW, Option.or_eq_some_iff] at h
    rcases h with h | ⟨_, h⟩
    · obtain ⟨i, hi, h⟩ := agnW_some h
      exact ⟨i, by omega, h⟩
    · exact ⟨D, by omega, fstAg_some h⟩
theorem agW_some {w : List Int} {j : Nat} (h : agW B f w = some j) : j < w.length ∧ endR B f (w.take j) = endR B f w ∧ nnL (gainL B (w.drop j)) = true := by
  have key : ∀ n, agN B f w n = some j → j < n ∧ endR B f (w.take j) = endR B f w ∧ nnL (gainL B (w.drop j)) = true := by
    intro n
    induction n with
    | zero => intro h; cases h
    | succ n ih =>
      intro h
      rw [agN] at h
      split at h
      · rename_i q
        cases h
        rw [Bool.and_eq_true, decide_eq_true_eq] at q
        exact ⟨by omega, q.1, q.2⟩
      · obtain ⟨h1, h2⟩ := ih h
        exact ⟨by omega, h2⟩
  exact key _ h
/-- the longest, where the tree is done -/
theorem lgW_told {D : Nat} (h : LW B f ys D = []) (hn : ∀ j, j < D → LW B f ys j ≠ []) : 1 ≤ D ∧ (D = 1 → lgW B f ys D = none) ∧ (1 < D → ∃ w ∈ LW B f ys (D - 1), lgW B f ys D = some w) := by
  have h0 : D ≠ 0 := fun e => by subst e; cases h
  refine ⟨by omega, fun e => ?_, fun e => ?_⟩
  · subst e
    rw [lgW, h]
    rfl
  · obtain ⟨d, rfl⟩ : ∃ d, D = d + 2 := ⟨D - 2, by omega⟩
    rw [lgW, h]
    have := hn (d + 1) (by omega)
    show ∃ w ∈ LW B f ys (d + 1), lgW B f ys (d + 1) = some w
    rw [lgW]
    cases e2 : LW B f ys (d + 1) with
    | nil => exact absurd e2 this
    | cons w ws => exact ⟨w, List.mem_cons_self, rfl⟩
theorem filter_sub {α : Type} {p q : α → Bool} : ∀ {xs : List α}, (∀ x ∈ xs, p x = true → q x = true) → (xs.filter p).Sublist (xs.filter q)
  | [], _ => .slnil
  | x :: xs, h => by
    have ih := filter_sub (xs := xs) fun y hy => h y (List.mem_cons_of_mem _ hy)
    rw [List.filter_cons, List.filter_cons]
    cases hp : p x with
    | true =>
      rw [h x List.mem_cons_self hp]
      exact ih.cons_cons x
    | false =>
      simp only [Bool.false_eq_true, if_false]
      split
      · exact ih.cons x
      · exact ih
theorem flatMap_sub {α β : Type} {g h : α → List β} : ∀ {xs ys : List α}, xs.Sublist ys → (∀ x ∈ xs, (g x).Sublist (h x)) → (xs.flatMap g).Sublist (ys.flatMap h)
  | _, _, .slnil, _ => .slnil
  | xs, y :: ys, .cons _ s, k => by
    rw [List.flatMap_cons]
    exact (flatMap_sub s k).trans (List.sublist_append_right _ _)
  | x :: xs, _ :: ys, .cons_cons _ s, k => by
    rw [List.flatMap_cons, List.flatMap_cons]
    exact (k x List.mem_cons_self).append (flatMap_sub s fun y hy => k y (List.mem_cons_of_mem _ hy))
theorem canL_sub {B : Book} {r : Int} {xs zs : List Int} (hg : ∀ w ∈ B.ways, w.gs.length = xs.length) (hl : zs.length = xs.length) (h : geL zs xs = true) : (canL B r xs).Sublist (canL B r zs) := by
  unfold canL
  refine List.Sublist.map _ (filter_sub fun p hp hf => ?_)
  have hw := hg p.2 (List.of_mem_zip hp).2
  unfold fitsW at hf ⊢
  rw [Bool.and_eq_true] at hf ⊢
  refine ⟨hf.1, ?_⟩
  have h2 := hf.2
  rw [all_getD, addL_len (n := xs.length) rfl hw] at h2
  rw [all_getD, addL_len hl hw]
  intro i hi
  have h3 := of_decide_eq_true (h2 i hi)
  have h4 := (geL_iff rfl hl.symm).mp h i (by omega)
  rw [addL_getD (by omega) (by omega)] at h3 ⊢
  exact decide_eq_true (by omega)
theorem ge_add {xs zs gs : List Int} {n : Nat} (h1 : xs.length = n) (h2 : zs.length = n) (h3 : gs.length = n) (h : geL zs xs = true) : geL (addL zs gs) (addL xs gs) = true := by
  refine (geL_iff (addL_len h2 h3) (addL_len h1 h3)).mpr fun p hp => ?_
  have := (geL_iff h2 h1).mp h p hp
  rw [addL_getD (by omega) (by omega), addL_getD (by omega) (by omega)]
  omega
theorem LW_sub {zs : List Int} (T : TB B ys) (S : TB B zs) (h : geL zs ys = true) : ∀ i, (LW B f ys i).Sublist (LW B f zs i) ∧ (AW B f ys i).Sublist (AW B f zs i) := by
  have st : ∀ i, (LW B f ys i).Sublist (LW B f zs i) → (AW B f ys i).Sublist (AW B f zs i) := fun i hi => by
    unfold AW
    refine flatMap_sub hi fun w hw => ?_
    unfold kidW canW
    refine List.Sublist.map _ ?_
    have l1 : (gainL B w).length = B.purses.toNat := gainL_len (T.gs (LW_in hw))
    have l2 := addL_len T.l l1
    have l3 := addL_len S.l l1
    exact canL_sub (fun x hx => by rw [T.hB x hx, l2]) (by omega) (ge_add T.l S.l l1 h)
  intro i
  induction i with
  | zero => exact ⟨List.Sublist.refl _, st 0 (List.Sublist.refl _)⟩
  | succ i ih =>
    have : (LW B f ys (i + 1)).Sublist (LW B f zs (i + 1)) := by
      rw [LW_succ, LW_succ]
      exact ih.2.filter _
    exact ⟨this, st _ this⟩
/-- a tree that is done without a walk that comes again -/
structure Done (B : Book) (f : Int) (ys : List Int) (D : Nat) : Prop where
  nil : LW B f ys D = []
  no : agnW B f ys D = none
theorem Done.more {D : Nat} (h : Done B f ys D) (i : Nat) {w : List Int} (hw : w ∈ AW B f ys i) : agW B f w = none := by
  by_cases hi : i < D
  · exact agnW_none h.no i hi w hw
  · have := (LW_nil h.nil (i - D)).2
    rw [show D + (i - D) = i from by omega] at this
    rw [this] at hw
    cases hw
/-- from a stand with no number greater: done, too, no sooner too many, no longer walk -/
theorem Done.less {zs : List Int} {D : Nat} (T : TB B ys) (S : TB B zs) (h : geL ys zs = true) (hd : Done B f ys D) : Done B f zs D := by
  refine ⟨?_, ?_⟩
  · have := (LW_sub (f := f) S T h D).1
    rw [hd.nil] at this
    exact List.sublist_nil.mp this
  · cases e : agnW B f zs D with
    | none => rfl
    | some p =>
      obtain ⟨i, hi, w, hw, j, ha, _⟩ := agnW_some e
      have := hd.more i ((LW_sub (f := f) S T h i).2.subset hw)
      rw [this] at ha
      cases ha
/-- parts of a walk that was gone along -/
theorem GnW.ok {w : List Int} (h : GnW B f ys w) (hw : w ≠ []) : chainW B w = true ∧ okW B f ys w = true ∧ endW B w = endR B f w := by
  obtain ⟨h1, h2, h3⟩ := pth_ends h.p hw
  refine ⟨h1, ?_, ?_⟩
  · rw [okW_eq hw, h2, decide_eq_true rfl, h.n]
    rfl
  · unfold endW endR
    rw [List.getLast?_eq_some_getLast hw]
theorem pth_end {B : Book} {a b : Int} {w : List Int} (h : Pth B a w b) : b = endR B a w := by
  cases w with
  | nil => exact h.symm
  | cons k ks =>
    obtain ⟨_, _, h3⟩ := pth_ends h (by simp)
    unfold endR
    rw [List.getLast?_eq_some_getLast (by simp : k :: ks ≠ [])]
    exact h3.symm
theorem GnW.tail {u v : List Int} (T : TB B ys) (h : GnW B f ys (u ++ v)) : Pth B (endR B f u) v (endR B f (u ++ v)) ∧ geL (addL ys (gainL B u)) (needL B v) = true := by
  obtain ⟨b, h1, h2⟩ := h.p.split
  rw [← pth_end h1]
  refine ⟨h2, ?_⟩
  have hg : GsOk B (u ++ v) := T.gs h.p.mem
  have l1 : (gainL B u).length = B.purses.toNat := gainL_len (gsOk_l hg)
  have hn := (geL_iff T.l (needL_len' hg)).mp h.n
  refine (geL_iff (addL_len T.l l1) (needL_len' (gsOk_r hg))).mpr fun p hp => ?_
  have h5 := hn p hp
  have := T.l
  rw [needL_getD hg hp, dueC_app] at h5
  rw [addL_getD (by omega) (by omega), needL_getD (gsOk_r hg) hp, gainL_getD (gsOk_l hg) hp]
  unfold mx2 at h5
  split at h5 <;> omega
end L3
end
section
namespace L3
open PySem L2
def fitL (F : Nat → PyData → Prop) : Nat → List PyData → Prop
  | _, [] => True
  | v, p :: ps => ∃ m r, m + r ≤ v ∧ F m p ∧ fitL F r ps
/-- at most so deep, at most so many parts -/
def Fits : Nat → Nat → PyData → Prop
  | 0, _, _ => False
  | k + 1, v, d => 1 ≤ v ∧ match d with
    | .tuple [_, .tuple ps] => fitL (Fits k) (v - 1) ps
    | .tuple [_, _, z] => Fits k (v - 1) z
    | _ => True
theorem fitL_mono {F G : Nat → PyData → Prop} : ∀ {ps : List PyData} {v w : Nat}, v ≤ w → (∀ m p, p ∈ ps → F m p → G m p) → fitL F v ps → fitL G w ps
  | [], _, _, _, _, _ => trivial
  | p :: ps, v, w, h, hm, ⟨m, r, h1, h2, h3⟩ => ⟨m, r, by omega, hm m p List.mem_cons_self h2, fitL_mono (Nat.le_refl r) (fun m q hq => hm m q (List.mem_cons_of_mem _ hq)) h3⟩
theorem Fits.mono : ∀ {k j v w : Nat} {d : PyData}, k ≤ j → v ≤ w → Fits k v d → Fits j w d
  | 0, _, _, _, _, _, _, h => h.elim
  | k + 1, 0, _, _, _, hk, _, _ => by omega
  | k + 1, j + 1, v, w, d, hk, hv, h => by
    unfold Fits at h ⊢
    obtain ⟨h1, h2⟩ := h
    refine ⟨by omega, ?_⟩
    split at h2
    · exact fitL_mono (by omega) (fun m p _ hf => Fits.mono (by omega) (Nat.le_refl _) hf) h2
    · exact Fits.mono (j := j) (w := w - 1) (by omega) (by omega) h2
    · trivial
end L3
end
section
namespace L3
open PySem PySem.Spec PyProof.Rows L2
end L3
end
section
namespace L3
open PySem PySem.Spec PyProof.Rows L2
end L3
end
section
namespace L3
open PySem L2
variable {B : Book} {ws : List Int}
theorem rings_iff {r : List Int} : r ∈ ringsL B ws ↔ ∃ k ∈ ws, onR B ws k = true ∧ r = ringOf B ws k := by
  have h := ringInv_take (B := B) (ws := ws) ws.length
  rw [List.take_length] at h
  constructor
  · exact h.sub r
  · rintro ⟨k, hk, ho, rfl⟩
    exact h.all k hk ho
theorem rings_nd : (ringsL B ws).Nodup := by
  have key : ∀ (ns : List Int) (acc : List (List Int)), acc.Nodup → (ns.foldl (ringStep B ws) acc).Nodup := by
    intro ns
    induction ns with
    | nil => exact fun acc h => h
    | cons k ns ih =>
      intro acc h
      refine ih _ ?_
      unfold ringStep
      split
      · rename_i q
        rw [List.nodup_append]
        exact ⟨h, by simp, fun a ha b hb e => q.2 (by rw [List.mem_singleton.mp hb] at e; rw [← e]; exact ha)⟩
      · exact h
  exact key ws [] List.nodup_nil
theorem rch_ring {k x y : Int} (hk : k ∈ ws) (hx : Rch B ws (wAt B k).b x) (h : Rch B ws x y) : Rch B ws y (wAt B k).a → Rch B (ringOf B ws k) x y := by
  induction h with
  | refl => exact fun _ => .refl _
  | step h1 m ih =>
    rename_i i
    intro hy
    refine .step (ih ((Rch.one m).trans hy)) (ring_mem.mpr ⟨m, rch_iff.mpr (hx.trans h1), rch_iff.mpr hy⟩)
theorem ring_in {k j : Int} (h : j ∈ ringOf B ws k) : j ∈ ws ∧ Rch B ws (wAt B k).b (wAt B j).a ∧ Rch B ws (wAt B j).b (wAt B k).a := by
  obtain ⟨h1, h2, h3⟩ := ring_mem.mp h
  exact ⟨h1, rch_iff.mp h2, rch_iff.mp h3⟩
theorem all_same {α : Type} {r : α} : ∀ {xs : List α}, xs.Nodup → r ∈ xs → (∀ x ∈ xs, x = r) → xs = [r]
  | [x], _, _, h => by rw [h x List.mem_cons_self]
  | x :: y :: xs, hn, _, h => by
    have h1 := h x List.mem_cons_self
    have h2 := h y (by simp)
    rw [List.nodup_cons] at hn
    exact absurd (by rw [h1, ← h2]; exact List.mem_cons_self) hn.1
/-- a ring's only ring is itself -/
theorem rings_self {r : List Int} (h : r ∈ ringsL B ws) : ringsL B r = [r] := by
  obtain ⟨k, hk, ho, rfl⟩ := rings_iff.mp h
  have hr : ∀ i ∈ ringOf B ws k, ∀ j ∈ ringOf B ws k, Rch B (ringOf B ws k) (wAt B j).b (wAt B i).a := fun i hi j hj => by
    obtain ⟨i1, i2, i3⟩ := ring_in hi
    obtain ⟨j1, j2, j3⟩ := ring_in hj
    exact rch_ring hk (j2.trans (.one j1)) ((j3.trans (.one hk)).trans i2) ((Rch.one i1).trans i3)
  have hself : ∀ j ∈ ringOf B ws k, ringOf B (ringOf B ws k) j = ringOf B ws k := fun j hj => by
    show (ringOf B ws k).filter (inRg B (ringOf B ws k) j) = ringOf B ws k
    rw [List.filter_eq_self]
    intro i hi
    unfold inRg
    rw [rch_iff.mpr (hr i hi j hj), rch_iff.mpr (hr j hj i hi)]
    rfl
  have hkk := onR_mem hk ho
  refine all_same rings_nd (rings_iff.mpr ⟨k, hkk, rch_iff.mpr (hr k hkk k hkk), (hself k hkk).symm⟩) fun q hq => ?_
  obtain ⟨j, hj, _, rfl⟩ := rings_iff.mp hq
  exact hself j hj
end L3
end
section
namespace L3
open PySem L2
end L3
end
section
namespace L3
open PySem PySem.Spec PyProof.Rows L2
end L3
end
section
namespace L3
open PySem PySem.Spec PyProof.Rows L2
end L3
end
section
namespace L3
open PySem PySem.Spec PyProof.Rows L2
variable {B : Book} {ws : List Int}
/-- the room a ring is known by: that its first way leads from -/
def fstR (B : Book) (r : List Int) : Int := (wAt B (r.headD 0)).a
end L3
end
section
namespace L3
open PySem PySem.Spec PyProof.Rows L2
variable {G : Type} {K : PySem.W.Frag} {X : Cx} {Z : Zx K G}
theorem keep_of {s : Option Sl} {ds : List PyData} {p : Prop} (h : s = some (.ls ds)) (hp : p) : s = some (.ls ds) ∧ p := ⟨h, hp⟩
end L3
end
section
namespace L3
open PySem PySem.Spec PyProof.Rows L2
theorem lay_listM {α : Type} {n : Nat} {f : α → PyData} {xs : List α} (h : ∀ x ∈ xs, Lay n (f x)) : Lay (n + 1) (.list (xs.map f)) := lay_list fun d hd => by
  obtain ⟨x, hx, rfl⟩ := List.mem_map.mp hd
  exact h x hx
theorem lay_lints (n : Nat) (ns : List Int) : Lay (n + 1) (.list (ns.map PyData.int)) := lay_listM fun x _ => lay_int n x
end L3
end
section
namespace L3.Dt
abbrev Lam := List Bool → Int
def wdg : List Int → Lam → Lam
  | [], _, _ => 0
  | _ :: _, _, [] => 0
  | v :: vs, w, false :: s => wdg vs (fun t => w (false :: t)) s
  | v :: vs, w, true :: s => v * w (false :: s) - wdg vs (fun t => w (true :: t)) s
theorem wdg_lin : ∀ (v : List Int) (a b : Int) (w u : Lam) (s : List Bool), wdg v (fun t => a * w t + b * u t) s = a * wdg v w s + b * wdg v u s
  | [], _, _, _, _, _ => by simp [wdg]
  | _ :: _, _, _, _, _, [] => by simp [wdg]
  | v :: vs, a, b, w, u, false :: s => by
    show wdg vs (fun t => a * w (false :: t) + b * u (false :: t)) s = _
    rw [wdg_lin vs a b]; rfl
  | v :: vs, a, b, w, u, true :: s => by
    show v * (a * w (false :: s) + b * u (false :: s)) - wdg vs (fun t => a * w (true :: t) + b * u (true :: t)) s = a * (v * w (false :: s) - wdg vs (fun t => w (true :: t)) s) + b * (v * u (false :: s) - wdg vs (fun t => u (true :: t)) s)
    rw [wdg_lin vs a b]
    grind
theorem wdg_zero (v : List Int) (s : List Bool) : wdg v (fun _ => 0) s = 0 := by
  have := wdg_lin v 0 0 (fun _ => 0) (fun _ => 0) s
  simpa using this
theorem wdg_congr {v : List Int} {w u : Lam} (h : ∀ t, w t = u t) (s : List Bool) : wdg v w s = wdg v u s := by
  have : w = u := funext h
  rw [this]
theorem wdg_self : ∀ (v : List Int) (w : Lam) (s : List Bool), wdg v (wdg v w) s = 0
  | [], _, _ => rfl
  | _ :: _, _, [] => rfl
  | v :: vs, w, false :: s => by
    show wdg vs (fun t => wdg vs (fun t => w (false :: t)) t) s = 0
    exact wdg_self vs _ s
  | v :: vs, w, true :: s => by
    show v * wdg vs (fun t => w (false :: t)) s - wdg vs (fun t => v * w (false :: t) - wdg vs (fun t => w (true :: t)) t) s = 0
    have e := wdg_lin vs v (-1) (fun t => w (false :: t)) (wdg vs (fun t => w (true :: t))) s
    have e2 := wdg_congr (v := vs) (w := fun t => v * w (false :: t) - wdg vs (fun t => w (true :: t)) t) (u := fun t => v * w (false :: t) + (-1) * wdg vs (fun t => w (true :: t)) t) (fun t => by omega) s
    rw [e2, e, wdg_self vs]
    omega
/-- sums of vectors -/
def vadd (a b : Int) : List Int → List Int → List Int
  | x :: xs, y :: ys => (a * x + b * y) :: vadd a b xs ys
  | _, _ => []
theorem wdg_vadd : ∀ (x y : List Int) (a b : Int) (w : Lam) (s : List Bool), x.length = y.length → wdg (vadd a b x y) w s = a * wdg x w s + b * wdg y w s
  | [], [], _, _, _, _, _ => by simp [vadd, wdg]
  | _ :: _, _ :: _, _, _, _, [], _ => by simp [vadd, wdg]
  | x :: xs, y :: ys, a, b, w, false :: s, h => by
    show wdg (vadd a b xs ys) _ s = _
    rw [wdg_vadd xs ys a b _ s (by simpa using h)]; rfl
  | x :: xs, y :: ys, a, b, w, true :: s, h => by
    show (a * x + b * y) * w (false :: s) - wdg (vadd a b xs ys) (fun t => w (true :: t)) s = a * (x * w (false :: s) - wdg xs (fun t => w (true :: t)) s) + b * (y * w (false :: s) - wdg ys (fun t => w (true :: t)) s)
    rw [wdg_vadd xs ys a b _ s (by simpa using h)]
    grind
theorem wdg_swap {x y : List Int} (h : x.length = y.length) (w : Lam) (s : List Bool) : wdg x (wdg y w) s = - wdg y (wdg x w) s := by
  have e := wdg_self (vadd 1 1 x y) w s
  rw [wdg_vadd x y 1 1 _ s h] at e
  have ex : ∀ z : List Int, wdg z (wdg (vadd 1 1 x y) w) s = wdg z (wdg x w) s + wdg z (wdg y w) s := fun z => by
    have := wdg_lin z 1 1 (wdg x w) (wdg y w) s
    rw [wdg_congr (v := z) (w := wdg (vadd 1 1 x y) w) (u := fun t => 1 * wdg x w t + 1 * wdg y w t) (fun t => wdg_vadd x y 1 1 w t h) s, this]
    omega
  rw [ex, ex, wdg_self, wdg_self] at e
  omega
def inn : List Int → Lam → Lam
  | [], _, _ => 0
  | _ :: _, _, [] => 0
  | p :: ps, w, false :: s => inn ps (fun t => w (false :: t)) s + p * w (true :: s)
  | p :: ps, w, true :: s => - inn ps (fun t => w (true :: t)) s
def dot : List Int → List Int → Int
  | x :: xs, y :: ys => x * y + dot xs ys
  | _, _ => 0
theorem inn_lin : ∀ (v : List Int) (a b : Int) (w u : Lam) (s : List Bool), inn v (fun t => a * w t + b * u t) s = a * inn v w s + b * inn v u s
  | [], _, _, _, _, _ => by simp [inn]
  | _ :: _, _, _, _, _, [] => by simp [inn]
  | v :: vs, a, b, w, u, false :: s => by
    show inn vs (fun t => a * w (false :: t) + b * u (false :: t)) s + v * (a * w (true :: s) + b * u (true :: s)) = a * (inn vs (fun t => w (false :: t)) s + v * w (true :: s)) + b * (inn vs (fun t => u (false :: t)) s + v * u (true :: s))
    rw [inn_lin vs a b]
    grind
  | v :: vs, a, b, w, u, true :: s => by
    show - inn vs (fun t => a * w (true :: t) + b * u (true :: t)) s = a * (- inn vs (fun t => w (true :: t)) s) + b * (- inn vs (fun t => u (true :: t)) s)
    rw [inn_lin vs a b]
    grind
theorem inn_congr {v : List Int} {w u : Lam} (h : ∀ t, w t = u t) (s : List Bool) : inn v w s = inn v u s := by
  have : w = u := funext h
  rw [this]
/-- only lists of m bits count -/
theorem inn_wdg : ∀ (p v : List Int) (w : Lam) (s : List Bool), p.length = v.length → s.length = p.length → inn p (wdg v w) s = dot p v * w s - wdg v (inn p w) s
  | [], [], w, s, _, _ => by simp [inn, dot, wdg]
  | p :: ps, v :: vs, w, [], _, h => by simp at h
  | p :: ps, v :: vs, w, false :: s, h, hs => by
    have l : ps.length = vs.length := by simpa using h
    have ls : s.length = ps.length := by simpa using hs
    show inn ps (fun t => wdg vs (fun t => w (false :: t)) t) s + p * (v * w (false :: s) - wdg vs (fun t => w (true :: t)) s) = (p * v + dot ps vs) * w (false :: s) - wdg vs (fun t => inn ps (fun t => w (false :: t)) t + p * w (true :: t)) s
    have e := wdg_lin vs 1 p (inn ps (fun t => w (false :: t))) (fun t => w (true :: t)) s
    rw [wdg_congr (v := vs) (w := fun t => inn ps (fun t => w (false :: t)) t + p * w (true :: t)) (u := fun t => 1 * inn ps (fun t => w (false :: t)) t + p * w (true :: t)) (fun t => by omega) s, e]
    have i := inn_wdg ps vs (fun t => w (false :: t)) s l ls
    show inn ps (wdg vs (fun t => w (false :: t))) s + _ = _
    rw [i]
    grind
  | p :: ps, v :: vs, w, true :: s, h, hs => by
    have l : ps.length = vs.length := by simpa using h
    have ls : s.length = ps.length := by simpa using hs
    show - inn ps (fun t => v * w (false :: t) - wdg vs (fun t => w (true :: t)) t) s = (p * v + dot ps vs) * w (true :: s) - (v * (inn ps (fun t => w (false :: t)) s + p * w (true :: s)) - wdg vs (fun t => - inn ps (fun t => w (true :: t)) t) s)
    have e := inn_lin ps v (-1) (fun t => w (false :: t)) (wdg vs (fun t => w (true :: t))) s
    rw [inn_congr (v := ps) (w := fun t => v * w (false :: t) - wdg vs (fun t => w (true :: t)) t) (u := fun t => v * w (false :: t) + (-1) * wdg vs (fun t => w (true :: t)) t) (fun t => by omega) s, e, inn_wdg ps vs _ s l ls]
    have e2 := wdg_lin vs (-1) 0 (inn ps (fun t => w (true :: t))) (fun _ => 0) s
    rw [wdg_congr (v := vs) (w := fun t => - inn ps (fun t => w (true :: t)) t) (u := fun t => -1 * inn ps (fun t => w (true :: t)) t + 0 * 0) (fun t => by omega) s, e2]
    grind
def cnt : List Bool → Nat
  | [] => 0
  | false :: s => cnt s
  | true :: s => cnt s + 1
theorem cnt_le : ∀ s : List Bool, cnt s ≤ s.length
  | [] => Nat.le_refl _
  | false :: s => by have := cnt_le s; simp [cnt]; omega
  | true :: s => by have := cnt_le s; simp [cnt]; omega
def Deg (k : Nat) (w : Lam) : Prop := ∀ s, cnt s ≠ k → w s = 0
theorem wdg_z : ∀ (v : List Int) (w : Lam) (s : List Bool) (k : Nat), (∀ t, cnt t ≠ k → w t = 0) → cnt s ≠ k + 1 → wdg v w s = 0
  | [], _, _, _, _, _ => rfl
  | _ :: _, _, [], _, _, _ => rfl
  | v :: vs, w, false :: s, k, h, hs => wdg_z vs _ s k (fun t ht => h _ ht) hs
  | v :: vs, w, true :: s, 0, h, hs => by
    show v * w (false :: s) - wdg vs (fun t => w (true :: t)) s = 0
    rw [h _ (show cnt (false :: s) ≠ 0 from fun e => hs (by show cnt s + 1 = _; have : cnt s = 0 := e; omega)), wdg_congr (u := fun _ => 0) (fun t => h _ (by show cnt t + 1 ≠ 0; omega)), wdg_zero]
    omega
  | v :: vs, w, true :: s, k + 1, h, hs => by
    show v * w (false :: s) - wdg vs (fun t => w (true :: t)) s = 0
    have hs : cnt s + 1 ≠ k + 1 + 1 := hs
    rw [h _ (show cnt (false :: s) ≠ k + 1 from fun e => hs (by have : cnt s = k + 1 := e; omega)), wdg_z vs (fun t => w (true :: t)) s k (fun t ht => h (true :: t) (show cnt t + 1 ≠ k + 1 by omega)) (by omega)]
    omega
theorem Deg.wdg {k : Nat} {w : Lam} (h : Deg k w) (v : List Int) : Deg (k + 1) (wdg v w) := fun s hs => wdg_z v w s k h hs
def one : Lam := fun s => if cnt s = 0 then 1 else 0
theorem one_deg : Deg 0 one := fun s hs => if_neg hs
/-- the product of some vectors -/
def prd : List (List Int) → Lam
  | [] => one
  | v :: vs => wdg v (prd vs)
theorem prd_deg : ∀ vs : List (List Int), Deg vs.length (prd vs)
  | [] => one_deg
  | v :: vs => (prd_deg vs).wdg v
def ones : Nat → List Bool
  | 0 => []
  | n + 1 => true :: ones n
theorem ones_len : ∀ n, (ones n).length = n
  | 0 => rfl
  | n + 1 => congrArg (· + 1) (ones_len n)
def zeros : Nat → List Bool
  | 0 => []
  | n + 1 => false :: zeros n
def top (m : Nat) (w : Lam) : Int := w (ones m)
/-- a covector: top (v ∧ w) is v's dot product with it -/
def cov : Nat → Lam → List Int
  | 0, _ => []
  | n + 1, w => w (false :: ones n) :: (cov n fun t => w (true :: t)).map fun x => -x
theorem cov_len : ∀ (n : Nat) (w : Lam), (cov n w).length = n
  | 0, _ => rfl
  | n + 1, w => by simp [cov, cov_len n]
theorem dot_neg : ∀ (x y : List Int), dot (x.map fun a => -a) y = - dot x y
  | [], _ => by simp [dot]
  | _ :: _, [] => by simp [dot]
  | x :: xs, y :: ys => by
    show -x * y + dot (xs.map fun a => -a) ys = -(x * y + dot xs ys)
    rw [dot_neg xs ys]
    grind
theorem cov_dot : ∀ (m : Nat) (v : List Int) (w : Lam), v.length = m → dot (cov m w) v = top m (wdg v w)
  | 0, [], w, _ => rfl
  | m + 1, v :: vs, w, h => by
    show w (false :: ones m) * v + dot ((cov m fun t => w (true :: t)).map fun x => -x) vs = v * w (false :: ones m) - wdg vs (fun t => w (true :: t)) (ones m)
    rw [dot_neg, cov_dot m vs _ (by simpa using h)]
    unfold top
    grind
theorem prd_len {m : Nat} {vs : List (List Int)} (h : m < vs.length) (s : List Bool) (hs : s.length = m) : prd vs s = 0 := prd_deg vs s (by have := cnt_le s; omega)
theorem wdg_on0 : ∀ (v : List Int) {m : Nat} (w : Lam), (∀ t : List Bool, t.length = m → w t = 0) → ∀ s : List Bool, s.length = m → wdg v w s = 0
  | [], _, _, _, _, _ => rfl
  | _ :: _, _, _, _, [], _ => rfl
  | v :: vs, m + 1, w, h, false :: s, hs => wdg_on0 vs (m := m) _ (fun t ht => h _ (by simpa using ht)) s (by simpa using hs)
  | v :: vs, m + 1, w, h, true :: s, hs => by
    show v * w (false :: s) - wdg vs (fun t => w (true :: t)) s = 0
    rw [h (false :: s) (by simpa using hs), wdg_on0 vs (m := m) (fun t => w (true :: t)) (fun t ht => h _ (by simpa using ht)) s (by simpa using hs)]
    omega
/-- the inner product of a product whose factors the covector kills -/
theorem inn_prd0 (p : List Int) : ∀ (vs : List (List Int)), (∀ v ∈ vs, v.length = p.length ∧ dot p v = 0) → ∀ s : List Bool, s.length = p.length → inn p (prd vs) s = 0
  | [], _, s, _ => by
    have go : ∀ (p : List Int) (s : List Bool), inn p one s = 0 := fun p => by
      induction p with
      | nil => intro s; rfl
      | cons a r ih =>
        intro s
        match s with
        | [] => rfl
        | false :: s =>
          show inn r (fun t => one (false :: t)) s + a * one (true :: s) = 0
          have e1 : (fun t => one (false :: t)) = one := rfl
          have e2 : one (true :: s) = 0 := if_neg (by show cnt s + 1 ≠ 0; omega)
          rw [e1, ih, e2]; omega
        | true :: s =>
          show - inn r (fun t => one (true :: t)) s = 0
          have e := inn_lin r 0 0 one one s
          rw [inn_congr (v := r) (w := fun t => one (true :: t)) (u := fun t => 0 * one t + 0 * one t) (fun t => by
            have e2 : one (true :: t) = 0 := if_neg (by show cnt t + 1 ≠ 0; omega)
            rw [e2]; omega), e]
          omega
    exact go p s
  | v :: vs, h, s, hs => by
    show inn p (wdg v (prd vs)) s = 0
    obtain ⟨h1, h2⟩ := h v List.mem_cons_self
    rw [inn_wdg p v _ s h1.symm hs, h2]
    have : ∀ t : List Bool, t.length = p.length → inn p (prd vs) t = 0 := inn_prd0 p vs fun v hv => h v (List.mem_cons_of_mem _ hv)
    rw [wdg_on0 v (m := p.length) _ this s hs]
    omega
theorem wdg_on {m : Nat} (v : List Int) {w u : Lam} (h : ∀ t : List Bool, t.length = m → w t = u t) (s : List Bool) (hs : s.length = m) : wdg v w s = wdg v u s := by
  have e := wdg_lin v 1 (-1) w u s
  have z := wdg_on0 v (m := m) (fun t => 1 * w t + (-1) * u t) (fun t ht => by rw [h t ht]; omega) s hs
  rw [z] at e
  omega
theorem kill {m : Nat} : ∀ (z : List Int) (r : List (List Int)), z ∈ r → (∀ v ∈ r, v.length = m) → ∀ s, wdg z (prd r) s = 0
  | z, v :: r, h, hl, s => by
    show wdg z (wdg v (prd r)) s = 0
    rcases List.mem_cons.mp h with rfl | h
    · exact wdg_self _ _ s
    · rw [wdg_swap ((hl z (List.mem_cons_of_mem _ h)).trans (hl v List.mem_cons_self).symm), wdg_congr (u := fun _ => 0) (fun t => kill z r h (fun v hv => hl v (List.mem_cons_of_mem _ hv)) t), wdg_zero]
      omega
theorem inn0 : ∀ (p : List Int) (w : Lam), (∀ s : List Bool, s.length = p.length → w s = 0) → ∀ s : List Bool, s.length = p.length → inn p w s = 0
  | [], _, _, _, _ => rfl
  | _ :: _, _, _, [], _ => rfl
  | a :: p, w, h, false :: s, hs => by
    show inn p (fun t => w (false :: t)) s + a * w (true :: s) = 0
    rw [inn0 p _ (fun t ht => h _ (by simpa using ht)) s (by simpa using hs), h (true :: s) (by simpa using hs)]; omega
  | a :: p, w, h, true :: s, hs => by
    show - inn p (fun t => w (true :: t)) s = 0
    rw [inn0 p _ (fun t ht => h _ (by simpa using ht)) s (by simpa using hs)]; omega
/-- the bracket -/
def brk (m : Nat) (vs : List (List Int)) : Int := top m (prd vs)
/-- three terms: u v x y over r -/
theorem three (m : Nat) (r : List (List Int)) (hr : r.length + 2 = m) (hl : ∀ v ∈ r, v.length = m) {u v x y : List Int} (hu : u.length = m) (hv : v.length = m) (hx : x.length = m) (hy : y.length = m) :
    brk m (u :: v :: r) * brk m (x :: y :: r) = brk m (x :: v :: r) * brk m (u :: y :: r) - brk m (y :: v :: r) * brk m (u :: x :: r) := by
  let w : Lam := wdg v (prd r)
  let p := cov m w
  have pl : p.length = m := cov_len m w
  have pd : ∀ z : List Int, z.length = m → dot p z = brk m (z :: v :: r) := fun z hz => cov_dot m z w hz
  have self0 : ∀ z ∈ r, dot p z = 0 := fun z hz => by
    rw [pd z (hl z hz)]
    show wdg z (wdg v (prd r)) (ones m) = 0
    rw [wdg_swap ((hl z hz).trans hv.symm)]
    have : ∀ s, wdg z (prd r) s = 0 := kill z r hz fun v hv => hl v hv
    rw [wdg_congr this, wdg_zero]; omega
  have big : prd (u :: x :: y :: r) (ones m) = 0 := prd_len (m := m) (by simp; omega) _ (ones_len m)
  have bigall : ∀ s : List Bool, s.length = m → prd (u :: x :: y :: r) s = 0 := fun s hs => prd_len (m := m) (by simp; omega) _ hs
  have i0 : inn p (prd (u :: x :: y :: r)) (ones m) = 0 := inn0 p _ (fun s hs => bigall s (hs.trans pl)) _ (by rw [ones_len, pl])
  have om : (ones m).length = p.length := by rw [ones_len, pl]
  have e1 : inn p (prd (u :: x :: y :: r)) (ones m) = dot p u * prd (x :: y :: r) (ones m) - wdg u (inn p (prd (x :: y :: r))) (ones m) := inn_wdg p u _ _ (by rw [pl, hu]) om
  have e2 : ∀ s : List Bool, s.length = p.length → inn p (prd (x :: y :: r)) s = dot p x * prd (y :: r) s - dot p y * prd (x :: r) s := fun s hs => by
    have a1 : inn p (prd (x :: y :: r)) s = dot p x * prd (y :: r) s - wdg x (inn p (prd (y :: r))) s := inn_wdg p x _ _ (by rw [pl, hx]) hs
    have a2 : ∀ s : List Bool, s.length = p.length → inn p (prd (y :: r)) s = dot p y * prd r s := fun s hs => by
      have b1 : inn p (prd (y :: r)) s = dot p y * prd r s - wdg y (inn p (prd r)) s := inn_wdg p y _ _ (by rw [pl, hy]) hs
      rw [b1, wdg_on0 y (m := p.length) _ (inn_prd0 p r fun v hv => ⟨by rw [hl v hv, pl], self0 v hv⟩) s hs]
      omega
    rw [a1, wdg_on (m := p.length) x (u := fun t => dot p y * prd r t + 0 * prd r t) (fun t ht => by rw [a2 t ht]; omega) s hs, wdg_lin]
    show dot p x * prd (y :: r) s - (dot p y * prd (x :: r) s + 0 * _) = _
    omega
  rw [i0] at e1
  rw [wdg_on (m := p.length) u (u := fun t => dot p x * prd (y :: r) t + (- dot p y) * prd (x :: r) t) (fun t ht => by rw [e2 t ht]; grind) _ om, wdg_lin] at e1
  have f : 0 = dot p u * brk m (x :: y :: r) - (dot p x * brk m (u :: y :: r) + (- dot p y) * brk m (u :: x :: r)) := e1
  rw [pd u hu, pd x hx, pd y hy] at f
  grind
end L3.Dt
end
section
namespace L3.Dt
def sm : Nat → (Nat → Int) → Int
  | 0, _ => 0
  | n + 1, f => sm n f + f n
theorem sm_congr : ∀ {n : Nat} {f g : Nat → Int}, (∀ i, i < n → f i = g i) → sm n f = sm n g
  | 0, _, _, _ => rfl
  | n + 1, f, g, h => by
    show sm n f + f n = sm n g + g n
    rw [sm_congr fun i hi => h i (Nat.lt_succ_of_lt hi), h n (Nat.lt_succ_self n)]
theorem sm_add : ∀ (n : Nat) (f g : Nat → Int), sm n (fun i => f i + g i) = sm n f + sm n g
  | 0, _, _ => rfl
  | n + 1, f, g => by
    show sm n (fun i => f i + g i) + (f n + g n) = (sm n f + f n) + (sm n g + g n)
    rw [sm_add n f g]; omega
theorem sm_mul : ∀ (n : Nat) (a : Int) (f : Nat → Int), sm n (fun i => a * f i) = a * sm n f
  | 0, a, _ => by simp [sm]
  | n + 1, a, f => by
    show sm n (fun i => a * f i) + a * f n = a * (sm n f + f n)
    rw [sm_mul n a f, Int.mul_add]
theorem sm_zero : ∀ (n : Nat), sm n (fun _ => 0) = 0
  | 0 => rfl
  | n + 1 => by show sm n (fun _ => 0) + 0 = 0; rw [sm_zero n]; rfl
theorem sm_neg (n : Nat) (f : Nat → Int) : sm n (fun i => - f i) = - sm n f := by
  have := sm_mul n (-1) f
  rw [sm_congr (g := fun i => -1 * f i) (fun i _ => by omega), this]; omega
theorem sm_sub (n : Nat) (f g : Nat → Int) : sm n (fun i => f i - g i) = sm n f - sm n g := by
  have := sm_add n f (fun i => - g i)
  rw [sm_neg] at this
  rw [sm_congr (g := fun i => f i + - g i) (fun i _ => by omega), this]; omega
theorem sm_swap : ∀ (n m : Nat) (f : Nat → Nat → Int), sm n (fun i => sm m fun j => f i j) = sm m fun j => sm n fun i => f i j
  | 0, m, f => (sm_zero m).symm
  | n + 1, m, f => by
    show sm n (fun i => sm m fun j => f i j) + sm m (fun j => f n j) = sm m fun j => sm n (fun i => f i j) + f n j
    rw [sm_add, sm_swap n m f]
theorem sm_one : ∀ {n k : Nat} (v : Int), k < n → sm n (fun i => if i = k then v else 0) = v
  | n + 1, k, v, h => by
    show sm n (fun i => if i = k then v else 0) + (if n = k then v else 0) = v
    by_cases e : n = k
    · rw [if_pos e, sm_congr (g := fun _ => 0) (fun i hi => if_neg (by omega)), sm_zero]; omega
    · rw [if_neg e, sm_one v (by omega)]; omega
theorem sm_ge0 : ∀ {n : Nat} {f : Nat → Int}, (∀ i, i < n → 0 ≤ f i) → 0 ≤ sm n f
  | 0, _, _ => Int.le_refl _
  | n + 1, f, h => by
    have := sm_ge0 fun i hi => h i (Nat.lt_succ_of_lt hi)
    have := h n (Nat.lt_succ_self n)
    show 0 ≤ sm n f + f n
    omega
theorem sm_succ (n : Nat) (f : Nat → Int) : sm (n + 1) f = sm n f + f n := rfl
theorem sm_shift : ∀ (n : Nat) (f : Nat → Int), sm (n + 1) f = f 0 + sm n fun i => f (i + 1)
  | 0, f => by show 0 + f 0 = f 0 + 0; omega
  | n + 1, f => by
    show sm (n + 1) f + f (n + 1) = f 0 + (sm n (fun i => f (i + 1)) + f (n + 1))
    rw [sm_shift n f]; omega
def sg : Nat → Int
  | 0 => 1
  | n + 1 => - sg n
theorem sg_sq : ∀ n, sg n * sg n = 1
  | 0 => rfl
  | n + 1 => by show - sg n * - sg n = 1; rw [Int.neg_mul_neg, sg_sq n]
theorem prd_front {m : Nat} : ∀ (L : List (List Int)) (i : Nat) (x : List Int), L[i]? = some x → (∀ v ∈ L, v.length = m) → ∀ s, prd L s = sg i * prd (x :: L.eraseIdx i) s
  | v :: L, 0, x, h, _, s => by
    cases (show some v = some x from h)
    show prd (v :: L) s = 1 * prd (v :: L) s
    omega
  | v :: L, i + 1, x, h, hl, s => by
    have h : L[i]? = some x := h
    have hx : x.length = m := hl x (List.mem_cons_of_mem _ (List.mem_of_getElem? h))
    show wdg v (prd L) s = - sg i * wdg x (wdg v (prd (L.eraseIdx i))) s
    have ih := prd_front L i x h fun w hw => hl w (List.mem_cons_of_mem _ hw)
    rw [wdg_congr (v := v) (u := fun t => sg i * prd (x :: L.eraseIdx i) t + 0 * 0) (fun t => by rw [ih t]; omega), wdg_lin v (sg i) 0 _ (fun _ => 0)]
    show sg i * wdg v (wdg x (prd (L.eraseIdx i))) s + 0 * _ = _
    rw [wdg_swap ((hl v List.mem_cons_self).trans hx.symm)]
    grind
theorem brk_front {m : Nat} {L : List (List Int)} {i : Nat} {x : List Int} (h : L[i]? = some x) (hl : ∀ v ∈ L, v.length = m) : brk m L = sg i * brk m (x :: L.eraseIdx i) := prd_front L i x h hl _
theorem eraseSet {α : Type} (x : α) : ∀ (L : List α) (i : Nat), (L.set i x).eraseIdx i = L.eraseIdx i
  | [], _ => rfl
  | _ :: _, 0 => rfl
  | a :: L, i + 1 => by show a :: (L.set i x).eraseIdx i = a :: L.eraseIdx i; rw [eraseSet x L i]
theorem all_set {m : Nat} {L : List (List Int)} (h : ∀ v ∈ L, v.length = m) {x : List Int} (hx : x.length = m) (i : Nat) : ∀ v ∈ L.set i x, v.length = m := fun v hv => by
  rcases List.mem_or_eq_of_mem_set hv with hv | rfl
  · exact h v hv
  · exact hx
/-- where a place comes to when another one is left out -/
def offP (i r : Nat) : Nat := if r < i then r else r - 1
theorem erase_get {α : Type} : ∀ {L : List α} {i r : Nat}, i ≠ r → (L.eraseIdx i)[offP i r]? = L[r]? := fun {L i r} h => by
  unfold offP
  by_cases e : r < i
  · rw [if_pos e, List.getElem?_eraseIdx_of_lt e]
  · rw [if_neg e, List.getElem?_eraseIdx_of_ge (by omega)]
    congr 1; omega
theorem erase_set {α : Type} (x : α) : ∀ {L : List α} {i r : Nat}, i ≠ r → (L.set r x).eraseIdx i = (L.eraseIdx i).set (offP i r) x := fun {L i r} h => by
  apply List.ext_getElem?
  intro k
  simp only [List.getElem?_eraseIdx, List.getElem?_set, List.length_eraseIdx]
  unfold offP
  (repeat' split) <;> first | rfl | omega | (exfalso; omega) | (simp_all <;> omega) | (exact (List.getElem?_eq_none (by omega)).symm) | (exact List.getElem?_eq_none (by omega))
/-- the exchange of two places -/
theorem exch {m : Nat} {L : List (List Int)} {i r : Nat} (hL : L.length = m) (hi : i < m) (hr : r < m) (ne : i ≠ r) (hl : ∀ v ∈ L, v.length = m) {u v : List Int} (hu : u.length = m) (hv : v.length = m) :
    brk m L * brk m ((L.set i u).set r v) = brk m (L.set i u) * brk m (L.set r v) - brk m (L.set i v) * brk m (L.set r u) := by
  obtain ⟨a, ha⟩ : ∃ a, L[i]? = some a := ⟨L[i], by simp⟩
  obtain ⟨b, hb⟩ : ∃ b, L[r]? = some b := ⟨L[r], by simp⟩
  have la := hl a (List.mem_of_getElem? ha)
  have lb := hl b (List.mem_of_getElem? hb)
  let R := (L.eraseIdx i).eraseIdx (offP i r)
  have lE : (L.eraseIdx i).length = m - 1 := by rw [List.length_eraseIdx, if_pos (by omega), hL]
  have oP : offP i r < m - 1 := by unfold offP; split <;> omega
  have lR : R.length + 2 = m := by
    show ((L.eraseIdx i).eraseIdx (offP i r)).length + 2 = m
    rw [List.length_eraseIdx, if_pos (by omega), lE]; omega
  have hE : ∀ v ∈ L.eraseIdx i, v.length = m := fun v hv => hl v (List.mem_of_mem_eraseIdx hv)
  have hR : ∀ v ∈ R, v.length = m := fun v hv => hE v (List.mem_of_mem_eraseIdx hv)
  -- a list with x at i and y at r
  have two : ∀ (M : List (List Int)) (x y : List Int), M[i]? = some x → (M.eraseIdx i)[offP i r]? = some y → (M.eraseIdx i).eraseIdx (offP i r) = R → (∀ v ∈ M, v.length = m) → brk m M = sg i * sg (offP i r) * brk m (x :: y :: R) := fun M x y h1 h2 h3 h4 => by
    rw [brk_front h1 h4]
    have e : ∀ t, prd (M.eraseIdx i) t = sg (offP i r) * prd (y :: R) t := fun t => by
      rw [prd_front (m := m) (M.eraseIdx i) (offP i r) y h2 (fun v hv => h4 v (List.mem_of_mem_eraseIdx hv)) t, h3]
    show sg i * wdg x (prd (M.eraseIdx i)) (ones m) = _
    rw [wdg_congr (v := x) (u := fun t => sg (offP i r) * prd (y :: R) t + 0 * 0) (fun t => by rw [e t]; omega), wdg_lin x _ 0 _ (fun _ => 0)]
    show sg i * (sg (offP i r) * brk m (x :: y :: R) + 0 * _) = _
    grind
  have sE : ∀ x : List Int, ((L.eraseIdx i).set (offP i r) x).eraseIdx (offP i r) = R := fun x => eraseSet x _ _
  have g : ∀ x : List Int, ((L.eraseIdx i).set (offP i r) x)[offP i r]? = some x := fun x => List.getElem?_set_self (by omega)
  have e0 := two L a b ha ((erase_get ne).trans hb) rfl hl
  have e1 : ∀ x, x.length = m → brk m (L.set i x) = sg i * sg (offP i r) * brk m (x :: b :: R) := fun x hx => two _ x b (List.getElem?_set_self (by omega)) (by rw [eraseSet]; exact (erase_get ne).trans hb) (by rw [eraseSet]) (all_set hl hx i)
  have e2 : ∀ x, x.length = m → brk m (L.set r x) = sg i * sg (offP i r) * brk m (a :: x :: R) := fun x hx => two _ a x (by rw [List.getElem?_set_ne (fun z => ne z.symm)]; exact ha) (by rw [erase_set x ne]; exact g x) (by rw [erase_set x ne]; exact sE x) (all_set hl hx r)
  have e3 : brk m ((L.set i u).set r v) = sg i * sg (offP i r) * brk m (u :: v :: R) := two _ u v (by rw [List.getElem?_set_ne (fun z => ne z.symm)]; exact List.getElem?_set_self (by omega)) (by rw [erase_set v ne, eraseSet u L i]; exact g v) (by rw [erase_set v ne, eraseSet u L i]; exact sE v) (all_set (all_set hl hu i) hv r)
  have t := three m R lR hR hu hv la lb
  have sw : ∀ x y : List Int, x.length = m → y.length = m → brk m (x :: y :: R) = - brk m (y :: x :: R) := fun x y hx hy => wdg_swap (hx.trans hy.symm) _ _
  rw [sw b v lb hv, sw u a hu la] at t
  rw [e0, e3, e1 u hu, e2 v hv, e1 v hv, e2 u hu]
  have q1 := sg_sq i
  have q2 := sg_sq (offP i r)
  generalize sg i = p1 at *
  generalize sg (offP i r) = p2 at *
  grind
end L3.Dt
end
section
namespace L3.Dt
section
variable (M : Nat) (col : Nat → List Int)
def ent (B : List Nat) (i l : Nat) : Int := brk M ((B.map col).set i (col l))
def dvr (B : List Nat) : Int := brk M (B.map col)
end
section
variable {M : Nat} {col : Nat → List Int} (hc : ∀ l, (col l).length = M)
include hc
theorem allc (B : List Nat) : ∀ v ∈ B.map col, v.length = M := fun v hv => by
  obtain ⟨b, _, rfl⟩ := List.mem_map.mp hv
  exact hc b
theorem ent_piv {B : List Nat} {i r l k : Nat} (hB : B.length = M) (hi : i < M) (hr : r < M) (ne : i ≠ r) : dvr M col B * ent M col (B.set r l) i k = ent M col B i k * ent M col B r l - ent M col B i l * ent M col B r k := by
  have e := exch (m := M) (L := B.map col) (i := i) (r := r) (u := col k) (v := col l) (by simpa using hB) hi hr ne (allc hc B) (hc k) (hc l)
  unfold ent dvr
  rw [List.map_set, List.set_comm _ _ ne.symm]
  exact e
omit hc in
theorem dvr_piv {B : List Nat} {r l : Nat} : dvr M col (B.set r l) = ent M col B r l := by
  unfold ent dvr
  rw [List.map_set]
omit hc in
theorem ent_same {B : List Nat} {r l k : Nat} : ent M col (B.set r l) r k = ent M col B r k := by
  unfold ent
  rw [List.map_set, List.set_set]
omit hc in
theorem ent_self {B : List Nat} {i b : Nat} (h : B[i]? = some b) : ent M col B i b = dvr M col B := by
  unfold ent dvr
  congr 1
  apply List.ext_getElem?
  intro k
  by_cases e : i = k
  · subst e
    obtain ⟨h1, h2⟩ := List.getElem?_eq_some_iff.mp h
    rw [List.getElem?_set_self (by simpa using h1), List.getElem?_map, h]; rfl
  · rw [List.getElem?_set_ne e]
theorem ent_rep {B : List Nat} {i k b : Nat} (hB : B.length = M) (hi : i < M) (h : B[k]? = some b) (ne : i ≠ k) (hd : dvr M col B ≠ 0) : ent M col B i b = 0 := by
  have hk : k < M := by rw [← hB]; exact (List.getElem?_eq_some_iff.mp h).1
  have e := ent_piv hc (l := b) (k := b) hB hi hk ne
  have e2 : ent M col (B.set k b) i b = ent M col B i b := by
    have : B.set k b = B := by
      apply List.ext_getElem?
      intro j
      by_cases ej : k = j
      · subst ej; rw [List.getElem?_set_self (by omega), h]
      · rw [List.getElem?_set_ne ej]
    rw [this]
  rw [e2, ent_self h] at e
  have : dvr M col B * ent M col B i b = 0 := by
    rw [e]; grind
  rcases Int.mul_eq_zero.mp this with h | h
  · exact absurd h hd
  · exact h
theorem ent_back {B : List Nat} {i r l b : Nat} (hB : B.length = M) (hi : i < M) (ne : i ≠ r) (h : B[r]? = some b) (hd : dvr M col B ≠ 0) : ent M col (B.set r l) i b = - ent M col B i l := by
  have hr : r < M := by rw [← hB]; exact (List.getElem?_eq_some_iff.mp h).1
  have e := ent_piv hc (l := l) (k := b) hB hi hr ne
  rw [ent_rep hc hB hi h ne hd, ent_self h] at e
  have : dvr M col B * (ent M col (B.set r l) i b + ent M col B i l) = 0 := by
    rw [Int.mul_add, e]; grind
  rcases Int.mul_eq_zero.mp this with h | h
  · exact absurd h hd
  · omega
omit hc in
theorem ent_back_r {B : List Nat} {r l b : Nat} (h : B[r]? = some b) : ent M col (B.set r l) r b = dvr M col B := by rw [ent_same, ent_self h]
end
def unt (M i : Nat) : List Int := (List.range M).map fun k => if k = i then 1 else 0
theorem unt_len (M i : Nat) : (unt M i).length = M := by simp [unt]
def units (M : Nat) : List (List Int) := (List.range M).map (unt M)
def nrm : List Int → Nat
  | [] => 0
  | x :: r => x.natAbs + nrm r
theorem wdg_bnd : ∀ (v : List Int) (w : Lam) (C : Nat), (∀ s, (w s).natAbs ≤ C) → ∀ s, (wdg v w s).natAbs ≤ nrm v * C
  | [], _, _, _, _ => by simp [wdg]
  | _ :: _, _, _, _, [] => by simp [wdg]
  | v :: vs, w, C, h, false :: s => by
    have := wdg_bnd vs (fun t => w (false :: t)) C (fun s => h _) s
    show (wdg vs _ s).natAbs ≤ (v.natAbs + nrm vs) * C
    rw [Nat.add_mul]
    exact Nat.le_trans this (Nat.le_add_left _ _)
  | v :: vs, w, C, h, true :: s => by
    have h1 := wdg_bnd vs (fun t => w (true :: t)) C (fun s => h _) s
    show (v * w (false :: s) - wdg vs (fun t => w (true :: t)) s).natAbs ≤ (v.natAbs + nrm vs) * C
    have h2 : (v * w (false :: s)).natAbs ≤ v.natAbs * C := by
      rw [Int.natAbs_mul]; exact Nat.mul_le_mul_left _ (h _)
    rw [Nat.add_mul]
    have := Int.natAbs_sub_le (v * w (false :: s)) (wdg vs (fun t => w (true :: t)) s)
    omega
def nprd : List (List Int) → Nat
  | [] => 1
  | v :: vs => nrm v * nprd vs
theorem prd_bnd : ∀ (L : List (List Int)) (s : List Bool), (prd L s).natAbs ≤ nprd L
  | [], s => by
    show (if cnt s = 0 then (1 : Int) else 0).natAbs ≤ 1
    split <;> simp
  | v :: L, s => wdg_bnd v _ _ (prd_bnd L) s
end L3.Dt
end
section
namespace L3.Dt
/-- rows a i k, sides, the goal -/
structure Lp where
  n : Nat
  m : Nat
  A : Nat → Nat → Int
  sd : Nat → Int
  gl : Nat → Int
namespace Lp
variable (P : Lp)
def z : Nat := P.n + P.m
def rhs : Nat := P.n + P.m + 1
def M : Nat := P.m + 1
/-- the column of an unknown, of a row's own unknown, of the goal's, of the sides -/
def col (l : Nat) : List Int :=
  if l < P.n then (List.range P.m).map (fun i => P.A i l) ++ [- P.gl l]
  else if l ≤ P.n + P.m then unt (P.m + 1) (l - P.n)
  else (List.range P.m).map P.sd ++ [0]
theorem col_len (l : Nat) : (P.col l).length = P.M := by
  unfold col M
  split
  · simp
  · split
    · exact unt_len _ _
    · simp
def T (B : List Nat) (i l : Nat) : Int := ent P.M P.col (B ++ [P.z]) i l
def D (B : List Nat) : Int := dvr P.M P.col (B ++ [P.z])
structure Good (B F : List Nat) : Prop where
  b : B.length = P.m
  f : F.length = P.n
  p : (F ++ B).Perm (List.range (P.n + P.m))
  d : 0 < P.D B
  s : ∀ i, i < P.m → 0 ≤ P.T B i P.rhs
def B0 : List Nat := List.range' P.n P.m
def F0 : List Nat := List.range P.n
section
variable {P} {B F : List Nat} (G : P.Good B F)
include G
theorem Good.bz : (B ++ [P.z]).length = P.M := by rw [List.length_append, G.b]; rfl
theorem Good.dne : dvr P.M P.col (B ++ [P.z]) ≠ 0 := by have := G.d; unfold D at this; omega
theorem Good.nd : (F ++ B).Nodup := G.p.nodup_iff.mpr List.nodup_range
theorem Good.lab {l : Nat} : l ∈ F ∨ l ∈ B ↔ l < P.n + P.m := by
  rw [← List.mem_append, G.p.mem_iff, List.mem_range]
omit G in
theorem getB {i b : Nat} (h : B[i]? = some b) : (B ++ [P.z])[i]? = some b := by
  rw [List.getElem?_append_left (List.getElem?_eq_some_iff.mp h).1]; exact h
theorem Good.self {i b : Nat} (h : B[i]? = some b) : P.T B i b = P.D B := ent_self (getB h)
theorem Good.rep {i k b : Nat} (hi : i ≤ P.m) (h : B[k]? = some b) (ne : i ≠ k) : P.T B i b = 0 := ent_rep P.col_len G.bz (by unfold M; omega) (getB h) ne G.dne
end
end Lp
end L3.Dt
end
section
namespace L3.Dt
namespace Lp
variable (P : Lp)
/-- one exchange as the least names choose it -/
structure Stp (B F : List Nat) (r c q l : Nat) : Prop where
  hq : B[r]? = some q
  hl : F[c]? = some l
  neg : P.T B P.m l < 0
  fst : ∀ k ∈ F, P.T B P.m k < 0 → l ≤ k
  pos : 0 < P.T B r l
  rat : ∀ i, i < P.m → 0 < P.T B i l → P.T B r P.rhs * P.T B i l ≤ P.T B i P.rhs * P.T B r l
  tie : ∀ i b, i < P.m → B[i]? = some b → 0 < P.T B i l → P.T B r P.rhs * P.T B i l = P.T B i P.rhs * P.T B r l → q ≤ b
end Lp
end L3.Dt
end
section
namespace L3.Dt
def code (N : Nat) : List Nat → Nat
  | [] => 0
  | x :: L => x + N * code N L
namespace Lp
variable (P : Lp)
/-- k exchanges lead from the beginning to here -/
def Chn (k : Nat) (B F : List Nat) : Prop := ∃ (b f : Nat → List Nat) (r c q l : Nat → Nat), b 0 = P.B0 ∧ f 0 = P.F0 ∧ (∀ j, j < k → P.Stp (b j) (f j) (r j) (c j) (q j) (l j) ∧ b (j + 1) = (b j).set (r j) (l j) ∧ f (j + 1) = (f j).set (c j) (q j)) ∧ b k = B ∧ f k = F
theorem Chn.step {P : Lp} {k : Nat} {B F : List Nat} {r c q l : Nat} (h : P.Chn k B F) (s : P.Stp B F r c q l) : P.Chn (k + 1) (B.set r l) (F.set c q) := by
  obtain ⟨b, f, r', c', q', l', h1, h2, h3, rfl, rfl⟩ := h
  refine ⟨fun j => if j ≤ k then b j else (b k).set r l, fun j => if j ≤ k then f j else (f k).set c q, fun j => if j < k then r' j else r, fun j => if j < k then c' j else c, fun j => if j < k then q' j else q, fun j => if j < k then l' j else l, ?_, ?_, fun j hj => ?_, ?_, ?_⟩
  · show (if 0 ≤ k then b 0 else _) = _
    rw [if_pos (Nat.zero_le _)]; exact h1
  · show (if 0 ≤ k then f 0 else _) = _
    rw [if_pos (Nat.zero_le _)]; exact h2
  · dsimp only
    rw [if_pos (show j ≤ k by omega), if_pos (show j ≤ k by omega)]
    by_cases e : j < k
    · rw [if_pos e, if_pos e, if_pos e, if_pos e, if_pos (show j + 1 ≤ k by omega), if_pos (show j + 1 ≤ k by omega)]
      exact h3 j e
    · have ej : j = k := by omega
      subst ej
      rw [if_neg e, if_neg e, if_neg e, if_neg e, if_neg (by omega), if_neg (by omega)]
      exact ⟨s, rfl, rfl⟩
  · show (if k + 1 ≤ k then _ else _) = _
    rw [if_neg (by omega)]
  · show (if k + 1 ≤ k then _ else _) = _
    rw [if_neg (by omega)]
def U (B : List Nat) (l k : Nat) : Int := (if l = k then P.D B else 0) + sm P.m fun i => if B[i]?.getD 0 = k then - P.T B i l else 0
theorem nprd_le {c : Nat} : ∀ {L : List (List Int)}, (∀ v ∈ L, nrm v ≤ c) → nprd L ≤ c ^ L.length
  | [], _ => by simp [nprd]
  | v :: L, h => by
    show nrm v * nprd L ≤ c ^ (L.length + 1)
    rw [Nat.pow_succ, Nat.mul_comm]
    exact Nat.mul_le_mul (nprd_le fun w hw => h w (List.mem_cons_of_mem _ hw)) (h v List.mem_cons_self)
theorem nprd_set {c d : Nat} {x : List Int} (hx : nrm x ≤ c * d) (hd : 1 ≤ d) : ∀ {L : List (List Int)} (i : Nat), (∀ v ∈ L, nrm v ≤ c) → nprd (L.set i x) ≤ c ^ L.length * d
  | [], i, _ => by simp [nprd]; omega
  | v :: L, 0, h => by
    show nrm x * nprd L ≤ c ^ (L.length + 1) * d
    have := Nat.mul_le_mul hx (nprd_le fun w hw => h w (List.mem_cons_of_mem _ hw) : nprd L ≤ c ^ L.length)
    refine Nat.le_trans this (Nat.le_of_eq ?_)
    rw [Nat.pow_succ]; grind
  | v :: L, i + 1, h => by
    show nrm v * nprd (L.set i x) ≤ c ^ (L.length + 1) * d
    have := Nat.mul_le_mul (h v List.mem_cons_self) (nprd_set hx hd i fun w hw => h w (List.mem_cons_of_mem _ hw))
    refine Nat.le_trans this (Nat.le_of_eq ?_)
    rw [Nat.pow_succ]; grind
structure Bnd (c d : Nat) : Prop where
  d1 : 1 ≤ d
  cl : ∀ l, l ≤ P.n + P.m → nrm (P.col l) ≤ c
  s : nrm (P.col P.rhs) ≤ c * d
theorem Bnd.all {P : Lp} {c d : Nat} (h : P.Bnd c d) {B F : List Nat} (G : P.Good B F) : ∀ v ∈ (B ++ [P.z]).map P.col, nrm v ≤ c := fun v hv => by
  obtain ⟨b, hb, rfl⟩ := List.mem_map.mp hv
  refine h.cl b ?_
  rcases List.mem_append.mp hb with hb | hb
  · exact Nat.le_of_lt (G.lab.mp (.inr hb))
  · rw [List.mem_singleton.mp hb]; exact Nat.le_refl _
theorem Bnd.T {P : Lp} {c d : Nat} (h : P.Bnd c d) {B F : List Nat} (G : P.Good B F) (i : Nat) {l : Nat} (hl : l ≤ P.rhs) : (P.T B i l).natAbs ≤ c ^ P.M * d := by
  have hx : nrm (P.col l) ≤ c * d := by
    by_cases e : l = P.rhs
    · rw [e]; exact h.s
    · refine Nat.le_trans (h.cl l (by unfold rhs at *; omega)) ?_
      exact Nat.le_mul_of_pos_right _ h.d1
  have := nprd_set hx h.d1 i (h.all G)
  rw [List.length_map, G.bz] at this
  exact Nat.le_trans (prd_bnd _ _) this
theorem Bnd.D {P : Lp} {c d : Nat} (h : P.Bnd c d) {B F : List Nat} (G : P.Good B F) : (P.D B).natAbs ≤ c ^ P.M := by
  have := nprd_le (h.all G)
  rw [List.length_map, G.bz] at this
  exact Nat.le_trans (prd_bnd _ _) this
end Lp
end L3.Dt
end
section
namespace L3
open PySem PySem.Spec PyProof.Rows L2
end L3
end
section
namespace L3
open PySem PySem.Spec PyProof.Rows L2
end L3
end
section
namespace L3
open PySem PySem.Spec PyProof.Rows L2
variable {G : Type} {K : PySem.W.Frag} {mg : Str → Option Value}
def TabF (F H : Hp) (P : Addr) (q : Str) : Prop := ∃ ps : Array Value, H P = some (.tbl ps) ∧ TriplesOk ps.toList ∧ ∀ (pos : Pos) (cv : Value), codeAmong pos ps.toList = some cv → ∃ c, cv = .ref c ∧ F c = some (LamX.CodeO c q)
theorem TabF.s {F H : Hp} {P : Addr} {q : Str} (h : TabF F H P q) (e : Ex F H) : LamX.TabS H P q := by
  obtain ⟨ps, h1, h2, h3⟩ := h
  refine ⟨ps, h1, h2, fun pos cv hc => ?_⟩
  obtain ⟨c, e1, e2⟩ := h3 pos cv hc
  exact ⟨c, e1, e _ _ e2⟩
section
variable {X : Cx} {Zr : Zx K G} {P : Addr} {q : Str}
theorem RoomG.in1 {n : Nat} {B : Around} (r : RoomG (n + 1) B) : RoomG n B.in1 := ⟨r.rm.in1, by
  have := r.gd
  first
    | exact this
    | (simpa [Around.in1] using this)⟩
end
end L3
end
section
namespace L3
open PySem PySem.Spec PyProof.Rows L2
section
variable {P : Program} {w : World} {K : PySem.W.Frag} {mg : Str → Option Value} {base : Heap} {CC : CXT}
/-- funG, the code object known -/
theorem funGC {x qual : Str} {st : Stmt} {fa cd : Addr} {fd : FuncData} {N qs : List Str} {n : Nat} {sp : Sp} (Fu : Fun K x qual st fa fd) (hcd0 : fd.code = .ref cd) (Sc : FnScope N qs (defScope st)) (len : ∀ us H Q E, sp us H Q E → us.length = qs.length)
    (body : ∀ (B : Around) (oe : List Env) (s : Shared) (H : Hp) (vs : List V) (Q : VK) (E : XK), RoomG n (B.deeper (PyProof.Rows.envOfC qual (defScope st) s.heap.objs.size fa (.ref cd))) → sp vs H Q E →
      ∃ t, PSs (cxOf CC P w K mg base N qual (defScope st) fa (.ref cd) B oe s H E) (defBody st) t ∧ t { nx := fun _ H' => Q .non H', rt := Q } (L2.start N vs) H) : FnG P w K mg base CC (n + 1) fa fd qs sp := by
  obtain ⟨oc, od, kV, doc, pm, an, cdv, ct, osl, rfl, lk, hcd⟩ := Fu.ex
  obtain rfl : cdv = .ref cd := hcd0
  refine ⟨len, fun B oe s H as us vs Q E hr c0 hb r hsp => ?_⟩
  have vl := len _ _ _ _ hsp
  have kin : K.In s.heap := c0.mod.kin.keeps fun b o q => (c0.bs b o q).1
  have nol : s.heap.NoLimit := c0.mod.nolimit.keeps fun b o q => (c0.bs b o q).1
  have kinds : ∀ y ∈ qs.zip us, (defScope st).names.lookup y.1 = some .local ∨ ((defScope st).names.lookup y.1 = some .cell ∧ ((cellsFrom (s.heap.objs.size + 1) (defScope st).names []).lookup y.1).isSome = true) := fun ⟨m, v⟩ hy => by
    rcases Sc.par m (List.of_mem_zip hy).1 with q | q
    · exact .inl q
    · exact .inr ⟨q, PySem.W.cellsFrom_some _ _ _ (.inl q)⟩
  refine codeAny_call_function hr.rm.depth (kin _ _ lk) rfl Sc.co Sc.gen rfl (PySem.W.codeRec_of kin hcd) (hb _ _ _ _ ?_)
  refine wpAny_newFunctionEnv_cells Sc.kind kinds fun en he s1 y => ?_
  subst he
  refine ⟨nol.keeps y.toInCall.keep, codeAny_func ?_⟩
  obtain ⟨t, ht, hq⟩ := body B oe s H vs Q E (hr.deeper _) hsp
  have J : Inv (cxOf CC P w K mg base N qual (defScope st) fa (.ref cd) B oe s H E) [] (L2.start N vs) H s1 := inv_start Sc hr.rm.hd c0 vl r y
  refine wpAny_mono (ht.run [] s1 (L2.start N vs) H _ J hq) (fun fl s' hs => ?_) fun e s' hs => hs
  cases fl with
  | ret u => obtain ⟨v, σ', H', I, rv, q⟩ := hs; exact ⟨v, H', I.os, I.bare, I.base, I.hok, rv, q⟩
  | next => obtain ⟨σ', H', I, q⟩ := hs; exact ⟨.non, H', I.os, I.bare, I.base, I.hok, rfl, q⟩
  | brk => obtain ⟨_, _, _, q⟩ := hs; exact q.elim
  | cont => obtain ⟨_, _, _, q⟩ := hs; exact q.elim
/-- a method that stands in its class, its code object at cd -/
def DfnMC (K : PySem.W.Frag) (mg : Str → Option Value) (x m q : Str) (s : Stmt) (ps : List Str) (cd : Addr) : Prop := ∃ C fa fd, mg x = some (.ref C) ∧ Fun K m q s fa fd ∧ fd.code = .ref cd ∧ Meth K C m fa ∧ Binds K fd ps []
theorem DfnMC.ok {G : Type} {x m q : Str} {s : Stmt} {N ps : List Str} {k : Nat} {cd : Addr} {Z : Zx K G} {S : Spec G} (D : DfnMC K mg x m q s ps cd) (Sc : FnScope N ps (defScope s)) (hS : ∀ as g T U, S as g T U → as.length = ps.length) (hN : ps.length ≤ N.length)
    (body : ∀ (fa : Addr) (A : Around) (outer : List Env) (s' : Shared) (H : Hp) (E : XK), RoomG k (A.deeper (PyProof.Rows.envOfC q (defScope s) s'.heap.objs.size fa (.ref cd))) →
      ∃ ts t, DSs (cxOf (L2.CX P w) P w K mg base N q (defScope s) fa (.ref cd) A outer s' H E).nox (Z.wish (fun _ _ _ _ => False) Un) (defBody s) ts t ∧ ∀ as g T U, S as g T U → t { nx := fun _ g' => T (.dt .none) g', rt := T } (entry N as) g) : OkM P w K mg base (k + 1) x m ps (spZ Z S) := by
  obtain ⟨C, fa, fd, hm, Fu, hcd, Me, hb⟩ := D
  refine ⟨C, fa, fd, hm, Me, hb, funGC Fu hcd Sc (fun vs H Q E h => ?_) (fun A outer s' H vs Q E hr h => ?_)⟩
  · obtain ⟨F, g, as, T, U, h1, h2, h3, h4, h5, _⟩ := h
    rw [argR_len h4]
    exact hS as g T U h5
  · obtain ⟨F, g, as, T, U, h1, h2, h3, h4, h5, h6, h7⟩ := h
    obtain ⟨ts, t, hd, hb⟩ := body fa A outer s' H E hr
    exact ⟨ts, hd.ps.nox, body3 h1 h2 h3 h4 (hS as g T U h5) hN (fun _ _ _ _ _ _ _ _ _ _ _ _ z => z.elim) h6 hd.sim (hb as g T U h5)⟩
end
end L3
end
section
namespace L3
open PySem PySem.Spec PyProof.Rows L2
variable {G : Type} {K : PySem.W.Frag} {mg : Str → Option Value} {X : Cx} {Z : Zx K G}
def frzSp (S : Spec (G × OS)) : Spec G := fun as g T _ => S as (g, []) (fun r g' => g'.1 = g ∧ vvK r fun p => ∃ d, ODat g'.2 (.r p) d ∧ T (.dt d) g) (fun _ _ _ => False)
theorem spFrz {S : Spec (G × OS)} {vs : List V} {H : Hp} {Q : VK} {E : XK} (h : spZ Z (frzSp S) vs H Q E) : spZ (ZS mg Z) S vs H Q E := by
  obtain ⟨F, g, as, T, U, h1, h2, h3, h4, h5, h6, h7⟩ := h
  have fpe : ∀ {a : Addr}, a ∈ (ZS mg Z).fp (g, []) → a ∈ Z.fp g := fun {a} ha => by
    have ha2 : a ∈ Z.fp g ++ [] := ha
    rwa [List.append_nil] at ha2
  refine ⟨F, (g, []), as, _, _, h1, ⟨h2, ⟨fun p hp => (nomatch hp), List.nodup_nil⟩, fun a _ hm => (nomatch hm)⟩, fun a ha => h3 a (fpe ha), Paired.mapP h4 fun v r z => by cases r <;> exact z, h5, fun v r F' g' H' fr er hv hT => ?_, fun c fs dx F' g' H' _ _ _ hu => hu.elim⟩
  obtain ⟨hg, hT1⟩ := hT
  obtain ⟨p, rfl, d, hd, hT2⟩ := vvK_e hT1
  obtain ⟨g2, o⟩ := g'
  obtain rfl : g2 = g := hg
  obtain rfl : v = .ref p := hv
  obtain ⟨r1, r2, r3⟩ : Z.R g2 F' H' ∧ OSR K mg o F' H' ∧ ∀ a ∈ Z.fp g2, a ∉ o.ads := fr.res
  have hF : ∀ a ∈ OS.ads o, F' a = none := fun a ha => fr.fpF a (List.mem_append_right _ ha)
  have newH : ∀ a ∈ o.ads, H a = none := fun a ha => by
    rcases fr.fpB a (List.mem_append_right _ ha) with z | z
    · exact absurd ha (r3 a (fpe z))
    · exact z
  have e3 : Ex F' (frzS o F' H') := frzS_ex hF
  refine h6 (.ref p) (.dt d) (frzS o F' H') g2 H' ⟨fr.ex.trans e3, fun b u e hn => fr.keep b u e fun hm => hn (fpe hm), fr.keepN, fun b u e => ?_, fun b u e => ?_, Z.loc r1 e3 fun _ _ => rfl, fun a ha => ?_, fun a ha => .inl ha⟩ rfl (hd.da hF r2 rfl) hT2
  · unfold frzS at e
    split at e
    · rename_i hm
      exact .inr (newH b hm)
    · exact fr.new b u e
  · unfold frzS at e
    split at e
    · exact e
    · exact fr.sub b u e
  · unfold frzS
    rw [if_neg (r3 a ha)]
    exact fr.fpF a (List.mem_append_left _ ha)
theorem Ok.frz {P : Program} {w : World} {mm : Str → Option Value} {base : Heap} {k : Nat} {x : Str} {ps : List Str} {S : Spec (G × OS)} (h : Ok P w K mm base k x ps (spZ (ZS mg Z) S)) : Ok P w K mm base k x ps (spZ Z (frzSp S)) := by
  obtain ⟨fa, fd, h1, h2, h3, h0, h4⟩ := h
  exact ⟨fa, fd, h1, h2, h3, h0, fun vs H Q E q => h4.len vs H Q E (spFrz q), fun A outer s H args us vs Q E hr he hb hv hs => h4.run A outer s H args us vs Q E hr he hb hv (spFrz hs)⟩
end L3
end
section
namespace L3
open PySem PySem.Spec PyProof.Rows L2
def natC (F : List Nat) : List Cell := F.map fun k : Nat => Cell.d (.int (k : Nat))
def rowC (n : Nat) (f : Nat → Int) : List Cell := (List.range (n + 1)).map fun j => Cell.d (.int (f j))
def rngA (m : Nat) (ra : Nat → Addr) : List Cell := (List.range (m + 1)).map fun i => Cell.r (ra i)
structure TabW (o : OS) (p pf pb pr : Addr) (ra : Nat → Addr) (n m : Nat) (d : Int) (F B : List Nat) (T : Nat → Nat → Int) : Prop where
  t : OS.look o p = some (.ins "Table" ["free", "bound", "rows", "divisor"] [.r pf, .r pb, .r pr, .d (.int d)])
  f : OS.look o pf = some (.ls (natC F))
  b : OS.look o pb = some (.ls (natC B))
  r : OS.look o pr = some (.ls (rngA m ra))
  w : ∀ i, i ≤ m → OS.look o (ra i) = some (.ls (rowC n (T i)))
  fb : pf ≠ pb
  fr : pf ≠ pr
  br : pb ≠ pr
  wf : ∀ i, i ≤ m → ra i ≠ pf ∧ ra i ≠ pb ∧ ra i ≠ pr
  ww : ∀ i j, i ≤ m → j ≤ m → ra i = ra j → i = j
section
variable {o : OS} {p pf pb pr : Addr} {ra : Nat → Addr} {n m : Nat} {d : Int} {F B : List Nat} {T : Nat → Nat → Int} (h : TabW o p pf pb pr ra n m d F B T)
include h
theorem TabW.pn {a : Addr} {cs : List Cell} (l : OS.look o a = some (.ls cs)) : p ≠ a := fun e => by
  have := h.t
  rw [e, l] at this
  cases this
end
end L3
namespace L3
open PySem
/-- the numbers stay small -/
def Sml (P : Dt.Lp) : Prop := ∃ c d, P.Bnd c d ∧ c ^ P.M * d ≤ 2 ^ 1000
theorem Sml.T {P : Dt.Lp} (h : Sml P) {B F : List Nat} (G : P.Good B F) (i : Nat) {l : Nat} (hl : l ≤ P.rhs) : (P.T B i l).natAbs ≤ 2 ^ 1000 := by
  obtain ⟨c, d, h1, h2⟩ := h
  exact Nat.le_trans (h1.T G i hl) h2
theorem Sml.D {P : Dt.Lp} (h : Sml P) {B F : List Nat} (G : P.Good B F) : (P.D B).natAbs ≤ 2 ^ 1000 := by
  obtain ⟨c, d, h1, h2⟩ := h
  refine Nat.le_trans (h1.D G) (Nat.le_trans ?_ h2)
  exact Nat.le_mul_of_pos_right _ h1.d1
namespace Dt.Lp
end Dt.Lp
end L3
end
section
namespace L3
open PySem PySem.Spec PyProof.Rows L2
/-- what stays of a store -/
def OKp (o o' : OS) : Prop := ∀ a x, OS.look o a = some x → OS.look o' a = some x
theorem OKp.new {o : OS} {q : Addr} {x : OO} (h : OS.look o q = none) : OKp o ((q, x) :: o) := fun a y e => OS.look_old h e
theorem OKp.trans {a b c : OS} (h : OKp a b) (h2 : OKp b c) : OKp a c := fun p x e => h2 p x (h p x e)
theorem OKp.put {o o' : OS} {q : Addr} {x y : OO} (h : OKp o o') (h1 : OS.look o q = none) (h2 : OS.look o' q = some x) : OKp o (OS.put o' q y) := fun a z e => by
  rw [OS.put_ne h2 (fun c => by rw [← c, h1] at e; cases e)]
  exact h a z e
end L3
end
section
set_option exponentiation.threshold 3000
namespace L3
open PySem PySem.Spec PyProof.Rows L2
/-- the greatest number that divides them all -/
def gcdL (xs : List Int) : Nat := xs.foldl (fun g x => Nat.gcd g x.natAbs) 0
/-- numbers without what divides them all -/
def lessL (xs : List Int) : List Int := xs.map fun x => x / (max 1 (gcdL xs) : Nat)
theorem gcd_dvd : ∀ (xs : List Int) (g : Nat), (xs.foldl (fun g x => Nat.gcd g x.natAbs) g ∣ g) ∧ ∀ x ∈ xs, xs.foldl (fun g x => Nat.gcd g x.natAbs) g ∣ x.natAbs
  | [], g => ⟨Nat.dvd_refl _, fun _ h => nomatch h⟩
  | x :: xs, g => by
    obtain ⟨h1, h2⟩ := gcd_dvd xs (Nat.gcd g x.natAbs)
    refine ⟨Nat.dvd_trans h1 (Nat.gcd_dvd_left _ _), fun y hy => ?_⟩
    rcases List.mem_cons.mp hy with rfl | hy
    · exact Nat.dvd_trans h1 (Nat.gcd_dvd_right _ _)
    · exact h2 y hy
theorem gcdL_dvd {xs : List Int} {x : Int} (h : x ∈ xs) : ((gcdL xs : Nat) : Int) ∣ x := Int.ofNat_dvd_left.mpr ((gcd_dvd xs 0).2 x h)
theorem mx_dvd {xs : List Int} {x : Int} (h : x ∈ xs) : ((max 1 (gcdL xs) : Nat) : Int) ∣ x := by
  by_cases e : gcdL xs = 0
  · rw [e]; exact Int.one_dvd x
  · rw [Nat.max_eq_right (by omega)]; exact gcdL_dvd h
theorem less_mul {xs : List Int} {x : Int} (h : x ∈ xs) : x / (max 1 (gcdL xs) : Nat) * (max 1 (gcdL xs) : Nat) = x := Int.ediv_mul_cancel (mx_dvd h)
structure FlOk (B : Book) (ns : List Int) : Prop where
  ok : ∃ mr mw, B.Ok mr mw ∧ mr ≤ 16
  w : ∀ k ∈ ns, inW B k = true
  n : ns.length ≤ 1000
structure SumOk (B : Book) (ws hs : List Int) : Prop where
  w : (ws.length : Int) = B.purses
  h : (hs.length : Int) = B.rooms
  bw : ∀ x ∈ ws, Big x
open Dt
theorem getD_in {ns : List Int} {j : Nat} (h : j < ns.length) : ns.getD j 0 ∈ ns := by
  rw [List.getD_eq_getElem?_getD, List.getElem?_eq_getElem h]
  exact List.getElem_mem h
structure RndOk (B : Book) (ns cs : List Int) : Prop where
  n : cs.length = B.ways.length
  z : ∀ c ∈ cs, 0 ≤ c ∧ c ≤ 2 ^ 300
  s : ∀ k : Nat, cs.getD k 0 ≠ 0 → ((k : Nat) : Int) ∈ ns
  r : ∀ r : Nat, r < B.rooms.toNat → sm B.ways.length (fun k => ((if (wAt B (k : Nat)).a = (r : Nat) then 1 else 0) - (if (wAt B (k : Nat)).b = (r : Nat) then 1 else 0)) * cs.getD k 0) = 0
  g : ∀ p : Nat, p < B.purses.toNat → 0 ≤ sm B.ways.length (fun k => (wAt B (k : Nat)).gs.getD p 0 * cs.getD k 0)
theorem less_get {xs : List Int} {j : Nat} (h : j < xs.length) : (lessL xs).getD j 0 * ((max 1 (gcdL xs) : Nat) : Int) = xs.getD j 0 := by
  unfold lessL
  rw [List.getD_eq_getElem?_getD, List.getElem?_map, List.getD_eq_getElem?_getD, List.getElem?_eq_getElem h]
  exact less_mul (List.getElem_mem h)
theorem less_sum {xs : List Int} {n : Nat} (h : n = xs.length) (f : Nat → Int) : sm n (fun j => f j * (lessL xs).getD j 0) * ((max 1 (gcdL xs) : Nat) : Int) = sm n (fun j => f j * xs.getD j 0) := by
  rw [Int.mul_comm, ← sm_mul]
  refine sm_congr fun j hj => ?_
  rw [← less_get (xs := xs) (j := j) (by rw [← h]; exact hj), ← Int.mul_assoc, Int.mul_comm _ (f j), Int.mul_assoc, Int.mul_comm _ ((lessL xs).getD j 0)]
theorem mx_pos (xs : List Int) : (0 : Int) < ((max 1 (gcdL xs) : Nat) : Int) := by omega
theorem sm_pick {n : Nat} {a : Int} (h0 : 0 ≤ a) (h1 : a < n) (v : Int) : sm n (fun r => (if a = ((r : Nat) : Int) then v else 0)) = v := by
  rw [sm_congr (g := fun r => if r = a.toNat then v else 0) fun r _ => by
    by_cases e : a = (r : Nat)
    · rw [if_pos e, if_pos (by omega)]
    · rw [if_neg e, if_neg (by omega)]]
  exact sm_one _ (by omega)
theorem dotL_sm : ∀ (xs ys : List Int) (n : Nat), xs.length = n → ys.length = n → dotL xs ys = sm n fun t => ys.getD t 0 * xs.getD t 0
  | [], [], 0, _, _ => rfl
  | x :: xs, y :: ys, n + 1, h1, h2 => by
    rw [sm_shift]
    show (x * y + dotL xs ys) = _
    rw [dotL_sm xs ys n (Nat.succ.inj h1) (Nat.succ.inj h2), Int.mul_comm x y]
    rfl
theorem less_len (xs : List Int) : (lessL xs).length = xs.length := by simp [lessL]
theorem ring_sub {B : Book} {ws r : List Int} (h : r ∈ ringsL B ws) : r.Sublist ws := by
  obtain ⟨k, _, _, rfl⟩ := rings_iff.mp h
  exact List.filter_sublist
theorem rings_le (B : Book) (ws : List Int) : (ringsL B ws).length ≤ ws.length := by
  have := ringsF_len (B := B) (ws := ws) ws []
  rw [List.length_nil, Nat.zero_add] at this
  exact this
def gainR (B : Book) (cs : List Int) (j p : Nat) : Int := sm j fun i => (wAt B (i : Nat)).gs.getD p 0 * cs.getD i 0
def gainsR (B : Book) (cs : List Int) : List Int := (List.range B.purses.toNat).map fun p => gainR B cs B.ways.length p
theorem fallL_add {B : Book} {mr mw : Int} (hB : B.Ok mr mw) {ws hs vs is : List Int} (h1 : SumOk B ws hs) (h2 : SumOk B vs is) {k : Int} (hk : inW B k = true) : fallL B (addL ws vs) (addL hs is) k = fallL B ws hs k + fallL B vs is k := by
  have w := hB.w _ (wAt_mem hk)
  have a0 := w.a0
  have a1 := w.a1
  have b0 := w.b0
  have b1 := w.b1
  have gl := w.len
  have l1 := h1.w
  have l2 := h1.h
  have l3 := h2.w
  have l4 := h2.h
  unfold fallL
  rw [addL_getD' (by omega) (by omega), addL_getD' (by omega) (by omega), dotL_sm _ _ B.purses.toNat (addL_len' (n := B.purses.toNat) (by omega) (by omega)) (by omega), dotL_sm ws _ B.purses.toNat (by omega) (by omega), dotL_sm vs _ B.purses.toNat (by omega) (by omega)]
  rw [sm_congr (g := fun t => (wAt B k).gs.getD t 0 * ws.getD t 0 + (wAt B k).gs.getD t 0 * vs.getD t 0) fun t ht => by
    rw [addL_getD' (by omega) (by omega), Int.mul_add], sm_add]
  omega
theorem RndOk.add {B : Book} {ns cs ds : List Int} (h1 : RndOk B ns cs) (h2 : RndOk B ns ds) {M N : Int} (hM : ∀ c ∈ cs, c ≤ M) (hN : ∀ c ∈ ds, c ≤ N) (h : M + N ≤ 2 ^ 300) : RndOk B ns (addL cs ds) ∧ (∀ c ∈ addL cs ds, c ≤ M + N) := by
  have l1 := h1.n
  have l2 := h2.n
  have ag : ∀ k, (addL cs ds).getD k 0 = cs.getD k 0 + ds.getD k 0 := fun k => by
    by_cases e : k < B.ways.length
    · exact addL_getD' (by omega) (by omega)
    · rw [List.getD_eq_getElem?_getD, List.getD_eq_getElem?_getD, List.getD_eq_getElem?_getD, List.getElem?_eq_none (by rw [addL_len' l1 l2]; omega), List.getElem?_eq_none (by omega), List.getElem?_eq_none (by omega)]; rfl
  have hb : ∀ c ∈ addL cs ds, c ≤ M + N := fun c hc => by
    obtain ⟨x, hx, y, hy, rfl⟩ := addL_mem hc
    have := hM x hx
    have := hN y hy
    omega
  refine ⟨⟨addL_len' l1 l2, fun c hc => ⟨?_, Int.le_trans (hb c hc) h⟩, fun k hk => ?_, fun r hr => ?_, fun p hp => ?_⟩, hb⟩
  · obtain ⟨x, hx, y, hy, rfl⟩ := addL_mem hc
    have := (h1.z x hx).1
    have := (h2.z y hy).1
    omega
  · by_cases e : cs.getD k 0 = 0
    · refine h2.s k fun e2 => hk ?_
      rw [ag, e, e2]; rfl
    · exact h1.s k e
  · have a := h1.r r hr
    have b := h2.r r hr
    rw [sm_congr fun k _ => show _ = ((if (wAt B (k : Nat)).a = (r : Nat) then 1 else 0) - (if (wAt B (k : Nat)).b = (r : Nat) then 1 else 0)) * cs.getD k 0 + ((if (wAt B (k : Nat)).a = (r : Nat) then 1 else 0) - (if (wAt B (k : Nat)).b = (r : Nat) then 1 else 0)) * ds.getD k 0 by rw [ag, Int.mul_add], sm_add, a, b]
    rfl
  · have a := h1.g p hp
    have b := h2.g p hp
    rw [sm_congr fun k _ => show _ = (wAt B (k : Nat)).gs.getD p 0 * cs.getD k 0 + (wAt B (k : Nat)).gs.getD p 0 * ds.getD k 0 by rw [ag, Int.mul_add], sm_add]
    omega
structure TotI (B : Book) (ns : List Int) (j : Nat) (ws hs : List Int) : Prop where
  ok : SumOk B ws hs
  w : ∀ w ∈ ws, 0 ≤ w ∧ w ≤ (j : Nat) * 2 ^ 289
  f : ∀ i ∈ ns, 0 ≤ fallL B ws hs i
  p : ∃ i ∈ ns, 0 < fallL B ws hs i
  h : ∀ x ∈ hs, x.natAbs ≤ j * 2 ^ 289
structure WhoI (B : Book) (ns : List Int) (j : Nat) (cs : List Int) : Prop where
  ok : RndOk B ns cs
  c : ∀ c ∈ cs, c ≤ (j : Nat) * 2 ^ 288
  p : ∃ i ∈ ns, 0 < cs.getD i.toNat 0
theorem TotI.mono {B : Book} {ns ws hs : List Int} {j k : Nat} (h : TotI B ns j ws hs) (le : j ≤ k) : TotI B ns k ws hs := ⟨h.ok, fun w hw => ⟨(h.w w hw).1, Int.le_trans (h.w w hw).2 (Int.mul_le_mul_of_nonneg_right (Int.ofNat_le.mpr le) (by decide))⟩, h.f, h.p, fun x hx => Nat.le_trans (h.h x hx) (Nat.mul_le_mul_right _ le)⟩
theorem WhoI.mono {B : Book} {ns cs : List Int} {j k : Nat} (h : WhoI B ns j cs) (le : j ≤ k) : WhoI B ns k cs := ⟨h.ok, fun c hc => Int.le_trans (h.c c hc) (Int.mul_le_mul_of_nonneg_right (Int.ofNat_le.mpr le) (by decide)), h.p⟩
theorem WhoI.add {B : Book} {ns cs ds : List Int} {j : Nat} (h1 : WhoI B ns j cs) (h2 : WhoI B ns 1 ds) (hj : j ≤ 1000) : WhoI B ns (j + 1) (addL cs ds) := by
  have e : (j : Int) * 2 ^ 288 + ((1 : Nat) : Int) * 2 ^ 288 = ((j + 1 : Nat) : Int) * 2 ^ 288 := by
    rw [← Int.add_mul]; rfl
  have c1 : ((j + 1 : Nat) : Int) * 2 ^ 288 ≤ 2 ^ 300 := Int.le_trans (Int.mul_le_mul_of_nonneg_right (show ((j + 1 : Nat) : Int) ≤ 1001 by omega) (by decide)) (by decide)
  obtain ⟨a, b⟩ := h1.ok.add h2.ok h1.c h2.c (by rw [e]; exact c1)
  refine ⟨a, fun c hc => ?_, ?_⟩
  · rw [← e]; exact b c hc
  · obtain ⟨i, hi, hp⟩ := h1.p
    refine ⟨i, hi, ?_⟩
    have l1 := h1.ok.n
    have l2 := h2.ok.n
    have hlt : i.toNat < B.ways.length := by
      by_cases q : i.toNat < cs.length
      · omega
      · rw [List.getD_eq_getElem?_getD, List.getElem?_eq_none (by omega)] at hp
        exact absurd hp (by decide)
    rw [addL_getD' (by omega) (by omega)]
    have := (h2.ok.z _ (getD_in (ns := ds) (j := i.toNat) (by omega))).1
    omega
theorem TotI.add {B : Book} {ns ws hs vs is : List Int} {j : Nat} (hF : FlOk B ns) (h1 : TotI B ns j ws hs) (h2 : TotI B ns 1 vs is) (hj : j ≤ 1000) : TotI B ns (j + 1) (addL ws vs) (addL hs is) := by
  obtain ⟨mr, mw, hB, _⟩ := hF.ok
  have e : (j : Int) * 2 ^ 289 + ((1 : Nat) : Int) * 2 ^ 289 = ((j + 1 : Nat) : Int) * 2 ^ 289 := by
    rw [← Int.add_mul]; rfl
  have hw : ∀ w ∈ addL ws vs, 0 ≤ w ∧ w ≤ ((j + 1 : Nat) : Int) * 2 ^ 289 := fun w hw => by
    obtain ⟨x, hx, y, hy, rfl⟩ := addL_mem hw
    have a := h1.w x hx
    have b := h2.w y hy
    rw [← e]
    exact ⟨by omega, Int.add_le_add a.2 b.2⟩
  have c1 : ((j + 1 : Nat) : Int) * 2 ^ 289 ≤ 2 ^ 399 := Int.le_trans (Int.mul_le_mul_of_nonneg_right (show ((j + 1 : Nat) : Int) ≤ 1001 by omega) (by decide)) (by decide)
  have l1 := h1.ok.w
  have l2 := h1.ok.h
  have l3 := h2.ok.w
  have l4 := h2.ok.h
  refine ⟨⟨by rw [addL_len' (n := B.purses.toNat) (by omega) (by omega)]; omega, by rw [addL_len' (n := B.rooms.toNat) (by omega) (by omega)]; omega, fun x hx => big_lt (Int.le_trans (by decide) (hw x hx).1) (Int.le_trans (hw x hx).2 c1)⟩, hw, fun i hi => ?_, ?_, fun x hx => by
    obtain ⟨y, hy, z, hz, rfl⟩ := addL_mem hx
    have a := h1.h y hy
    have b := h2.h z hz
    have c := Int.natAbs_add_le y z
    rw [Nat.add_mul]
    omega⟩
  · rw [fallL_add hB h1.ok h2.ok (hF.w i hi)]
    have := h1.f i hi
    have := h2.f i hi
    omega
  · obtain ⟨i, hi, hp⟩ := h1.p
    refine ⟨i, hi, ?_⟩
    rw [fallL_add hB h1.ok h2.ok (hF.w i hi)]
    have := h2.f i hi
    omega
structure PtI (B : Book) (ns : List Int) (j : Nat) (tot : Option (List Int × List Int)) (who : Option (List Int)) : Prop where
  t : ∀ p, tot = some p → TotI B ns j p.1 p.2
  w : ∀ cs, who = some cs → WhoI B ns j cs
  c : ∀ i ∈ ns.take j, (∃ p, tot = some p ∧ 0 < fallL B p.1 p.2 i) ∨ (∃ cs, who = some cs ∧ 0 < cs.getD i.toNat 0)
section
variable {B : Book} {ns : List Int} {j : Nat} {tot : Option (List Int × List Int)} {who : Option (List Int)} (h : PtI B ns j tot who)
include h
theorem PtI.putT {k : Int} {ws hs : List Int} {p2 : List Int × List Int} (hF : FlOk B ns) (hj : j < ns.length) (et : ns.take (j + 1) = ns.take j ++ [k]) (hk : k ∈ ns) (hT : TotI B ns 1 ws hs) (hp : 1 ≤ fallL B ws hs k) (e : p2 = match tot with | none => (ws, hs) | some p => (addL p.1 ws, addL p.2 hs)) : PtI B ns (j + 1) (some p2) who := by
  obtain ⟨mr, mw, hB, _⟩ := hF.ok
  have hn := hF.n
  cases tot with
  | none =>
    obtain rfl : p2 = (ws, hs) := e
    exact ⟨fun p e => by cases e; exact hT.mono (by omega), fun c e => (h.w c e).mono (by omega), fun i hi => by
      rw [et] at hi
      rcases List.mem_append.mp hi with hi | hi
      · rcases h.c i hi with ⟨c, z, _⟩ | z
        · cases z
        · exact .inr z
      · rw [List.mem_singleton.mp hi]; exact .inl ⟨_, rfl, hp⟩⟩
  | some p =>
    obtain rfl : p2 = (addL p.1 ws, addL p.2 hs) := e
    have h1 := h.t p rfl
    refine ⟨fun p' e => by cases e; exact h1.add hF hT (by omega), fun c e => (h.w c e).mono (by omega), fun i hi => ?_⟩
    rw [et] at hi
    rcases List.mem_append.mp hi with hi | hi
    · rcases h.c i hi with ⟨c', z, z2⟩ | z
      · cases z
        have hin := List.mem_of_mem_take hi
        refine .inl ⟨_, rfl, ?_⟩
        rw [fallL_add hB h1.ok hT.ok (hF.w i hin)]
        have := hT.f i hin
        omega
      · exact .inr z
    · rw [List.mem_singleton.mp hi]
      refine .inl ⟨_, rfl, ?_⟩
      rw [fallL_add hB h1.ok hT.ok (hF.w k hk)]
      have := h1.f k hk
      omega
end
theorem sorted_ext : ∀ {xs ys : List Int}, xs.Pairwise (· < ·) → ys.Pairwise (· < ·) → (∀ x, x ∈ xs ↔ x ∈ ys) → xs = ys
  | [], [], _, _, _ => rfl
  | [], y :: _, _, _, h => absurd ((h y).mpr List.mem_cons_self) (by simp)
  | x :: _, [], _, _, h => absurd ((h x).mp List.mem_cons_self) (by simp)
  | x :: xs, y :: ys, h1, h2, h => by
    rw [List.pairwise_cons] at h1 h2
    have e : x = y := by
      have a := (h x).mp List.mem_cons_self
      have b := (h y).mpr List.mem_cons_self
      rcases List.mem_cons.mp a with a | a
      · exact a
      · rcases List.mem_cons.mp b with b | b
        · exact b.symm
        · have := h1.1 y b
          have := h2.1 x a
          omega
    subst e
    rw [sorted_ext h1.2 h2.2 fun z => ?_]
    constructor
    · intro hz
      rcases List.mem_cons.mp ((h z).mp (List.mem_cons_of_mem _ hz)) with q | q
      · have := h1.1 z hz
        omega
      · exact q
    · intro hz
      rcases List.mem_cons.mp ((h z).mpr (List.mem_cons_of_mem _ hz)) with q | q
      · have := h2.1 z hz
        omega
      · exact q
end L3
end
section
set_option exponentiation.threshold 3000
namespace L3
open PySem PySem.Spec PyProof.Rows L2
open Dt
/-- an answer of kept_or_raised -/
inductive An where
  | raised (cs : List Int)
  | kept (ws hs : List Int)
def An.d : An → PyData
  | .raised cs => .tuple [.str "raised", .tuple (cs.map PyData.int)]
  | .kept ws hs => .tuple [.str "kept", totD ws hs]
def An.Ok (B : Book) (ns : List Int) (p : Nat) : An → Prop
  | .raised cs => RndOk B ns cs ∧ 0 < gainR B cs B.ways.length p
  | .kept ws hs => SumOk B ws hs ∧ (∀ w ∈ ws, 0 ≤ w) ∧ (∀ j ∈ ns, 0 ≤ fallL B ws hs j) ∧ 1 ≤ ws.getD p 0
end L3
end
section
namespace L3
open PySem PySem.Spec PyProof.Rows L2
def DfnA (K : PySem.W.Frag) (mg : Str → Option Value) (x q : Str) (s : Stmt) (ps : List Str) : Prop := ∃ fa fd, Fun K q q s fa fd ∧ mg x = some (.ref fa) ∧ Binds K fd ps []
theorem DfnA.ok {P : Program} {w : World} {K : PySem.W.Frag} {mg : Str → Option Value} {base : Heap} {G : Type} {x q : Str} {s : Stmt} {N ps : List Str} {k : Nat} {Z : Zx K G} {S : Spec G} (D : DfnA K mg x q s ps) (Sc : FnScope N ps (defScope s)) (hS : ∀ as g T U, S as g T U → as.length = ps.length) (hN : ps.length ≤ N.length)
    (body : ∀ (fa : Addr) (cdv : Value) (A : Around) (outer : List Env) (s' : Shared) (H : Hp) (E : XK), RoomG k (A.deeper (PyProof.Rows.envOfC q (defScope s) s'.heap.objs.size fa cdv)) →
      ∃ ts t, DSs (cxOf (L2.CX P w) P w K mg base N q (defScope s) fa cdv A outer s' H E).nox (Z.wish (fun _ _ _ _ => False) Un) (defBody s) ts t ∧ ∀ as g T U, S as g T U → t { nx := fun _ g' => T (.dt .none) g', rt := T } (entry N as) g) : Ok P w K mg base (k + 1) x ps (spZ Z S) := by
  obtain ⟨fa, fd, Fu, hm, hb⟩ := D
  exact ⟨fa, fd, hm, Fu.kp, hb, Fun.at_ Fu, fun3 Fu Sc hS hN (body fa)⟩
end L3
end
section
set_option exponentiation.threshold 3000
namespace L3
open PySem PySem.Spec PyProof.Rows L2
open Dt
/-- an answer of sum_or_round -/
inductive SR where
  | rnd (cs : List Int)
  | sum (ws hs : List Int)
def SR.d : SR → PyData
  | .rnd cs => .tuple [.str "round", .tuple (cs.map PyData.int)]
  | .sum ws hs => .tuple [.str "sum", totD ws hs]
def SR.Ok (B : Book) (ns : List Int) (k : Int) : SR → Prop
  | .rnd cs => RndOk B ns cs ∧ 0 < cs.getD k.toNat 0
  | .sum ws hs => SumOk B ws hs ∧ (∀ w ∈ ws, 0 ≤ w ∧ w ≤ 2 ^ 289) ∧ (∀ x ∈ hs, x.natAbs ≤ 2 ^ 289) ∧ (∀ j ∈ ns, 0 ≤ fallL B ws hs j) ∧ 1 ≤ fallL B ws hs k
def SR.s : SR → Option (List Int × List Int)
  | .rnd _ => none
  | .sum ws hs => some (ws, hs)
def SR.r : SR → Option (List Int)
  | .rnd cs => some cs
  | .sum _ _ => none
/-- a sum that is good enough to go on with -/
structure SmI (B : Book) (ns : List Int) (M : Nat) (p : List Int × List Int) : Prop where
  s : SumOk B p.1 p.2
  w : ∀ w ∈ p.1, 0 ≤ w ∧ w ≤ (M : Nat)
  h : ∀ x ∈ p.2, x.natAbs ≤ M
  f : ∀ j ∈ ns, 0 ≤ fallL B p.1 p.2 j
theorem SmI.mono {B : Book} {ns : List Int} {M N : Nat} {p : List Int × List Int} (h : SmI B ns M p) (le : M ≤ N) : SmI B ns N p :=
  ⟨h.s, fun w hw => ⟨(h.w w hw).1, Int.le_trans (h.w w hw).2 (Int.ofNat_le.mpr le)⟩, fun x hx => Nat.le_trans (h.h x hx) le, h.f⟩
theorem SR.sm {B : Book} {ns : List Int} {k : Int} {ws hs : List Int} (h : (SR.sum ws hs).Ok B ns k) : SmI B ns (2 ^ 289) (ws, hs) :=
  ⟨h.1, fun w hw => ⟨(h.2.1 w hw).1, Int.le_trans (h.2.1 w hw).2 (by decide)⟩, h.2.2.1, h.2.2.2.1⟩
theorem TotI.sm {B : Book} {ns ws hs : List Int} {j : Nat} (h : TotI B ns j ws hs) : SmI B ns (j * 2 ^ 289) (ws, hs) :=
  ⟨h.ok, fun w hw => ⟨(h.w w hw).1, Int.le_trans (h.w w hw).2 (by rw [Int.natCast_mul]; exact Int.le_refl _)⟩, h.h, h.f⟩
/-- sums put together one after the other -/
structure WhlI (B : Book) (ns : List Int) (L : List (List Int × List Int)) (j : Nat) (ws hs : List Int) : Prop where
  s : SumOk B ws hs
  w : ∀ w ∈ ws, 0 ≤ w ∧ w ≤ ((j * 2 ^ 289 : Nat) : Int)
  h : ∀ x ∈ hs, x.natAbs ≤ j * 2 ^ 289
  f : ∀ i ∈ ns, fallL B ws hs i = ((L.take j).map fun p => fallL B p.1 p.2 i).sum
theorem WhlI.add {B : Book} {ns ws hs : List Int} {L : List (List Int × List Int)} {j : Nat} (hF : FlOk B ns) (h : WhlI B ns L j ws hs) {p : List Int × List Int} (hp : L[j]? = some p) (hS : SmI B ns (2 ^ 289) p) (hj : j ≤ 1000) : WhlI B ns L (j + 1) (addL ws p.1) (addL hs p.2) := by
  obtain ⟨mr, mw, hB, _⟩ := hF.ok
  have hw : ∀ w ∈ addL ws p.1, 0 ≤ w ∧ w ≤ (((j + 1) * 2 ^ 289 : Nat) : Int) := fun w hw => by
    obtain ⟨x, hx, y, hy, rfl⟩ := addL_mem hw
    have a := h.w x hx
    have b := hS.w y hy
    rw [Nat.add_mul]
    omega
  have c1 : (((j + 1) * 2 ^ 289 : Nat) : Int) ≤ 2 ^ 399 := by
    have : (j + 1) * 2 ^ 289 ≤ 1001 * 2 ^ 289 := Nat.mul_le_mul_right _ (by omega)
    have : 1001 * 2 ^ 289 ≤ 2 ^ 399 := by decide
    omega
  have l1 := h.s.w
  have l2 := h.s.h
  have l3 := hS.s.w
  have l4 := hS.s.h
  refine ⟨⟨by rw [addL_len' (n := B.purses.toNat) (by omega) (by omega)]; omega, by rw [addL_len' (n := B.rooms.toNat) (by omega) (by omega)]; omega, fun x hx => big_lt (Int.le_trans (by decide) (hw x hx).1) (Int.le_trans (hw x hx).2 c1)⟩, hw, fun x hx => ?_, fun i hi => ?_⟩
  · obtain ⟨y, hy, z, hz, rfl⟩ := addL_mem hx
    have a := h.h y hy
    have b := hS.h z hz
    have c := Int.natAbs_add_le y z
    rw [Nat.add_mul]
    omega
  · rw [fallL_add hB h.s hS.s (hF.w i hi), h.f i hi, take_sum _ hp]
end L3
end
section
namespace L3
/-- ways one behind the other from a room to a room -/
def Trl (A E : Int → Int) : Int → List Int → Int → Prop
  | u, [], v => u = v
  | u, k :: ks, v => A k = u ∧ Trl A E (E k) ks v
section
variable {A E : Int → Int}
theorem Trl.append : ∀ {p q : List Int} {u v w : Int}, Trl A E u p v → Trl A E v q w → Trl A E u (p ++ q) w
  | [], q, u, v, w, h, h2 => by cases h; exact h2
  | k :: p, q, u, v, w, h, h2 => ⟨h.1, Trl.append (p := p) h.2 h2⟩
theorem Trl.split : ∀ {p q : List Int} {u w : Int}, Trl A E u (p ++ q) w → ∃ v, Trl A E u p v ∧ Trl A E v q w
  | [], q, u, w, h => ⟨u, rfl, h⟩
  | k :: p, q, u, w, h => by
    obtain ⟨v, h1, h2⟩ := Trl.split (p := p) h.2
    exact ⟨v, ⟨h.1, h1⟩, h2⟩
theorem Trl.snoc {p : List Int} {k u v : Int} : Trl A E u (p ++ [k]) v ↔ Trl A E u p (A k) ∧ v = E k := by
  constructor
  · intro h
    obtain ⟨x, h1, h2, h3⟩ := Trl.split h
    cases h3
    exact ⟨by rw [h2]; exact h1, rfl⟩
  · rintro ⟨h, rfl⟩
    exact h.append ⟨rfl, rfl⟩
/-- how often ways of a list lead out of a room, and into it -/
def outN (A : Int → Int) (xs : List Int) (v : Int) : Nat := xs.countP fun k => decide (A k = v)
theorem trl_bal : ∀ {p : List Int} {u v : Int}, Trl A E u p v → ∀ x, (outN A p x : Int) - outN E p x = (if x = u then 1 else 0) - (if x = v then 1 else 0)
  | [], u, v, h, x => by cases h; simp [outN]
  | k :: p, u, v, h, x => by
    have ih := trl_bal h.2 x
    have e1 : outN A (k :: p) x = outN A p x + if A k = x then 1 else 0 := by
      unfold outN
      rw [List.countP_cons]
      by_cases q : A k = x <;> simp [q]
    have e2 : outN E (k :: p) x = outN E p x + if E k = x then 1 else 0 := by
      unfold outN
      rw [List.countP_cons]
      by_cases q : E k = x <;> simp [q]
    rw [e1, e2, ← h.1]
    have f1 : (if A k = x then (1 : Int) else 0) = if x = A k then 1 else 0 := by split <;> split <;> first | rfl | omega
    have f2 : (if E k = x then (1 : Int) else 0) = if x = E k then 1 else 0 := by split <;> split <;> first | rfl | omega
    have c1 : (((if A k = x then 1 else 0 : Nat)) : Int) = if A k = x then (1 : Int) else 0 := by split <;> rfl
    have c2 : (((if E k = x then 1 else 0 : Nat)) : Int) = if E k = x then (1 : Int) else 0 := by split <;> rfl
    rw [Int.natCast_add, Int.natCast_add, c1, c2, f1, f2]
    omega
theorem outN_perm {xs ys : List Int} (h : xs.Perm ys) (v : Int) : outN A xs v = outN A ys v := h.countP_eq _
theorem outN_append (xs ys : List Int) (v : Int) : outN A (xs ++ ys) v = outN A xs v + outN A ys v := List.countP_append
theorem outN_rev (xs : List Int) (v : Int) : outN A xs.reverse v = outN A xs v := List.countP_reverse
/-- the state while a walk is gone along: what is left of each room, the way so far, what is found, the room from which that leads -/
structure Hier (A E : Int → Int) (E0 : List Int) (room : Int) (R : Int → List Int) (L ks fs : List Int) (X : Int) : Prop where
  src : ∀ v, (R v).Perm (L.filter fun k => decide (A k = v))
  all : (L ++ (ks ++ fs)).Perm E0
  tl : ∃ v, Trl A E room ks v
  fd : Trl A E X fs.reverse room
  cl : ∀ k ∈ fs, R (E k) = []
/-- where the way so far leads to -/
def topOf (E : Int → Int) (room : Int) (ks : List Int) : Int := (ks.getLast?.map E).getD room
theorem topOf_snoc (room : Int) (ks : List Int) (k : Int) : topOf E room (ks ++ [k]) = E k := by unfold topOf; rw [List.getLast?_append]; rfl
theorem trl_top {ks : List Int} {room v : Int} (h : Trl A E room ks v) : v = topOf E room ks := by
  rcases List.eq_nil_or_concat ks with rfl | ⟨p, k, rfl⟩
  · cases h; rfl
  · rw [List.concat_eq_append] at h ⊢
    rw [topOf_snoc]
    exact (Trl.snoc.mp h).2
variable {E0 : List Int} {room X : Int} {R R2 : Int → List Int} {L ks fs : List Int}
/-- as many ways lead into each room as out of it -/
def Bal (A E : Int → Int) (xs : List Int) : Prop := ∀ v, outN A xs v = outN E xs v
theorem Hier.bal (h : Hier A E E0 room R L ks fs X) (hb : Bal A E E0) (x : Int) : (outN A L x : Int) - outN E L x = (if x = topOf E room ks then 1 else 0) - (if x = X then 1 else 0) := by
  obtain ⟨v, hv⟩ := h.tl
  have ev := trl_top hv
  subst ev
  have b1 := trl_bal hv x
  have b2 := trl_bal h.fd x
  rw [outN_rev, outN_rev] at b2
  have b3 := hb x
  have p1 := outN_perm (A := A) h.all x
  have p2 := outN_perm (A := E) h.all x
  rw [outN_append, outN_append] at p1 p2
  omega
/-- one way on -/
theorem Hier.push (h : Hier A E E0 room R L ks fs X) {k : Int} {init : List Int} (hr : R (topOf E room ks) = init ++ [k]) (h2 : ∀ v, R2 v = if v = topOf E room ks then init else R v) :
    A k = topOf E room ks ∧ k ∈ L ∧ Hier A E E0 room R2 (L.erase k) (ks ++ [k]) fs X := by
  have hp := h.src (topOf E room ks)
  rw [hr] at hp
  have hm : k ∈ L.filter fun j => decide (A j = topOf E room ks) := hp.subset (by simp)
  obtain ⟨hkL, hkA⟩ := List.mem_filter.mp hm
  have hkA := of_decide_eq_true hkA
  obtain ⟨v, hv⟩ := h.tl
  have ev := trl_top hv
  subst ev
  have fe : ∀ v, (L.erase k).filter (fun j => decide (A j = v)) = if A k = v then (L.filter fun j => decide (A j = v)).erase k else L.filter fun j => decide (A j = v) := fun v => by
    rw [List.erase_filter]
    split
    · rename_i e
      rfl
    · rename_i e
      rw [← List.erase_filter]
      rw [List.erase_of_not_mem]
      intro z
      exact e (of_decide_eq_true (List.mem_filter.mp z).2)
  refine ⟨hkA, hkL, fun v => ?_, ?_, ⟨E k, Trl.snoc.mpr ⟨by rw [hkA]; exact hv, rfl⟩⟩, h.fd, fun j hj => ?_⟩
  · rw [h2, fe]
    by_cases e : v = topOf E room ks
    · rw [if_pos e, if_pos (by rw [hkA, e])]
      subst e
      have := (List.perm_append_comm.trans hp).erase k (l₁ := [k] ++ init)
      simpa using this
    · rw [if_neg e, if_neg (by rw [hkA]; exact fun z => e z.symm)]
      exact h.src v
  · refine List.Perm.trans ?_ h.all
    have : L.Perm (k :: L.erase k) := List.perm_cons_erase hkL
    refine List.Perm.trans ?_ (this.symm.append_right _)
    have e1 : L.erase k ++ (ks ++ [k] ++ fs) = (L.erase k ++ ks) ++ k :: fs := by simp
    have e2 : k :: L.erase k ++ (ks ++ fs) = k :: ((L.erase k ++ ks) ++ fs) := by simp
    rw [e1, e2]
    exact List.perm_middle
  · rw [h2]
    have := h.cl j hj
    split
    · rename_i e
      rw [← e, this] at hr
      cases init <;> cases hr
    · exact this
end
/-- a way round -/
structure Cyc (A E : Int → Int) (w : List Int) : Prop where
  ne : w ≠ []
  tl : ∃ u, Trl A E u w u
  nd : (w.map A).Nodup
theorem Trl.at {A E : Int → Int} {w : List Int} {u v : Int} {i : Nat} {k : Int} (h : Trl A E u w v) (hi : w[i]? = some k) : Trl A E (A k) (w.drop i) v ∧ Trl A E u (w.take i) (A k) := by
  have e : w.take i ++ w.drop i = w := List.take_append_drop _ _
  rw [← e] at h
  obtain ⟨x, h1, h2⟩ := h.split
  have hl := (List.getElem?_eq_some_iff.mp hi)
  obtain ⟨hl, ek⟩ := hl
  rw [List.drop_eq_getElem_cons hl] at h2 ⊢
  have : A w[i] = x := h2.1
  subst ek
  subst this
  exact ⟨⟨rfl, h2.2⟩, h1⟩
theorem trl_hd {A E : Int → Int} {w : List Int} {u v : Int} (hw : w ≠ []) (h : Trl A E u w v) : A (w.head hw) = u := by
  cases w with
  | nil => exact absurd rfl hw
  | cons k w => exact h.1
theorem Cyc.start {A E : Int → Int} {w : List Int} (h : Cyc A E w) : Trl A E (A (w.head h.ne)) w (A (w.head h.ne)) := by
  obtain ⟨u, hu⟩ := h.tl
  rw [trl_hd h.ne hu]; exact hu
theorem Cyc.nodup {A E : Int → Int} {w : List Int} (h : Cyc A E w) : w.Nodup := (List.pairwise_map.mp h.nd).imp fun q e => q (by rw [e])
theorem Cyc.bal {A E : Int → Int} {w : List Int} (h : Cyc A E w) : Bal A E w := fun v => by
  obtain ⟨u, hu⟩ := h.tl
  have := trl_bal hu v
  omega
end L3
end
section
namespace L3
open PySem L2
end L3
end
section
namespace L3
open PySem PySem.Spec PyProof.Rows L2
open Dt
abbrev bA (B : Book) (k : Int) : Int := (wAt B k).a
abbrev bE (B : Book) (k : Int) : Int := (wAt B k).b
theorem trl_rch {B : Book} {ws : List Int} : ∀ {p : List Int} {a b : Int}, (∀ k ∈ p, k ∈ ws) → Trl (bA B) (bE B) a p b → Rch B ws a b
  | [], a, b, _, h => by cases h; exact .refl _
  | k :: p, a, b, hm, h => by
    have e : (wAt B k).a = a := h.1
    rw [← e]
    exact (Rch.one (hm k List.mem_cons_self)).trans (trl_rch (fun j hj => hm j (List.mem_cons_of_mem _ hj)) h.2)
/-- the dict of lists while it is filled, and emptied -/
structure LkI (g : DLG) (R : Int → List Int) (N : Nat) : Prop where
  l : ∀ v : Int, (g.look (.inl v)).getD [] = (R v).map PyData.int
  n : g.es.length ≤ N
theorem LkI.set {g g' : DLG} {R : Int → List Int} {N M : Nat} (h : LkI g R N) {v : Int} {xs : List Int} (hl : ∀ j, g'.look j = if j = .inl v then some (xs.map PyData.int) else g.look j) (hn : g'.es.length ≤ M) : LkI g' (fun u => if u = v then xs else R u) M := by
  refine ⟨fun u => ?_, hn⟩
  rw [hl]
  by_cases e : u = v
  · subst e; rw [if_pos rfl, if_pos rfl]; rfl
  · rw [if_neg e, if_neg (fun z => e (by cases z; rfl))]; exact h.l u
theorem LkI.some {g : DLG} {R : Int → List Int} {N : Nat} (h : LkI g R N) {v : Int} {l : List Int} {k : Int} (e : R v = l ++ [k]) : g.look (.inl v) = some ((l ++ [k]).map PyData.int) := by
  have := h.l v
  rw [e] at this
  cases q : g.look (.inl v) with
  | none => rw [q] at this; simp at this
  | some ds => rw [q] at this; exact congrArg Option.some this
end L3
end
section
namespace L3
open PySem PySem.Spec PyProof.Rows L2
open Dt
def outC (B : Book) (cs : List Int) (r : Int) : Int := sm B.ways.length fun k => if (wAt B (k : Nat)).a = r then cs.getD k 0 else 0
def inC (B : Book) (cs : List Int) (r : Int) : Int := sm B.ways.length fun k => if (wAt B (k : Nat)).b = r then cs.getD k 0 else 0
structure Circ (B : Book) (cs : List Int) : Prop where
  n : cs.length = B.ways.length
  z : ∀ c ∈ cs, 0 ≤ c
  b : ∀ r : Int, outC B cs r = inC B cs r
theorem sm_ge1 : ∀ {n k : Nat} {f : Nat → Int}, (∀ i, i < n → 0 ≤ f i) → k < n → f k ≤ sm n f
  | n + 1, k, f, h, hk => by
    rw [sm_succ]
    have h0 := sm_ge0 (n := n) (f := f) fun i hi => h i (by omega)
    by_cases e : k = n
    · subst e; omega
    · have := sm_ge1 (n := n) (k := k) (f := f) (fun i hi => h i (by omega)) (by omega)
      have := h n (Nat.lt_succ_self n)
      omega
theorem Circ.at {B : Book} {cs : List Int} (h : Circ B cs) (k : Nat) : 0 ≤ cs.getD k 0 := by
  rw [List.getD_eq_getElem?_getD]
  cases e : cs[k]? with
  | none => exact Int.le_refl _
  | some x => exact h.z x (List.mem_of_getElem? e)
theorem cnt_cons (x k : Int) (w : List Int) : (((x :: w).count k : Nat) : Int) = (w.count k : Nat) + if x = k then 1 else 0 := by
  rw [List.count_cons]
  by_cases e : x = k
  · simp [e]
  · simp [e]
theorem cnt_out {B : Book} (f : Int → Int) (r : Int) : ∀ {w : List Int}, (∀ k ∈ w, inW B k = true) → sm B.ways.length (fun k => if f ((k : Nat) : Int) = r then ((w.count ((k : Nat) : Int) : Nat) : Int) else 0) = (outN f w r : Nat)
  | [], _ => by
    rw [sm_congr (g := fun _ => 0) fun i _ => by simp, sm_zero]; rfl
  | x :: w, h => by
    have ih := cnt_out (B := B) f r (w := w) fun k hk => h k (List.mem_cons_of_mem _ hk)
    have hx := h x List.mem_cons_self
    simp only [inW, Bool.and_eq_true, decide_eq_true_eq] at hx
    rw [sm_congr (g := fun k => (if f ((k : Nat) : Int) = r then ((w.count ((k : Nat) : Int) : Nat) : Int) else 0) + if k = x.toNat then (if f x = r then 1 else 0) else 0) fun k hk => ?_, sm_add, ih, sm_one _ (by omega)]
    · unfold outN
      rw [List.countP_cons]
      by_cases e : f x = r
      · simp [e]
      · simp [e]
    · rw [cnt_cons]
      by_cases e : x = ((k : Nat) : Int)
      · rw [if_pos e, if_pos (show k = x.toNat by omega), e]
        split <;> simp
      · rw [if_neg e, if_neg (show ¬ k = x.toNat by omega)]
        split <;> simp
/-- a way round so often is taken off -/
theorem Circ.less {B : Book} {cs ds w : List Int} {m : Int} (h : Circ B cs) (hw : ∀ k ∈ w, inW B k = true) (hb : Bal (bA B) (bE B) w) (hl : ds.length = cs.length) (hd : ∀ j : Nat, ds.getD j 0 = cs.getD j 0 - m * (w.count ((j : Nat) : Int) : Nat)) (h0 : ∀ d ∈ ds, 0 ≤ d) : Circ B ds := by
  refine ⟨by rw [hl]; exact h.n, h0, fun r => ?_⟩
  have e : ∀ f : Int → Int, sm B.ways.length (fun k => if f ((k : Nat) : Int) = r then ds.getD k 0 else 0) = sm B.ways.length (fun k => if f ((k : Nat) : Int) = r then cs.getD k 0 else 0) - m * (outN f w r : Nat) := fun f => by
    rw [← cnt_out f r hw, ← sm_mul, ← sm_sub]
    refine sm_congr fun k _ => ?_
    rw [hd k]
    split
    · rfl
    · rw [Int.mul_zero]; rfl
  have a := e (bA B)
  have b := e (bE B)
  have c := h.b r
  unfold outC inC at c ⊢
  rw [show sm B.ways.length (fun k => if (wAt B (k : Nat)).a = r then ds.getD k 0 else 0) = _ from a, show sm B.ways.length (fun k => if (wAt B (k : Nat)).b = r then ds.getD k 0 else 0) = _ from b, c, hb r]
/-- how many ways are left -/
def pcN (n : Nat) (cs : List Int) : Nat := (List.range n).countP fun j => decide (0 < cs.getD j 0)
theorem countP_lt {α : Type} {p q : α → Bool} : ∀ {l : List α}, (∀ x ∈ l, q x = true → p x = true) → (∃ x ∈ l, p x = true ∧ q x = false) → l.countP q < l.countP p
  | [], _, h => by obtain ⟨x, hx, _⟩ := h; cases hx
  | a :: l, h, hx => by
    have le : l.countP q ≤ l.countP p := List.countP_mono_left fun x hx => h x (List.mem_cons_of_mem _ hx)
    have ha := h a List.mem_cons_self
    rw [List.countP_cons, List.countP_cons]
    obtain ⟨x, hx, h1, h2⟩ := hx
    rcases List.mem_cons.mp hx with rfl | hx
    · rw [h1, h2]; simp; omega
    · have := countP_lt (l := l) (fun y hy => h y (List.mem_cons_of_mem _ hy)) ⟨x, hx, h1, h2⟩
      cases e : q a with
      | false => cases p a <;> simp <;> omega
      | true => rw [ha e]; simp; omega
/-- counts as ways round, each so often -/
structure RsOk (B : Book) (cs : List Int) (rs : List (Int × List Int)) : Prop where
  m : ∀ p ∈ rs, 1 ≤ p.1
  c : ∀ p ∈ rs, Cyc (bA B) (bE B) p.2
  w : ∀ p ∈ rs, ∀ k ∈ p.2, inW B k = true
  l : ∀ p ∈ rs, (p.2.length : Int) ≤ B.rooms
  s : ∀ j : Nat, j < B.ways.length → cs.getD j 0 = cntW rs (j : Nat)
  n : rs.length ≤ B.ways.length
end L3
end
section
namespace L3
open PySem L2
end L3
end
section
namespace L3
open PySem L2
end L3
namespace L3
open PySem PySem.Spec PyProof.Rows L2
theorem cntW_app (rs : List (Int × List Int)) (p : Int × List Int) (j : Int) : cntW (rs ++ [p]) j = cntW rs j + p.1 * (p.2.count j : Nat) := by
  unfold cntW
  rw [List.map_append, List.sum_append]; simp
/-- ways round taken off so far -/
structure RsI (B : Book) (cs ds : List Int) (rs : List (Int × List Int)) : Prop where
  m : ∀ p ∈ rs, 1 ≤ p.1
  c : ∀ p ∈ rs, Cyc (bA B) (bE B) p.2
  w : ∀ p ∈ rs, ∀ k ∈ p.2, inW B k = true
  l : ∀ p ∈ rs, (p.2.length : Int) ≤ B.rooms
  s : ∀ j : Nat, j < B.ways.length → cs.getD j 0 = cntW rs (j : Nat) + ds.getD j 0
  n : rs.length + pcN B.ways.length ds ≤ B.ways.length
  d : Circ B ds
theorem count_nd {w : List Int} (nd : w.Nodup) (j : Int) : w.count j = if j ∈ w then 1 else 0 := by
  by_cases h : j ∈ w
  · rw [if_pos h]
    have h1 := List.nodup_iff_count.mp nd j
    have h2 := List.count_pos_iff.mpr h
    omega
  · rw [if_neg h]; exact List.count_eq_zero.mpr h
theorem RsI.step {B : Book} {cs ds es w : List Int} {rs : List (Int × List Int)} {m : Int} (h : RsI B cs ds rs) (hc : Cyc (bA B) (bE B) w) (hw : ∀ k ∈ w, inW B k = true ∧ 0 < ds.getD k.toNat 0) (hl : (w.length : Int) ≤ B.rooms)
    (hm : ∃ k ∈ w, m = ds.getD k.toNat 0) (hmin : ∀ k ∈ w, m ≤ ds.getD k.toNat 0) (el : es.length = ds.length) (he : ∀ j : Nat, es.getD j 0 = ds.getD j 0 - m * (w.count ((j : Nat) : Int) : Nat)) :
    RsI B cs es (rs ++ [(m, w)]) ∧ pcN B.ways.length es < pcN B.ways.length ds := by
  obtain ⟨k0, hk0, em⟩ := hm
  have m1 : 1 ≤ m := by have := (hw k0 hk0).2; omega
  have nd := hc.nodup
  have hb : ∀ k : Int, k ∈ w → 0 ≤ k ∧ k < B.ways.length := fun k hk => by have := (hw k hk).1; simpa [inW] using this
  have e1 : ∀ j : Nat, es.getD j 0 = if ((j : Nat) : Int) ∈ w then ds.getD j 0 - m else ds.getD j 0 := fun j => by
    rw [he j, count_nd nd]
    split
    · simp
    · simp
  have nn : ∀ j : Nat, 0 ≤ es.getD j 0 := fun j => by
    rw [e1 j]
    split
    · rename_i hj
      have := hmin _ hj
      rw [Int.toNat_natCast] at this
      omega
    · exact h.d.at j
  have hlt : pcN B.ways.length es < pcN B.ways.length ds := countP_lt (fun j _ q => by
    have q := of_decide_eq_true q
    rw [e1 j] at q
    refine decide_eq_true ?_
    split at q <;> omega) ⟨k0.toNat, List.mem_range.mpr (by have := hb k0 hk0; omega), decide_eq_true (hw k0 hk0).2, decide_eq_false (by
      have := hb k0 hk0
      rw [e1, if_pos (by rw [show ((k0.toNat : Nat) : Int) = k0 by omega]; exact hk0)]
      omega)⟩
  refine ⟨⟨fun p hp => ?_, fun p hp => ?_, fun p hp => ?_, fun p hp => ?_, fun j hj => ?_, ?_, ?_⟩, hlt⟩
  · rcases List.mem_append.mp hp with hp | hp
    · exact h.m p hp
    · rw [List.mem_singleton.mp hp]; exact m1
  · rcases List.mem_append.mp hp with hp | hp
    · exact h.c p hp
    · rw [List.mem_singleton.mp hp]; exact hc
  · rcases List.mem_append.mp hp with hp | hp
    · exact h.w p hp
    · rw [List.mem_singleton.mp hp]; exact fun k hk => (hw k hk).1
  · rcases List.mem_append.mp hp with hp | hp
    · exact h.l p hp
    · rw [List.mem_singleton.mp hp]; exact hl
  · rw [cntW_app, he j, h.s j hj]
    show cntW rs (j : Nat) + ds.getD j 0 = cntW rs (j : Nat) + m * ((w.count ((j : Nat) : Int) : Nat) : Int) + (ds.getD j 0 - m * ((w.count ((j : Nat) : Int) : Nat) : Int))
    omega
  · have := h.n
    rw [List.length_append, List.length_singleton]
    omega
  · exact h.d.less (fun k hk => (hw k hk).1) hc.bal el he fun d hd => by
      obtain ⟨i, hi, rfl⟩ := List.mem_iff_getElem.mp hd
      have := nn i
      rwa [List.getD_eq_getElem?_getD, List.getElem?_eq_getElem hi] at this
end L3
end
section
namespace L3
open PySem PySem.Spec PyProof.Rows L2
open Dt
mutual
/-- how often a told walk has a way -/
def cnT : Tw → Int → Int
  | .way k, j => if k = j then 1 else 0
  | .row ps, j => cnTs ps j
  | .times n t, j => n * cnT t j
def cnTs : List Tw → Int → Int
  | [], _ => 0
  | t :: r, j => cnT t j + cnTs r j
end
theorem cnTs_app (j : Int) : ∀ ps qs : List Tw, cnTs (ps ++ qs) j = cnTs ps j + cnTs qs j
  | [], qs => by rw [List.nil_append, cnTs]; omega
  | t :: r, qs => by
    rw [List.cons_append, cnTs, cnTs, cnTs_app j r qs]; omega
theorem cnTs_ways (j : Int) : ∀ w : List Int, cnTs (w.map Tw.way) j = (w.count j : Nat)
  | [] => by rw [List.map_nil, cnTs]; rfl
  | k :: w => by
    rw [List.map_cons, cnTs, cnTs_ways j w, cnT, cnt_cons]
    omega
theorem szs_ways : ∀ w : List Int, Tw.szs (w.map Tw.way) = w.length
  | [] => by rw [List.map_nil, Tw.szs]; rfl
  | k :: w => by rw [List.map_cons, Tw.szs, szs_ways w, Tw.sz, List.length_cons]; omega
theorem trl_pth {B : Book} : ∀ {w : List Int} {a b : Int}, (∀ k ∈ w, inW B k = true) → Trl (bA B) (bE B) a w b → Pth B a w b
  | [], _, _, _, h => h
  | k :: w, _, _, hw, h => ⟨hw k List.mem_cons_self, h.1, trl_pth (fun j hj => hw j (List.mem_cons_of_mem _ hj)) h.2⟩
def tmR (p : Int × List Int) : Tw := .times (p.1 - 1) (.row (p.2.map Tw.way))
def stA (B : Book) (p : Int × List Int) : Int := bA B (p.2.headD 0)
def prS (B : Book) (ws : List (Int × List Int)) (k : Int) : List Tw := (ws.filter fun p => decide (1 < p.1) && decide (stA B p = bA B k)).map tmR
def wtS (B : Book) (ws : List (Int × List Int)) (k : Int) : List (Int × List Int) := ws.filter fun p => decide (stA B p ≠ bA B k)
/-- how many ways the walks have -/
def lenS (rs : List (Int × List Int)) : Nat := (rs.map fun p => p.2.length).sum
/-- counts less one -/
def cnt1 (rs : List (Int × List Int)) (j : Int) : Int := (rs.map fun p => (p.1 - 1) * ((p.2.count j : Nat) : Int)).sum
/-- behind some ways of the walk: dn are the walks that are told so often -/
structure PrI (B : Book) (M : Int) (rs : List (Int × List Int)) (room : Int) (xs : List Int) (ps : List Tw) (ws : List (Int × List Int)) : Prop where
  ch : ∃ v, Trl (bA B) (bE B) room xs v ∧ ChTs B ps room v
  ok : ∀ p ∈ ps, OkT B M 2 p
  dp : ∀ p ∈ ps, p.dp ≤ 3
  dn : ∃ dn, (dn ++ ws).Perm rs ∧ (∀ j, cnTs ps j = (xs.count j : Nat) + cnt1 dn j) ∧ Tw.szs ps ≤ xs.length + 2 * dn.length + lenS dn ∧ ps.length ≤ xs.length + dn.length
  wt : ∀ p ∈ ws, ∀ x ∈ xs, stA B p ≠ bA B x
structure RsM (B : Book) (M : Int) (rs : List (Int × List Int)) : Prop where
  m : ∀ p ∈ rs, 1 ≤ p.1 ∧ p.1 ≤ M
  c : ∀ p ∈ rs, Cyc (bA B) (bE B) p.2
  w : ∀ p ∈ rs, ∀ k ∈ p.2, inW B k = true
  l : ∀ p ∈ rs, p.2.length ≤ 10000
theorem stA_eq {B : Book} {p : Int × List Int} (h : p.2 ≠ []) : stA B p = bA B (p.2.head h) := by
  obtain ⟨m, w⟩ := p
  cases w with
  | nil => exact absurd rfl h
  | cons x r => rfl
theorem tmR_ok {B : Book} {M : Int} {p : Int × List Int} (h1 : 1 < p.1) (h2 : p.1 ≤ M) (hc : Cyc (bA B) (bE B) p.2) (hw : ∀ k ∈ p.2, inW B k = true) (hl : p.2.length ≤ 10000) : OkT B M 2 (tmR p) ∧ ChT B (tmR p) (stA B p) (stA B p) ∧ (tmR p).dp ≤ 3 ∧ (tmR p).sz = 2 + p.2.length ∧ ∀ j, cnT (tmR p) j = (p.1 - 1) * (p.2.count j : Nat) := by
  have hne : p.2.map Tw.way ≠ [] := by simpa using hc.ne
  refine ⟨⟨⟨by omega, by omega⟩, hne, by rw [List.length_map]; exact hl, fun q hq => ?_⟩, ?_, ?_, ?_, fun j => ?_⟩
  · obtain ⟨k, hk, rfl⟩ := List.mem_map.mp hq
    exact hw k hk
  · rw [stA_eq hc.ne, tmR, ChT, ChT]
    exact ⟨⟨hne, chTs_path (trl_pth hw hc.start)⟩, .inr rfl⟩
  · have : ∀ w : List Int, Tw.dps (w.map Tw.way) ≤ 1 := fun w => by
      induction w with
      | nil => rw [List.map_nil, Tw.dps]; omega
      | cons k w ih => rw [List.map_cons, Tw.dps, Tw.dp]; omega
    have := this p.2
    rw [tmR, Tw.dp, Tw.dp]; omega
  · rw [tmR, Tw.sz, Tw.sz, szs_ways]; omega
  · rw [tmR, cnT, cnT, cnTs_ways]
theorem cnt1_app (j : Int) (a b : List (Int × List Int)) : cnt1 (a ++ b) j = cnt1 a j + cnt1 b j := by
  unfold cnt1; rw [List.map_append, List.sum_append]
theorem lenS_app (a b : List (Int × List Int)) : lenS (a ++ b) = lenS a + lenS b := by
  unfold lenS; rw [List.map_append, List.sum_append_nat]
theorem chTs_same {B : Book} {r : Int} : ∀ {ps : List Tw}, (∀ p ∈ ps, ChT B p r r) → ChTs B ps r r
  | [], _ => by rw [ChTs]
  | p :: ps, h => by
    rw [ChTs]
    exact ⟨r, h p List.mem_cons_self, chTs_same fun q hq => h q (List.mem_cons_of_mem _ hq)⟩
/-- what the loop puts to the parts for one way -/
theorem prS_ok {B : Book} {M : Int} {k : Int} : ∀ {ws : List (Int × List Int)}, RsM B M ws → (∀ p ∈ prS B ws k, OkT B M 2 p ∧ ChT B p (bA B k) (bA B k) ∧ p.dp ≤ 3) ∧
    (∀ j, cnTs (prS B ws k) j = cnt1 (ws.filter fun p => decide (stA B p = bA B k)) j) ∧ Tw.szs (prS B ws k) ≤ 2 * (ws.filter fun p => decide (stA B p = bA B k)).length + lenS (ws.filter fun p => decide (stA B p = bA B k)) ∧ (prS B ws k).length ≤ (ws.filter fun p => decide (stA B p = bA B k)).length
  | [], _ => ⟨fun p h => (nomatch h), fun j => by show cnTs [] j = _; rw [cnTs]; rfl, by show Tw.szs [] ≤ _; rw [Tw.szs]; exact Nat.zero_le _, Nat.le_refl _⟩
  | p :: ws, h => by
    obtain ⟨i1, i2, i3, i4⟩ := prS_ok (M := M) (k := k) (ws := ws) ⟨fun q hq => h.m q (List.mem_cons_of_mem _ hq), fun q hq => h.c q (List.mem_cons_of_mem _ hq), fun q hq => h.w q (List.mem_cons_of_mem _ hq), fun q hq => h.l q (List.mem_cons_of_mem _ hq)⟩
    have hm := h.m p List.mem_cons_self
    by_cases e : stA B p = bA B k
    · by_cases c : 1 < p.1
      · obtain ⟨t1, t2, t3, t4, t5⟩ := tmR_ok c hm.2 (h.c p List.mem_cons_self) (h.w p List.mem_cons_self) (h.l p List.mem_cons_self)
        have ep : prS B (p :: ws) k = tmR p :: prS B ws k := by unfold prS; rw [List.filter_cons_of_pos (by simp [c, e]), List.map_cons]
        have ef : (p :: ws).filter (fun p => decide (stA B p = bA B k)) = p :: ws.filter fun p => decide (stA B p = bA B k) := List.filter_cons_of_pos (by simp [e])
        rw [ep, ef]
        rw [e] at t2
        refine ⟨fun q hq => ?_, fun j => ?_, ?_, ?_⟩
        · rcases List.mem_cons.mp hq with rfl | hq
          · exact ⟨t1, t2, t3⟩
          · exact i1 q hq
        · rw [cnTs, t5, i2]; unfold cnt1; rw [List.map_cons, List.sum_cons]
        · rw [Tw.szs, t4, List.length_cons]
          unfold lenS at i3 ⊢
          rw [List.map_cons, List.sum_cons]; omega
        · rw [List.length_cons, List.length_cons]; omega
      · have ep : prS B (p :: ws) k = prS B ws k := by unfold prS; rw [List.filter_cons_of_neg (by simp [c])]
        have ef : (p :: ws).filter (fun p => decide (stA B p = bA B k)) = p :: ws.filter fun p => decide (stA B p = bA B k) := List.filter_cons_of_pos (by simp [e])
        rw [ep, ef]
        refine ⟨i1, fun j => ?_, ?_, ?_⟩
        · rw [i2]; unfold cnt1; rw [List.map_cons, List.sum_cons, show p.1 - 1 = 0 by omega]; omega
        · rw [List.length_cons]
          unfold lenS at i3 ⊢
          rw [List.map_cons, List.sum_cons]; omega
        · rw [List.length_cons]; omega
    · have ep : prS B (p :: ws) k = prS B ws k := by unfold prS; rw [List.filter_cons_of_neg (by simp [e])]
      have ef : (p :: ws).filter (fun p => decide (stA B p = bA B k)) = ws.filter fun p => decide (stA B p = bA B k) := List.filter_cons_of_neg (by simp [e])
      rw [ep, ef]
      exact ⟨i1, i2, i3, i4⟩
theorem PrI.step {B : Book} {M : Int} {rs : List (Int × List Int)} {room : Int} {xs : List Int} {ps : List Tw} {ws : List (Int × List Int)} (hR : RsM B M rs) (h : PrI B M rs room xs ps ws) {k u : Int} (hk : inW B k = true) (ht : Trl (bA B) (bE B) room (xs ++ [k]) u) :
    PrI B M rs room (xs ++ [k]) (ps ++ prS B ws k ++ [.way k]) (wtS B ws k) := by
  obtain ⟨dn, d1, d2, d3, d4⟩ := h.dn
  have hsub : ∀ p ∈ ws, p ∈ rs := fun p hp => d1.subset (List.mem_append_right _ hp)
  obtain ⟨i1, i2, i3, i4⟩ := prS_ok (k := k) (ws := ws) ⟨fun q hq => hR.m q (hsub q hq), fun q hq => hR.c q (hsub q hq), fun q hq => hR.w q (hsub q hq), fun q hq => hR.l q (hsub q hq)⟩
  obtain ⟨v, c1, c2⟩ := h.ch
  obtain ⟨t1, t2⟩ := Trl.snoc.mp ht
  have ev : v = bA B k := (trl_top c1).trans (trl_top t1).symm
  subst ev
  refine ⟨⟨u, ht, (c2.app (chTs_same fun p hp => (i1 p hp).2.1)).app ?_⟩, fun p hp => ?_, fun p hp => ?_, ⟨dn ++ ws.filter (fun p => decide (stA B p = bA B k)), ?_, fun j => ?_, ?_, ?_⟩, fun p hp x hx => ?_⟩
  · refine chTs_one ?_
    rw [ChT]
    exact ⟨hk, rfl, t2.symm⟩
  · rcases List.mem_append.mp hp with hp | hp
    · rcases List.mem_append.mp hp with hp | hp
      · exact h.ok p hp
      · exact (i1 p hp).1
    · rw [List.mem_singleton.mp hp]; exact hk
  · rcases List.mem_append.mp hp with hp | hp
    · rcases List.mem_append.mp hp with hp | hp
      · exact h.dp p hp
      · exact (i1 p hp).2.2
    · rw [List.mem_singleton.mp hp, Tw.dp]; omega
  · rw [List.append_assoc]
    refine List.Perm.trans (List.Perm.append_left _ ?_) d1
    have := List.filter_append_perm (fun p => decide (stA B p = bA B k)) ws
    have e : wtS B ws k = ws.filter fun p => !decide (stA B p = bA B k) := by
      unfold wtS
      congr 1
      funext p
      simp
    rw [e]; exact this
  · rw [cnTs_app, cnTs_app, d2, i2, cnt1_app, List.count_append, List.count_singleton, cnTs, cnTs, cnT]
    by_cases e : k = j
    · simp [e]; omega
    · simp [e]; omega
  · rw [szs_app, szs_app, Tw.szs, Tw.szs, Tw.sz, List.length_append, List.length_append, lenS_app, List.length_singleton]; omega
  · rw [List.length_append, List.length_append, List.length_append, List.length_append, List.length_singleton, List.length_singleton]; omega
  · obtain ⟨hp1, hp2⟩ := List.mem_filter.mp hp
    rcases List.mem_append.mp hx with hx | hx
    · exact h.wt p hp1 x hx
    · rw [List.mem_singleton.mp hx]; exact of_decide_eq_true hp2
/-- a told walk whose round some counts are -/
structure TwOf (B : Book) (cs : List Int) (M room : Int) (t : Tw) : Prop where
  sh : ∃ ps, t = .row ps
  ch : ChT B t room room
  ok : OkT B M 3 t
  cn : ∀ j : Nat, j < B.ways.length → cnT t (j : Nat) = cs.getD j 0
  sz : t.sz ≤ 1 + 2 * B.ways.length + 2 * (B.ways.length * B.rooms.toNat)
  dp : t.dp ≤ 4
theorem cntW_ge : ∀ {rs : List (Int × List Int)} {p : Int × List Int} {j : Int}, (∀ p ∈ rs, 0 ≤ p.1) → p ∈ rs → 0 ≤ cntW rs j ∧ p.1 * ((p.2.count j : Nat) : Int) ≤ cntW rs j
  | q :: rs, p, j, h, hp => by
    have e : cntW (q :: rs) j = q.1 * ((q.2.count j : Nat) : Int) + cntW rs j := by unfold cntW; rw [List.map_cons, List.sum_cons]
    have q0 := Int.mul_nonneg (h q List.mem_cons_self) (Int.natCast_nonneg (q.2.count j))
    have r0 : 0 ≤ cntW rs j := by
      clear hp
      induction rs with
      | nil => exact Int.le_refl _
      | cons x rs ih =>
        have ih := ih (fun p hp => h p (by
          rcases List.mem_cons.mp hp with rfl | hp
          · exact List.mem_cons_self
          · exact List.mem_cons_of_mem _ (List.mem_cons_of_mem _ hp))) (by unfold cntW; rw [List.map_cons, List.sum_cons])
        have e : cntW (x :: rs) j = x.1 * ((x.2.count j : Nat) : Int) + cntW rs j := by unfold cntW; rw [List.map_cons, List.sum_cons]
        have x0 := Int.mul_nonneg (h x (List.mem_cons_of_mem _ List.mem_cons_self)) (Int.natCast_nonneg (x.2.count j))
        rw [e]; omega
    rw [e]
    refine ⟨by omega, ?_⟩
    rcases List.mem_cons.mp hp with rfl | hp
    · omega
    · have := (cntW_ge (rs := rs) (p := p) (j := j) (fun p hp => h p (List.mem_cons_of_mem _ hp)) hp).2
      omega
theorem RsOk.ge {B : Book} {cs : List Int} {rs : List (Int × List Int)} (h : RsOk B cs rs) {p : Int × List Int} (hp : p ∈ rs) {k : Int} (hk : k ∈ p.2) : 0 ≤ k ∧ k < B.ways.length ∧ p.1 ≤ cs.getD k.toNat 0 := by
  have hb := h.w p hp k hk
  simp only [inW, Bool.and_eq_true, decide_eq_true_eq] at hb
  refine ⟨hb.1, hb.2, ?_⟩
  have s := h.s k.toNat (by omega)
  rw [show ((k.toNat : Nat) : Int) = k by omega] at s
  have g := (cntW_ge (rs := rs) (p := p) (j := k) (fun q hq => by have := h.m q hq; omega) hp).2
  have nd := (h.c p hp).nodup
  rw [count_nd nd, if_pos hk] at g
  rw [s]
  have e : p.1 * ((1 : Nat) : Int) = p.1 := Int.mul_one _
  omega
theorem cntW_pos : ∀ {rs : List (Int × List Int)} {j : Int}, 0 < cntW rs j → ∃ p ∈ rs, j ∈ p.2
  | q :: rs, j, h => by
    have e : cntW (q :: rs) j = q.1 * ((q.2.count j : Nat) : Int) + cntW rs j := by unfold cntW; rw [List.map_cons, List.sum_cons]
    by_cases c : j ∈ q.2
    · exact ⟨q, List.mem_cons_self, c⟩
    · rw [e, List.count_eq_zero.mpr c] at h
      have h : 0 < cntW rs j := by
        have z : q.1 * ((0 : Nat) : Int) = 0 := Int.mul_zero _
        omega
      obtain ⟨p, hp, hj⟩ := cntW_pos h
      exact ⟨p, List.mem_cons_of_mem _ hp, hj⟩
theorem posW_iff {n : Nat} {cs : List Int} {k : Int} : k ∈ posW n cs ↔ 0 ≤ k ∧ k < n ∧ 0 < cs.getD k.toNat 0 := by
  unfold posW
  rw [List.mem_map]
  constructor
  · rintro ⟨i, hi, rfl⟩
    obtain ⟨a, b⟩ := List.mem_filter.mp hi
    have a := List.mem_range.mp a
    exact ⟨by omega, by omega, by rw [Int.toNat_natCast]; exact of_decide_eq_true b⟩
  · rintro ⟨a, b, c⟩
    exact ⟨k.toNat, List.mem_filter.mpr ⟨List.mem_range.mpr (by omega), decide_eq_true c⟩, by omega⟩
/-- the ways with a count are just those of the ways round -/
theorem RsOk.pos {B : Book} {cs : List Int} {rs : List (Int × List Int)} (h : RsOk B cs rs) {k : Int} : k ∈ posW B.ways.length cs ↔ k ∈ (rs.map Prod.snd).flatten := by
  rw [posW_iff, List.mem_flatten]
  constructor
  · rintro ⟨a, b, c⟩
    have s := h.s k.toNat (by omega)
    rw [show ((k.toNat : Nat) : Int) = k by omega] at s
    obtain ⟨p, hp, hk⟩ := cntW_pos (rs := rs) (j := k) (by omega)
    exact ⟨p.2, List.mem_map_of_mem hp, hk⟩
  · rintro ⟨w, hw, hk⟩
    obtain ⟨p, hp, rfl⟩ := List.mem_map.mp hw
    obtain ⟨a, b, c⟩ := h.ge hp hk
    have := h.m p hp
    exact ⟨a, b, by omega⟩
/-- each way of a round leads back -/
theorem RsOk.back {B : Book} {cs : List Int} {rs : List (Int × List Int)} (h : RsOk B cs rs) {k : Int} (hk : k ∈ posW B.ways.length cs) : Rch B (posW B.ways.length cs) (wAt B k).b (wAt B k).a := by
  obtain ⟨w, hw, hkw⟩ := List.mem_flatten.mp (h.pos.mp hk)
  obtain ⟨p, hp, rfl⟩ := List.mem_map.mp hw
  obtain ⟨u, hu⟩ := (h.c p hp).tl
  obtain ⟨i, hi⟩ := List.getElem?_of_mem hkw
  have hil := (List.getElem?_eq_some_iff.mp hi).1
  obtain ⟨t1, t2⟩ := hu.at hi
  have sub : ∀ j ∈ p.2, j ∈ posW B.ways.length cs := fun j hj => h.pos.mpr (List.mem_flatten.mpr ⟨_, hw, hj⟩)
  have ek : p.2[i] = k := Option.some.inj ((List.getElem?_eq_getElem hil).symm.trans hi)
  rw [List.drop_eq_getElem_cons hil, ek] at t1
  exact (trl_rch (fun j hj => sub j (List.mem_of_mem_drop hj)) t1.2).trans (trl_rch (fun j hj => sub j (List.mem_of_mem_take hj)) t2)
end L3
end
section
namespace L3
open PySem PySem.Spec PyProof.Rows L2
open Dt
theorem pth_trl {B : Book} : ∀ {w : List Int} {a b : Int}, Pth B a w b → Trl (bA B) (bE B) a w b
  | [], _, _, h => h
  | _ :: _, _, _, h => ⟨h.2.1, pth_trl h.2.2⟩
theorem pth_bal {B : Book} {w : List Int} {a : Int} (h : Pth B a w a) : Bal (bA B) (bE B) w := fun v => by
  have := trl_bal (pth_trl h) v
  omega
theorem cntL_getD {n j : Nat} (wk : List (Int × List Int)) (h : j < n) : (cntL n wk).getD j 0 = cntW wk (j : Nat) := by
  rw [List.getD_eq_getElem?_getD, cntL_get wk h]; rfl
theorem circ_cnt {B : Book} {wk : List (Int × List Int)} (h : ∀ p ∈ wk, 0 ≤ p.1 ∧ (∀ k ∈ p.2, inW B k = true) ∧ Bal (bA B) (bE B) p.2) : Circ B (cntL B.ways.length wk) := by
  refine ⟨cntL_len _ _, fun c hc => ?_, fun r => ?_⟩
  · unfold cntL at hc
    obtain ⟨i, _, rfl⟩ := List.mem_map.mp hc
    cases wk with
    | nil => exact Int.le_refl _
    | cons p wk => exact (cntW_ge (p := p) (fun q hq => (h q hq).1) List.mem_cons_self).1
  · have key : ∀ (f : Int → Int) (wk : List (Int × List Int)), (∀ p ∈ wk, ∀ k ∈ p.2, inW B k = true) → sm B.ways.length (fun k => if f ((k : Nat) : Int) = r then cntW wk (k : Nat) else 0) = (wk.map fun p => p.1 * ((outN f p.2 r : Nat) : Int)).sum := fun f wk => by
      induction wk with
      | nil =>
        intro _
        rw [sm_congr (g := fun _ => 0) fun i _ => by split <;> rfl, sm_zero]; rfl
      | cons p wk ih =>
        intro hp
        have ih := ih fun q hq => hp q (List.mem_cons_of_mem _ hq)
        rw [List.map_cons, List.sum_cons, ← ih, ← cnt_out f r (hp p List.mem_cons_self), ← sm_mul, ← sm_add]
        refine sm_congr fun k _ => ?_
        have e : cntW (p :: wk) (k : Nat) = p.1 * ((p.2.count ((k : Nat) : Int) : Nat) : Int) + cntW wk (k : Nat) := by unfold cntW; rw [List.map_cons, List.sum_cons]
        rw [e]
        split <;> simp
    have hin : ∀ p ∈ wk, ∀ k ∈ p.2, inW B k = true := fun p hp => (h p hp).2.1
    unfold outC inC
    rw [sm_congr (g := fun k => if bA B ((k : Nat) : Int) = r then cntW wk (k : Nat) else 0) fun k hk => by rw [cntL_getD wk hk],
      sm_congr (f := fun k => if (wAt B (k : Nat)).b = r then (cntL B.ways.length wk).getD k 0 else 0) (g := fun k => if bE B ((k : Nat) : Int) = r then cntW wk (k : Nat) else 0) fun k hk => by rw [cntL_getD wk hk], key (bA B) wk hin, key (bE B) wk hin]
    congr 1
    refine List.map_congr_left fun p hp => ?_
    rw [(h p hp).2.2 r]
theorem Circ.back {B : Book} {cs : List Int} (h : Circ B cs) (hW : WsIn B) {k : Int} (hk : k ∈ posW B.ways.length cs) : Rch B (posW B.ways.length cs) (wAt B k).b (wAt B k).a := by
  classical
  apply Classical.byContradiction
  intro hn
  obtain ⟨k0, k1, kp⟩ := posW_iff.mp hk
  generalize hP : posW B.ways.length cs = P at *
  have hS : ∃ S : Int → Int, S = fun v => if Rch B P (wAt B k).b v then (1 : Int) else 0 := ⟨_, rfl⟩
  obtain ⟨S, eS⟩ := hS
  have z : sm B.ways.length (fun j => cs.getD j 0 * (S (wAt B (j : Nat)).b - S (wAt B (j : Nat)).a)) = 0 := by
    have e1 : ∀ j, j < B.ways.length → cs.getD j 0 * (S (wAt B (j : Nat)).b - S (wAt B (j : Nat)).a) = sm B.rooms.toNat fun v => S (v : Nat) * ((if (wAt B (j : Nat)).b = (v : Nat) then cs.getD j 0 else 0) - (if (wAt B (j : Nat)).a = (v : Nat) then cs.getD j 0 else 0)) := fun j hj => by
      obtain ⟨⟨a0, a1⟩, b0, b1⟩ := hW ((j : Nat) : Int) (wAt_nat hj)
      rw [sm_congr (g := fun v => (if (wAt B (j : Nat)).b = ((v : Nat) : Int) then S (wAt B (j : Nat)).b * cs.getD j 0 else 0) - (if (wAt B (j : Nat)).a = ((v : Nat) : Int) then S (wAt B (j : Nat)).a * cs.getD j 0 else 0)) fun v _ => ?_, sm_sub, sm_pick b0 (by omega), sm_pick a0 (by omega)]
      · rw [Int.mul_sub, Int.mul_comm (S _), Int.mul_comm (S _)]
      · rw [Int.mul_sub]
        congr 1
        · split
          · rename_i e; rw [e]
          · exact Int.mul_zero _
        · split
          · rename_i e; rw [e]
          · exact Int.mul_zero _
    rw [sm_congr e1, sm_swap, sm_congr (g := fun _ => 0) fun v _ => ?_, sm_zero]
    rw [sm_mul, sm_sub]
    have := h.b ((v : Nat) : Int)
    unfold outC inC at this
    rw [this, Int.sub_self, Int.mul_zero]
  have nn : ∀ j, j < B.ways.length → 0 ≤ cs.getD j 0 * (S (wAt B (j : Nat)).b - S (wAt B (j : Nat)).a) := fun j hj => by
    by_cases c : 0 < cs.getD j 0
    · refine Int.mul_nonneg (Int.le_of_lt c) ?_
      have hjP : ((j : Nat) : Int) ∈ P := by rw [← hP]; exact posW_iff.mpr ⟨by omega, by omega, by rw [Int.toNat_natCast]; exact c⟩
      rw [eS]
      dsimp only
      by_cases ra : Rch B P (wAt B k).b (wAt B (j : Nat)).a
      · rw [if_pos ra, if_pos (Rch.step ra hjP)]; decide
      · rw [if_neg ra]; split <;> decide
    · have e : cs.getD j 0 = 0 := by have := h.at j; omega
      rw [e, Int.zero_mul]; exact Int.le_refl _
  have := sm_ge1 nn (k := k.toNat) (by omega)
  rw [z, show ((k.toNat : Nat) : Int) = k by omega, eS] at this
  dsimp only at this
  rw [if_pos (Rch.refl _), if_neg hn] at this
  omega
end L3
end
section
namespace L3
open PySem L2
end L3
end
section
set_option exponentiation.threshold 3000
namespace L3
open PySem PySem.Spec PyProof.Rows L2
open Dt
def flW (wk : List (Int × List Int)) : List Int := (wk.map Prod.snd).flatten
theorem flW_app (wk : List (Int × List Int)) (p : Int × List Int) : flW (wk ++ [p]) = flW wk ++ p.2 := by unfold flW; simp
structure HgI (B : Book) (wk : List (Int × List Int)) (r0 : Int) : Prop where
  c : ∀ p ∈ wk, 1 ≤ p.1 ∧ ∃ a, Pth B a p.2 a
  h : ∀ e ∈ flW wk, Rch B (flW wk) r0 (wAt B e).a ∧ Rch B (flW wk) (wAt B e).b r0
theorem HgI.add {B : Book} {wk : List (Int × List Int)} {r0 e0 m : Int} {ms : List Int} (h : HgI B wk r0) (he : e0 ∈ flW wk) (hm : 1 ≤ m) (hp : Pth B (wAt B e0).a ms (wAt B e0).a) : HgI B (wk ++ [(m, ms)]) r0 := by
  have sub : ∀ k ∈ flW wk, k ∈ flW wk ++ ms := fun k hk => List.mem_append_left _ hk
  refine ⟨fun p hq => ?_, fun e hq => ?_⟩
  · rcases List.mem_append.mp hq with hq | hq
    · exact h.c p hq
    · rw [List.mem_singleton.mp hq]; exact ⟨hm, _, hp⟩
  · rw [flW_app] at hq ⊢
    obtain ⟨a1, a2⟩ := h.h e0 he
    rcases List.mem_append.mp hq with hq | hq
    · obtain ⟨b1, b2⟩ := h.h e hq
      exact ⟨b1.mono sub, b2.mono sub⟩
    · obtain ⟨_, q2⟩ := pth_reach hp (ws := flW wk ++ ms) fun k hk => List.mem_append_right _ hk
      obtain ⟨c1, c2⟩ := q2 e hq
      exact ⟨(a1.mono sub).trans c1, c2.trans ((Rch.one (sub _ he)).trans (a2.mono sub))⟩
theorem HgI.pos {B : Book} {wk : List (Int × List Int)} {r0 : Int} (h : HgI B wk r0) {k : Int} : k ∈ posW B.ways.length (cntL B.ways.length wk) ↔ k ∈ flW wk := by
  rw [posW_iff]
  constructor
  · rintro ⟨a, b, c⟩
    rw [cntL_getD wk (by omega), show ((k.toNat : Nat) : Int) = k by omega] at c
    obtain ⟨p, hp, hk⟩ := cntW_pos c
    exact List.mem_flatten.mpr ⟨p.2, List.mem_map_of_mem hp, hk⟩
  · intro hk
    obtain ⟨w, hw, hkw⟩ := List.mem_flatten.mp hk
    obtain ⟨p, hp, rfl⟩ := List.mem_map.mp hw
    obtain ⟨m1, a, hpa⟩ := h.c p hp
    have hb := hpa.mem k hkw
    simp only [inW, Bool.and_eq_true, decide_eq_true_eq] at hb
    refine ⟨hb.1, hb.2, ?_⟩
    rw [cntL_getD wk (by omega), show ((k.toNat : Nat) : Int) = k by omega]
    have g := (cntW_ge (rs := wk) (p := p) (j := k) (fun q hq => by have := (h.c q hq).1; omega) hp).2
    have c1 : 1 ≤ p.2.count k := List.count_pos_iff.mpr hkw
    have := Int.mul_le_mul m1 (show (1 : Int) ≤ ((p.2.count k : Nat) : Int) by omega) (by decide) (by omega)
    omega
theorem HgI.one {B : Book} {wk : List (Int × List Int)} {r0 : Int} (h : HgI B wk r0) (hne : posW B.ways.length (cntL B.ways.length wk) ≠ []) : (ringsL B (posW B.ways.length (cntL B.ways.length wk))).length = 1 := by
  rw [rings_one hne fun k hk j hj => ?_]
  · rfl
  · obtain ⟨_, a2⟩ := h.h k (h.pos.mp hk)
    obtain ⟨b1, _⟩ := h.h j (h.pos.mp hj)
    exact (a2.trans b1).mono fun x hx => h.pos.mpr hx
theorem HgI.circ {B : Book} {wk : List (Int × List Int)} {r0 : Int} (h : HgI B wk r0) : Circ B (cntL B.ways.length wk) := circ_cnt fun p hp => by
  obtain ⟨a, b, c⟩ := h.c p hp
  exact ⟨by omega, c.mem, pth_bal c⟩
mutual
/-- what is added up over a told walk's ways, by how often it has each -/
theorem sum_cn {B : Book} {most : Int} (v : Int → Int) (φ : Tw → Int) (hw : ∀ k, inW B k = true → φ (.way k) = v k) (hr : ∀ ps, φ (.row ps) = (ps.map φ).sum) (ht : ∀ c t, φ (.times c t) = c * φ t) : ∀ {n : Nat} {t : Tw}, OkT B most n t → φ t = sm B.ways.length fun j => v (j : Nat) * cnT t (j : Nat)
  | n, .way k, h => by
    have hk : inW B k = true := by cases n <;> exact h
    rw [hw k hk]
    have hb := hk
    simp only [inW, Bool.and_eq_true, decide_eq_true_eq] at hb
    rw [sm_congr (g := fun j => if j = k.toNat then v k else 0) fun j _ => ?_, sm_one _ (by omega)]
    rw [cnT]
    by_cases e : k = ((j : Nat) : Int)
    · rw [if_pos e, if_pos (by omega), ← e, Int.mul_one]
    · rw [if_neg e, if_neg (by omega), Int.mul_zero]
  | 0, .row _, h => h.elim
  | 0, .times _ _, h => h.elim
  | n + 1, .row ps, h => by
    rw [hr, sums_cn v φ hw hr ht h.2.2]
    exact sm_congr fun j _ => by rw [cnT]
  | n + 1, .times c t, h => by
    rw [ht, sum_cn v φ hw hr ht h.2, ← sm_mul]
    exact sm_congr fun j _ => by rw [cnT, ← Int.mul_assoc, Int.mul_comm c, Int.mul_assoc]
theorem sums_cn {B : Book} {most : Int} (v : Int → Int) (φ : Tw → Int) (hw : ∀ k, inW B k = true → φ (.way k) = v k) (hr : ∀ ps, φ (.row ps) = (ps.map φ).sum) (ht : ∀ c t, φ (.times c t) = c * φ t) : ∀ {n : Nat} {ps : List Tw}, (∀ p ∈ ps, OkT B most n p) → (ps.map φ).sum = sm B.ways.length fun j => v (j : Nat) * cnTs ps (j : Nat)
  | n, [], _ => by
    rw [sm_congr (g := fun _ => 0) fun j _ => by rw [cnTs, Int.mul_zero], sm_zero]; rfl
  | n, t :: ps, h => by
    rw [List.map_cons, List.sum_cons, sum_cn v φ hw hr ht (h t List.mem_cons_self), sums_cn v φ hw hr ht (fun p hp => h p (List.mem_cons_of_mem _ hp)), ← sm_add]
    exact sm_congr fun j _ => by rw [cnTs, Int.mul_add]
end
theorem len_cn {B : Book} {most : Int} {n : Nat} {t : Tw} (h : OkT B most n t) : (t.fa B).l = sm B.ways.length fun j => cnT t (j : Nat) := by
  rw [sum_cn (B := B) (fun _ => 1) (fun t => (t.fa B).l) (fun k _ => by rw [Tw.fa]) (fun ps => row_l B ps) (fun c t => by rw [Tw.fa]; rfl) h]
  exact sm_congr fun j _ => Int.one_mul _
end L3
end
section
namespace L3
open PySem L2
variable {G : Type} {K : PySem.W.Frag} {mg : Str → Option Value} {X : Cx} {Z : Zx K G} {W : WXH} {U : UX (G × OS)}
mutual
def noL : PyData → Bool
  | .tuple ds => noLs ds
  | .none => true
  | .bool _ => true
  | .int _ => true
  | .str _ => true
  | _ => false
def noLs : List PyData → Bool
  | [] => true
  | d :: r => noL d && noLs r
end
def IsTp (u : HO) : Prop := (∃ xs, u = .tup xs) ∨ ∃ o xs, u = .frz o (.tup xs)
mutual
theorem da_noL {F F' : Hp} (h : ∀ a u, IsTp u → F a = some u → F' a = some u) : ∀ {v : V} {d : PyData}, Da K F v d → noL d = true → Da K F' v d
  | _, _, .non, _ => .non
  | _, _, .bl b, _ => .bl b
  | _, _, .int i, _ => .int i
  | _, _, .str x, _ => .str x
  | _, _, .lst _ _, e => by rw [noL] at e; cases e; all_goals (intros; contradiction)
  | _, _, .dct _ _, e => by rw [noL] at e; cases e; all_goals (intros; contradiction)
  | _, _, .tup q r, e => by
    rw [noL] at e
    refine .tup ?_ (daAll_noL h r e)
    rcases q with (q | ⟨o, q⟩) | q
    · exact .inl (.inl (h _ _ (.inl ⟨_, rfl⟩) q))
    · exact .inl (.inr ⟨o, h _ _ (.inr ⟨o, _, rfl⟩) q⟩)
    · exact .inr q
theorem daAll_noL {F F' : Hp} (h : ∀ a u, IsTp u → F a = some u → F' a = some u) : ∀ {vs : List V} {ds : List PyData}, DaAll K F vs ds → noLs ds = true → DaAll K F' vs ds
  | _, _, .nil, _ => .nil
  | _, _, .cons q r, e => by
    rw [noLs, Bool.and_eq_true] at e
    exact .cons (da_noL h q e.1) (daAll_noL h r e.2)
end
theorem noLs_ints (ns : List Int) : noLs (ns.map PyData.int) = true := by
  induction ns with
  | nil => rfl
  | cons n r ih => rw [List.map_cons, noLs, noL, ih]; rfl
end L3
end
section
namespace L3
open PySem PySem.Spec PyProof.Rows L2
open Dt
/-- counts of some ways alone -/
def resC (B : Book) (cs P : List Int) : List Int := (List.range B.ways.length).map fun k : Nat => cs.getD k 0 * if ((k : Nat) : Int) ∈ P then 1 else 0
theorem resC_get {B : Book} {cs P : List Int} {k : Nat} (h : k < B.ways.length) : (resC B cs P).getD k 0 = if ((k : Nat) : Int) ∈ P then cs.getD k 0 else 0 := by
  unfold resC
  rw [List.getD_eq_getElem?_getD, List.getElem?_map, List.getElem?_range h]
  show cs.getD k 0 * _ = _
  split <;> simp
/-- a told walk's gains, by how often it has each way -/
theorem gnL_gs {B : Book} {n : Nat} {ps : List Tw} (hn : ∀ p ∈ ps, FaOk n (p.fa B)) {i : Nat} (hi : i < n) : (gnL B n ps).1.getD i 0 = (ps.map fun t => (t.fa B).gs.getD i 0).sum := by
  have key : ∀ (qs : List Tw) (acc : List Int × List Int), acc.1.length = n → (∀ p ∈ qs, FaOk n (p.fa B)) → (qs.foldl (fun s t => bhL s ((t.fa B).gs, (t.fa B).ns)) acc).1.getD i 0 = acc.1.getD i 0 + (qs.map fun t => (t.fa B).gs.getD i 0).sum := fun qs => by
    induction qs with
    | nil => intro acc _ _; simp
    | cons q qs ih =>
      intro acc ha hq
      have hq0 := (hq q List.mem_cons_self).g
      have el : (bhL acc ((q.fa B).gs, (q.fa B).ns)).1 = addL acc.1 (q.fa B).gs := rfl
      rw [List.foldl_cons, ih _ (by rw [el]; exact addL_len ha hq0) fun p hp => hq p (List.mem_cons_of_mem _ hp), el, addL_getD (by omega) (by omega), List.map_cons, List.sum_cons]
      omega
  have := key ps (List.replicate n 0, List.replicate n 0) (by simp) hn
  unfold gnL
  rw [this, List.getD_eq_getElem?_getD, List.getElem?_replicate, if_pos hi]
  show (0 : Int) + _ = _
  omega
mutual
theorem gain_cn {B : Book} {most : Int} {n : Nat} (hB : ∀ w ∈ B.ways, w.gs.length = n) {i : Nat} (hi : i < n) : ∀ {m : Nat} {t : Tw}, OkT B most m t → (t.fa B).gs.getD i 0 = sm B.ways.length fun j => (wAt B (j : Nat)).gs.getD i 0 * cnT t (j : Nat)
  | m, .way k, h => by
    have hk : inW B k = true := by cases m <;> exact h
    have hb := hk
    simp only [inW, Bool.and_eq_true, decide_eq_true_eq] at hb
    rw [sm_congr (g := fun j => if j = k.toNat then (wAt B k).gs.getD i 0 else 0) fun j _ => ?_, sm_one _ (by omega), Tw.fa]
    rw [cnT]
    by_cases e : k = ((j : Nat) : Int)
    · rw [if_pos e, if_pos (by omega), ← e, Int.mul_one]
    · rw [if_neg e, if_neg (by omega), Int.mul_zero]
  | 0, .row _, h => h.elim
  | 0, .times _ _, h => h.elim
  | m + 1, .row ps, h => by
    have hok : ∀ p ∈ ps, FaOk n (p.fa B) := fun p hp => fa_ok hB (h.2.2 p hp)
    have := gnL_row h.1 hok
    rw [← show (gnL B n ps).1 = (Tw.fa B (.row ps)).gs by rw [this], gnL_gs hok hi, gains_cn hB hi h.2.2]
    exact sm_congr fun j _ => by rw [cnT]
  | m + 1, .times c t, h => by
    have hl := (fa_ok hB h.2 (n := m)).g
    rw [Tw.fa]
    have e : (oftF (t.fa B) c).gs.getD i 0 = c * (t.fa B).gs.getD i 0 := by
      unfold oftF clL
      dsimp only
      rw [List.getD_eq_getElem?_getD, List.getElem?_map, List.getElem?_eq_getElem (by omega), List.getD_eq_getElem?_getD, List.getElem?_eq_getElem (by omega)]; rfl
    rw [e, gain_cn hB hi h.2, ← sm_mul]
    exact sm_congr fun j _ => by rw [cnT, ← Int.mul_assoc, Int.mul_comm c, Int.mul_assoc]
theorem gains_cn {B : Book} {most : Int} {n : Nat} (hB : ∀ w ∈ B.ways, w.gs.length = n) {i : Nat} (hi : i < n) : ∀ {m : Nat} {ps : List Tw}, (∀ p ∈ ps, OkT B most m p) → (ps.map fun t => (t.fa B).gs.getD i 0).sum = sm B.ways.length fun j => (wAt B (j : Nat)).gs.getD i 0 * cnTs ps (j : Nat)
  | m, [], _ => by
    rw [sm_congr (g := fun _ => 0) fun j _ => by rw [cnTs, Int.mul_zero], sm_zero]; rfl
  | m, t :: ps, h => by
    rw [List.map_cons, List.sum_cons, gain_cn hB hi (h t List.mem_cons_self), gains_cn hB hi (fun p hp => h p (List.mem_cons_of_mem _ hp)), ← sm_add]
    exact sm_congr fun j _ => by rw [cnTs, Int.mul_add]
end
theorem sum_sm (cs : List Int) : cs.sum = sm cs.length fun j => cs.getD j 0 := by
  induction cs with
  | nil => rfl
  | cons c r ih =>
    rw [List.sum_cons, List.length_cons, sm_shift, ih]; rfl
/-- what a told walk of a round comes to -/
theorem TwOf.facts {B : Book} {cs : List Int} {M r : Int} {t : Tw} {mr mw : Int} (hB : B.Ok mr mw) (hl : cs.length = B.ways.length) (h : TwOf B cs M r t) : (t.fa B).l = cs.sum ∧ (t.fa B).gs = gainsR B cs ∧ (t.fa B).a = r ∧ (t.fa B).b = r := by
  have hg : ∀ w ∈ B.ways, w.gs.length = B.purses.toNat := fun w hw => by have := (hB.w w hw).len; omega
  have hok := fa_ok hg h.ok
  refine ⟨?_, ?_, h.ch.ab.1, h.ch.ab.2⟩
  · rw [len_cn h.ok, sum_sm, hl]
    exact sm_congr fun j hj => h.cn j hj
  · refine ext_getD (by rw [hok.g]; unfold gainsR; simp) fun p hp => ?_
    rw [hok.g] at hp
    rw [gain_cn hg hp h.ok]
    unfold gainsR
    rw [List.getD_eq_getElem?_getD, List.getElem?_map, List.getElem?_range hp]
    show _ = gainR B cs B.ways.length p
    unfold gainR
    exact sm_congr fun j hj => by rw [h.cn j hj]
end L3
end
section
namespace L3
open PySem PySem.Spec PyProof.Rows L2
section
variable {G : Type} {K : PySem.W.Frag} {X : Cx} {Z : Zx K G}
theorem Frm.wish {W : WXH} {U : UX G} {F F' H H' : Hp} {g g' : G} : Frm (Z.wish W U) F H g F' H' g' ↔ Frm Z F H g F' H' g' :=
  ⟨fun h => ⟨h.ex, h.keep, h.keepN, h.new, h.sub, h.res, h.fpF, h.fpB⟩, fun h => ⟨h.ex, h.keep, h.keepN, h.new, h.sub, h.res, h.fpF, h.fpB⟩⟩
end
end L3
end
section
set_option exponentiation.threshold 3000
namespace L3
open PySem PySem.Spec L2
open Dt
/-- a stand's numbers as the program takes them -/
structure NumOk (B : Book) (r : Int) (xs : List Int) : Prop where
  l : xs.length = B.purses.toNat
  z : ∀ x ∈ xs, 0 ≤ x ∧ x ≤ 10 ^ 100
  r : 0 ≤ r ∧ r < B.rooms
theorem NumOk.get {B : Book} {r : Int} {xs : List Int} (h : NumOk B r xs) (t : Nat) : 0 ≤ xs.getD t 0 ∧ xs.getD t 0 ≤ 10 ^ 100 := by
  by_cases ht : t < xs.length
  · exact h.z _ (getD_in ht)
  · rw [List.getD_eq_getElem?_getD, List.getElem?_eq_none (by omega)]
    exact ⟨Int.le_refl _, by show (0 : Int) ≤ 10 ^ 100; decide⟩
/-- a sum and a flow that come to one number -/
structure HowA (B : Book) (ns : List Int) (r : Int) (xs : List Int) (k : Int) (ws hs fl : List Int) (u M : Int) : Prop where
  u0 : 0 < u
  ub : u.natAbs ≤ 2 ^ 288
  mb : 0 ≤ M ∧ M.natAbs ≤ 2 ^ 620
  wl : (ws.length : Int) = B.purses
  hl : (hs.length : Int) = B.rooms
  w0 : ∀ w ∈ ws, 0 ≤ w ∧ w.natAbs ≤ 2 ^ 288
  h0 : ∀ h ∈ hs, 0 ≤ h ∧ h.natAbs ≤ 2 ^ 288
  keep : ∀ j ∈ ns, 0 ≤ fallL B ws hs j
  fk : k ∈ ns → u ≤ fallL B ws hs k
  worth : M = worthL ws hs r xs
  n : fl.length = B.ways.length
  f0 : ∀ c ∈ fl, 0 ≤ c ∧ c.natAbs ≤ 2 ^ 620
  fs : ∀ j : Nat, fl.getD j 0 ≠ 0 → ((j : Nat) : Int) ∈ ns
  rooms : ∀ q : Nat, q < B.rooms.toNat → sm B.ways.length (fun j => ((if (wAt B (j : Nat)).a = (q : Nat) then 1 else 0) - (if (wAt B (j : Nat)).b = (q : Nat) then 1 else 0)) * fl.getD j 0) ≤ if ((q : Nat) : Int) = r then u else 0
  purse : ∀ p : Nat, p < B.purses.toNat → 0 ≤ u * xs.getD p 0 + sm B.ways.length (fun j => (wAt B (j : Nat)).gs.getD p 0 * fl.getD j 0)
  at_ : fl.getD k.toNat 0 = M
noncomputable def metW (B : Book) (r : Int) : List Int := (everyW B.ways.length).filter fun k => rch B (everyW B.ways.length) r (wAt B k).a
theorem metW_iff {B : Book} {r k : Int} : k ∈ metW B r ↔ k ∈ everyW B.ways.length ∧ Rch B (everyW B.ways.length) r (wAt B k).a := by
  unfold metW
  rw [List.mem_filter, rch_iff]
theorem every_iff {n : Nat} {k : Int} : k ∈ everyW n ↔ 0 ≤ k ∧ k < n := by
  unfold everyW
  rw [List.mem_map]
  constructor
  · rintro ⟨i, hi, rfl⟩
    have := List.mem_range.mp hi
    omega
  · rintro ⟨h0, h1⟩
    exact ⟨k.toNat, List.mem_range.mpr (by omega), by omega⟩
theorem HowA.sum {B : Book} {ns : List Int} {r : Int} {xs : List Int} {k : Int} {ws hs fl : List Int} {u M : Int} (h : HowA B ns r xs k ws hs fl u M) : SumOk B ws hs := ⟨h.wl, h.hl, fun x hx => Nat.lt_of_le_of_lt (h.w0 x hx).2 (Nat.pow_lt_pow_right (by decide) (by decide))⟩
end L3
end
section
set_option exponentiation.threshold 3000
namespace L3
open PySem PySem.Spec L2
open Dt
/-- a walk that can be done from a stand, way by way -/
def DoneW (B : Book) : Int → List Int → List Int → Prop
  | _, _, [] => True
  | r, xs, k :: ks => inW B k = true ∧ fitsW (wAt B k) r xs = true ∧ DoneW B (wAt B k).b (addL xs (wAt B k).gs) ks
theorem fits_iff {w : Way} {r : Int} {xs : List Int} : fitsW w r xs = true ↔ w.a = r ∧ ∀ x ∈ addL xs w.gs, 0 ≤ x := by
  unfold fitsW
  rw [Bool.and_eq_true, decide_eq_true_iff, List.all_eq_true]
  exact ⟨fun h => ⟨h.1, fun x hx => of_decide_eq_true (h.2 x hx)⟩, fun h => ⟨h.1, fun x hx => decide_eq_true (h.2 x hx)⟩⟩
theorem DoneW.snoc {B : Book} : ∀ {ks : List Int} {r : Int} {xs : List Int} {k : Int}, DoneW B r xs ks → inW B k = true → fitsW (wAt B k) (ks.foldl (fun _ k => (wAt B k).b) r) (ks.foldl (fun xs k => addL xs (wAt B k).gs) xs) = true → DoneW B r xs (ks ++ [k])
  | [], _, _, _, _, h1, h2 => ⟨h1, h2, trivial⟩
  | _ :: _, _, _, _, ⟨a, b, c⟩, h1, h2 => ⟨a, b, DoneW.snoc c h1 h2⟩
theorem DoneW.mem {B : Book} {r0 : Int} : ∀ {ks : List Int} {r : Int} {xs : List Int}, DoneW B r xs ks → Rch B (everyW B.ways.length) r0 r → ∀ k ∈ ks, k ∈ metW B r0
  | [], _, _, _, _, _, h => nomatch h
  | k :: ks, r, xs, ⟨a, b, c⟩, hr, j, hj => by
    have ha := (fits_iff.mp b).1
    have hk : k ∈ everyW B.ways.length := by
      simp only [inW, Bool.and_eq_true, decide_eq_true_eq] at a
      exact every_iff.mpr a
    have hr2 : Rch B (everyW B.ways.length) r0 (wAt B k).a := by rw [ha]; exact hr
    rcases List.mem_cons.mp hj with e | e
    · rw [e]; exact metW_iff.mpr ⟨hk, hr2⟩
    · exact DoneW.mem c (.step hr2 hk) j e
theorem HowA.zero {B : Book} {ns : List Int} {r k : Int} {xs : List Int} (hk : k ∉ ns) (hd : 1 ≤ B.purses ∧ 1 ≤ B.rooms) (hx : NumOk B r xs) (hw : ∀ w ∈ B.ways, w.gs.length = B.purses.toNat) (hns : ∀ j ∈ ns, inW B j = true) : HowA B ns r xs k (List.replicate B.purses.toNat 0) (List.replicate B.rooms.toNat 0) (List.replicate B.ways.length 0) 1 0 := by
  have z : ∀ n i : Nat, (List.replicate n (0 : Int)).getD i 0 = 0 := fun n i => by
    rw [List.getD_eq_getElem?_getD, List.getElem?_replicate]
    split <;> rfl
  have dz : ∀ ys : List Int, ys.length = B.purses.toNat → dotL (List.replicate B.purses.toNat 0) ys = 0 := fun ys hy => by
    rw [dotL_sm _ ys B.purses.toNat (by simp) hy, sm_congr (g := fun _ => 0) fun t _ => by rw [z, Int.mul_zero], sm_zero]
  have fz : ∀ j ∈ ns, fallL B (List.replicate B.purses.toNat 0) (List.replicate B.rooms.toNat 0) j = 0 := fun j hj => by
    unfold fallL
    rw [z, z, dz _ (hw _ (wAt_mem (hns j hj)))]; rfl
  have sz : ∀ f : Nat → Int, sm B.ways.length (fun j => f j * (List.replicate B.ways.length (0 : Int)).getD j 0) = 0 := fun f => by
    rw [sm_congr (g := fun _ => 0) fun t _ => by rw [z, Int.mul_zero], sm_zero]
  refine ⟨by decide, by decide, ⟨by decide, Nat.zero_le _⟩, by rw [List.length_replicate]; omega, by rw [List.length_replicate]; omega, fun w hw => ?_, fun w hw => ?_, fun j hj => by rw [fz j hj]; exact Int.le_refl _, fun h => (hk h).elim, ?_, by rw [List.length_replicate], fun w hw => ?_, fun j hj => (hj (z _ _)).elim, fun q _ => ?_, fun p _ => ?_, z _ _⟩
  · rw [List.eq_of_mem_replicate hw]; exact ⟨Int.le_refl _, Nat.zero_le _⟩
  · rw [List.eq_of_mem_replicate hw]; exact ⟨Int.le_refl _, Nat.zero_le _⟩
  · unfold worthL
    rw [z, dz xs hx.l]; rfl
  · rw [List.eq_of_mem_replicate hw]; exact ⟨Int.le_refl _, Nat.zero_le _⟩
  · rw [sz]
    split <;> decide
  · rw [sz, Int.one_mul, Int.add_zero]
    exact (hx.get p).1
end L3
end
section
set_option exponentiation.threshold 3000
namespace L3
open PySem PySem.Spec L2
open Dt
theorem RndOk.circ {B : Book} {ns cs : List Int} (h : RndOk B ns cs) (hW : WsIn B) : Circ B cs := by
  refine ⟨h.n, fun c hc => (h.z c hc).1, fun r => ?_⟩
  by_cases hr : 0 ≤ r ∧ r < B.rooms
  · have e := h.r r.toNat (by omega)
    have er : ((r.toNat : Nat) : Int) = r := by omega
    rw [er, sm_congr (g := fun k => (if (wAt B (k : Nat)).a = r then cs.getD k 0 else 0) - (if (wAt B (k : Nat)).b = r then cs.getD k 0 else 0)) fun k _ => by
      rw [Int.sub_mul]
      congr 1 <;> split <;> simp, sm_sub] at e
    unfold outC inC
    omega
  · have z : ∀ f : Nat → Int, (∀ k, k < B.ways.length → f k = 0) → sm B.ways.length f = 0 := fun f hf => by
      rw [sm_congr (g := fun _ => 0) hf, sm_zero]
    unfold outC inC
    rw [z _ fun k hk => ?_, z _ fun k hk => ?_]
    · have := (hW _ (wAt_nat hk)).2
      rw [if_neg (by omega)]
    · have := (hW _ (wAt_nat hk)).1
      rw [if_neg (by omega)]
/-- a round of all ways of a ring stands on just these -/
theorem RndOk.pos {B : Book} {ns cs : List Int} (h : RndOk B ns cs) (hs : ns.Sublist (everyW B.ways.length)) (hp : ∀ i ∈ ns, 0 < cs.getD i.toNat 0) : posW B.ways.length cs = ns := by
  have up := (everyW_up B.ways.length).sublist hs
  have up2 : (posW B.ways.length cs).Pairwise (· < ·) := by
    unfold posW
    rw [List.pairwise_map]
    exact (List.pairwise_lt_range.filter _).imp fun e => by omega
  refine sorted_ext up2 up fun x => ?_
  rw [posW_iff]
  constructor
  · rintro ⟨a, b, c⟩
    have := h.s x.toNat (by omega)
    rw [show ((x.toNat : Nat) : Int) = x by omega] at this
    exact this
  · intro hx
    have := every_iff.mp (hs.subset hx)
    exact ⟨this.1, this.2, hp x hx⟩
noncomputable def lowL (B : Book) (ws hs r : List Int) : List Int := r.filter fun k => decide (0 < fallL B ws hs k)
noncomputable def restL (B : Book) (ws hs r : List Int) : List Int := r.filter fun k => !decide (k ∈ lowL B ws hs r)
abbrev LayX := List Int × List Int × List Int
def LayX.d (x : LayX) : PyData := .tuple [.tuple (x.1.map PyData.int), totD x.2.1 x.2.2]
/-- how layers come: found ones, and rings that wait -/
inductive Lays (B : Book) : List LayX → List (List Int) → Prop
  | start : Lays B [] (ringsL B (everyW B.ways.length))
  | step {f : List LayX} {r : List Int} {w : List (List Int)} {ws hs : List Int} {j : Nat} : Lays B f (r :: w) → j ≤ r.length → TotI B r j ws hs → Lays B (f ++ [(r, ws, hs)]) (w ++ ringsL B (restL B ws hs r))
theorem ring_ne {B : Book} {ws r : List Int} (h : r ∈ ringsL B ws) : r ≠ [] := fun e => by
  obtain ⟨k, hk, hon, er⟩ := rings_iff.mp h
  have := onR_mem hk hon
  rw [← er, e] at this
  cases this
structure RingE (B : Book) (r : List Int) : Prop where
  sub : r.Sublist (everyW B.ways.length)
  ne : r ≠ []
  rs : ringsL B r = [r]
theorem ringE_of {B : Book} {ws r : List Int} (hs : ws.Sublist (everyW B.ways.length)) (h : r ∈ ringsL B ws) : RingE B r := ⟨(ring_sub h).trans hs, ring_ne h, rings_self h⟩
theorem rest_sub (B : Book) (ws hs r : List Int) : (restL B ws hs r).Sublist r := List.filter_sublist
theorem rest_iff {B : Book} {ws hs r : List Int} {k : Int} : k ∈ restL B ws hs r ↔ k ∈ r ∧ ¬ 0 < fallL B ws hs k := by
  have e : k ∈ lowL B ws hs r ↔ k ∈ r ∧ 0 < fallL B ws hs k := by
    unfold lowL
    rw [List.mem_filter, decide_eq_true_iff]
  have e2 : (!decide (k ∈ lowL B ws hs r)) = true ↔ ¬ k ∈ lowL B ws hs r := by simp
  show k ∈ r.filter (fun k => !decide (k ∈ lowL B ws hs r)) ↔ _
  rw [List.mem_filter, e2, e]
  exact ⟨fun h => ⟨h.1, fun c => h.2 ⟨h.1, c⟩⟩, fun h => ⟨h.1, fun c => h.2 c.2⟩⟩
theorem Lays.wait {B : Book} {f : List LayX} {w : List (List Int)} (h : Lays B f w) : ∀ r ∈ w, RingE B r := by
  induction h with
  | start => exact fun r hr => ringE_of (List.Sublist.refl _) hr
  | step _ _ _ ih =>
    intro r hr
    rcases List.mem_append.mp hr with hr | hr
    · exact ih r (List.mem_cons_of_mem _ hr)
    · exact ringE_of ((rest_sub _ _ _ _).trans (ih _ List.mem_cons_self).sub) hr
theorem rings_disj {B : Book} {ws r s : List Int} (hr : r ∈ ringsL B ws) (hs : s ∈ ringsL B ws) {k : Int} (h1 : k ∈ r) (h2 : k ∈ s) : r = s := by
  obtain ⟨i, hi, oi, rfl⟩ := rings_iff.mp hr
  obtain ⟨j, hj, oj, rfl⟩ := rings_iff.mp hs
  exact (ring_eq hi h1).1.symm.trans (ring_eq hj h2).1
theorem rings_sum {B : Book} {ws : List Int} (nd : ws.Nodup) : ((ringsL B ws).map List.length).sum ≤ ws.length := by
  rw [← List.length_flatten]
  have hn : (ringsL B ws).flatten.Nodup := by
    rw [List.nodup_iff_pairwise_ne, List.pairwise_flatten]
    refine ⟨fun r hr => List.nodup_iff_pairwise_ne.mp ((ring_sub hr).nodup nd), ?_⟩
    have h := (rings_nd (B := B) (ws := ws))
    refine List.Pairwise.imp_of_mem (fun {a b} ha hb ne x hx y hy e => ?_) h
    subst e
    exact ne (rings_disj ha hb hx hy)
  exact hn.length_le_of_subset fun k hk => by
    obtain ⟨r, hr, hkr⟩ := List.mem_flatten.mp hk
    exact (ring_sub hr).subset hkr
end L3
end
section
set_option exponentiation.threshold 3000
namespace L3
open PySem PySem.Spec L2
open Dt
def mxL : List Int → Int
  | [] => 0
  | x :: xs => PySem.W.maxOf x xs
def mnL : List Int → Int
  | [] => 0
  | x :: xs => PySem.W.minOf x xs
/-- a tuple of a line: ways, weights, heights -/
structure LnT where
  ws : List Int
  wt : List Int
  ht : List Int
def LnT.d (p : LnT) : PyData := .tuple [.tuple (p.ws.map PyData.int), .tuple [.tuple (p.wt.map PyData.int), .tuple (p.ht.map PyData.int)]]
def greatB (B : Book) : Int := mxL (0 :: B.ways.map fun w => mxL w.gs)
def htsB (B : Book) (p : LnT) : List Int := p.ws.map fun k => p.ht.getD (wAt B k).a.toNat 0
def moreB (B : Book) (num : Int) (p : LnT) : Int := num * p.wt.sum + mxL (htsB B p) - mnL (htsB B p)
def stpB (B : Book) (G : Int) (s : Int × Int) (p : LnT) : Int × Int := (s.1 + moreB B s.2 p, s.2 + G * moreB B s.2 p)
structure LnOk (B : Book) (p : LnT) : Prop where
  ne : p.ws ≠ []
  len : p.ws.length ≤ 60
  w : ∀ k ∈ p.ws, inW B k = true ∧ 0 ≤ (wAt B k).a ∧ (wAt B k).a < (p.ht.length : Nat)
  wl : p.wt.length ≤ 1000
/-- a link: a walk of some ways -/
structure LnkI (B : Book) (sm : List Int) (a b : Int) (l : List Int) : Prop where
  w : ∀ k ∈ l, k ∈ sm
  p : Pth B a l b
  n : l.length < B.rooms.toNat
  e : a = b → l = []
/-- what stands while a shortest walk is sought -/
structure ShI (B : Book) (sm : List Int) (a : Int) (kp : List (Int × List Int)) (wl : List Int) (cl : Int → Int → Prop) : Prop where
  bk : BkI B a kp wl
  mt : MetI B sm a (kp.map Prod.fst) wl cl
  ws : ∀ p ∈ kp, ∀ k ∈ p.2, k ∈ sm
  st : (a, []) ∈ kp
theorem ShI.start {B : Book} {sm : List Int} {a : Int} (h : 0 ≤ a ∧ a < B.rooms) : ShI B sm a [(a, [])] [a] fun _ _ => True :=
  ⟨⟨by simp, by simp; exact ⟨h, rfl⟩, by simp⟩, ⟨by simp, by simp, fun x hx => by rw [List.mem_singleton.mp hx]; exact .refl _, fun x hx hw => absurd hx hw, by simp, fun x hx => by rw [List.mem_singleton.mp hx]; exact h⟩, by simp, by simp⟩
theorem ShI.push {B : Book} {sm : List Int} {a k : Int} {kp : List (Int × List Int)} {wl ns : List Int} {cl cl2 : Int → Int → Prop} (h : ShI B sm a kp wl cl) (hk : k ∈ sm) (hi : inW B k = true) (hn : ((wAt B k).a, ns) ∈ kp) (hb : (wAt B k).b ∉ kp.map Prod.fst) (hr : 0 ≤ (wAt B k).b ∧ (wAt B k).b < B.rooms) (hc : ∀ x j, cl2 x j → cl x j ∨ (wAt B j).b = (wAt B k).b) : ShI B sm a (kp ++ [((wAt B k).b, ns ++ [k])]) (wl ++ [(wAt B k).b]) cl2 := by
  obtain ⟨o1, o2, o3⟩ := h.bk.ok _ hn
  refine ⟨h.bk.push hb hr (Pth.snoc o2 hi rfl) (by rw [List.length_append]; exact o3), ?_, fun p hp j hj => ?_, List.mem_append_left _ h.st⟩
  · have := h.mt.push (cl2 := cl2) hk (List.mem_map_of_mem (f := Prod.fst) hn) hb hr hc
    rw [List.map_append]
    exact this
  · rcases List.mem_append.mp hp with hp | hp
    · exact h.ws p hp j hj
    · rw [List.mem_singleton.mp hp] at hj
      rcases List.mem_append.mp hj with hj | hj
      · exact h.ws _ hn j hj
      · rw [List.mem_singleton.mp hj]; exact hk
/-- needs, lost, between -/
def grS (B : Book) (p : Nat) (s : List Int × Int × Int) (x : Tw × List Int) : List Int × Int × Int :=
  if x.2 = [] then (s.1 ++ [(x.1.fa B).ns.getD p 0], s.2.1 + mx2 0 (-(x.1.fa B).gs.getD p 0), s.2.2)
  else (s.1 ++ [(x.1.fa B).ns.getD p 0] ++ [(needL B x.2).getD p 0], s.2.1 + mx2 0 (-(x.1.fa B).gs.getD p 0) + mx2 0 (-(gainL B x.2).getD p 0), s.2.2 + (gainL B x.2).getD p 0)
def grF (B : Book) (p : Nat) (ts : List (Tw × List Int)) : List Int × Int × Int := ts.foldl (grS B p) ([0], 0, 0)
def grT (B : Book) (ts : List (Tw × List Int)) (p : Nat) : Int := mxL (grF B p ts).1 + (grF B p ts).2.1 + mx2 0 (-(grF B p ts).2.2)
/-- turns of the parts of a round -/
noncomputable def prtR (B : Book) (cs : List Int) : List (List Int) := ringsL B (posW B.ways.length cs)
noncomputable def rmR (B : Book) (cs : List Int) (i : Nat) : Int := (wAt B (((prtR B cs).getD i []).headD 0)).a
structure TrnI (B : Book) (ring cs : List Int) (i : Nat) (x : Tw × List Int) : Prop where
  t : TwOf B (resC B cs ((prtR B cs).getD i [])) (2 ^ 300) (rmR B cs i) x.1
  l : LnkI B ring (rmR B cs i) (rmR B cs ((i + 1) % (prtR B cs).length)) x.2
structure SqA (B : Book) (ring cs : List Int) (ts : List (Tw × List Int)) (C : Int) : Prop where
  n : ts.length = (prtR B cs).length
  t : ∀ i x, ts[i]? = some x → TrnI B ring cs i x
  c : ∃ p : Nat, p < B.purses.toNat ∧ C = grT B ts p
  m : ∀ p : Nat, p < B.purses.toNat → grT B ts p ≤ C
end L3
end
section
set_option exponentiation.threshold 3000
namespace L3
open PySem PySem.Spec L2
open Dt
theorem Circ.bal {B : Book} {cs : List Int} (h : Circ B cs) (r : Int) : sm B.ways.length (fun k => ((if (wAt B (k : Nat)).a = r then 1 else 0) - (if (wAt B (k : Nat)).b = r then 1 else 0)) * cs.getD k 0) = 0 := by
  rw [sm_congr (g := fun k => (if (wAt B (k : Nat)).a = r then cs.getD k 0 else 0) - (if (wAt B (k : Nat)).b = r then cs.getD k 0 else 0)) fun k _ => by
    rw [Int.sub_mul]
    congr 1 <;> split <;> simp, sm_sub]
  have := h.b r
  unfold outC inC at this
  omega
theorem RndOk.up {B : Book} {ns ms cs : List Int} (h : RndOk B ns cs) (s : ∀ k ∈ ns, k ∈ ms) : RndOk B ms cs := ⟨h.n, h.z, fun k hk => s _ (h.s k hk), h.r, h.g⟩
/-- told lines -/
structure LineA (B : Book) (xs : List LayX) : Prop where
  perm : (xs.map Prod.fst).Perm (ringsL B (everyW B.ways.length))
  ord : ∀ (i j : Nat) (r s : List Int), i < j → (xs.map Prod.fst)[i]? = some r → (xs.map Prod.fst)[j]? = some s → ¬ Rch B (everyW B.ways.length) (fstR B s) (fstR B r)
  t : ∀ x ∈ xs, TotI B x.1 x.1.length x.2.1 x.2.2 ∧ ∀ i ∈ x.1, 0 < fallL B x.2.1 x.2.2 i
/-- told squares -/
structure SquA (B : Book) (ns cs : List Int) (ts : List (Tw × List Int)) (C : Int) : Prop where
  r : ns ∈ ringsL B (everyW B.ways.length)
  w : WhoI B ns ns.length cs
  a : SqA B ns cs ts C
end L3
end
section
set_option exponentiation.threshold 3000
namespace L3
open PySem PySem.Spec L2
open Dt
end L3
end
section
set_option exponentiation.threshold 3000
namespace L3
open PySem PySem.Spec L2
open Dt
section
variable {B : Book}
theorem mxL_ge {xs : List Int} {x : Int} (h : x ∈ xs) : x ≤ mxL xs := by
  cases xs with
  | nil => cases h
  | cons y ys => exact (maxOf_spec y ys).2 x h
theorem great_ge {w : Way} (hw : w ∈ B.ways) {x : Int} (hx : x ∈ w.gs) : x ≤ greatB B := Int.le_trans (mxL_ge hx) (mxL_ge (List.mem_cons_of_mem _ (List.mem_map_of_mem (f := fun w : Way => mxL w.gs) hw)))
theorem great0 : 0 ≤ greatB B := mxL_ge List.mem_cons_self
/-- the stand behind a part of a walk -/
structure StI (B : Book) (N : Int) (r : Int) (xs : List Int) : Prop where
  l : xs.length = B.purses.toNat
  x : ∀ x ∈ xs, 0 ≤ x ∧ x ≤ N
theorem StI.step {N r : Int} {xs : List Int} (hB : ∀ w ∈ B.ways, w.gs.length = B.purses.toNat) (h : StI B N r xs) {k : Int} (hk : inW B k = true) (hf : fitsW (wAt B k) r xs = true) : StI B (N + greatB B) (wAt B k).b (addL xs (wAt B k).gs) := by
  refine ⟨addL_len h.l (hB _ (wAt_mem hk)), fun x hx => ⟨(fits_iff.mp hf).2 x hx, ?_⟩⟩
  obtain ⟨a, ha, b, hb, rfl⟩ := addL_mem hx
  have := (h.x a ha).2
  have := great_ge (wAt_mem hk) hb
  omega
theorem DoneW.cut (hB : ∀ w ∈ B.ways, w.gs.length = B.purses.toNat) : ∀ {u v : List Int} {r N : Int} {xs : List Int}, DoneW B r xs (u ++ v) → StI B N r xs → ∃ r1 xs1, DoneW B r xs u ∧ DoneW B r1 xs1 v ∧ Pth B r u r1 ∧ StI B (N + greatB B * u.length) r1 xs1
  | [], v, r, N, xs, h, hs => ⟨r, xs, trivial, h, rfl, by simpa using hs⟩
  | k :: u, v, r, N, xs, ⟨h1, h2, h3⟩, hs => by
    obtain ⟨r1, xs1, d1, d2, p, s⟩ := DoneW.cut hB h3 (hs.step hB h1 h2)
    refine ⟨r1, xs1, ⟨h1, h2, d1⟩, d2, ⟨h1, (fits_iff.mp h2).1, p⟩, ?_⟩
    have e : N + greatB B * ((k :: u).length : Nat) = N + greatB B + greatB B * (u.length : Nat) := by
      rw [List.length_cons]
      push_cast
      rw [Int.mul_add]
      omega
    rw [e]; exact s
def lnT (x : LayX) : LnT := ⟨x.1, x.2.1, x.2.2⟩
end
end L3
end
section
set_option exponentiation.threshold 3000
namespace L3
open PySem PySem.Spec L2
open Dt
structure SqB (B : Book) (ts : List (Tw × List Int)) (C : Int) : Prop where
  n : ts.length ≤ B.ways.length
  c : 0 ≤ C ∧ C < 2 ^ 400
  t : ∀ x ∈ ts, OkT B (2 ^ 400) 3 x.1 ∧ x.1.sz ≤ 1 + 2 * B.ways.length + 2 * (B.ways.length * B.rooms.toNat) ∧ x.1.dp ≤ 4
  l : ∀ x ∈ ts, x.2.length < B.rooms.toNat ∧ ∀ k ∈ x.2, inW B k = true
end L3
end
section
set_option exponentiation.threshold 3000
namespace L3
open PySem PySem.Spec L2
open Dt
variable {B : Book} {f : Int} {ys : List Int}
/-- a line's part of small numbers -/
structure LnG (p : LnT) : Prop where
  wl : p.wt.length ≤ 6
  wb : ∀ x ∈ p.wt, x.natAbs ≤ 2 ^ 296
  hb : ∀ x ∈ p.ht, x.natAbs ≤ 2 ^ 296
theorem mxL_absN {M : Nat} {xs : List Int} (h : ∀ x ∈ xs, x.natAbs ≤ M) : (mxL xs).natAbs ≤ M := by
  cases xs with
  | nil => exact Nat.zero_le _
  | cons x xs => exact h _ (maxOf_spec x xs).1
theorem mnL_absN {M : Nat} {xs : List Int} (h : ∀ x ∈ xs, x.natAbs ≤ M) : (mnL xs).natAbs ≤ M := by
  cases xs with
  | nil => exact Nat.zero_le _
  | cons x xs => exact h _ (minOf_spec x xs).1
theorem sum_absG {M : Nat} : ∀ {xs : List Int}, (∀ x ∈ xs, x.natAbs ≤ M) → xs.sum.natAbs ≤ M * xs.length
  | [], _ => by simp
  | x :: xs, h => by
    have h1 := h x List.mem_cons_self
    have h2 := sum_absG (xs := xs) fun y hy => h y (List.mem_cons_of_mem _ hy)
    rw [List.sum_cons, List.length_cons, Nat.mul_succ]
    have := Int.natAbs_add_le x xs.sum
    omega
theorem more_big {p : LnT} (hp : LnG p) {num : Int} {C : Nat} (hn : num.natAbs ≤ C) : (moreB B num p).natAbs ≤ C * 2 ^ 299 + 2 ^ 297 := by
  unfold moreB
  have hh : ∀ x ∈ htsB B p, x.natAbs ≤ 2 ^ 296 := fun x hx => by
    unfold htsB at hx
    obtain ⟨k, _, rfl⟩ := List.mem_map.mp hx
    rw [List.getD_eq_getElem?_getD]
    cases e : p.ht[(wAt B k).a.toNat]? with
    | none => exact Nat.zero_le _
    | some y => exact hp.hb y (List.mem_of_getElem? e)
  have h1 := mxL_absN hh
  have h2 := mnL_absN hh
  have h3 := sum_absG hp.wb
  have h4 : (num * p.wt.sum).natAbs ≤ C * 2 ^ 299 := by
    rw [Int.natAbs_mul]
    refine Nat.mul_le_mul hn (Nat.le_trans h3 (Nat.le_trans (Nat.mul_le_mul_left _ hp.wl) ?_))
    decide +kernel
  have e : (2 : Nat) ^ 297 = 2 ^ 296 + 2 ^ 296 := by decide +kernel
  rw [e]
  generalize (2 : Nat) ^ 296 = a at *
  generalize num * p.wt.sum = z at *
  generalize C * 2 ^ 299 = q at *
  omega
theorem stp_big {B : Book} {G : Int} (hG : G.natAbs ≤ 100) {p : LnT} (hp : LnG p) {s : Int × Int} {k : Nat} (h1 : s.1.natAbs ≤ 2 ^ k) (h2 : s.2.natAbs ≤ 2 ^ k) : (stpB B G s p).1.natAbs ≤ 2 ^ (k + 310) ∧ (stpB B G s p).2.natAbs ≤ 2 ^ (k + 310) := by
  have hm := more_big (B := B) hp h2
  have e : ∀ j, (2 : Nat) ^ (k + j) = 2 ^ k * 2 ^ j := fun j => Nat.pow_add ..
  have k1 : 1 ≤ 2 ^ k := Nat.one_le_two_pow
  have up : ∀ i j, i ≤ j → (2 : Nat) ^ k * 2 ^ i ≤ 2 ^ k * 2 ^ j := fun i j h => Nat.mul_le_mul_left _ (Nat.pow_le_pow_right (by decide) h)
  have dbl : ∀ i, (2 : Nat) ^ k * 2 ^ i + 2 ^ k * 2 ^ i = 2 ^ k * 2 ^ (i + 1) := fun i => by rw [Nat.pow_succ, ← Nat.mul_assoc, Nat.mul_two]
  have hm2 : (moreB B s.2 p).natAbs ≤ 2 ^ k * 2 ^ 300 := by
    have a1 : 1 * 2 ^ 297 ≤ 2 ^ k * 2 ^ 297 := Nat.mul_le_mul_right _ k1
    rw [Nat.one_mul] at a1
    exact Nat.le_trans hm (Nat.le_trans (Nat.add_le_add_left (Nat.le_trans a1 (up 297 299 (by decide))) _) (Nat.le_of_eq (dbl 299)))
  have hg : (G * moreB B s.2 p).natAbs ≤ 2 ^ k * 2 ^ 307 := by
    rw [Int.natAbs_mul]
    refine Nat.le_trans (Nat.mul_le_mul (Nat.le_trans hG (show 100 ≤ 2 ^ 7 by decide)) hm2) (Nat.le_of_eq ?_)
    rw [Nat.mul_left_comm, ← Nat.pow_add]
  have h3 : ∀ x y : Int, x.natAbs ≤ 2 ^ k → y.natAbs ≤ 2 ^ k * 2 ^ 307 → (x + y).natAbs ≤ 2 ^ (k + 310) := fun x y hx hy => by
    rw [e]
    refine Nat.le_trans (Int.natAbs_add_le x y) (Nat.le_trans (Nat.add_le_add (Nat.le_trans hx ?_) hy) (Nat.le_trans (Nat.le_of_eq (dbl 307)) (up 308 310 (by decide))))
    have := up 0 307 (by decide)
    rw [Nat.pow_zero, Nat.mul_one] at this
    exact this
  exact ⟨h3 _ _ h1 (Nat.le_trans hm2 (up 300 307 (by decide))), h3 _ _ h2 hg⟩
theorem fold_big {B : Book} {G : Int} (hG : G.natAbs ≤ 100) : ∀ (ps : List LnT) (s : Int × Int) (k : Nat), (∀ p ∈ ps, LnG p) → s.1.natAbs ≤ 2 ^ k → s.2.natAbs ≤ 2 ^ k →
    (ps.foldl (stpB B G) s).1.natAbs ≤ 2 ^ (k + 310 * ps.length) ∧ (ps.foldl (stpB B G) s).2.natAbs ≤ 2 ^ (k + 310 * ps.length)
  | [], s, k, _, h1, h2 => ⟨h1, h2⟩
  | p :: ps, s, k, hp, h1, h2 => by
    obtain ⟨a1, a2⟩ := stp_big (B := B) hG (hp p List.mem_cons_self) h1 h2
    have := fold_big (B := B) hG ps (stpB B G s p) (k + 310) (fun q hq => hp q (List.mem_cons_of_mem _ hq)) a1 a2
    rw [List.foldl_cons, List.length_cons, Nat.mul_succ, show k + (310 * ps.length + 310) = k + 310 + 310 * ps.length from by omega]
    exact this
theorem log2_leG {n k : Nat} (h : n ≤ 2 ^ k) : n.log2 ≤ k := by
  by_cases z : n = 0
  · rw [z]; exact Nat.zero_le _
  · have := (Nat.log2_lt (k := k + 1) z).mpr (Nat.lt_of_le_of_lt h (Nat.pow_lt_pow_right (by decide) (by omega)))
    omega
theorem greatB_abs {mr mw : Int} (hB : B.Ok mr mw) : (greatB B).natAbs ≤ 100 := by
  have h0 := great0 (B := B)
  have : (greatB B).natAbs ≤ 99 := mxL_absN fun x hx => by
    rcases List.mem_cons.mp hx with rfl | hx
    · decide
    · obtain ⟨w, hw, rfl⟩ := List.mem_map.mp hx
      exact mxL_absN fun y hy => by have := (hB.w w hw).g y hy; omega
  omega
theorem LineA.ok {mr mw : Int} (hB : B.Ok mr mw) (h1 : mr ≤ 16) (h2 : mw ≤ 60) {xs : List LayX} (hL : LineA B xs) : xs.length ≤ 60 ∧ ∀ p ∈ xs.map lnT, LnOk B p ∧ LnG p := by
  have hn := hB.n
  have hrl := rings_le B (everyW B.ways.length)
  rw [everyW_len] at hrl
  have hpl := hL.perm.length_eq
  rw [List.length_map] at hpl
  refine ⟨by omega, fun p hp => ?_⟩
  obtain ⟨x, hx, rfl⟩ := List.mem_map.mp hp
  have hm : x.1 ∈ ringsL B (everyW B.ways.length) := hL.perm.mem_iff.mp (List.mem_map_of_mem (f := Prod.fst) hx)
  have hs := ring_sub hm
  have hl := hs.length_le
  rw [everyW_len] at hl
  have hT := (hL.t x hx).1
  have hwl := hT.ok.w
  have hhl := hT.ok.h
  have p1 := hB.p1
  have hb : x.1.length * 2 ^ 289 ≤ 2 ^ 296 := Nat.le_trans (Nat.mul_le_mul_right _ (show x.1.length ≤ 128 by omega)) (by decide +kernel)
  refine ⟨⟨ring_ne hm, by show x.1.length ≤ 60; omega, fun k hk => ?_, by show x.2.1.length ≤ 1000; omega⟩, by show x.2.1.length ≤ 6; omega, fun k hk => ?_, fun k hk => ?_⟩
  · have hk2 := everyW_mem (hs.subset hk)
    have := hB.w _ (wAt_mem hk2)
    refine ⟨hk2, this.a0, ?_⟩
    show _ < (x.2.2.length : Int)
    rw [hhl]
    exact this.a1
  · have := hT.w k hk
    have h3 : ((x.1.length * 2 ^ 289 : Nat) : Int) = (x.1.length : Int) * 2 ^ 289 := by rw [Int.natCast_mul, Int.natCast_pow]; rfl
    refine Nat.le_trans ?_ hb
    omega
  · exact Nat.le_trans (hT.h k hk) hb
/-- a line's numbers may be taken together -/
theorem LineA.mul {mr mw : Int} (hB : B.Ok mr mw) (h1 : mr ≤ 16) (h2 : mw ≤ 60) {xs : List LayX} (hL : LineA B xs) {N : Int} (hN : 0 ≤ N ∧ N ≤ 10 ^ 100) {i : Nat} {num steps : Int} (hi : i < (xs.map lnT).length)
    (he : ((xs.map lnT).take i).foldl (stpB B (greatB B)) (B.rooms - 1, N + greatB B * (B.rooms - 1)) = (steps, num)) {p : LnT} (hp : (xs.map lnT)[i]? = some p) : MulOk num p.wt.sum := by
  obtain ⟨hl, hg⟩ := hL.ok hB h1 h2
  have hG := greatB_abs hB
  have G0 := great0 (B := B)
  have r0 := hB.r0
  have r1 := hB.r1
  have c1 : (10 : Int) ^ 100 + 2000 ≤ 2 ^ 340 := by decide +kernel
  have cc : ((2 ^ 340 : Nat) : Int) = 2 ^ 340 := by decide +kernel
  have hgr : 0 ≤ greatB B * (B.rooms - 1) ∧ greatB B * (B.rooms - 1) ≤ 100 * 16 := ⟨Int.mul_nonneg G0 (by omega), Int.mul_le_mul (by omega) (by omega) (by omega) (by decide)⟩
  have hf := fold_big (B := B) hG ((xs.map lnT).take i) (B.rooms - 1, N + greatB B * (B.rooms - 1)) 340 (fun q hq => (hg q (List.mem_of_mem_take hq)).2) (by show (B.rooms - 1).natAbs ≤ _; omega) (by show (N + greatB B * (B.rooms - 1)).natAbs ≤ _; omega)
  rw [he] at hf
  rw [List.length_map] at hi
  have h3 : ((xs.map lnT).take i).length ≤ 60 := by rw [List.length_take]; omega
  have h4 : num.natAbs.log2 ≤ 340 + 310 * 60 := log2_leG (Nat.le_trans hf.2 (Nat.pow_le_pow_right (by decide) (by omega)))
  have hpm := (hg p (List.mem_of_getElem? hp)).2
  have h5 : p.wt.sum.natAbs.log2 ≤ 299 := log2_leG (Nat.le_trans (sum_absG hpm.wb) (Nat.le_trans (Nat.mul_le_mul_left _ hpm.wl) (by decide +kernel)))
  have b1 : Builtin.Int.intBits num ≤ 340 + 310 * 60 + 1 := by unfold Builtin.Int.intBits; split <;> omega
  have b2 : Builtin.Int.intBits p.wt.sum ≤ 300 := by unfold Builtin.Int.intBits; split <;> omega
  have b3 : (Builtin.Int.intBits num : Int) + (Builtin.Int.intBits p.wt.sum : Int) ≤ 340 + 310 * 60 + 1 + 300 := by omega
  exact mulL (Int.le_trans b3 (by decide))
end L3
end
section
namespace L3
open PySem PySem.Spec L2
open Dt
def Prm (row : List Int) : Prop := (∀ x ∈ row, x = 0) ∨ gcdL row = 1
theorem dvd_gcdF {d : Nat} : ∀ {xs : List Int} {g : Nat}, d ∣ g → (∀ x ∈ xs, d ∣ x.natAbs) → d ∣ xs.foldl (fun g x => Nat.gcd g x.natAbs) g
  | [], _, h, _ => h
  | x :: xs, g, h, k => dvd_gcdF (xs := xs) (Nat.dvd_gcd h (k x List.mem_cons_self)) fun y hy => k y (List.mem_cons_of_mem _ hy)
theorem dvd_gcdL {d : Nat} {xs : List Int} (h : ∀ x ∈ xs, d ∣ x.natAbs) : d ∣ gcdL xs := dvd_gcdF (Nat.dvd_zero d) h
theorem gcdL_dvdN {xs : List Int} {x : Int} (h : x ∈ xs) : gcdL xs ∣ x.natAbs := Int.ofNat_dvd_left.mp (gcdL_dvd h)
theorem gcdL_zero {xs : List Int} (h : gcdL xs = 0) : ∀ x ∈ xs, x = 0 := fun x hx => by
  have := gcdL_dvdN hx
  rw [h] at this
  have := Nat.eq_zero_of_zero_dvd this
  omega
theorem less_prm (xs : List Int) : Prm (lessL xs) := by
  by_cases e : gcdL xs = 0
  · left
    intro y hy
    unfold lessL at hy
    obtain ⟨x, hx, rfl⟩ := List.mem_map.mp hy
    rw [gcdL_zero e x hx, Int.zero_ediv]
  · right
    have hg : max 1 (gcdL xs) = gcdL xs := Nat.max_eq_right (by omega)
    have h1 : gcdL (lessL xs) * gcdL xs ∣ gcdL xs := dvd_gcdL fun x hx => by
      have h2 := less_mul hx
      rw [hg] at h2
      have hm : x / ((gcdL xs : Nat) : Int) ∈ lessL xs := by unfold lessL; rw [hg]; exact List.mem_map_of_mem (f := fun x => x / ((gcdL xs : Nat) : Int)) hx
      have h3 := gcdL_dvdN hm
      rw [← h2, Int.natAbs_mul, Int.natAbs_natCast]
      exact Nat.mul_dvd_mul_right h3 _
    have h4 := Nat.le_of_dvd (by omega) h1
    have h5 : gcdL (lessL xs) ≠ 0 := fun z => by
      rw [z, Nat.zero_mul] at h1
      have := Nat.eq_zero_of_zero_dvd h1
      omega
    have h6 : gcdL (lessL xs) * gcdL xs ≤ 1 * gcdL xs := by omega
    have := Nat.le_of_mul_le_mul_right h6 (by omega)
    omega
def Pro (n : Nat) (row : List Int) (f : Nat → Int) : Prop := ∃ s t : Int, s ≠ 0 ∧ t ≠ 0 ∧ ∀ l, l < n → s * row.getD l 0 = t * f l
theorem Pro.zero {n : Nat} {row : List Int} {f : Nat → Int} (h : Pro n row f) {l : Nat} (hl : l < n) : row.getD l 0 = 0 ↔ f l = 0 := by
  obtain ⟨s, t, hs, ht, e⟩ := h
  have e := e l hl
  constructor
  · intro z
    rw [z, Int.mul_zero] at e
    exact (Int.mul_eq_zero.mp e.symm).resolve_left ht
  · intro z
    rw [z, Int.mul_zero] at e
    exact (Int.mul_eq_zero.mp e).resolve_left hs
theorem Pro.less {n : Nat} {row : List Int} {f : Nat → Int} (h : Pro n row f) (hl : row.length = n) : Pro n (lessL row) f := by
  obtain ⟨s, t, hs, ht, e⟩ := h
  have g0 := mx_pos row
  refine ⟨s * ((max 1 (gcdL row) : Nat) : Int), t, fun z => ?_, ht, fun l hl2 => ?_⟩
  · rcases Int.mul_eq_zero.mp z with z | z
    · exact hs z
    · omega
  · rw [← e l hl2, ← less_get (xs := row) (j := l) (by omega), Int.mul_assoc, Int.mul_comm ((max 1 (gcdL row) : Nat) : Int)]
theorem Pro.scale {n : Nat} {row : List Int} {f g : Nat → Int} {c : Int} (h : Pro n row f) (hc : c ≠ 0) (e : ∀ l, l < n → f l = c * g l) : Pro n row g := by
  obtain ⟨s, t, hs, ht, k⟩ := h
  refine ⟨s, t * c, hs, fun z => ?_, fun l hl => ?_⟩
  · rcases Int.mul_eq_zero.mp z with z | z
    · exact ht z
    · exact hc z
  · rw [k l hl, e l hl, Int.mul_assoc]
/-- a row with nought at a place, by another row -/
def rawL (row other : List Int) (p : Nat) : List Int := (row.zip other).map fun q => q.1 * other.getD p 0 - q.2 * row.getD p 0
def withL (row other : List Int) (p : Nat) : List Int := lessL (rawL row other p)
theorem raw_len {row other : List Int} {n p : Nat} (h1 : row.length = n) (h2 : other.length = n) : (rawL row other p).length = n := by
  unfold rawL
  rw [List.length_map, List.length_zip]; omega
theorem raw_get {row other : List Int} {n p l : Nat} (h1 : row.length = n) (h2 : other.length = n) (hl : l < n) : (rawL row other p).getD l 0 = row.getD l 0 * other.getD p 0 - other.getD l 0 * row.getD p 0 := by
  unfold rawL
  rw [List.getD_eq_getElem?_getD, List.getElem?_map, List.getElem?_eq_getElem (by rw [List.length_zip]; omega), List.getElem_zip]
  have e1 : row.getD l 0 = row[l] := by rw [List.getD_eq_getElem?_getD, List.getElem?_eq_getElem (by omega)]; rfl
  have e2 : other.getD l 0 = other[l] := by rw [List.getD_eq_getElem?_getD, List.getElem?_eq_getElem (by omega)]; rfl
  rw [e1, e2]; rfl
theorem with_len {row other : List Int} {n p : Nat} (h1 : row.length = n) (h2 : other.length = n) : (withL row other p).length = n := by
  unfold withL
  rw [less_len]
  exact raw_len h1 h2
theorem Pro.raw {n p : Nat} {row other : List Int} {f g : Nat → Int} (h : Pro n row f) (k : Pro n other g) (h1 : row.length = n) (h2 : other.length = n) (hp : p < n) : Pro n (rawL row other p) (fun l => f l * g p - g l * f p) := by
  obtain ⟨s, t, hs, ht, e⟩ := h
  obtain ⟨s', t', hs', ht', e'⟩ := k
  refine ⟨s * s', t * t', fun z => ?_, fun z => ?_, fun l hl => ?_⟩
  · rcases Int.mul_eq_zero.mp z with z | z
    · exact hs z
    · exact hs' z
  · rcases Int.mul_eq_zero.mp z with z | z
    · exact ht z
    · exact ht' z
  · rw [raw_get h1 h2 hl, Int.mul_sub, Int.mul_sub]
    have a1 : s * s' * (row.getD l 0 * other.getD p 0) = (s * row.getD l 0) * (s' * other.getD p 0) := by
      rw [Int.mul_assoc, Int.mul_left_comm s', ← Int.mul_assoc]
    have a2 : s * s' * (other.getD l 0 * row.getD p 0) = (s * row.getD p 0) * (s' * other.getD l 0) := by
      rw [Int.mul_comm (other.getD l 0), Int.mul_assoc, Int.mul_left_comm s', ← Int.mul_assoc]
    have b1 : t * t' * (f l * g p) = (t * f l) * (t' * g p) := by
      rw [Int.mul_assoc, Int.mul_left_comm t', ← Int.mul_assoc]
    have b2 : t * t' * (g l * f p) = (t * f p) * (t' * g l) := by
      rw [Int.mul_comm (g l), Int.mul_assoc, Int.mul_left_comm t', ← Int.mul_assoc]
    rw [a1, a2, b1, b2, e l hl, e p hp, e' l hl, e' p hp]
theorem Pro.with {n p : Nat} {row other : List Int} {f g : Nat → Int} (h : Pro n row f) (k : Pro n other g) (h1 : row.length = n) (h2 : other.length = n) (hp : p < n) : Pro n (withL row other p) (fun l => f l * g p - g l * f p) := (h.raw k h1 h2 hp).less (raw_len h1 h2)
/-- the first row with no nought at a place, and the others -/
def pickR (p : Nat) : List (List Int) → Option (List Int × List (List Int))
  | [] => none
  | r :: rs => if r.getD p 0 ≠ 0 then some (r, rs) else (pickR p rs).map fun q => (q.1, r :: q.2)
theorem pick_none {p : Nat} : ∀ {rs : List (List Int)}, pickR p rs = none → ∀ r ∈ rs, r.getD p 0 = 0
  | [], _, r, h => by cases h
  | r :: rs, h, x, hx => by
    unfold pickR at h
    by_cases e : r.getD p 0 ≠ 0
    · rw [if_pos e] at h; cases h
    · rw [if_neg e, Option.map_eq_none_iff] at h
      rcases List.mem_cons.mp hx with rfl | hx
      · exact Decidable.of_not_not e
      · exact pick_none h x hx
theorem pick_some {p : Nat} : ∀ {rs : List (List Int)} {f : List Int} {re : List (List Int)}, pickR p rs = some (f, re) → ∃ u v, rs = u ++ f :: v ∧ re = u ++ v ∧ f.getD p 0 ≠ 0 ∧ ∀ r ∈ u, r.getD p 0 = 0
  | [], _, _, h => by cases h
  | r :: rs, f, re, h => by
    unfold pickR at h
    by_cases e : r.getD p 0 ≠ 0
    · rw [if_pos e] at h
      cases h
      exact ⟨[], rs, rfl, rfl, e, fun r hr => by cases hr⟩
    · rw [if_neg e] at h
      obtain ⟨q, hq, e2⟩ := Option.map_eq_some_iff.mp h
      cases e2
      obtain ⟨u, v, e1, e2, e3, e4⟩ := pick_some (rs := rs) (f := q.1) (re := q.2) hq
      exact ⟨r :: u, v, by rw [e1]; rfl, by rw [e2]; rfl, e3, fun x hx => by
        rcases List.mem_cons.mp hx with rfl | hx
        · exact Decidable.of_not_not e
        · exact e4 x hx⟩
/-- a step of taking rows off one another: rows left, rows found -/
def stpR (s : List (List Int) × List (List Int)) (p : Nat) : List (List Int) × List (List Int) := match pickR p s.1 with
  | none => s
  | some (f, re) => (re.map fun r => withL r f p, (s.2.map fun r => withL r f p) ++ [f])
def stR (rows : List (List Int)) (k : Nat) : List (List Int) × List (List Int) := (List.range k).foldl stpR (rows.map lessL, [])
def ldN : List Int → Nat
  | [] => 0
  | x :: xs => if x ≠ 0 then 0 else ldN xs + 1
theorem ldN_eq : ∀ {row : List Int} {p : Nat}, (∀ l, l < p → row.getD l 0 = 0) → row.getD p 0 ≠ 0 → ldN row = p
  | [], p, _, h => absurd (by rw [List.getD_eq_getElem?_getD]; rfl) h
  | x :: xs, 0, _, h => if_pos h
  | x :: xs, p + 1, h, k => by
    have h0 : x = 0 := h 0 (by omega)
    show (if x ≠ 0 then 0 else ldN xs + 1) = p + 1
    rw [if_neg (by rw [h0]; simp), ldN_eq (row := xs) (p := p) (fun l hl => h (l + 1) (by omega)) k]
def uprL (row : List Int) : List Int := if row.getD (ldN row) 0 > 0 then row else row.map fun x => -x
def redL (rows : List (List Int)) (n : Nat) : List (List Int) := (stR rows n).2.map uprL
structure Mx where
  M : Nat
  N : Nat
  A : Nat → Nat → Int
namespace Mx
variable (X : Mx)
def col (l : Nat) : List Int := if l < X.N then (List.range X.M).map fun i => X.A i l else unt X.M (l - X.N)
theorem col_len (l : Nat) : (X.col l).length = X.M := by
  unfold col
  split
  · simp
  · exact unt_len _ _
def E (B : List Nat) (i l : Nat) : Int := ent X.M X.col B i l
def D (B : List Nat) : Int := dvr X.M X.col B
structure Bas (B : List Nat) : Prop where
  len : B.length = X.M
  d : X.D B ≠ 0
def B0 : List Nat := List.range' X.N X.M
variable {X} {B : List Nat} (H : X.Bas B)
include H
theorem Bas.self {i b : Nat} (h : B[i]? = some b) : X.E B i b = X.D B := ent_self h
theorem Bas.rep {i k b : Nat} (hi : i < X.M) (h : B[k]? = some b) (ne : i ≠ k) : X.E B i b = 0 := ent_rep X.col_len H.len hi h ne H.d
theorem Bas.step {r l : Nat} (h : X.E B r l ≠ 0) : X.Bas (B.set r l) := ⟨by rw [List.length_set]; exact H.len, by unfold D; rw [dvr_piv]; exact h⟩
omit H in
theorem stepD {r l : Nat} : X.D (B.set r l) = X.E B r l := by unfold D E; rw [dvr_piv]
omit H in
theorem stepR {r l k : Nat} : X.E (B.set r l) r k = X.E B r k := by unfold E; rw [ent_same]
theorem Bas.stepI {i r l k : Nat} (hi : i < X.M) (hr : r < X.M) (ne : i ≠ r) : X.D B * X.E (B.set r l) i k = X.E B i k * X.E B r l - X.E B i l * X.E B r k := ent_piv X.col_len H.len hi hr ne
theorem Bas.back {i r l b : Nat} (hi : i < X.M) (ne : i ≠ r) (h : B[r]? = some b) : X.E (B.set r l) i b = - X.E B i l := ent_back X.col_len H.len hi ne h H.d
omit H in
theorem backR {r l b : Nat} (h : B[r]? = some b) : X.E (B.set r l) r b = X.D B := ent_back_r h
end Mx
end L3
end
section
namespace L3
open PySem PySem.Spec L2
open Dt
namespace Mx
variable {X : Mx}
def row (X : Mx) (i : Nat) : List Int := (List.range X.N).map fun l => X.A i l
def rws (X : Mx) : List (List Int) := (List.range X.M).map X.row
/-- rows left and rows found, by a tableau -/
structure St1 (X : Mx) (k : Nat) (s : List (List Int) × List (List Int)) (B L R : List Nat) (ρ : Nat → List Int) : Prop where
  bas : X.Bas B
  nd : (L ++ R).Nodup
  mem : ∀ i, i ∈ L ++ R ↔ i < X.M
  l : s.1 = L.map ρ
  r : s.2 = R.map ρ
  row : ∀ i, i < X.M → (ρ i).length = X.N ∧ Prm (ρ i) ∧ Pro X.N (ρ i) (X.E B i)
  lo : ∀ i ∈ L, (∃ b, B[i]? = some b ∧ X.N ≤ b) ∧ ∀ l, l < k → X.E B i l = 0
  hi : ∀ i ∈ R, ∃ b, B[i]? = some b ∧ b < k ∧ b < X.N ∧ ∀ l, l < b → X.E B i l = 0
  inc : R.Pairwise fun i j => B[i]?.getD 0 < B[j]?.getD 0
theorem cancel0 {a b : Int} (ha : a ≠ 0) (h : a * b = 0) : b = 0 := (Int.mul_eq_zero.mp h).resolve_left ha
theorem St1.step {k : Nat} {s : List (List Int) × List (List Int)} {B L R : List Nat} {ρ : Nat → List Int} (h : St1 X k s B L R ρ) (hk : k < X.N) : ∃ B' L' R' ρ', St1 X (k + 1) (stpR s k) B' L' R' ρ' := by
  unfold stpR
  cases e : pickR k s.1 with
  | none =>
    refine ⟨B, L, R, ρ, h.bas, h.nd, h.mem, h.l, h.r, h.row, fun i hi => ⟨(h.lo i hi).1, fun l hl => ?_⟩, fun i hi => ?_, h.inc⟩
    · rcases Nat.lt_succ_iff_lt_or_eq.mp hl with hl | rfl
      · exact (h.lo i hi).2 l hl
      · have hM := (h.mem i).mp (List.mem_append_left _ hi)
        exact ((h.row i hM).2.2.zero hk).mp (pick_none e (ρ i) (by rw [h.l]; exact List.mem_map_of_mem hi))
    · obtain ⟨b, e1, e2, e3⟩ := h.hi i hi
      exact ⟨b, e1, by omega, e3⟩
  | some q =>
    obtain ⟨f, re⟩ := q
    obtain ⟨u, v, e1, rfl, e3, e4⟩ := pick_some e
    rw [h.l] at e1
    obtain ⟨L1, L3, rfl, rfl, e5⟩ := List.map_eq_append_iff.mp e1
    obtain ⟨i0, L2, rfl, rfl, rfl⟩ := List.map_eq_cons_iff.mp e5
    have hp : ((L1 ++ L2) ++ (R ++ [i0])).Perm ((L1 ++ i0 :: L2) ++ R) := List.perm_iff_count.mpr fun a => by
      simp only [List.count_append, List.count_cons, List.count_nil]
      omega
    have hi0 : i0 ∈ L1 ++ i0 :: L2 := by simp
    have hM0 := (h.mem i0).mp (List.mem_append_left _ hi0)
    obtain ⟨r1, r2, r3⟩ := h.row i0 hM0
    have hne : X.E B i0 k ≠ 0 := fun z => e3 ((r3.zero hk).mpr z)
    have hnd := hp.nodup_iff.mpr h.nd
    have nel : ∀ i ∈ L1 ++ L2, i ≠ i0 := fun i hi z => by
      rw [List.nodup_append] at hnd
      exact hnd.2.2 i hi i0 (by simp) z
    have ner : ∀ i ∈ R, i ≠ i0 := fun i hi z => by
      have h2 := (List.nodup_append.mp hnd).2.1
      rw [List.nodup_append] at h2
      exact h2.2.2 i hi i0 (by simp) z
    have same : ∀ i, i ≠ i0 → (B.set i0 k)[i]? = B[i]? := fun i hi => List.getElem?_set_ne (Ne.symm hi)
    have at0 : (B.set i0 k)[i0]? = some k := List.getElem?_set_self (by rw [h.bas.len]; exact hM0)
    have hD := h.bas.d
    have lo0 := (h.lo i0 hi0).2
    have stp : ∀ i, i < X.M → i ≠ i0 → ∀ l, X.D B * X.E (B.set i0 k) i l = X.E B i l * X.E B i0 k - X.E B i k * X.E B i0 l := fun i hi ne l => h.bas.stepI hi hM0 ne
    have hLm : ∀ i ∈ L1 ++ L2, i ∈ L1 ++ i0 :: L2 := fun i hi => by
      simp only [List.mem_append, List.mem_cons] at hi ⊢
      rcases hi with hi | hi
      · exact .inl hi
      · exact .inr (.inr hi)
    refine ⟨B.set i0 k, L1 ++ L2, R ++ [i0], fun i => if i = i0 then ρ i0 else withL (ρ i) (ρ i0) k, h.bas.step hne, hnd, fun i => (hp.mem_iff).trans (h.mem i), ?_, ?_, fun i hi => ?_, fun i hi => ⟨?_, fun l hl => ?_⟩, fun i hi => ?_, ?_⟩
    · show List.map _ (L1.map ρ ++ L2.map ρ) = _
      rw [← List.map_append, List.map_map]
      exact List.map_congr_left fun i hi => (if_neg (nel i hi)).symm
    · show List.map _ s.2 ++ [ρ i0] = _
      rw [h.r, List.map_append, List.map_map]
      congr 1
      · exact List.map_congr_left fun i hi => (if_neg (ner i hi)).symm
      · show _ = [if i0 = i0 then _ else _]
        rw [if_pos rfl]
    · show (if i = i0 then ρ i0 else withL (ρ i) (ρ i0) k).length = _ ∧ Prm (if i = i0 then ρ i0 else withL (ρ i) (ρ i0) k) ∧ Pro _ (if i = i0 then ρ i0 else withL (ρ i) (ρ i0) k) _
      by_cases z : i = i0
      · rw [if_pos z]
        refine ⟨r1, r2, ?_⟩
        rw [z]
        obtain ⟨a, b, c1, c2, c3⟩ := r3
        exact ⟨a, b, c1, c2, fun l hl => by rw [Mx.stepR]; exact c3 l hl⟩
      · rw [if_neg z]
        obtain ⟨q1, q2, q3⟩ := h.row i hi
        refine ⟨with_len q1 r1, less_prm _, (q3.with r3 q1 r1 hk).scale hD fun l _ => ?_⟩
        show X.E B i l * X.E B i0 k - X.E B i0 l * X.E B i k = _
        rw [stp i hi z l, Int.mul_comm (X.E B i0 l)]
    · rw [same i (nel i hi)]
      exact (h.lo i (hLm i hi)).1
    · have hiM := (h.mem i).mp (List.mem_append_left _ (hLm i hi))
      refine cancel0 hD ?_
      rw [stp i hiM (nel i hi) l]
      rcases Nat.lt_succ_iff_lt_or_eq.mp hl with hl | rfl
      · rw [(h.lo i (hLm i hi)).2 l hl, lo0 l hl]
        omega
      · exact Int.sub_self _
    · rcases List.mem_append.mp hi with hi | hi
      · obtain ⟨b, c1, c2, c3, c4⟩ := h.hi i hi
        refine ⟨b, by rw [same i (ner i hi)]; exact c1, by omega, c3, fun l hl => ?_⟩
        have hiM := (h.mem i).mp (List.mem_append_right _ hi)
        refine cancel0 hD ?_
        rw [stp i hiM (ner i hi) l, c4 l hl, lo0 l (by omega)]
        omega
      · obtain rfl := List.mem_singleton.mp hi
        exact ⟨k, at0, by omega, hk, fun l hl => by rw [Mx.stepR]; exact lo0 l hl⟩
    · rw [List.pairwise_append]
      refine ⟨h.inc.imp_of_mem fun {a b} ha hb hab => by rw [same a (ner a ha), same b (ner b hb)]; exact hab, List.pairwise_singleton _ _, fun a ha b hb => ?_⟩
      obtain rfl := List.mem_singleton.mp hb
      obtain ⟨c, c1, c2, _⟩ := h.hi a ha
      rw [same a (ner a ha), c1, at0]
      exact c2
theorem Bas.inj {B : List Nat} (H : X.Bas B) {i j b : Nat} (hi : B[i]? = some b) (hj : B[j]? = some b) : i = j := by
  refine Decidable.byContradiction fun ne => ?_
  have hiM : i < X.M := by rw [← H.len]; exact (List.getElem?_eq_some_iff.mp hi).1
  have h1 := H.self hi
  have h2 := H.rep hiM hj ne
  rw [h2] at h1
  exact H.d h1.symm
def kv (X : Mx) (B : List Nat) (g l : Nat) : Int := if l = g then X.D B else if l ∈ B then - X.E B (B.idxOf l) g else 0
theorem kv_g {B : List Nat} {g : Nat} : X.kv B g g = X.D B := if_pos rfl
theorem kv_o {B : List Nat} {g l : Nat} (h : l ≠ g) (hl : l ∉ B) : X.kv B g l = 0 := by
  unfold kv
  rw [if_neg h, if_neg hl]
theorem Bas.kv_b {B : List Nat} (H : X.Bas B) {g j b : Nat} (h : B[j]? = some b) (ne : b ≠ g) : X.kv B g b = - X.E B j g := by
  have hm := List.mem_of_getElem? h
  unfold kv
  rw [if_neg ne, if_pos hm]
  have hx : B[B.idxOf b]? = some b := by
    rw [List.getElem?_eq_getElem (List.idxOf_lt_length_of_mem hm), List.getElem_idxOf]
  rw [H.inj hx h]
def Ker (X : Mx) (v : List Int) : Prop := ∀ t, t < X.M → sm X.N (fun l => X.A t l * v.getD l 0) = 0
theorem Ker.less {v : List Int} (h : Ker X v) (hl : v.length = X.N) : Ker X (lessL v) := fun t ht => by
  have e := less_sum (xs := v) hl.symm (fun l => X.A t l)
  rw [h t ht] at e
  have := mx_pos v
  exact (Int.mul_eq_zero.mp e).resolve_right (by omega)
theorem Ker.raw {v w : List Int} {p : Nat} (h : Ker X v) (k : Ker X w) (h1 : v.length = X.N) (h2 : w.length = X.N) : Ker X (rawL v w p) := fun t ht => by
  rw [sm_congr (g := fun l => w.getD p 0 * (X.A t l * v.getD l 0) - v.getD p 0 * (X.A t l * w.getD l 0)) fun l hl => ?_, sm_sub, sm_mul, sm_mul, h t ht, k t ht]
  · omega
  · rw [raw_get h1 h2 hl, Int.mul_sub, Int.mul_left_comm (w.getD p 0), Int.mul_left_comm (v.getD p 0), Int.mul_comm (w.getD p 0), Int.mul_comm (v.getD p 0)]
theorem Ker.with {v w : List Int} {p : Nat} (h : Ker X v) (k : Ker X w) (h1 : v.length = X.N) (h2 : w.length = X.N) : Ker X (withL v w p) := (h.raw k h1 h2).less (raw_len h1 h2)
structure St2 (X : Mx) (k : Nat) (s : List (List Int) × List (List Int)) (B L R : List Nat) (ρ : Nat → List Int) : Prop where
  bas : X.Bas B
  nd : (L ++ R).Nodup
  mem : ∀ g, g ∈ L ++ R ↔ g < X.N ∧ g ∉ B
  l : s.1 = L.map ρ
  r : s.2 = R.map ρ
  row : ∀ g ∈ L ++ R, (ρ g).length = X.N ∧ Prm (ρ g) ∧ Pro X.N (ρ g) (X.kv B g) ∧ Ker X (ρ g)
  lo : ∀ g ∈ L, ∀ l, l < k → X.kv B g l = 0
  hi : ∀ g ∈ R, g < k ∧ ∀ l, l < g → X.kv B g l = 0
  inc : R.Pairwise (· < ·)
/-- a place where a kernel row is no nought: its own label, or a label of the basis, which it takes the place of -/
theorem kv_swap {B : List Nat} (H : X.Bas B) {f k : Nat} (hf : f < X.N ∧ f ∉ B) (hk : k < X.N) (h : X.kv B f k ≠ 0) :
    ∃ B', X.Bas B' ∧ (∀ g, g < X.N → (g ∉ B' ↔ g = k ∨ (g ≠ f ∧ g ∉ B))) ∧ (k ≠ f → k ∈ B) ∧ (∀ g, g ≠ f → g ∉ B → g < X.N → ∃ c : Int, c ≠ 0 ∧ ∀ l, X.kv B g l * X.kv B f k - X.kv B f l * X.kv B g k = c * X.kv B' g l) ∧
      ∃ c : Int, c ≠ 0 ∧ ∀ l, X.kv B f l = c * X.kv B' k l := by
  by_cases e : k = f
  · subst e
    refine ⟨B, H, fun g _ => ⟨fun hg => ?_, fun hg => ?_⟩, fun ne => absurd rfl ne, fun g ne hg _ => ⟨X.D B, H.d, fun l => ?_⟩, 1, by decide, fun l => (Int.one_mul _).symm⟩
    · by_cases z : g = k
      · exact .inl z
      · exact .inr ⟨z, hg⟩
    · rcases hg with rfl | hg
      · exact hf.2
      · exact hg.2
    · rw [kv_g, kv_o (Ne.symm ne) hf.2, Int.mul_zero, Int.sub_zero, Int.mul_comm]
  · have hkB : k ∈ B := Decidable.byContradiction fun z => h (kv_o e z)
    obtain ⟨j, hj⟩ := List.getElem?_of_mem hkB
    have hjl := (List.getElem?_eq_some_iff.mp hj).1
    have hjM : j < X.M := by rw [← H.len]; exact hjl
    have ek := H.kv_b hj e
    have hE : X.E B j f ≠ 0 := fun z => h (by rw [ek, z]; rfl)
    have H' := H.step hE
    have hBj : (B.set j f)[j]? = some f := List.getElem?_set_self hjl
    have hBi : ∀ i, i ≠ j → (B.set j f)[i]? = B[i]? := fun i ne => List.getElem?_set_ne (Ne.symm ne)
    have mem' : ∀ l, l ∈ B.set j f ↔ l = f ∨ (l ∈ B ∧ l ≠ k) := fun l => by
      constructor
      · intro hl
        obtain ⟨i, hi⟩ := List.getElem?_of_mem hl
        by_cases z : i = j
        · rw [z, hBj] at hi; cases hi; exact .inl rfl
        · rw [hBi i z] at hi
          exact .inr ⟨List.mem_of_getElem? hi, fun q => z (H.inj (by rw [hi, q]) hj)⟩
      · rintro (rfl | ⟨hl, ne⟩)
        · exact List.mem_of_getElem? hBj
        · obtain ⟨i, hi⟩ := List.getElem?_of_mem hl
          have z : i ≠ j := fun q => by
            rw [q, hj] at hi
            exact ne (by injection hi with q; exact q.symm)
          exact List.mem_of_getElem? (by rw [hBi i z]; exact hi)
    have hkf : k ∉ B.set j f := fun z => by
      rcases (mem' k).mp z with z | z
      · exact e z
      · exact z.2 rfl
    refine ⟨B.set j f, H', fun g _ => ?_, fun _ => hkB, fun g ne hg hgN => ⟨- X.D B, fun z => H.d (by omega), fun l => ?_⟩, -1, by decide, fun l => ?_⟩
    · rw [mem']
      constructor
      · intro hg
        by_cases z : g = k
        · exact .inl z
        · refine .inr ⟨fun q => hg (.inl q), fun q => hg (.inr ⟨q, z⟩)⟩
      · rintro (rfl | ⟨h1, h2⟩)
        · rintro (z | z)
          · exact e z
          · exact z.2 rfl
        · rintro (z | z)
          · exact h1 z
          · exact h2 z.1
    · have gk : k ≠ g := fun z => hg (by rw [← z]; exact hkB)
      rw [ek, H.kv_b hj gk]
      by_cases l1 : l = g
      · subst l1
        rw [kv_g, kv_g, kv_o ne hg, stepD]
        rw [Int.zero_mul, Int.sub_zero, Int.mul_neg, Int.neg_mul]
      by_cases l2 : l = f
      · subst l2
        rw [kv_g, kv_o l1 hf.2, H'.kv_b hBj l1, Mx.stepR, Int.zero_mul]
        rw [Int.mul_neg, Int.mul_neg, Int.neg_mul]
        omega
      by_cases l3 : l = k
      · subst l3
        rw [ek, H.kv_b hj gk, kv_o gk hkf, Int.mul_zero]
        rw [Int.neg_mul_neg, Int.neg_mul_neg, Int.mul_comm, Int.sub_self]
      by_cases l4 : l ∈ B
      · obtain ⟨i, hi⟩ := List.getElem?_of_mem l4
        have z : i ≠ j := fun q => by
          rw [q, hj] at hi
          exact l3 (by injection hi with q; exact q.symm)
        have hiM : i < X.M := by rw [← H.len]; exact (List.getElem?_eq_some_iff.mp hi).1
        have s1 := H.stepI (l := f) (k := g) hiM hjM z
        rw [H.kv_b hi l1, H.kv_b hi l2, H'.kv_b (by rw [hBi i z]; exact hi) l1, Int.neg_mul_neg, Int.neg_mul_neg, Int.neg_mul_neg, s1]
      · rw [kv_o l1 l4, kv_o l2 l4, kv_o l1 (fun z => by
          rcases (mem' l).mp z with z | z
          · exact l2 z
          · exact l4 z.1)]
        omega
    · by_cases l2 : l = f
      · subst l2
        rw [kv_g, H'.kv_b hBj (Ne.symm e), backR hj]
        omega
      by_cases l3 : l = k
      · subst l3
        rw [ek, kv_g, stepD]
        omega
      by_cases l4 : l ∈ B
      · obtain ⟨i, hi⟩ := List.getElem?_of_mem l4
        have z : i ≠ j := fun q => by
          rw [q, hj] at hi
          exact l3 (by injection hi with q; exact q.symm)
        have hiM : i < X.M := by rw [← H.len]; exact (List.getElem?_eq_some_iff.mp hi).1
        rw [H.kv_b hi l2, H'.kv_b (by rw [hBi i z]; exact hi) l3, H.back hiM z hj]
        omega
      · rw [kv_o l2 l4, kv_o l3 (fun z => by
          rcases (mem' l).mp z with z | z
          · exact l2 z
          · exact l4 z.1)]
        rfl
theorem St2.step {k : Nat} {s : List (List Int) × List (List Int)} {B L R : List Nat} {ρ : Nat → List Int} (h : St2 X k s B L R ρ) (hk : k < X.N) : ∃ B' L' R' ρ', St2 X (k + 1) (stpR s k) B' L' R' ρ' := by
  unfold stpR
  cases e : pickR k s.1 with
  | none =>
    refine ⟨B, L, R, ρ, h.bas, h.nd, h.mem, h.l, h.r, h.row, fun g hg l hl => ?_, fun g hg => ⟨by have := (h.hi g hg).1; omega, (h.hi g hg).2⟩, h.inc⟩
    rcases Nat.lt_succ_iff_lt_or_eq.mp hl with hl | rfl
    · exact h.lo g hg l hl
    · exact ((h.row g (List.mem_append_left _ hg)).2.2.1.zero hk).mp (pick_none e (ρ g) (by rw [h.l]; exact List.mem_map_of_mem hg))
  | some q =>
    obtain ⟨f, re⟩ := q
    obtain ⟨u, v, e1, rfl, e3, e4⟩ := pick_some e
    rw [h.l] at e1
    obtain ⟨L1, L3, rfl, rfl, e5⟩ := List.map_eq_append_iff.mp e1
    obtain ⟨f0, L2, rfl, rfl, rfl⟩ := List.map_eq_cons_iff.mp e5
    have hi0 : f0 ∈ L1 ++ f0 :: L2 := by simp
    have hf0 := (h.mem f0).mp (List.mem_append_left _ hi0)
    obtain ⟨r1, r2, r3, r4⟩ := h.row f0 (List.mem_append_left _ hi0)
    have hne : X.kv B f0 k ≠ 0 := fun z => e3 ((r3.zero hk).mpr z)
    obtain ⟨B', H', m', hkB, hg', c0, hc0, hf'⟩ := kv_swap h.bas hf0 hk hne
    have hLR : ∀ g, g ∈ (L1 ++ L2) ++ R ↔ g < X.N ∧ g ≠ f0 ∧ g ∉ B := fun g => by
      have hp : ((L1 ++ f0 :: L2) ++ R).Perm (f0 :: ((L1 ++ L2) ++ R)) := List.perm_iff_count.mpr fun a => by
        simp only [List.count_append, List.count_cons, List.count_nil]
        omega
      have hnd := hp.nodup_iff.mp h.nd
      have hm := (hp.mem_iff (a := g)).symm.trans (h.mem g)
      rw [List.mem_cons] at hm
      constructor
      · intro hg
        have := hm.mp (.inr hg)
        exact ⟨this.1, fun z => (List.nodup_cons.mp hnd).1 (by rw [← z]; exact hg), this.2⟩
      · intro ⟨a, b, c⟩
        exact (hm.mpr ⟨a, c⟩).resolve_left b
    have hnd0 : ((L1 ++ L2) ++ R).Nodup := by
      have hp : ((L1 ++ f0 :: L2) ++ R).Perm (f0 :: ((L1 ++ L2) ++ R)) := List.perm_iff_count.mpr fun a => by
        simp only [List.count_append, List.count_cons, List.count_nil]
        omega
      exact (List.nodup_cons.mp (hp.nodup_iff.mp h.nd)).2
    have hkn : k ∉ (L1 ++ L2) ++ R := fun z => by
      obtain ⟨a, b, c⟩ := (hLR k).mp z
      exact c (hkB b)
    have hp : ((L1 ++ L2) ++ (R ++ [k])).Perm (k :: ((L1 ++ L2) ++ R)) := List.perm_iff_count.mpr fun a => by
      simp only [List.count_append, List.count_cons, List.count_nil]
      omega
    have nel : ∀ g ∈ L1 ++ L2, g ≠ k := fun g hg z => hkn (by rw [← z]; exact List.mem_append_left _ hg)
    have ner : ∀ g ∈ R, g ≠ k := fun g hg z => hkn (by rw [← z]; exact List.mem_append_right _ hg)
    have hLm : ∀ g ∈ L1 ++ L2, g ∈ L1 ++ f0 :: L2 := fun i hi => by
      simp only [List.mem_append, List.mem_cons] at hi ⊢
      rcases hi with hi | hi
      · exact .inl hi
      · exact .inr (.inr hi)
    have lo0 := h.lo f0 hi0
    refine ⟨B', L1 ++ L2, R ++ [k], fun g => if g = k then ρ f0 else withL (ρ g) (ρ f0) k, H', hp.nodup_iff.mpr (List.nodup_cons.mpr ⟨hkn, hnd0⟩), fun g => ?_, ?_, ?_, fun g hg => ?_, fun g hg l hl => ?_, fun g hg => ?_, ?_⟩
    · rw [hp.mem_iff, List.mem_cons]
      constructor
      · rintro (rfl | hg)
        · exact ⟨hk, (m' g hk).mpr (.inl rfl)⟩
        · obtain ⟨a, b⟩ := (hLR g).mp hg
          exact ⟨a, (m' g a).mpr (.inr b)⟩
      · intro ⟨a, b⟩
        rcases (m' g a).mp b with z | z
        · exact .inl z
        · exact .inr ((hLR g).mpr ⟨a, z⟩)
    · show List.map _ (L1.map ρ ++ L2.map ρ) = _
      rw [← List.map_append, List.map_map]
      exact List.map_congr_left fun i hi => (if_neg (nel i hi)).symm
    · show List.map _ s.2 ++ [ρ f0] = _
      rw [h.r, List.map_append, List.map_map]
      congr 1
      · exact List.map_congr_left fun i hi => (if_neg (ner i hi)).symm
      · show _ = [if k = k then _ else _]
        rw [if_pos rfl]
    · show (if g = k then ρ f0 else withL (ρ g) (ρ f0) k).length = _ ∧ Prm (if g = k then ρ f0 else withL (ρ g) (ρ f0) k) ∧ Pro _ (if g = k then ρ f0 else withL (ρ g) (ρ f0) k) _ ∧ Ker X (if g = k then ρ f0 else withL (ρ g) (ρ f0) k)
      by_cases z : g = k
      · rw [if_pos z, z]
        exact ⟨r1, r2, r3.scale hc0 fun l _ => hf' l, r4⟩
      · rw [if_neg z]
        have hgm : g ∈ (L1 ++ L2) ++ R := by
          rcases List.mem_cons.mp (hp.mem_iff.mp hg) with q | q
          · exact absurd q z
          · exact q
        obtain ⟨g1, g2, g3⟩ := (hLR g).mp hgm
        obtain ⟨q1, q2, q3, q4⟩ := h.row g ((h.mem g).mpr ⟨g1, g3⟩)
        obtain ⟨c, hc, ec⟩ := hg' g g2 g3 g1
        exact ⟨with_len q1 r1, less_prm _, (q3.with r3 q1 r1 hk).scale hc fun l _ => ec l, q4.with r4 q1 r1⟩
    · obtain ⟨g1, g2, g3⟩ := (hLR g).mp (List.mem_append_left _ hg)
      obtain ⟨c, hc, ec⟩ := hg' g g2 g3 g1
      refine cancel0 hc ?_
      rw [← ec l]
      rcases Nat.lt_succ_iff_lt_or_eq.mp hl with hl | rfl
      · rw [h.lo g (hLm g hg) l hl, lo0 l hl]
        omega
      · rw [Int.mul_comm, Int.sub_self]
    · rcases List.mem_append.mp hg with hg | hg
      · obtain ⟨a, b⟩ := h.hi g hg
        refine ⟨by omega, fun l hl => ?_⟩
        obtain ⟨g1, g2, g3⟩ := (hLR g).mp (List.mem_append_right _ hg)
        obtain ⟨c, hc, ec⟩ := hg' g g2 g3 g1
        refine cancel0 hc ?_
        rw [← ec l, b l hl, lo0 l (by omega)]
        omega
      · obtain rfl := List.mem_singleton.mp hg
        exact ⟨by omega, fun l hl => cancel0 hc0 (by rw [← hf' l]; exact lo0 l hl)⟩
    · rw [List.pairwise_append]
      refine ⟨h.inc, List.pairwise_singleton _ _, fun a ha b hb => ?_⟩
      obtain rfl := List.mem_singleton.mp hb
      exact (h.hi a ha).1
end Mx
end L3
end
section
namespace L3
open PySem PySem.Spec L2
open Dt
theorem upr_len {row : List Int} : (uprL row).length = row.length := by
  unfold uprL
  split
  · rfl
  · rw [List.length_map]
theorem upr_get {row : List Int} : ∃ c : Int, (c = 1 ∨ c = -1) ∧ (∀ l, (uprL row).getD l 0 = c * row.getD l 0) ∧ (row.getD (ldN row) 0 ≠ 0 → 0 < (uprL row).getD (ldN row) 0) := by
  unfold uprL
  by_cases h : row.getD (ldN row) 0 > 0
  · rw [if_pos h]
    exact ⟨1, .inl rfl, fun l => (Int.one_mul _).symm, fun _ => h⟩
  · rw [if_neg h]
    have e : ∀ l, (row.map fun x => -x).getD l 0 = -1 * row.getD l 0 := fun l => by
      rw [List.getD_eq_getElem?_getD, List.getElem?_map, List.getD_eq_getElem?_getD]
      cases row[l]? with
      | none => rfl
      | some x => show -x = -1 * x; omega
    exact ⟨-1, .inr rfl, e, fun ne => by rw [e]; omega⟩
theorem upr_gcd {row : List Int} (h : gcdL row = 1) : gcdL (uprL row) = 1 := by
  obtain ⟨c, hc, e, _⟩ := upr_get (row := row)
  have : gcdL (uprL row) ∣ gcdL row := dvd_gcdL fun x hx => by
    obtain ⟨i, hi, rfl⟩ := List.getElem_of_mem hx
    have h1 := e i
    have hm : (uprL row).getD i 0 ∈ uprL row := getD_in (by rw [upr_len]; exact hi)
    have h2 := gcdL_dvdN hm
    rw [h1, List.getD_eq_getElem?_getD, List.getElem?_eq_getElem hi] at h2
    have h3 : (c * row[i]).natAbs = row[i].natAbs := by rcases hc with rfl | rfl <;> omega
    have h4 : gcdL (uprL row) ∣ (c * row[i]).natAbs := h2
    rw [h3] at h4
    exact h4
  rw [h] at this
  exact Nat.dvd_one.mp this
namespace Mx
variable {X : Mx}
/-- what the first taking off tells -/
structure Fst (X : Mx) (B L R : List Nat) (ρ : Nat → List Int) : Prop where
  st : St1 X X.N (stR X.rws X.N) B L R ρ
variable {B L R : List Nat} {ρ : Nat → List Int}
theorem Fst.red (h : Fst X B L R ρ) : redL X.rws X.N = R.map fun i => uprL (ρ i) := by
  unfold redL
  rw [h.st.r, List.map_map]; rfl
/-- a found row: its leading place is its label -/
theorem Fst.row (h : Fst X B L R ρ) {i : Nat} (hi : i ∈ R) : ∃ b, B[i]? = some b ∧ b < X.N ∧ i < X.M ∧ ldN (ρ i) = b ∧ ldN (uprL (ρ i)) = b ∧ 0 < (uprL (ρ i)).getD b 0 ∧ (uprL (ρ i)).length = X.N ∧ Pro X.N (uprL (ρ i)) (X.E B i) ∧ Prm (uprL (ρ i)) := by
  obtain ⟨b, e1, _, e2, e3⟩ := h.st.hi i hi
  have hM := (h.st.mem i).mp (List.mem_append_right _ hi)
  obtain ⟨r1, r2, r3⟩ := h.st.row i hM
  have z : ∀ l, l < b → (ρ i).getD l 0 = 0 := fun l hl => (r3.zero (by omega)).mpr (e3 l hl)
  have nz : (ρ i).getD b 0 ≠ 0 := fun q => h.st.bas.d (by rw [← h.st.bas.self e1]; exact (r3.zero e2).mp q)
  have ld := ldN_eq z nz
  obtain ⟨c, hc, e, up⟩ := upr_get (row := ρ i)
  have cn : c ≠ 0 := by rcases hc with rfl | rfl <;> decide
  have cc : c * c = 1 := by rcases hc with rfl | rfl <;> rfl
  have hup : 0 < (uprL (ρ i)).getD b 0 := by rw [← ld]; exact up (by rw [ld]; exact nz)
  refine ⟨b, e1, e2, hM, ld, ldN_eq (fun l hl => by rw [e, z l hl, Int.mul_zero]) (by omega), hup, by rw [upr_len]; exact r1, ?_, ?_⟩
  · obtain ⟨s, t, hs, ht, k⟩ := r3
    refine ⟨s * c, t, fun q => ?_, ht, fun l hl => ?_⟩
    · rcases Int.mul_eq_zero.mp q with q | q
      · exact hs q
      · exact cn q
    · rw [e, ← k l hl, Int.mul_assoc, ← Int.mul_assoc c, cc, Int.one_mul]
  · rcases r2 with r2 | r2
    · exact absurd (r2 _ (getD_in (by omega))) nz
    · exact .inr (upr_gcd r2)
theorem Fst.lds (h : Fst X B L R ρ) : (redL X.rws X.N).map ldN = R.map fun i => B[i]?.getD 0 := by
  rw [h.red, List.map_map]
  refine List.map_congr_left fun i hi => ?_
  obtain ⟨b, e1, _, _, _, e2, _⟩ := h.row hi
  show ldN (uprL (ρ i)) = _
  rw [e2, e1]; rfl
theorem Fst.nd (h : Fst X B L R ρ) : ((redL X.rws X.N).map ldN).Nodup := by
  rw [h.lds]
  have := h.st.inc
  refine List.pairwise_map.mpr (this.imp fun hab => by omega)
/-- a place that leads none is none of the basis -/
theorem Fst.free (h : Fst X B L R ρ) {f : Nat} (hf : f < X.N) : f ∉ (redL X.rws X.N).map ldN ↔ f ∉ B := by
  rw [h.lds]
  refine not_congr ⟨fun hm => ?_, fun hm => ?_⟩
  · obtain ⟨i, hi, e⟩ := List.mem_map.mp hm
    obtain ⟨b, e1, _⟩ := h.row hi
    rw [e1] at e
    have e : b = f := e
    rw [← e]
    exact List.mem_of_getElem? e1
  · obtain ⟨i, hi⟩ := List.getElem?_of_mem hm
    have hiM : i < X.M := by rw [← h.st.bas.len]; exact (List.getElem?_eq_some_iff.mp hi).1
    rcases List.mem_append.mp ((h.st.mem i).mpr hiM) with z | z
    · obtain ⟨⟨b, e1, e2⟩, _⟩ := h.st.lo i z
      rw [hi] at e1
      cases e1
      omega
    · exact List.mem_map.mpr ⟨i, z, by rw [hi]; rfl⟩
end Mx
end L3
end
section
namespace L3
open PySem PySem.Spec L2
end L3
end
section
namespace L3
open PySem PySem.Spec L2
open Dt
def hgtQ (B : Book) (k : Nat) : List Int := (List.range B.rooms.toNat).map fun r => (if ((r : Nat) : Int) = (wAt B (k : Nat)).a then 1 else 0) - (if ((r : Nat) : Int) = (wAt B (k : Nat)).b then 1 else 0)
def hrow (B : Book) (k : Nat) : List Int := ((wAt B (k : Nat)).gs.map fun x => -x) ++ hgtQ B k
def hX (B : Book) : Mx := ⟨B.ways.length, B.purses.toNat + B.rooms.toNat, fun k l => (hrow B k).getD l 0⟩
variable {B : Book} {mr mw : Int}
end L3
end
section
namespace L3
open PySem PySem.Spec L2
open Dt
end L3
end
section
namespace L3
open PySem PySem.Spec L2
open Dt
structure Way.OkS (w : Way) (rooms purses : Int) : Prop where
  a0 : 0 ≤ w.a
  a1 : w.a < rooms
  b0 : 0 ≤ w.b
  b1 : w.b < rooms
  len : (w.gs.length : Int) = purses
  g : ∀ x ∈ w.gs, -33 ≤ x ∧ x ≤ 33
structure Book.OkS (b : Book) (mr mw : Int) : Prop where
  r0 : 1 ≤ b.rooms
  r1 : b.rooms ≤ mr
  p0 : 1 ≤ b.purses
  p1 : b.purses ≤ 6
  n : (b.ways.length : Int) ≤ mw
  w : ∀ x ∈ b.ways, x.OkS b.rooms b.purses
theorem Way.OkS.ok {w : Way} {r p : Int} (h : w.OkS r p) : w.Ok r p := ⟨h.a0, h.a1, h.b0, h.b1, h.len, fun x hx => by have := h.g x hx; omega⟩
theorem Book.OkS.ok {b : Book} {mr mw : Int} (h : b.OkS mr mw) : b.Ok mr mw := ⟨h.r0, h.r1, h.p0, h.p1, h.n, fun x hx => (h.w x hx).ok⟩
/-- rows in pairs -/
inductive F2 (R : List Int → List Int → Prop) : List (List Int) → List (List Int) → Prop
  | nil : F2 R [] []
  | cons {a b : List Int} {s t : List (List Int)} : R a b → F2 R s t → F2 R (a :: s) (b :: t)
theorem F2.map {R : List Int → List Int → Prop} {f g : List Int → List Int} {s t : List (List Int)} (h : F2 R s t) (k : ∀ a b, R a b → R (f a) (g b)) : F2 R (s.map f) (t.map g) := by
  induction h with
  | nil => exact .nil
  | cons h _ ih => exact .cons (k _ _ h) ih
theorem F2.left {R : List Int → List Int → Prop} {s t : List (List Int)} (h : F2 R s t) : ∀ a ∈ s, ∃ b ∈ t, R a b := by
  induction h with
  | nil => intro a ha; cases ha
  | cons h _ ih =>
    intro a ha
    rcases List.mem_cons.mp ha with rfl | ha
    · exact ⟨_, List.mem_cons_self, h⟩
    · obtain ⟨b, hb, hr⟩ := ih a ha
      exact ⟨b, List.mem_cons_of_mem _ hb, hr⟩
theorem F2.len {R : List Int → List Int → Prop} {s t : List (List Int)} (h : F2 R s t) : s.length = t.length := by
  induction h with
  | nil => rfl
  | cons _ _ ih => rw [List.length_cons, List.length_cons, ih]
structure RelA (n : Nat) (a b : List Int) : Prop where
  la : a.length = n
  lb : b.length = n
  p : Pro n a (fun l => b.getD l 0)
  s : Prm a ∨ ∀ x ∈ a, x.natAbs ≤ 99
theorem RelA.with {n p : Nat} (hp : p < n) {a b f g : List Int} (h : RelA n a b) (k : RelA n f g) : RelA n (withL a f p) (withL b g p) := by
  refine ⟨with_len h.la k.la, with_len h.lb k.lb, ?_, .inl (less_prm _)⟩
  have g0 := mx_pos (rawL b g p)
  refine (h.p.with k.p h.la k.la hp).scale (c := ((max 1 (gcdL (rawL b g p)) : Nat) : Int)) (by omega) fun l hl => ?_
  have hlr : l < (rawL b g p).length := by rw [raw_len h.lb k.lb]; exact hl
  show b.getD l 0 * g.getD p 0 - g.getD l 0 * b.getD p 0 = _ * (withL b g p).getD l 0
  rw [← raw_get h.lb k.lb hl, ← less_get hlr, Int.mul_comm]; rfl
end L3
end
section
namespace L3
open PySem PySem.Spec L2
open Dt
end L3
end
section
namespace L3
open PySem PySem.Spec L2
open Dt
def turnQ (k : Int) (x : Tw × List Int) : List Tw := .times k x.1 :: (if x.2 = [] then [] else [.row (x.2.map Tw.way)])
def turnT (k : Int) (ts : List (Tw × List Int)) : Tw := .times k (.row (ts.flatMap (turnQ k)))
/-- a purse's number of a told walk -/
theorem bhF_gs {f g : Fa} {n p : Nat} (h : FaOk n f) (k : FaOk n g) (hp : p < n) : (bhF f g).gs.getD p 0 = f.gs.getD p 0 + g.gs.getD p 0 := by
  show (addL f.gs g.gs).getD p 0 = _
  have h1 := h.g
  have h2 := k.g
  exact addL_getD (by omega) (by omega)
theorem bhF_ns {f g : Fa} {n p : Nat} (h : FaOk n f) (k : FaOk n g) (hp : p < n) : (bhF f g).ns.getD p 0 = mx2 (f.ns.getD p 0) (g.ns.getD p 0 - f.gs.getD p 0) := by
  have h1 := h.g
  have h2 := h.l
  have h3 := k.l
  show ((f.ns.zip (g.ns.zip f.gs)).map fun p => mx2 p.1 (p.2.1 - p.2.2)).getD p 0 = _
  rw [List.getD_eq_getElem?_getD, List.getElem?_map, List.getElem?_eq_getElem (by rw [List.length_zip, List.length_zip]; omega), List.getElem_zip, List.getElem_zip]
  rw [List.getD_eq_getElem?_getD, List.getElem?_eq_getElem (by omega), List.getD_eq_getElem?_getD, List.getElem?_eq_getElem (by omega), List.getD_eq_getElem?_getD, List.getElem?_eq_getElem (by omega)]
  rfl
/-- what a row of things needs, in one purse -/
structure NdI (f : Fa) (n p : Nat) (k M L : Int) : Prop where
  ok : FaOk n f
  g : -(k * L) ≤ f.gs.getD p 0
  n : f.ns.getD p 0 ≤ M + k * L
theorem NdI.push {f g : Fa} {n p : Nat} {k M L m a : Int} (h : NdI f n p k M L) (hp : p < n) (hg : FaOk n g) (g1 : -(k * a) ≤ g.gs.getD p 0) (n1 : g.ns.getD p 0 ≤ m + k * a) (a0 : 0 ≤ k * a) {M' : Int} (m1 : M ≤ M') (m2 : m ≤ M') : NdI (bhF f g) n p k M' (L + a) := by
  have e : k * (L + a) = k * L + k * a := Int.mul_add ..
  have h1 := h.g
  have h2 := h.n
  refine ⟨bhF_ok h.ok hg, ?_, ?_⟩
  · rw [bhF_gs h.ok hg hp, e]; omega
  · rw [bhF_ns h.ok hg hp, e]
    unfold mx2
    split <;> omega
variable {B : Book} {mr mw : Int}
end L3
end
section
namespace L3
open PySem PySem.Spec L2
open Dt
variable {B : Book} {mr mw : Int} {ns cs : List Int} {ts : List (Tw × List Int)} {C : Int}
theorem sum_ge1 {cs : List Int} (h0 : ∀ c ∈ cs, 0 ≤ c) {c : Int} (hc : c ∈ cs) (h1 : 1 ≤ c) : 1 ≤ cs.sum := by
  induction cs with
  | nil => cases hc
  | cons x xs ih =>
    rw [List.sum_cons]
    have x0 := h0 x List.mem_cons_self
    have s0 : ∀ {l : List Int}, (∀ c ∈ l, 0 ≤ c) → 0 ≤ l.sum := fun {l} => by
      induction l with
      | nil => intro _; exact Int.le_refl _
      | cons y l ihl =>
        intro h
        rw [List.sum_cons]
        have := h y List.mem_cons_self
        have := ihl fun c hc => h c (List.mem_cons_of_mem _ hc)
        omega
    rcases List.mem_cons.mp hc with rfl | hc
    · have := s0 fun c hc => h0 c (List.mem_cons_of_mem _ hc)
      omega
    · have := ih (fun c hc => h0 c (List.mem_cons_of_mem _ hc)) hc
      omega
theorem SquA.sub (h : SquA B ns cs ts C) : ns.Sublist (everyW B.ways.length) := ring_sub h.r
theorem SquA.circ (hB : B.Ok mr mw) (h : SquA B ns cs ts C) : Circ B cs := h.w.ok.circ (wsIn_ok hB)
theorem posW_iffQ {k : Int} : k ∈ posW B.ways.length cs ↔ ∃ n : Nat, n < B.ways.length ∧ k = (n : Nat) ∧ 0 < cs.getD n 0 := by
  unfold posW
  simp only [List.mem_map, List.mem_filter, List.mem_range, decide_eq_true_eq]
  constructor
  · rintro ⟨n, ⟨h1, h2⟩, rfl⟩
    exact ⟨n, h1, rfl, h2⟩
  · rintro ⟨n, h1, rfl, h2⟩
    exact ⟨n, ⟨h1, h2⟩, rfl⟩
theorem SquA.turn (hB : B.Ok mr mw) (h1 : mr ≤ 16) (h2 : mw ≤ 60) (h : SquA B ns cs ts C) {i : Nat} {x : Tw × List Int} (hx : ts[i]? = some x) :
    OkT B (2 ^ 400) 3 x.1 ∧ FaOk B.purses.toNat (x.1.fa B) ∧ (∀ j ∈ x.2, inW B j = true) ∧ x.2.length ≤ 10000 ∧ (x.1.fa B).gs = gainsR B (resC B cs ((prtR B cs).getD i [])) ∧ 1 ≤ (x.1.fa B).l ∧ ChT B x.1 (rmR B cs i) (rmR B cs i) ∧ Pth B (rmR B cs i) x.2 (rmR B cs ((i + 1) % (prtR B cs).length)) := by
  have hT := h.a.t i x hx
  have r1 := hB.r1
  have wgl : ∀ w ∈ B.ways, w.gs.length = B.purses.toNat := fun w hw => by have := (hB.w w hw).len; omega
  have hok : OkT B (2 ^ 400) 3 x.1 := hT.t.ok.more (by
    have : (2 : Int) ^ 300 ≤ 2 ^ 400 := by decide +kernel
    exact this)
  have hil := (List.getElem?_eq_some_iff.mp hx).1
  have hrl : (resC B cs ((prtR B cs).getD i [])).length = B.ways.length := by unfold resC; simp
  obtain ⟨f1, f2, _, _⟩ := hT.t.facts hB hrl
  have hip : i < (prtR B cs).length := by rw [← h.a.n]; exact hil
  have hPm : (prtR B cs).getD i [] ∈ ringsL B (posW B.ways.length cs) := by
    rw [List.getD_eq_getElem?_getD, List.getElem?_eq_getElem hip]
    exact List.getElem_mem hip
  refine ⟨hok, fa_ok wgl hok, fun j hj => everyW_mem (h.sub.subset (hT.l.w j hj)), by have := hT.l.n; omega, f2, ?_, hT.t.ch, hT.l.p⟩
  rw [f1]
  obtain ⟨k, hk⟩ := List.exists_mem_of_ne_nil _ (ring_ne hPm)
  obtain ⟨n, hn, rfl, hpos⟩ := posW_iffQ.mp ((ring_sub hPm).subset hk)
  have hg := resC_get (B := B) (cs := cs) (P := (prtR B cs).getD i []) hn
  rw [if_pos hk] at hg
  have hz := (h.circ hB).z
  refine sum_ge1 (fun c hc => ?_) (getD_in (ns := resC B cs ((prtR B cs).getD i [])) (j := n) (by omega)) (by omega)
  unfold resC at hc
  obtain ⟨m, hm, rfl⟩ := List.mem_map.mp hc
  have h0 := (h.circ hB).at m
  split
  · omega
  · omega
/-- the way of a turned walk: back to its first room -/
theorem SquA.ch (hB : B.Ok mr mw) (h1 : mr ≤ 16) (h2 : mw ≤ 60) (h : SquA B ns cs ts C) (hne : ts ≠ []) (k : Int) : ChT B (turnT k ts) (rmR B cs 0) (rmR B cs 0) := by
  have hm : 0 < ts.length := List.length_pos_iff.mpr hne
  have key : ∀ j i, i + j = ts.length → ChTs B ((ts.drop i).flatMap (turnQ k)) (rmR B cs (i % ts.length)) (rmR B cs 0) := fun j => by
    induction j with
    | zero =>
      intro i hi
      rw [List.drop_of_length_le (by omega), show i = ts.length by omega, Nat.mod_self]
      show ChTs B [] _ _
      rw [ChTs]
    | succ j ih =>
      intro i hi
      have hil : i < ts.length := by omega
      have hx : ts[i]? = some ts[i] := List.getElem?_eq_getElem hil
      obtain ⟨_, _, _, _, _, _, c1, c2⟩ := h.turn hB h1 h2 hx
      rw [← h.a.n] at c2
      have := ih (i + 1) (by omega)
      rw [Nat.mod_eq_of_lt hil, List.drop_eq_getElem_cons hil, List.flatMap_cons]
      refine ChTs.app (b := rmR B cs ((i + 1) % ts.length)) ?_ this
      unfold turnQ
      rw [ChTs]
      refine ⟨rmR B cs i, by rw [ChT]; exact ⟨c1, .inr rfl⟩, ?_⟩
      by_cases e : ts[i].2 = []
      · rw [if_pos e, ChTs]
        rw [e] at c2
        exact c2
      · rw [if_neg e, ChTs]
        refine ⟨_, by rw [ChT]; exact ⟨by simpa using e, chTs_path c2⟩, by rw [ChTs]⟩
  have h0 := key ts.length 0 (by omega)
  rw [Nat.zero_mod, List.drop_zero] at h0
  unfold turnT
  rw [ChT, ChT]
  refine ⟨⟨?_, h0⟩, .inr rfl⟩
  obtain ⟨x, ts', rfl⟩ := List.exists_cons_of_ne_nil hne
  rw [List.flatMap_cons]
  unfold turnQ
  simp
end L3
end
section
namespace L3
open PySem PySem.Spec L2
open Dt
end L3
end
section
namespace L3
open PySem PySem.Spec L2
open Dt
variable {B : Book}
theorem Lays.all {f : List LayX} {w : List (List Int)} (h : Lays B f w) : (∀ x ∈ f, x.1.Sublist (everyW B.ways.length) ∧ ∃ j, j ≤ x.1.length ∧ TotI B x.1 j x.2.1 x.2.2) ∧ ∀ r ∈ ringsL B (everyW B.ways.length), r ∈ w ∨ ∃ x ∈ f, x.1 = r := by
  induction h with
  | start => exact ⟨fun x hx => (nomatch hx), fun r hr => .inl hr⟩
  | step hL hj hT ih =>
    rename_i f r w ws hs j
    obtain ⟨i1, i2⟩ := ih
    refine ⟨fun x hx => ?_, fun q hq => ?_⟩
    · rcases List.mem_append.mp hx with hx | hx
      · exact i1 x hx
      · rw [List.mem_singleton.mp hx]
        exact ⟨(hL.wait r List.mem_cons_self).sub, j, hj, hT⟩
    · rcases i2 q hq with h | ⟨x, hx, e⟩
      · rcases List.mem_cons.mp h with rfl | h
        · exact .inr ⟨_, List.mem_append_right _ List.mem_cons_self, rfl⟩
        · exact .inl (List.mem_append_left _ h)
      · exact .inr ⟨x, List.mem_append_left _ hx, e⟩
theorem SquA.len {ns cs : List Int} {ts : List (Tw × List Int)} {C : Int} (h : SquA B ns cs ts C) : ts.length ≤ B.ways.length := by
  rw [h.a.n]
  have h1 := rings_le B (posW B.ways.length cs)
  have h2 : (posW B.ways.length cs).length ≤ B.ways.length := by
    unfold posW
    rw [List.length_map]
    exact Nat.le_trans (List.length_filter_le _ _) (by rw [List.length_range]; exact Nat.le_refl _)
  have e : (prtR B cs).length = (ringsL B (posW B.ways.length cs)).length := rfl
  omega
end L3
end
section
namespace L3
open PySem PySem.Spec L2
open Dt
end L3
end
section
namespace L3
open PySem PySem.Spec L2
end L3
end
section
namespace L3
open PySem PySem.W PySem.Calls PyProof.Rows PyProof.V PySem.Spec L2
end L3
end
section
namespace L3
open PySem PySem.W PySem.Calls PyProof.Rows PyProof.V PySem.Spec L2
def getA {α : Type} (kvs : List (List Int × α)) (k : List Int) : Option α := (kvs.find? fun q => decide (q.1 = k)).map (·.2)
def putA {α : Type} (kvs : List (List Int × α)) (k : List Int) (v : α) : List (List Int × α) := if (getA kvs k).isSome then kvs.map (fun q => if q.1 = k then (q.1, v) else q) else kvs ++ [(k, v)]
def allA {α : Type} (kvs : List (List Int × α)) : List (List Int × α) := kvs.foldl (fun acc q => putA acc q.1 q.2) []
section
variable {α β : Type} {R : α → β → Prop}
abbrev PrA (R : α → β → Prop) : List (List Int × α) → List (List Int × β) → Prop := Paired fun p q => p.1 = q.1 ∧ R p.2 q.2
theorem PrA.get {xs : List (List Int × α)} {ys : List (List Int × β)} (r : PrA R xs ys) (k : List Int) : (getA xs k = none ∧ getA ys k = none) ∨ ∃ x y, getA xs k = some x ∧ getA ys k = some y ∧ R x y := by
  induction r with
  | nil => exact .inl ⟨rfl, rfl⟩
  | @cons p q ps qs h t ih =>
    obtain ⟨h1, h2⟩ := h
    by_cases e : p.1 = k
    · have e' : q.1 = k := h1.symm.trans e
      exact .inr ⟨p.2, q.2, by simp [getA, List.find?_cons, e], by simp [getA, List.find?_cons, e'], h2⟩
    · have e' : ¬ q.1 = k := fun z => e (h1.trans z)
      have a : getA (p :: ps) k = getA ps k := by simp [getA, List.find?_cons, e]
      have b : getA (q :: qs) k = getA qs k := by simp [getA, List.find?_cons, e']
      rw [a, b]; exact ih
theorem PrA.put {xs : List (List Int × α)} {ys : List (List Int × β)} (r : PrA R xs ys) (k : List Int) {x : α} {y : β} (h : R x y) : PrA R (putA xs k x) (putA ys k y) := by
  unfold putA
  rcases r.get k with ⟨h1, h2⟩ | ⟨u, v, h1, h2, _⟩
  · rw [h1, h2]
    exact Paired.snoc r ⟨rfl, h⟩
  · rw [h1, h2]
    rw [if_pos (show (some u).isSome = true from rfl), if_pos (show (some v).isSome = true from rfl)]
    clear h1 h2
    induction r with
    | nil => exact .nil
    | @cons p q ps qs h0 t ih =>
      rw [List.map_cons, List.map_cons]
      refine .cons ?_ ih
      obtain ⟨h1, h2⟩ := h0
      by_cases e : p.1 = k
      · rw [if_pos e, if_pos (h1.symm.trans e)]; exact ⟨h1, h⟩
      · rw [if_neg e, if_neg (fun z => e (h1.trans z))]; exact ⟨h1, h2⟩
theorem PrA.all {xs : List (List Int × α)} {ys : List (List Int × β)} (r : PrA R xs ys) : PrA R (allA xs) (allA ys) := by
  have go : ∀ {xs : List (List Int × α)} {ys : List (List Int × β)} {as : List (List Int × α)} {bs : List (List Int × β)}, PrA R as bs → PrA R xs ys → PrA R (xs.foldl (fun acc q => putA acc q.1 q.2) as) (ys.foldl (fun acc q => putA acc q.1 q.2) bs) := by
    intro xs ys as bs a r
    induction r generalizing as bs with
    | nil => exact a
    | @cons p q ps qs h t ih =>
      rw [List.foldl_cons, List.foldl_cons, h.1]
      exact ih (PrA.put a _ h.2)
  exact go .nil r
end
end L3
end
section
namespace L3
open PySem PySem.Spec PyProof.Rows L2
end L3
end
section
set_option exponentiation.threshold 3000
namespace L3
open PySem PySem.Spec L2
open Dt
theorem nd_every (n : Nat) : (everyW n).Nodup := (everyW_up n).imp fun z e => by omega
noncomputable def kidsL (B : Book) (kn : List LayX) (r : List Int) : Option (List (List Int)) := match getA kn r with
  | none => none
  | some t => if (r.all fun k => decide (0 ≤ fallL B t.1 t.2 k)) = true ∧ lowL B t.1 t.2 r ≠ [] then some (ringsL B (restL B t.1 t.2 r)) else none
/-- the stack with its end first -/
noncomputable def runL (B : Book) (kn : List LayX) : Nat → List (List Int) → Nat → Option Nat
  | _, [], m => some m
  | 0, _ :: _, _ => none
  | n + 1, r :: st, m => match kidsL B kn r with
    | none => none
    | some ks => runL B kn n (ks.reverse ++ st) (m + 1)
noncomputable def lookL (B : Book) (kn : List LayX) : Option Nat := runL B kn B.ways.length (ringsL B (everyW B.ways.length)).reverse 0
def totl (st : List (List Int)) : Nat := (st.map List.length).sum
theorem totl_cons (r : List Int) (st : List (List Int)) : totl (r :: st) = r.length + totl st := by unfold totl; rw [List.map_cons, List.sum_cons]
theorem totl_append (a b : List (List Int)) : totl (a ++ b) = totl a + totl b := by unfold totl; rw [List.map_append, List.sum_append]
theorem totl_rev (a : List (List Int)) : totl a.reverse = totl a := by unfold totl; rw [List.map_reverse, List.sum_reverse]
theorem kids_facts {B : Book} {kn : List LayX} {r : List Int} {ks : List (List Int)} (hr : RingE B r) (h : kidsL B kn r = some ks) : ∃ t, getA kn r = some t ∧ (∀ k ∈ r, 0 ≤ fallL B t.1 t.2 k) ∧ lowL B t.1 t.2 r ≠ [] ∧ ks = ringsL B (restL B t.1 t.2 r) ∧ totl ks < r.length ∧ ∀ s ∈ ks, RingE B s := by
  unfold kidsL at h
  split at h
  · cases h
  · rename_i t e
    split at h
    · rename_i c
      cases h
      have nd : r.Nodup := hr.sub.nodup (nd_every _)
      refine ⟨t, e, fun k hk => of_decide_eq_true (List.all_eq_true.mp c.1 k hk), c.2, rfl, ?_, fun s hs => ringE_of ((rest_sub _ _ _ _).trans hr.sub) hs⟩
      have h1 := rings_sum (B := B) (ws := restL B t.1 t.2 r) ((rest_sub _ _ _ _).nodup nd)
      have h2 : (restL B t.1 t.2 r).length < r.length := by
        rcases Nat.lt_or_ge (restL B t.1 t.2 r).length r.length with q | q
        · exact q
        · have e3 := (rest_sub B t.1 t.2 r).eq_of_length_le q
          obtain ⟨k, hk⟩ := List.exists_mem_of_ne_nil _ c.2
          have hk2 := hk
          unfold lowL at hk2
          rw [List.mem_filter] at hk2
          have : k ∈ restL B t.1 t.2 r := by rw [e3]; exact hk2.1
          have := (rest_iff.mp this).2
          simp at hk2
          omega
      unfold totl
      omega
    · cases h
/-- a ring's tree has so many rings -/
inductive Tr (B : Book) (kn : List LayX) : List (List Int) → Nat → Prop
  | nil : Tr B kn [] 0
  | cons {r : List Int} {st ks : List (List Int)} {n m : Nat} : kidsL B kn r = some ks → Tr B kn ks n → Tr B kn st m → Tr B kn (r :: st) (1 + n + m)
theorem Tr.append {B : Book} {kn : List LayX} {a b : List (List Int)} {n m : Nat} (h : Tr B kn a n) (g : Tr B kn b m) : Tr B kn (a ++ b) (n + m) := by
  induction h with
  | nil => rw [Nat.zero_add]; exact g
  | @cons r st ks n1 m1 e h1 h2 _ ih2 =>
    have := Tr.cons e h1 ih2
    rw [show 1 + n1 + m1 + m = 1 + n1 + (m1 + m) by omega]
    exact this
theorem Tr.split {B : Book} {kn : List LayX} : ∀ {a b : List (List Int)} {n : Nat}, Tr B kn (a ++ b) n → ∃ n1 n2, n = n1 + n2 ∧ Tr B kn a n1 ∧ Tr B kn b n2
  | [], b, n, h => ⟨0, n, (Nat.zero_add _).symm, .nil, h⟩
  | r :: a, b, _, .cons (n := n1) (m := m1) e h1 h2 => by
    obtain ⟨x, y, e1, g1, g2⟩ := Tr.split (a := a) h2
    exact ⟨1 + n1 + x, y, by omega, .cons e h1 g1, g2⟩
theorem Tr.reverse {B : Book} {kn : List LayX} {a : List (List Int)} {n : Nat} (h : Tr B kn a n) : Tr B kn a.reverse n := by
  induction h with
  | nil => exact .nil
  | @cons r st ks n1 m1 e h1 h2 _ ih2 =>
    rw [List.reverse_cons]
    have := ih2.append (.cons e h1 .nil)
    rw [show 1 + n1 + m1 = m1 + (1 + n1 + 0) by omega]
    exact this
theorem Lays.tr {B : Book} {kn : List LayX} {f : List LayX} {w : List (List Int)} (h : Lays B f w) : ∀ {s : Nat}, (∀ x ∈ f, getA kn x.1 = some x.2) → Tr B kn w s → Tr B kn (ringsL B (everyW B.ways.length)) (f.length + s) := by
  induction h with
  | start => intro s _ ht; rw [List.length_nil, Nat.zero_add]; exact ht
  | @step f r w ws hs j hl hj ht ih =>
    intro s hf htr
    obtain ⟨n1, n2, e, g1, g2⟩ := htr.split
    have ek : kidsL B kn r = some (ringsL B (restL B ws hs r)) := by
      unfold kidsL
      rw [hf (r, ws, hs) (by simp)]
      refine if_pos ⟨List.all_eq_true.mpr fun k hk => decide_eq_true (ht.f k hk), fun e0 => ?_⟩
      obtain ⟨i, hi, hp⟩ := ht.p
      have : i ∈ lowL B ws hs r := by
        unfold lowL
        rw [List.mem_filter]
        exact ⟨hi, decide_eq_true hp⟩
      rw [e0] at this
      cases this
    have := ih (fun x hx => hf x (List.mem_append_left _ hx)) (.cons ek g2 g1)
    rw [List.length_append, List.length_cons, List.length_nil, show f.length + (0 + 1) + s = f.length + (1 + n2 + n1) by omega]
    exact this
theorem Lays.len {B : Book} {f : List LayX} {w : List (List Int)} (h : Lays B f w) : f.length + totl w ≤ B.ways.length := by
  induction h with
  | start =>
    have h1 := rings_sum (B := B) (ws := everyW B.ways.length) (nd_every _)
    have h2 : (everyW B.ways.length).length = B.ways.length := by unfold everyW; simp
    rw [List.length_nil]
    unfold totl
    omega
  | @step f r w ws hs j hl hj ht ih =>
    have hr := hl.wait r List.mem_cons_self
    have h1 := rings_sum (B := B) (ws := restL B ws hs r) ((rest_sub _ _ _ _).nodup (hr.sub.nodup (nd_every _)))
    have h2 : (restL B ws hs r).length < r.length := by
      obtain ⟨i, hi, hp⟩ := ht.p
      rcases Nat.lt_or_ge (restL B ws hs r).length r.length with q | q
      · exact q
      · have e3 := (rest_sub B ws hs r).eq_of_length_le q
        have : i ∈ restL B ws hs r := by rw [e3]; exact hi
        exact absurd hp (rest_iff.mp this).2
    rw [totl_cons] at ih
    rw [totl_append, List.length_append, List.length_cons, List.length_nil]
    have h3 : totl (ringsL B (restL B ws hs r)) ≤ (restL B ws hs r).length := h1
    omega
end L3
end
section
set_option exponentiation.threshold 3000
namespace L3
open PySem L2
open Dt
theorem run_step {B : Book} {kn : List LayX} {r : List Int} {st ks : List (List Int)} {n m : Nat} (hr : RingE B r) (hl : totl (r :: st) ≤ n) (e : kidsL B kn r = some ks) : ∃ n', runL B kn n (r :: st) m = runL B kn n' (ks.reverse ++ st) (m + 1) ∧ totl (ks.reverse ++ st) ≤ n' ∧ n' < n ∧ ∀ s ∈ ks, RingE B s := by
  obtain ⟨t, _, _, _, _, hlt, hks⟩ := kids_facts hr e
  rw [totl_cons] at hl
  have : 0 < r.length := List.length_pos_iff.mpr hr.ne
  cases n with
  | zero => omega
  | succ n =>
    refine ⟨n, ?_, by rw [totl_append, totl_rev]; omega, by omega, hks⟩
    show (match kidsL B kn r with | none => none | some ks => runL B kn n (ks.reverse ++ st) (m + 1)) = _
    rw [e]
theorem run_stop {B : Book} {kn : List LayX} {r : List Int} {st : List (List Int)} {n m : Nat} (hr : RingE B r) (hl : totl (r :: st) ≤ n) (e : kidsL B kn r = none) : runL B kn n (r :: st) m = none := by
  rw [totl_cons] at hl
  have : 0 < r.length := List.length_pos_iff.mpr hr.ne
  cases n with
  | zero => omega
  | succ n =>
    show (match kidsL B kn r with | none => none | some ks => runL B kn n (ks.reverse ++ st) (m + 1)) = _
    rw [e]
/-- where the look is: a stack of rings, so many behind -/
structure LkS (B : Book) (kn : List LayX) (n : Nat) (st : List (List Int)) (m : Nat) : Prop where
  e : runL B kn n st m = lookL B kn
  l : totl st ≤ n
  r : ∀ r ∈ st, RingE B r
  m : n + m ≤ B.ways.length
theorem LkS.step {B : Book} {kn : List LayX} {n m : Nat} {r : List Int} {st ks : List (List Int)} (h : LkS B kn n (r :: st) m) (e : kidsL B kn r = some ks) : ∃ n', n' < n ∧ LkS B kn n' (ks.reverse ++ st) (m + 1) := by
  obtain ⟨n', e1, e2, e3, e4⟩ := run_step (m := m) (h.r r List.mem_cons_self) h.l e
  refine ⟨n', e3, e1.symm.trans h.e, e2, fun s hs => ?_, by have := h.m; omega⟩
  rcases List.mem_append.mp hs with hs | hs
  · exact e4 s (by simpa using hs)
  · exact h.r s (List.mem_cons_of_mem _ hs)
theorem LkS.stop {B : Book} {kn : List LayX} {n m : Nat} {r : List Int} {st : List (List Int)} (h : LkS B kn n (r :: st) m) (e : kidsL B kn r = none) : lookL B kn = none := h.e.symm.trans (run_stop (h.r r List.mem_cons_self) h.l e)
theorem LkS.len {B : Book} {kn : List LayX} {n m : Nat} {st : List (List Int)} (h : LkS B kn n st m) : st.length ≤ n := by
  have h1 := h.l
  have : ∀ st : List (List Int), (∀ r ∈ st, RingE B r) → st.length ≤ totl st := by
    intro st
    induction st with
    | nil => intro _; exact Nat.zero_le _
    | cons r st ih =>
      intro hr
      have h2 := ih fun s hs => hr s (List.mem_cons_of_mem _ hs)
      have h3 := List.length_pos_iff.mpr (hr r List.mem_cons_self).ne
      rw [totl_cons, List.length_cons]
      omega
  have := this st h.r
  omega
end L3
end
section
namespace L3
open PySem L2
variable {G : Type} {K : PySem.W.Frag} {mg : Str → Option Value} {X : Cx} {Z : Zx K G} {W : WXH} {U : UX G}
def isLo : HO → Bool
  | .lst _ => true
  | .dK _ => true
  | _ => false
/-- without lists and dicts -/
def noLF (F : Hp) : Hp := fun a => match F a with
  | some o => if isLo o = true then none else some o
  | none => none
def NoLo (F : Hp) : Prop := ∀ a o, F a = some o → isLo o = false
theorem noLF_iff {F : Hp} {a : Addr} {o : HO} : noLF F a = some o ↔ F a = some o ∧ isLo o = false := by
  unfold noLF
  cases e : F a with
  | none => exact ⟨fun h => (nomatch h), fun h => nomatch h.1⟩
  | some u =>
    show (if isLo u = true then none else some u) = some o ↔ _
    cases c : isLo u with
    | true =>
      rw [if_pos rfl]
      exact ⟨fun h => (nomatch h), fun h => by
        have h1 := h.1
        cases h1
        rw [c] at h; cases h.2⟩
    | false =>
      rw [if_neg Bool.false_ne_true]
      exact ⟨fun h => by cases h; exact ⟨rfl, c⟩, fun h => h.1⟩
theorem noLF_ex (F : Hp) : Ex (noLF F) F := fun _ _ e => (noLF_iff.mp e).1
theorem noLF_no (F : Hp) : NoLo (noLF F) := fun _ _ e => (noLF_iff.mp e).2
theorem noLF_none {F : Hp} {a : Addr} (h : F a = none) : noLF F a = none := by unfold noLF; rw [h]
theorem noLF_lo {F : Hp} {a : Addr} {o : HO} (h : F a = some o) (c : isLo o = true) : noLF F a = none := by unfold noLF; rw [h]; exact if_pos c
theorem da_noLF {F : Hp} {v : V} {d : PyData} (h : Da K F v d) (e : noL d = true) : Da K (noLF F) v d := da_noL (fun a u hu ha => noLF_iff.mpr ⟨ha, by rcases hu with ⟨xs, rfl⟩ | ⟨o, xs, rfl⟩ <;> rfl⟩) h e
theorem daAll_noLF {F : Hp} {vs : List V} {ds : List PyData} (h : DaAll K F vs ds) (e : noLs ds = true) : DaAll K (noLF F) vs ds := daAll_noL (fun a u hu ha => noLF_iff.mpr ⟨ha, by rcases hu with ⟨xs, rfl⟩ | ⟨o, xs, rfl⟩ <;> rfl⟩) h e
/-- the resource holds without the frozen lists -/
structure CutZ (Z : Zx K G) (ok : G → Bool) : Prop where
  c : ∀ {g F H}, ok g = true → Z.R g F H → Z.R g (noLF F) H
theorem cutZ_w {ok : G → Bool} {W : WXH} {U : UX G} (h : CutZ Z ok) : CutZ (Z.wish W U) ok := ⟨fun {g F H} a b => h.c (g := g) (F := F) (H := H) a b⟩
theorem cutZ_J : CutZ (ZJ K) (fun _ => true) := ⟨fun _ h => h⟩
/-- what a slot may still hold -/
def okS : Sl → Bool
  | .un => true
  | .dt d => noL d
  | .ls ds => noLs ds
  | .dk _ => false
  | .rs _ => true
  | .vv _ => true
abbrev CutE : En → En → Prop := Paired fun s s' => s' = .un ∨ (s' = s ∧ okS s = true)
theorem cutE_get {ρ ρ' : En} (h : CutE ρ ρ') {i : Nat} {s : Sl} (e : ρ'[i]? = some s) : s = .un ∨ (ρ[i]? = some s ∧ okS s = true) := by
  obtain ⟨t, h1, h2⟩ := paired_get h e
  rcases h2 with h2 | ⟨h2, h3⟩
  · exact .inl h2
  · subst h2; exact .inr ⟨h1, h3⟩
section
variable {f : Fx} {F : Hp} {ad : Nat → Addr} {ρ ρ' : En} {g : G} {σ : St} {H : Hp}
theorem Rel.cut {ok : G → Bool} (cz : CutZ Z ok) (hg : ok g = true) (h0 : NoLo f.F0) (hc : CutE ρ ρ') (R : Rel Z f F ad ρ g σ H) : Rel Z f (noLF F) ad ρ' g σ H := by
  refine ⟨⟨⟨fun b o e => noLF_iff.mpr ⟨R.fin.base b o e, h0 b o e⟩, fun b o e => R.fin.sub b o (noLF_ex F b o e), R.fin.keep, R.fin.keepN, fun b o e => R.fin.new b o (noLF_ex F b o e), cz.c hg R.fin.res, fun a ha => noLF_none (R.fin.fpF a ha), R.fin.fpB, R.fin.fpo⟩, (Paired.length hc).symm.trans R.len, fun i s hi => ?_, fun i j s t hi hj hs ht he => ?_⟩, R.lx⟩
  · rcases cutE_get hc hi with rfl | ⟨h1, h2⟩
    · trivial
    · have q := R.slot i s h1
      cases s with
      | un => trivial
      | dt d => obtain ⟨v, q1, q2⟩ := q; exact ⟨v, q1, da_noLF q2 h2⟩
      | ls ds => obtain ⟨q1, q2, vs, q3, q4⟩ := q; exact ⟨q1, ⟨noLF_none q2.1, q2.2⟩, vs, q3, daAll_noLF q4 h2⟩
      | dk ds => cases h2
      | rs n => exact q
      | vv v => exact q
  · rcases cutE_get hc hi with rfl | ⟨h1, _⟩
    · cases hs
    · rcases cutE_get hc hj with rfl | ⟨h2, _⟩
      · cases ht
      · exact R.inj i j s t h1 h2 hs ht he
/-- a frozen list is written -/
theorem Rel.dead {ok : G → Bool} (cz : CutZ Z ok) (hg : ok g = true) (h0 : NoLo f.F0) (hc : CutE ρ ρ') (R : Rel Z f F ad ρ g σ H) {p : Addr} {u o : HO} (hF : F p = some u) (hu : isLo u = true) : Rel Z f (noLF F) ad ρ' g σ (L2.upd H p o) := by
  have R' := R.cut cz hg h0 hc
  have hB : f.B p = none := by
    rcases R.fin.new p _ hF with h | h
    · have := h0 p _ h
      rw [hu] at this; cases this
    · exact h
  have hw : OwnA Z f (noLF F) g p := ⟨noLF_lo hF hu, hB, fun hm => by
    have := R.fin.fpF p hm
    rw [hF] at this; cases this⟩
  have ne : ∀ i s, ρ'[i]? = some s → s.own = true → ad i ≠ p := fun i s hi ho e => by
    rcases cutE_get hc hi with rfl | ⟨h1, _⟩
    · cases ho
    · have q := R.slot i s h1
      cases s with
      | ls ds => have := q.2.1.1; rw [e, hF] at this; cases this
      | dk ds => have := q.2.1.1; rw [e, hF] at this; cases this
      | _ => cases ho
  refine ⟨⟨R'.fin.upd hw, R'.len, fun i s hi => ?_, R'.inj⟩, R'.lx⟩
  have q := R'.slot i s hi
  cases s with
  | ls ds => obtain ⟨q1, q2, vs, q3, q4⟩ := q; exact ⟨q1, q2, vs, by rw [upd_ne (ne i _ hi rfl)]; exact q3, q4⟩
  | dk ds => obtain ⟨q1, q2, vs, q3, q4⟩ := q; exact ⟨q1, q2, vs, by rw [upd_ne (ne i _ hi rfl)]; exact q3, q4⟩
  | _ => exact q
end
def SimS1 (Z : Zx K G) (ts : TS) (t : DS G) : Prop := ∀ f F ad ρ g σ H D, NoLo f.F0 → Rel Z f F ad ρ g σ H → t D ρ g → ∀ D2 : Ends, Le Z f (Z.ra g) D D2 → ts D2 σ H
structure DSt1 (X : Cx) (Z : Zx K G) (s : Stmt) (ts : TS) (t : DS G) : Prop where
  ps : PS X s ts
  sim : SimS1 Z ts t
structure DSs1 (X : Cx) (Z : Zx K G) (s : List Stmt) (ts : TS) (t : DS G) : Prop where
  ps : PSs X s ts
  sim : SimS1 Z ts t
theorem s1_of {s : Stmt} {ts : TS} {t : DS G} (h : DSt X Z s ts t) : DSt1 X Z s ts t := ⟨h.ps, fun f F ad ρ g σ H D _ R q D2 le => h.sim f F ad ρ g σ H D R q D2 le⟩
theorem s1s_of {s : List Stmt} {ts : TS} {t : DS G} (h : DSs X Z s ts t) : DSs1 X Z s ts t := ⟨h.ps, fun f F ad ρ g σ H D _ R q D2 le => h.sim f F ad ρ g σ H D R q D2 le⟩
theorem s1_one {s : Stmt} {t : TS} {a : DS G} (h : DSt1 X Z s t a) : DSs1 X Z [s] t a := ⟨pss_one h.ps, h.sim⟩
theorem s1_if {c : Expr} {tc : TT} {dc : DB G} {a b : List Stmt} {t u : TS} {da db : DS G} {pos : Pos} (hc : DTe X Z c tc dc) (ha : DSs1 X Z a t da) (hb : DSs1 X Z b u db) : DSt1 X Z (.If c a b pos) (tIfS tc t u) (dIfS dc da db) := ⟨ps_if hc.pt ha.ps hb.ps, fun f F ad ρ g σ H D h0 R h D2 le => by
  refine hc.sim f F ad ρ g σ H _ R h _ fun x H1 q => ?_
  obtain ⟨F1, ad1, ρ1, g1, e1, eg1, R1, q⟩ := q
  cases x with
  | true =>
    rw [if_pos rfl]
    replace q := ifb_t q
    exact ha.sim f F1 ad1 ρ1 g1 σ H1 D h0 R1 q D2 (by rw [eg1]; exact le)
  | false =>
    rw [if_neg Bool.false_ne_true]
    replace q := ifb_f q
    exact hb.sim f F1 ad1 ρ1 g1 σ H1 D h0 R1 q D2 (by rw [eg1]; exact le)⟩
def fdL (r : Rs) (k : List PyData → Prop) : Prop := match r with
  | .dt (.list ds) => k ds
  | _ => False
theorem fdL_e {r : Rs} {k : List PyData → Prop} (h : fdL r k) : ∃ ds, r = .dt (.list ds) ∧ k ds := by
  unfold fdL at h
  split at h
  · exact ⟨_, rfl, h⟩
  · cases h
def dAppD1 (ok : G → Bool) (o a : DT G) : DS G := fun D ρ g => o ρ g fun r ρ0 g0 => fdL r fun ds => a ρ0 g0 fun _ ρ1 g1 => ok g1 = true ∧ ltK ds.length 16777216 (∃ ρ2, CutE ρ1 ρ2 ∧ D.nx ρ2 g1)
theorem sim_appD1 {ok : G → Bool} (cz : CutZ Z ok) {to ta : TE} {o a : DT G} (ho : Sim Z to o) (ha : Sim Z ta a) : SimS1 Z (tDrop (tBM K "list" rAppend to (tCons ta tNil))) (dAppD1 ok o a) := fun f F ad ρ g σ H D h0 R h D2 le => by
  refine ho f F ad ρ g σ H _ R h _ fun y H0 q => ?_
  obtain ⟨F0, ad0, ρ0, g0, r0, e0, eg0, R0, v0, q⟩ := q
  obtain ⟨ds, rfl, q⟩ := fdL_e q
  have v0 : Da K F0 y (.list ds) := v0
  cases v0
  rename_i p vs hF da
  have hH0 := R0.fin.sub _ _ hF
  refine ⟨.inl ⟨rfl, vs, .inl (.inl hH0)⟩, ?_⟩
  refine ha f F0 ad0 ρ0 g0 σ H0 _ R0 q _ fun x H1 q => ?_
  obtain ⟨F1, ad1, ρ1, g1, r1, e1, eg1, R1, v1, q⟩ := q
  obtain ⟨hok, q⟩ := q
  obtain ⟨hl, ρ2, hc, q⟩ := ltK_e q
  have hF1 := e1 _ _ hF
  have hH1 := R1.fin.sub _ _ hF1
  refine ⟨p, vs, x, rfl, rfl, hH1, by rw [sizeLine_eq, da.length]; exact hl, ?_⟩
  exact le.nx (noLF F1) ad1 ρ2 g1 σ _ (eg1.trans eg0) (R1.dead cz hok h0 hc hF1 rfl) q
section
variable {apos cpos pos : Pos} {o e : Expr} {to te : TE} {a b : DT G}
theorem s1_app {ok : G → Bool} (cz : CutZ Z ok) (ho : DE X Z o to a) (he : DE X Z e te b) (hK : K = X.K := by rfl)
    (hbase : attributeBase o "append" X.env (eval o X.env) = eval o X.env := by rfl)
    (hfew : ((backTo cpos (starEach [e] X.env)).all (fun x => !x.1) && (backToKw cpos (keywordEach [] X.env)).all (fun x => x.1.isSome)
      && decide (([e] : List Expr).length + ([] : List Keyword).length + (if ([] : List Keyword).isEmpty then 0 else 1) < 30)) = true := by rfl)
    (hline : (apos.endLine == cpos.line) = true := by rfl) (hst : starEach [e] X.env = (false, eval e X.env) :: starEach [] X.env := by rfl) (hplain : (backTo cpos (starEach [] X.env)).any (·.1) = false := by rfl)
    (hs : swapsWith (.Call (.Attribute o "append" apos) [e] [] cpos) none pos.line X.env = pure false := by rfl) :
    DSt1 X Z (.Expr (.Call (.Attribute o "append" apos) [e] [] cpos) pos) (tDrop (tBM K "list" rAppend to (tCons te tNil))) (dAppD1 ok a b) :=
  ⟨ps_expr (by rw [hK]; exact pe_bm PySem.F.plainAttrs_list PySem.F.slot_list_append PySem.F.type_list_append mt_append ho.pe (pa_cons he.pe pa_nil hst) hbase hfew hline hst hplain) hs, sim_appD1 cz ho.sim he.sim⟩
end
end L3
end
section
namespace L3
open PySem PySem.Spec PyProof.Rows L2
variable {G : Type} {K : PySem.W.Frag} {mg : Str → Option Value} {X : Cx} {Z : Zx K G} {W : WXH} {U : UX (G × OS)}
def getC (kvs : List (Key × Cell)) (k : Key) : Option Cell := (kvs.find? fun q => decide (q.1 = k)).map (·.2)
def putC (kvs : List (Key × Cell)) (k : Key) (c : Cell) : List (Key × Cell) := if (kvs.any fun q => decide (q.1 = k)) = true then kvs.map (fun q => if q.1 = k then (q.1, c) else q) else kvs ++ [(k, c)]
abbrev KvC (K : PySem.W.Frag) (F : Hp) : List (Key × V) → List (Key × Cell) → Prop := Paired fun p q => p.1 = q.1 ∧ CellV K F p.2 q.2
theorem KvC.get {F : Hp} {vs : List (Key × V)} {kvs : List (Key × Cell)} (h : KvC K F vs kvs) {k : Key} {c : Cell} (e : getC kvs k = some c) : ∃ v, valV vs k = some v ∧ CellV K F v c := by
  induction h with
  | nil => cases e
  | @cons p q ps qs h t ih =>
    obtain ⟨h1, h2⟩ := h
    by_cases e1 : p.1 = k
    · have e2 : q.1 = k := h1.symm.trans e1
      have b : getC (q :: qs) k = some q.2 := by simp [getC, List.find?_cons, e2]
      rw [b] at e
      cases e
      exact ⟨p.2, valV_pos e1, h2⟩
    · have e2 : ¬ q.1 = k := fun z => e1 (h1.trans z)
      have b : getC (q :: qs) k = getC qs k := by simp [getC, List.find?_cons, e2]
      rw [b] at e
      rw [valV_neg e1]
      exact ih e
theorem KvC.any {F : Hp} {vs : List (Key × V)} {kvs : List (Key × Cell)} (h : KvC K F vs kvs) (k : Key) : (vs.any fun q => decide (q.1 = k)) = kvs.any fun q => decide (q.1 = k) := by
  induction h with
  | nil => rfl
  | cons h t ih => rw [List.any_cons, List.any_cons, ih, h.1]
theorem KvC.put {F : Hp} {vs : List (Key × V)} {kvs : List (Key × Cell)} (h : KvC K F vs kvs) (k : Key) {v : V} {c : Cell} (hc : CellV K F v c) : KvC K F (putK vs k v) (putC kvs k c) := by
  unfold putK putC
  rw [h.any k]
  by_cases e : (kvs.any fun q => decide (q.1 = k)) = true
  · rw [if_pos e, if_pos e]
    clear e
    induction h with
    | nil => exact .nil
    | @cons p q ps qs h t ih =>
      rw [List.map_cons, List.map_cons]
      refine .cons ?_ ih
      obtain ⟨h1, h2⟩ := h
      by_cases e : p.1 = k
      · rw [if_pos e, if_pos (h1.symm.trans e)]; exact ⟨h1, hc⟩
      · rw [if_neg e, if_neg (fun z => e (h1.trans z))]; exact ⟨h1, h2⟩
  · rw [if_neg e, if_neg e]
    exact paired_app h (.cons ⟨rfl, hc⟩ .nil)
end L3
end
section
namespace L3
open PySem L2
abbrev Lk := List (List Int)
def link1 (ls : Lk) (i : Int) (others : List Int) : Lk := ls.set i.toNat (ls.getD i.toNat [] ++ others)
abbrev To := Bool × List Int × List Int
theorem link1_len (ls : Lk) (i : Int) (os : List Int) : (link1 ls i os).length = ls.length := by unfold link1; rw [List.length_set]
def kvFrom : Nat → List Addr → List (Key × Cell)
  | _, [] => []
  | n, c :: r => (.inl (n : Int), .r c) :: kvFrom (n + 1) r
theorem kvFrom_no : ∀ {cs : List Addr} {n m : Nat}, n + cs.length ≤ m → (kvFrom n cs).any (fun q => decide (q.1 = (.inl (m : Int) : Key))) = false
  | [], _, _, _ => rfl
  | c :: r, n, m, h => by
    rw [List.length_cons] at h
    unfold kvFrom
    rw [List.any_cons, kvFrom_no (cs := r) (n := n + 1) (by omega), Bool.or_false]
    refine decide_eq_false fun e => ?_
    have e : (.inl (n : Int) : Key) = .inl (m : Int) := e
    injection e with e
    omega
theorem kvFrom_snoc : ∀ (cs : List Addr) (n : Nat) (c : Addr), kvFrom n (cs ++ [c]) = kvFrom n cs ++ [(.inl ((n + cs.length : Nat) : Int), .r c)]
  | [], n, c => rfl
  | x :: r, n, c => by
    show (_ :: kvFrom (n + 1) (r ++ [c])) = (_ :: kvFrom (n + 1) r) ++ _
    rw [kvFrom_snoc r (n + 1) c, List.length_cons, show n + 1 + r.length = n + (r.length + 1) by omega]
    rfl
theorem putC_from (cs : List Addr) (c : Addr) : putC (kvFrom 0 cs) (.inl (cs.length : Nat)) (.r c) = kvFrom 0 (cs ++ [c]) := by
  unfold putC
  rw [kvFrom_no (by omega), if_neg Bool.false_ne_true, kvFrom_snoc, Nat.zero_add]
def gCell (g : List Int) : Cell := .d (.tuple (g.map PyData.int))
def iCell (n : Int) : Cell := .d (.int n)
/-- where its lists stand -/
structure LkA (L : List Str) (o : OS) (p a b : Addr) (cs : List Addr) (ps : List (List Int)) (ls : Lk) : Prop where
  hp : OS.look o p = some (.ins "Linker" L [.r a, .r b])
  ha : OS.look o a = some (.ls (ps.map gCell))
  hb : OS.look o b = some (.dk (kvFrom 0 cs))
  hn : cs.length = ls.length
  hc : ∀ (i : Nat) (c : Addr) (l : List Int), cs[i]? = some c → ls[i]? = some l → OS.look o c = some (.ls (l.map iCell))
  nd : (p :: a :: b :: cs).Nodup
section
variable {L : List Str} {o o' : OS} {p a b : Addr} {cs : List Addr} {ps : List (List Int)} {ls : Lk}
theorem LkA.there (h : LkA L o p a b cs ps ls) : ∀ x ∈ p :: a :: b :: cs, OS.look o x ≠ none := fun x hx => by
  rcases List.mem_cons.mp hx with rfl | hx
  · rw [h.hp]; intro z; cases z
  rcases List.mem_cons.mp hx with rfl | hx
  · rw [h.ha]; intro z; cases z
  rcases List.mem_cons.mp hx with rfl | hx
  · rw [h.hb]; intro z; cases z
  obtain ⟨i, hi⟩ := List.getElem?_of_mem hx
  have hlt := (List.getElem?_eq_some_iff.mp hi).1
  have hn := h.hn
  rw [h.hc i x _ hi (List.getElem?_eq_getElem (by omega))]
  intro z; cases z
/-- what is new stands apart -/
theorem LkA.same (h : LkA L o p a b cs ps ls) (e : ∀ x ∈ p :: a :: b :: cs, OS.look o' x = OS.look o x) : LkA L o' p a b cs ps ls :=
  ⟨(e p (by simp)).trans h.hp, (e a (by simp)).trans h.ha, (e b (by simp)).trans h.hb, h.hn, fun i c l hc hl => (e c (by simp [List.mem_of_getElem? hc])).trans (h.hc i c l hc hl), h.nd⟩
theorem LkA.new (h : LkA L o p a b cs ps ls) {q : Addr} {y : OO} (hq : OS.look o q = none) : LkA L ((q, y) :: o) p a b cs ps ls ∧ q ∉ p :: a :: b :: cs := by
  have hn : q ∉ p :: a :: b :: cs := fun hm => h.there q hm hq
  exact ⟨h.same fun x hx => by rw [OS.look_cons, if_neg (fun e => hn (by rw [e]; exact hx))], hn⟩
/-- one of the lists grows -/
theorem LkA.ext (h : LkA L o p a b cs ps ls) {i : Nat} {c : Addr} {os : List Int} (hc : cs[i]? = some c) (e : ∀ x, c ≠ x → OS.look o' x = OS.look o x) (ec : OS.look o' c = some (.ls ((ls.getD i [] ++ os).map iCell))) : LkA L o' p a b cs ps (link1 ls (i : Int) os) := by
  have hcm := List.mem_of_getElem? hc
  have hlt := (List.getElem?_eq_some_iff.mp hc).1
  have hn := h.hn
  have nd := h.nd
  simp only [List.nodup_cons] at nd
  obtain ⟨n1, n2, n3, n4⟩ := nd
  refine ⟨(e p fun z => n1 (by rw [← z]; simp [hcm])).trans h.hp, (e a fun z => n2 (by rw [← z]; simp [hcm])).trans h.ha, (e b fun z => n3 (by rw [← z]; exact hcm)).trans h.hb, by rw [link1_len]; exact hn, fun j d l hd hl => ?_, h.nd⟩
  unfold link1 at hl
  rw [Int.toNat_natCast] at hl
  by_cases ij : i = j
  · subst ij
    rw [hc] at hd
    cases hd
    rw [List.getElem?_set_self (by omega)] at hl
    cases hl
    exact ec
  · rw [List.getElem?_set_ne ij] at hl
    have ne : c ≠ d := fun z => by
      subst z
      have h1 := (List.getElem?_eq_some_iff.mp hc).2
      obtain ⟨hj, h2⟩ := List.getElem?_eq_some_iff.mp hd
      exact ij ((List.getElem_inj (i := i) (j := j) (h₀ := hlt) (h₁ := hj) n4).mp (h1.trans h2.symm))
    rw [e d ne]
    exact h.hc j d l hd hl
/-- the puts grow -/
theorem LkA.put (h : LkA L o p a b cs ps ls) {g : List Int} (e : ∀ x, a ≠ x → OS.look o' x = OS.look o x) (ea : OS.look o' a = some (.ls ((ps ++ [g]).map gCell))) : LkA L o' p a b cs (ps ++ [g]) ls := by
  have nd := h.nd
  simp only [List.nodup_cons] at nd
  obtain ⟨n1, n2, n3, n4⟩ := nd
  refine ⟨(e p fun z => n1 (by rw [← z]; simp)).trans h.hp, ea, (e b fun z => n2 (by rw [← z]; simp)).trans h.hb, h.hn, fun j d l hd hl => ?_, h.nd⟩
  rw [e d fun z => n2 (by rw [z]; simp [List.mem_of_getElem? hd])]
  exact h.hc j d l hd hl
/-- a list more -/
theorem LkA.more (h : LkA L o p a b cs ps ls) {q : Addr} (hq : q ∉ p :: a :: b :: cs) (hl : OS.look o q = some (.ls [])) (e : ∀ x, b ≠ x → OS.look o' x = OS.look o x) (eb : OS.look o' b = some (.dk (putC (kvFrom 0 cs) (.inl (cs.length : Nat)) (.r q)))) : LkA L o' p a b (cs ++ [q]) ps (ls ++ [[]]) := by
  have nd := h.nd
  have nd0 := nd
  simp only [List.nodup_cons] at nd
  obtain ⟨n1, n2, n3, n4⟩ := nd
  have hq2 := hq
  simp only [List.mem_cons, not_or] at hq2
  obtain ⟨q1, q2, q3, q4⟩ := hq2
  have hn := h.hn
  refine ⟨(e p fun z => n1 (by rw [← z]; simp)).trans h.hp, (e a fun z => n2 (by rw [← z]; simp)).trans h.ha, by rw [eb, putC_from], by rw [List.length_append, List.length_append, hn]; rfl, fun j d l hd hl2 => ?_, ?_⟩
  · rcases Nat.lt_trichotomy j cs.length with c | c | c
    · rw [List.getElem?_append_left c] at hd
      rw [List.getElem?_append_left (by omega)] at hl2
      rw [e d fun z => n3 (by rw [z]; exact List.mem_of_getElem? hd)]
      exact h.hc j d l hd hl2
    · rw [List.getElem?_append_right (by omega), c, Nat.sub_self] at hd
      rw [List.getElem?_append_right (by omega), c, hn, Nat.sub_self] at hl2
      cases hd
      cases hl2
      rw [e q fun z => q3 z.symm, hl]
      rfl
    · rw [List.getElem?_eq_none (by simp; omega)] at hd
      cases hd
  · have : (p :: a :: b :: (cs ++ [q])) = (p :: a :: b :: cs) ++ [q] := rfl
    rw [this, List.nodup_append]
    exact ⟨nd0, by simp, fun x hx y hy z => by
      have : y = q := by simpa using hy
      subst this
      subst z
      exact hq hx⟩
end
end L3
end
section
namespace L3
open PySem L2
def crossed (a b : List Int) : List (Int × Int) := a.flatMap fun x => b.map fun y => (x, y)
theorem crossed_iff {a b : List Int} {x y : Int} : (x, y) ∈ crossed a b ↔ x ∈ a ∧ y ∈ b := by
  unfold crossed
  rw [List.mem_flatMap]
  constructor
  · rintro ⟨z, hz, h⟩
    obtain ⟨u, hu, e⟩ := List.mem_map.mp h
    cases e
    exact ⟨hz, hu⟩
  · rintro ⟨h1, h2⟩
    exact ⟨x, h1, List.mem_map.mpr ⟨y, h2, rfl⟩⟩
abbrev Se := To × List (Int × Int)
mutual
def Wo.sets : Wo → Nat → Se
  | .put _, n => ((false, [(n : Int) + 1], [(n : Int) + 1]), [])
  | .again w, n => ((true, (w.sets n).1.2.1, (w.sets n).1.2.2), (w.sets n).2 ++ crossed (w.sets n).1.2.2 (w.sets n).1.2.1)
  | .row ws, n => Wo.setsR ws n ((true, [], []), [])
  | .either ws, n => Wo.setsE ws n ((false, [], []), [])
def Wo.setsR : List Wo → Nat → Se → Se
  | [], _, s => s
  | w :: r, n, s => Wo.setsR r (n + w.puts) ((s.1.1 && (w.sets n).1.1, if s.1.1 = true then s.1.2.1 ++ (w.sets n).1.2.1 else s.1.2.1, if (w.sets n).1.1 = true then s.1.2.2 ++ (w.sets n).1.2.2 else (w.sets n).1.2.2), s.2 ++ (w.sets n).2 ++ crossed s.1.2.2 (w.sets n).1.2.1)
def Wo.setsE : List Wo → Nat → Se → Se
  | [], _, s => s
  | w :: r, n, s => Wo.setsE r (n + w.puts) ((s.1.1 || (w.sets n).1.1, s.1.2.1 ++ (w.sets n).1.2.1, s.1.2.2 ++ (w.sets n).1.2.2), s.2 ++ (w.sets n).2)
end
/-- a link -/
def LkM (ls : Lk) (a b : Int) : Prop := 0 ≤ a ∧ b ∈ ls.getD a.toNat []
theorem LkM.snoc {ls : Lk} {a b : Int} : LkM (ls ++ [[]]) a b ↔ LkM ls a b := by
  unfold LkM
  rw [List.getD_eq_getElem?_getD, List.getD_eq_getElem?_getD]
  rcases Nat.lt_trichotomy a.toNat ls.length with c | c | c
  · rw [List.getElem?_append_left c]
  · rw [List.getElem?_append_right (by omega), c, Nat.sub_self, List.getElem?_eq_none (l := ls) (Nat.le_refl _)]
    rfl
  · rw [List.getElem?_append_right (by omega), List.getElem?_eq_none (by simp; omega), List.getElem?_eq_none (by omega)]
abbrev InP (n m : Nat) (pr : List (Int × Int)) : Prop := ∀ a b, (a, b) ∈ pr → ((n : Int) < a ∧ a ≤ (m : Int)) ∧ (n : Int) < b ∧ b ≤ (m : Int)
theorem InP.app {n m : Nat} {x y : List (Int × Int)} (h1 : InP n m x) (h2 : InP n m y) : InP n m (x ++ y) := fun a b h => by
  rcases List.mem_append.mp h with h | h
  · exact h1 a b h
  · exact h2 a b h
theorem InP.up {n m n2 m2 : Nat} {x : List (Int × Int)} (h : InP n m x) (h1 : n2 ≤ n) (h2 : m ≤ m2) : InP n2 m2 x := fun a b hm => by
  have := h a b hm
  omega
def stepR (w : Wo) (n : Nat) (s : Se) : Se := ((s.1.1 && (w.sets n).1.1, if s.1.1 = true then s.1.2.1 ++ (w.sets n).1.2.1 else s.1.2.1, if (w.sets n).1.1 = true then s.1.2.2 ++ (w.sets n).1.2.2 else (w.sets n).1.2.2), s.2 ++ (w.sets n).2 ++ crossed s.1.2.2 (w.sets n).1.2.1)
end L3
end
section
namespace L3
open PySem PySem.Spec PyProof.Rows L2
end L3
end
section
namespace L3
open PySem L2
structure Lv (n m L : Nat) (pr : List (Int × Int)) (ψ : Int → Nat) : Prop where
  b : ∀ a : Int, (n : Int) < a → a ≤ (m : Int) → 1 ≤ ψ a ∧ ψ a ≤ L
  r : ∀ a b : Int, (a, b) ∈ pr → ((n : Int) < a ∧ a ≤ (m : Int)) ∧ ((n : Int) < b ∧ b ≤ (m : Int)) ∧ a < b ∧ ψ a < ψ b
theorem Lv.row {n m k L K : Nat} {p q : List (Int × Int)} {x y : List Int} {ψ φ : Int → Nat} (h1 : n ≤ m) (h2 : m ≤ k) (hp : Lv n m L p ψ) (hq : Lv m k K q φ) (hx : ∀ i ∈ x, (n : Int) < i ∧ i ≤ (m : Int)) (hy : ∀ i ∈ y, (m : Int) < i ∧ i ≤ (k : Int)) : Lv n k (L + K) (p ++ q ++ crossed x y) fun a => if a ≤ (m : Int) then ψ a else φ a + L := by
  have hb := hp.b
  have hc := hq.b
  refine ⟨fun a a1 a2 => ?_, fun a b h => ?_⟩
  · (try dsimp only)
    split
    · have := hb a a1 (by omega); omega
    · have := hc a (by omega) a2; omega
  · rcases List.mem_append.mp h with h | h
    · rcases List.mem_append.mp h with h | h
      · obtain ⟨k1, k2, k3, k4⟩ := hp.r a b h
        (try dsimp only)
        rw [if_pos (by omega), if_pos (by omega)]
        exact ⟨by omega, by omega, k3, k4⟩
      · obtain ⟨k1, k2, k3, k4⟩ := hq.r a b h
        (try dsimp only)
        rw [if_neg (by omega), if_neg (by omega)]
        exact ⟨by omega, by omega, k3, by omega⟩
    · obtain ⟨k1, k2⟩ := crossed_iff.mp h
      have k3 := hx a k1
      have k4 := hy b k2
      have k5 := hb a k3.1 k3.2
      have k6 := hc b k4.1 k4.2
      (try dsimp only)
      rw [if_pos (by omega), if_neg (by omega)]
      exact ⟨by omega, by omega, by omega, by omega⟩
theorem Lv.either {n m k L K : Nat} {p q : List (Int × Int)} {ψ φ : Int → Nat} (h1 : n ≤ m) (h2 : m ≤ k) (hp : Lv n m L p ψ) (hq : Lv m k K q φ) : Lv n k (max L K) (p ++ q) fun a => if a ≤ (m : Int) then ψ a else φ a := by
  have hb := hp.b
  have hc := hq.b
  refine ⟨fun a a1 a2 => ?_, fun a b h => ?_⟩
  · (try dsimp only)
    split
    · have := hb a a1 (by omega); omega
    · have := hc a (by omega) a2; omega
  · rcases List.mem_append.mp h with h | h
    · obtain ⟨k1, k2, k3, k4⟩ := hp.r a b h
      (try dsimp only)
      rw [if_pos (by omega), if_pos (by omega)]
      exact ⟨by omega, by omega, k3, k4⟩
    · obtain ⟨k1, k2, k3, k4⟩ := hq.r a b h
      (try dsimp only)
      rw [if_neg (by omega), if_neg (by omega)]
      exact ⟨by omega, by omega, k3, k4⟩
def ChP (pr : List (Int × Int)) : Int → List Int → Prop
  | _, [] => True
  | a, b :: r => (a, b) ∈ pr ∧ ChP pr b r
def endP : Int → List Int → Int
  | a, [] => a
  | _, b :: r => endP b r
theorem ChP.up {pr qr : List (Int × Int)} (h : ∀ x ∈ pr, x ∈ qr) : ∀ {c : List Int} {a : Int}, ChP pr a c → ChP qr a c
  | [], _, _ => trivial
  | b :: r, a, ⟨h1, h2⟩ => ⟨h _ h1, ChP.up h h2⟩
theorem ChP.app {pr : List (Int × Int)} {b : Int} {d : List Int} (hd : ChP pr b d) : ∀ {c : List Int} {a : Int}, ChP pr a c → (endP a c, b) ∈ pr → ChP pr a (c ++ b :: d)
  | [], _, _, h => ⟨h, hd⟩
  | x :: r, a, ⟨h1, h2⟩, h => ⟨h1, ChP.app hd h2 h⟩
/-- a row of so many puts -/
def RowP (s : Se) (L : Nat) : Prop := ∃ a c, a ∈ s.1.2.1 ∧ ChP s.2 a c ∧ endP a c ∈ s.1.2.2 ∧ c.length + 1 = L
theorem RowP.up {s t : Se} {L : Nat} (h : RowP s L) (h1 : ∀ i ∈ s.1.2.1, i ∈ t.1.2.1) (h2 : ∀ i ∈ s.1.2.2, i ∈ t.1.2.2) (h3 : ∀ i ∈ s.2, i ∈ t.2) : RowP t L := by
  obtain ⟨a, c, k1, k2, k3, k4⟩ := h
  exact ⟨a, c, h1 a k1, k2.up h3, h2 _ k3, k4⟩
structure Asc (B : Book) (n : Int) (L : Nat) (ψ : Int → Nat) : Prop where
  up : ∀ x ∈ B.ways, x.a < x.b ∧ ψ x.a < ψ x.b
  top : ∀ x ∈ B.ways, x.b ≤ n ∧ ψ x.b ≤ L
  g : ∀ x ∈ B.ways, ∀ y ∈ x.gs, -3 ≤ y
  cnt : ∀ r : Nat, ((B.ways.countP fun x => decide (x.a = (r : Int)) : Nat) : Int) ≤ max 0 (n - r)
/-- walks of such a tree -/
structure Li (B : Book) (ys : List Int) (ψ : Int → Nat) (i : Nat) (w : List Int) : Prop where
  len : w.length = i
  asc : ∀ j, j < w.length → endR B 0 (w.take j) < endR B 0 w
  ge : (i : Int) ≤ endR B 0 w
  lv : i ≤ ψ (endR B 0 w)
  gn : ∀ p, p < B.purses.toNat → 100 - 3 * (i : Int) ≤ (addL ys (gainL B w)).getD p 0
section
variable {B : Book} {n : Int} {L : Nat} {ψ : Int → Nat} {ys : List Int} (A : Asc B n L ψ) (T : TB B ys) (hy : ∀ p, p < B.purses.toNat → 100 ≤ ys.getD p 0)
include A T
theorem Li.kid {i : Nat} {w : List Int} {k : Int} (hw : Li B ys ψ i w) (hin : ∀ j ∈ w, inW B j = true) (hk : inW B k = true) (ha : (wAt B k).a = endR B 0 w) : Li B ys ψ (i + 1) (w ++ [k]) := by
  have hx := wAt_mem hk
  obtain ⟨u1, u2⟩ := A.up _ hx
  have hlen := hw.len
  have hge := hw.ge
  have hlv := hw.lv
  have hg : GsOk B (w ++ [k]) := T.gs fun x hx => by
    rcases List.mem_append.mp hx with hx | hx
    · exact hin x hx
    · rw [List.mem_singleton.mp hx]; exact hk
  rw [ha] at u1 u2
  refine ⟨by rw [List.length_append, hlen]; rfl, fun j hj => ?_, by rw [endR_snoc]; omega, by rw [endR_snoc]; omega, fun p hp => ?_⟩
  · rw [List.length_append] at hj
    have hj : j < w.length + 1 := hj
    rw [endR_snoc, List.take_append_of_le_length (by omega)]
    by_cases e : j = w.length
    · subst e
      rw [List.take_length]
      exact u1
    · have := hw.asc j (by omega)
      omega
  · have hl1 : (gainL B w).length = B.purses.toNat := gainL_len (gsOk_l hg)
    have hl2 : (wAt B k).gs.length = B.purses.toNat := T.hB _ hx
    have hl3 := addL_len T.l hl1
    rw [gain_push B w k ys T.l hg, addL_getD (by omega) (by omega)]
    have h1 := hw.gn p hp
    have h2 := A.g _ hx ((wAt B k).gs.getD p 0) (by
      rw [List.getD_eq_getElem?_getD, List.getElem?_eq_getElem (by omega)]
      exact List.getElem_mem _)
    push_cast
    omega
include hy
end
end L3
end
section
namespace L3
open PySem PySem.Spec PyProof.Rows L2
open Sem (wp)
end L3
end
section
namespace L3
open PySem L2
/-- one behind the other, again and again -/
inductive Star (P : List Int → Prop) : List Int → Prop
  | nil : Star P []
  | cons {a b : List Int} : P a → Star P b → Star P (a ++ b)
/-- each two that follow are a pair -/
def ChQ (pr : List (Int × Int)) : List Int → Prop
  | a :: b :: r => (a, b) ∈ pr ∧ ChQ pr (b :: r)
  | _ => True
theorem ChQ.mono {p q : List (Int × Int)} (h : ∀ x ∈ p, x ∈ q) : ∀ {r : List Int}, ChQ p r → ChQ q r
  | [], _ => by unfold ChQ; trivial
  | [_], _ => by unfold ChQ; trivial
  | a :: b :: r, k => by
    rw [ChQ] at k ⊢
    exact ⟨h _ k.1, ChQ.mono h k.2⟩
theorem ChQ.app {p : List (Int × Int)} : ∀ {a b : List Int}, ChQ p a → ChQ p b → (∀ x y, a.getLast? = some x → b.head? = some y → (x, y) ∈ p) → ChQ p (a ++ b)
  | [], b, _, h, _ => h
  | [x], [], h, _, _ => h
  | [x], y :: b, _, h, k => by
    show ChQ p (x :: y :: b)
    rw [ChQ]
    exact ⟨k x y rfl rfl, h⟩
  | x :: z :: a, b, h, hb, k => by
    rw [ChQ] at h
    show ChQ p (x :: z :: (a ++ b))
    rw [ChQ]
    exact ⟨h.1, ChQ.app (a := z :: a) h.2 hb fun u v hu hv => k u v (by rw [List.getLast?_cons_cons]; exact hu) hv⟩
/-- what sets of puts let through -/
def Loc (s : Se) (r : List Int) : Prop := (r = [] ∧ s.1.1 = true) ∨ ∃ a z, r.head? = some a ∧ r.getLast? = some z ∧ a ∈ s.1.2.1 ∧ z ∈ s.1.2.2 ∧ ChQ s.2 r
/-- all its puts lie within bounds -/
structure SeIn (lo hi : Int) (s : Se) : Prop where
  f : ∀ i ∈ s.1.2.1, lo < i ∧ i ≤ hi
  l : ∀ i ∈ s.1.2.2, lo < i ∧ i ≤ hi
  p : ∀ a b, (a, b) ∈ s.2 → (lo < a ∧ a ≤ hi) ∧ lo < b ∧ b ≤ hi
def orS (s t : Se) : Se := ((s.1.1 || t.1.1, s.1.2.1 ++ t.1.2.1, s.1.2.2 ++ t.1.2.2), s.2 ++ t.2)
theorem SeIn.up {lo hi lo2 hi2 : Int} {s : Se} (h : SeIn lo hi s) (h1 : lo2 ≤ lo) (h2 : hi ≤ hi2) : SeIn lo2 hi2 s :=
  ⟨fun i hi => by have := h.f i hi; omega, fun i hi => by have := h.l i hi; omega, fun a b hab => by have := h.p a b hab; omega⟩
theorem SeIn.or {lo hi : Int} {s t : Se} (h : SeIn lo hi s) (k : SeIn lo hi t) : SeIn lo hi (orS s t) := by
  refine ⟨fun i hi => ?_, fun i hi => ?_, fun a b hab => ?_⟩
  · rcases List.mem_append.mp hi with hi | hi
    · exact h.f i hi
    · exact k.f i hi
  · rcases List.mem_append.mp hi with hi | hi
    · exact h.l i hi
    · exact k.l i hi
  · rcases List.mem_append.mp hab with hab | hab
    · exact h.p a b hab
    · exact k.p a b hab
theorem Star.iff {P Q : List Int → Prop} (h : ∀ r, P r ↔ Q r) {r : List Int} : Star P r ↔ Star Q r := by
  rw [show P = Q from funext fun r => propext (h r)]
end L3
end
section
namespace L3
open PySem L2
end L3
end
section
namespace L3
open PySem L2
mutual
/-- a word with its puts numbered -/
def Wo.nd : Wo → Nat → PyData
  | .put _, n => .tuple [.str "put", .int ((n : Int) + 1)]
  | .again w, n => .tuple [.str "again", w.nd n]
  | .row ws, n => .tuple [.str "row", .tuple (Wo.nds ws n)]
  | .either ws, n => .tuple [.str "either", .tuple (Wo.nds ws n)]
def Wo.nds : List Wo → Nat → List PyData
  | [], _ => []
  | w :: r, n => w.nd n :: Wo.nds r (n + w.puts)
end
/-- from one place in a row to another by one of some rows -/
def Gz (L : List Int → Prop) (row : List Int) (i j : Nat) : Prop := ∃ b, L b ∧ row.drop i = b ++ row.drop j ∧ i + b.length = j ∧ j ≤ row.length
theorem Gz.le {L : List Int → Prop} {row : List Int} {i j : Nat} (h : Gz L row i j) : i ≤ j ∧ j ≤ row.length := by
  obtain ⟨b, _, _, h1, h2⟩ := h
  omega
theorem Star.app {L : List Int → Prop} {a b : List Int} (h : Star L a) (k : Star L b) : Star L (a ++ b) := by
  induction h with
  | nil => exact k
  | cons ha _ ih => rw [List.append_assoc]; exact .cons ha ih
theorem Star.one {L : List Int → Prop} {a : List Int} (h : L a) : Star L a := by
  have := Star.cons h Star.nil
  rw [List.append_nil] at this
  exact this
theorem gz_refl {L : List Int → Prop} {row : List Int} {i : Nat} (h : i ≤ row.length) : Gz (Star L) row i i := ⟨[], .nil, rfl, rfl, h⟩
theorem gz_snoc {L : List Int → Prop} {row : List Int} {i m j : Nat} (h : Gz (Star L) row i m) (k : Gz L row m j) : Gz (Star L) row i j := by
  obtain ⟨a, ha, h1, h2, h3⟩ := h
  obtain ⟨b, hb, h4, h5, h6⟩ := k
  exact ⟨a ++ b, ha.app (.one hb), by rw [h1, h4, List.append_assoc], by rw [List.length_append]; omega, h6⟩
/-- the places behind some places -/
structure Ov (L : List Int → Prop) (row : List Int) (ss es : List Int) : Prop where
  nd : es.Nodup
  iff : ∀ j, j ∈ es ↔ 0 ≤ j ∧ ∃ i ∈ ss, Gz L row i.toNat j.toNat
/-- places within a row -/
structure Pl (row : List Int) (ss : List Int) : Prop where
  nd : ss.Nodup
  r : ∀ i ∈ ss, 0 ≤ i ∧ i ≤ (row.length : Int)
theorem Ov.pl {L : List Int → Prop} {row : List Int} {ss es : List Int} (h : Ov L row ss es) : Pl row es := ⟨h.nd, fun j hj => by
  obtain ⟨h0, i, _, h⟩ := (h.iff j).mp hj
  have := h.le.2
  omega⟩
theorem nd_sub_len : ∀ {a b : List Int}, a.Nodup → a ⊆ b → a.length ≤ b.length
  | [], _, _, _ => Nat.zero_le _
  | x :: r, b, h, hs => by
    rw [List.nodup_cons] at h
    have hx : x ∈ b := hs List.mem_cons_self
    have := nd_sub_len (b := b.erase x) h.2 fun y hy => (List.mem_erase_of_ne (a := y) (b := x) (by rintro rfl; exact h.1 hy)).mpr (hs (List.mem_cons_of_mem _ hy))
    rw [List.length_erase_of_mem hx] at this
    have := List.length_pos_of_mem hx
    rw [List.length_cons]
    omega
theorem Pl.len {row ss : List Int} (h : Pl row ss) : ss.length ≤ row.length + 1 := by
  have : ss ⊆ (List.range (row.length + 1)).map fun i : Nat => (i : Int) := fun j hj => List.mem_map.mpr ⟨j.toNat, List.mem_range.mpr (by have := h.r j hj; omega), by have := h.r j hj; omega⟩
  have h2 := nd_sub_len h.nd this
  rw [List.length_map, List.length_range] at h2
  exact h2
theorem Pl.sub {row ss es : List Int} (h : Pl row ss) (hn : es.Nodup) (hs : ∀ i ∈ es, i ∈ ss) : Pl row es := ⟨hn, fun i hi => h.r i (hs i hi)⟩
/-- what has been found of the places behind a word again and again -/
structure AgI (L : List Int → Prop) (row ss fs gs : List Int) : Prop where
  p : Pl row fs
  g : Pl row gs
  sub : ∀ i ∈ gs, i ∈ fs
  st : ∀ i ∈ ss, i ∈ fs
  ok : ∀ j ∈ fs, ∃ i ∈ ss, Gz (Star L) row i.toNat j.toNat
  cl : ∀ i ∈ fs, i ∉ gs → ∀ j : Int, 0 ≤ j → Gz L row i.toNat j.toNat → j ∈ fs
theorem AgI.start {L : List Int → Prop} {row ss fs : List Int} (h : Pl row ss) (hn : fs.Nodup) (hf : ∀ k, k ∈ fs ↔ k ∈ ss) : AgI L row ss fs fs :=
  ⟨h.sub hn fun i hi => (hf i).mp hi, h.sub hn fun i hi => (hf i).mp hi, fun i hi => hi, fun i hi => (hf i).mpr hi, fun j hj => ⟨j, (hf j).mp hj, gz_refl (by have := h.r j ((hf j).mp hj); omega)⟩, fun i hi hn => absurd hi hn⟩
theorem AgI.step {L : List Int → Prop} {row ss fs gs es hs : List Int} (h : AgI L row ss fs gs) (ho : Ov L row gs es) (hn : hs.Nodup) (hh : ∀ k, k ∈ hs ↔ k ∈ es ∧ k ∉ fs) : AgI L row ss (fs ++ hs) hs := by
  have hp : Pl row hs := ho.pl.sub hn fun i hi => ((hh i).mp hi).1
  have hnd : (fs ++ hs).Nodup := by
    rw [List.nodup_append]
    exact ⟨h.p.nd, hn, fun a ha b hb e => ((hh b).mp hb).2 (e ▸ ha)⟩
  refine ⟨⟨hnd, fun i hi => ?_⟩, hp, fun i hi => List.mem_append_right _ hi, fun i hi => List.mem_append_left _ (h.st i hi), fun j hj => ?_, fun i hi hni j hj hg => ?_⟩
  · rcases List.mem_append.mp hi with hi | hi
    · exact h.p.r i hi
    · exact hp.r i hi
  · rcases List.mem_append.mp hj with hj | hj
    · exact h.ok j hj
    · obtain ⟨_, i, hi, hg⟩ := (ho.iff j).mp ((hh j).mp hj).1
      obtain ⟨i0, hi0, hg0⟩ := h.ok i (h.sub i hi)
      exact ⟨i0, hi0, gz_snoc hg0 hg⟩
  · have hif : i ∈ fs := by
      rcases List.mem_append.mp hi with hi | hi
      · exact hi
      · exact absurd hi hni
    by_cases c : i ∈ gs
    · have hje : j ∈ es := (ho.iff j).mpr ⟨hj, i, c, hg⟩
      by_cases c2 : j ∈ fs
      · exact List.mem_append_left _ c2
      · exact List.mem_append_right _ ((hh j).mpr ⟨hje, c2⟩)
    · exact List.mem_append_left _ (h.cl i hif c j hj hg)
end L3
end
section
namespace L3
open PySem L2
/-- drawn so long -/
def Wo.gl (w : Wo) : Nat := 20 * w.sz
end L3
end
section
namespace L3
open PySem L2
variable {G : Type} {K : PySem.W.Frag} {X : Cx} {Z : Zx K G}
def stU (k : Str → Prop) : Option PyData → Prop
  | some (.str x) => k x
  | _ => False
theorem stU_of {k : Str → Prop} {a : Option PyData} (h : stU k a) : ∃ x, a = some (.str x) ∧ k x := by
  unfold stU at h
  split at h
  · exact ⟨_, rfl, h⟩
  · exact h.elim
inductive DJ (X : Cx) (Z : Zx K G) : List Expr → List TE → List (DT G) → Prop where
  | nil : DJ X Z [] [] []
  | cons {e : Expr} {t : TE} {a : DT G} {es : List Expr} {ts : List TE} {as : List (DT G)} (h : DE X Z e t a) (r : DJ X Z es ts as) : DJ X Z (e :: es) (t :: ts) (a :: as)
def dJs : List (DT G) → Str → DT G
  | [], acc => fun ρ g Q => Q (.dt (.str acc)) ρ g
  | t :: ts, acc => fun ρ g Q => t ρ g fun r ρ1 g1 => stU (fun y => (acc ++ y).length ≤ 16777216 ∧ dJs ts (acc ++ y) ρ1 g1 Q) (rd r ρ1)
theorem DJ.sim {es : List Expr} {ts : List TE} {as : List (DT G)} (h : DJ X Z es ts as) : ∀ (acc : Str), Sim Z (fun σ H Q => tJs ts acc σ H fun out H1 => Q (.str out) H1) (dJs as acc) := by
  induction h with
  | nil => exact fun acc f F ad ρ g σ H Q R h P hP => hP _ _ (R.dat (.str _) h)
  | @cons e t a es ts as he _ ih =>
    intro acc f F ad ρ g σ H Q R h P hP
    refine he.sim f F ad ρ g σ H _ R h _ fun x H1 q => ?_
    obtain ⟨F1, ad1, ρ1, g1, r1, e1, eg1, R1, v1, q⟩ := q
    obtain ⟨y, ey, hz, q⟩ := stU_of q
    exact ⟨y, R1.rStr v1 ey, by rw [sizeLine_eq]; exact hz, ih (acc ++ y) f F1 ad1 ρ1 g1 σ H1 Q R1 q P fun v H' hp => hP v H' (hp.mono e1 eg1)⟩
end L3
end
section
namespace L3
open PySem L2 TL NumText
end L3
end
section
namespace L3
open PySem L2 TL NumText
end L3
end
section
namespace L3
open PySem L2 TL NumText
end L3
end
section
namespace L3
open PySem PySem.Spec PyProof.Rows L2
/-- what the written part says of the class, at C, and of its __init__, at fI -/
structure NrC (K : PySem.W.Frag) (mg : Str → Option Value) (C fI : Addr) : Prop where
  gC : mg "NoRow" = some (.ref C)
  T : OexC K C
  ga : PySem.W.findIn K (.ref C) "__getattribute__" = some (some (.builtin "BaseException.__getattribute__"))
  gg : PySem.W.findIn K (.ref C) "__getattr__" = some none
  noN : PySem.W.findIn K (.ref C) "row" = some none
  iC : PySem.W.findIn K (.ref C) "__init__" = some (some (.ref fI))
  tI : PySem.W.typeIn K (.ref fI) = some (.type "function")
  hd : PySem.W.hasDictIn K C = true
  sb : PySem.W.subIn K (.ref C) (.ref C) = some true
/-- what __init__ does: the field is put -/
def spNr (K : PySem.W.Frag) (C : Addr) : Sp := fun vs H Q _ => ∃ (a : Addr) (v : V), vs = [.ref a, v] ∧ OexC K C ∧ PySem.W.findIn K (.ref C) "row" = some none ∧ H a = some (exo a C none) ∧ ∀ dx, H dx = none → dx ≠ a → Q .non (upd (upd H dx (exd dx [(("row" : Str), v)])) a (exo a C (some dx)))
def NrX (P : Program) (w : World) (K : PySem.W.Frag) (mg : Str → Option Value) (base : Heap) : Prop := ∃ C fI fd, NrC K mg C fI ∧ Binds K fd ["self", "row"] [] ∧ FnOk P w K mg base CX0 1 fI fd ["self", "row"] (spNr K C)
theorem NrX.mg {P : Program} {w : World} {K : PySem.W.Frag} {mg : Str → Option Value} {base : Heap} (h : NrX P w K mg base) : ∃ C, mg "NoRow" = some (.ref C) := by
  obtain ⟨C, _, _, c, _⟩ := h
  exact ⟨C, c.gC⟩
end L3
end
section
namespace L3
open PySem L2 TL NumText
variable {G : Type} {K : PySem.W.Frag} {X : Cx} {Z : Zx K G}
structure MulIs (y x : Str) (n : Int) : Prop where
  e : y = Txt.mul x n
theorem foldl_cps (c : Array Nat) : ∀ (n : Nat) (a : Array Nat), ((List.replicate n c).foldl (· ++ ·) a).toList = a.toList ++ (List.replicate n c.toList).flatten
  | 0, a => by simp
  | n + 1, a => by
    rw [List.replicate_succ, List.foldl_cons, foldl_cps c n, Array.toList_append, List.replicate_succ, List.flatten_cons, List.append_assoc]
theorem tl_mul (z : Str) (n : Int) : tl (Txt.mul z n) = (List.replicate n.toNat (tl z)).flatten := by
  unfold Txt.mul
  by_cases c : n < 1
  · rw [if_pos c, show n.toNat = 0 by omega]; rfl
  · rw [if_neg c]
    by_cases d : (n == 1 || z.length == 0) = true
    · rw [if_pos d]
      rw [Bool.or_eq_true, beq_iff_eq, beq_iff_eq] at d
      rcases d with d | d
      · subst d
        show tl z = (List.replicate 1 (tl z)).flatten
        simp
      · rw [len_tl] at d
        have : tl z = [] := List.length_eq_zero_iff.mp d
        rw [this]
        symm
        rw [List.flatten_eq_nil_iff]
        intro l hl
        exact (List.mem_replicate.mp hl).2
    · rw [if_neg d]
      show ((List.replicate n.toNat z.cps).foldl (· ++ ·) #[]).toList = _
      rw [foldl_cps]
      rfl
theorem mulS_len (z : Str) (n : Int) : (Txt.mul z n).length = n.toNat * z.length := by
  rw [len_tl, tl_mul, List.length_flatten, List.map_replicate, ← len_tl, List.sum_replicate_nat]
theorem MulIs.len {y x : Str} {n : Int} (h : MulIs y x n) : y.length = n.toNat * x.length := by rw [h.e]; exact mulS_len x n
end L3
end
section
namespace L3
open PySem L2 TL NumText
end L3
end
section
namespace L3
open PySem L2 TL NumText
/-- the length of all with k for each -/
def tot (k : Nat) (ps : List Str) : Nat := (ps.map (·.length + k)).sum
end L3
end
section
namespace L3
open PySem L2
variable {B : Book} {f : Int} {ys : List Int}
theorem range_up : ∀ n : Nat, (List.range n).Pairwise (· < ·) := fun n => List.pairwise_lt_range
theorem canW_up (w : List Int) : (canW B f ys w).Pairwise (· < ·) := by
  unfold canW canL
  rw [List.pairwise_map]
  refine List.Pairwise.filter _ ?_
  have h : (((List.range B.ways.length).zip B.ways).map Prod.fst).Pairwise (· < ·) := by
    rw [List.map_fst_zip (by rw [List.length_range]; exact Nat.le_refl _)]
    exact range_up _
  rw [List.pairwise_map] at h
  exact h.imp fun {a b} q => by omega
/-- before in the order of lists, at the same length -/
inductive Bf : List Int → List Int → Prop
  | here {a b : Int} {u v : List Int} : a < b → u.length = v.length → Bf (a :: u) (b :: v)
  | on {a : Int} {u v : List Int} : Bf u v → Bf (a :: u) (a :: v)
theorem Bf.len {u v : List Int} (h : Bf u v) : u.length = v.length := by
  induction h with
  | here _ h => simp [h]
  | on _ ih => simp [ih]
theorem Bf.irr {u v : List Int} (h : Bf u v) : u ≠ v := by
  induction h with
  | here h _ => intro e; injection e with e1 _; omega
  | on _ ih => intro e; injection e with _ e2; exact ih e2
theorem Bf.snoc {u v : List Int} {k l : Int} (h : Bf u v) : Bf (u ++ [k]) (v ++ [l]) := by
  induction h with
  | here h e => exact .here h (by simp [e])
  | on _ ih => exact .on ih
theorem Bf.last (u : List Int) {k l : Int} (h : k < l) : Bf (u ++ [k]) (u ++ [l]) := by
  induction u with
  | nil => exact .here h rfl
  | cons a u ih => exact .on ih
theorem kidW_up (w : List Int) : (kidW B f ys w).Pairwise Bf := by
  unfold kidW
  rw [List.pairwise_map]
  exact (canW_up w).imp fun h => Bf.last w h
theorem AW_of {i : Nat} (h : (LW B f ys i).Pairwise Bf) : (AW B f ys i).Pairwise Bf := by
  unfold AW
  rw [List.pairwise_flatMap]
  refine ⟨fun w _ => kidW_up w, h.imp fun {u v} q x hx y hy => ?_⟩
  obtain ⟨k, _, rfl⟩ := List.mem_map.mp hx
  obtain ⟨l, _, rfl⟩ := List.mem_map.mp hy
  exact q.snoc
theorem LW_up : ∀ i : Nat, (LW B f ys i).Pairwise Bf
  | 0 => List.pairwise_singleton _ _
  | i + 1 => by rw [LW_succ]; exact (AW_of (LW_up i)).filter _
theorem AW_up (i : Nat) : (AW B f ys i).Pairwise Bf := AW_of (LW_up i)
theorem AW_nd (i : Nat) : (AW B f ys i).Nodup := (AW_up i).imp Bf.irr
/-- all knots of the first D layers -/
def NW (B : Book) (f : Int) (ys : List Int) : Nat → List (List Int)
  | 0 => [[]]
  | D + 1 => NW B f ys D ++ AW B f ys D
theorem NW_len : ∀ D : Nat, (NW B f ys D).length = knW B f ys D
  | 0 => rfl
  | D + 1 => by rw [NW, List.length_append, NW_len D, knW]
theorem mem_NW {w : List Int} : ∀ {D : Nat}, w ∈ NW B f ys D ↔ w = [] ∨ ∃ i, i < D ∧ w ∈ AW B f ys i
  | 0 => by simp [NW]
  | D + 1 => by
    rw [NW, List.mem_append, mem_NW (D := D)]
    constructor
    · rintro ((h | ⟨i, hi, h⟩) | h)
      · exact .inl h
      · exact .inr ⟨i, by omega, h⟩
      · exact .inr ⟨D, by omega, h⟩
    · rintro (h | ⟨i, hi, h⟩)
      · exact .inl (.inl h)
      · by_cases e : i = D
        · exact .inr (e ▸ h)
        · exact .inl (.inr ⟨i, by omega, h⟩)
theorem NW_short {w : List Int} {D : Nat} (h : w ∈ NW B f ys D) : w.length ≤ D := by
  rcases mem_NW.mp h with rfl | ⟨i, hi, h⟩
  · exact Nat.zero_le _
  · rw [AW_len h]; omega
theorem NW_nd : ∀ D : Nat, (NW B f ys D).Nodup
  | 0 => by simp [NW]
  | D + 1 => by
    rw [NW, List.nodup_append]
    refine ⟨NW_nd D, AW_nd D, fun a ha b hb e => ?_⟩
    subst e
    have h1 := NW_short ha
    have h2 := AW_len hb
    omega
end L3
end
section
namespace L3
open PySem L2
variable {B : Book} {f : Int} {ys : List Int}
/-- knots popped, knots that wait -/
structure DF (B : Book) (f : Int) (ys : List Int) (P W : List (List Int)) : Prop where
  nd : (P ++ W).Nodup
  root : [] ∈ P ++ W
  par : ∀ w ∈ P ++ W, w = [] ∨ ∃ u ∈ P, agW B f u = none ∧ ∃ k ∈ canW B f ys u, w = u ++ [k]
  kid : ∀ u ∈ P, agW B f u = none → ∀ k ∈ canW B f ys u, u ++ [k] ∈ P ++ W
theorem DF.start : DF B f ys [] [[]] := ⟨by simp, by simp, fun w hw => .inl (by simpa using hw), fun u hu => by cases hu⟩
theorem DF.again {P W : List (List Int)} {w : List Int} (h : DF B f ys P (W ++ [w])) (ha : agW B f w ≠ none) : DF B f ys (P ++ [w]) W := by
  have pm : (P ++ [w] ++ W).Perm (P ++ (W ++ [w])) := by
    rw [List.append_assoc]
    exact List.Perm.append_left P List.perm_append_comm
  refine ⟨pm.nodup_iff.mpr h.nd, pm.mem_iff.mpr h.root, fun x hx => ?_, fun u hu hn k hk => ?_⟩
  · rcases h.par x (pm.mem_iff.mp hx) with e | ⟨u, hu, r⟩
    · exact .inl e
    · exact .inr ⟨u, List.mem_append_left _ hu, r⟩
  · rcases List.mem_append.mp hu with hu | hu
    · exact pm.mem_iff.mpr (h.kid u hu hn k hk)
    · rw [List.mem_singleton.mp hu] at hn
      exact absurd hn ha
theorem DF.open {P W : List (List Int)} {w : List Int} (h : DF B f ys P (W ++ [w])) (ha : agW B f w = none) : DF B f ys (P ++ [w]) (W ++ kidW B f ys w) := by
  have pm : (P ++ [w] ++ W).Perm (P ++ (W ++ [w])) := by
    rw [List.append_assoc]
    exact List.Perm.append_left P List.perm_append_comm
  have hw : w ∉ P := fun c => by
    have := List.nodup_append.mp h.nd
    exact this.2.2 w c w (by simp) rfl
  have fresh : ∀ x ∈ kidW B f ys w, x ∉ P ++ (W ++ [w]) := fun x hx c => by
    obtain ⟨k, hk, rfl⟩ := List.mem_map.mp hx
    rcases h.par _ c with e | ⟨u, hu, _, l, _, e⟩
    · simp at e
    · have := List.append_inj_left' e rfl
      subst this
      exact hw hu
  have eq : P ++ [w] ++ (W ++ kidW B f ys w) = P ++ [w] ++ W ++ kidW B f ys w := by simp
  refine ⟨?_, ?_, fun x hx => ?_, fun u hu hn k hk => ?_⟩
  · rw [eq, List.nodup_append]
    refine ⟨pm.nodup_iff.mpr h.nd, (kidW_up w).imp Bf.irr, fun a ha2 b hb e => ?_⟩
    subst e
    exact fresh a hb (pm.mem_iff.mp ha2)
  · rw [eq]
    exact List.mem_append_left _ (pm.mem_iff.mpr h.root)
  · rw [eq] at hx
    rcases List.mem_append.mp hx with hx | hx
    · rcases h.par x (pm.mem_iff.mp hx) with e | ⟨u, hu, r⟩
      · exact .inl e
      · exact .inr ⟨u, List.mem_append_left _ hu, r⟩
    · obtain ⟨k, hk, rfl⟩ := List.mem_map.mp hx
      exact .inr ⟨w, by simp, ha, k, hk, rfl⟩
  · rw [eq]
    rcases List.mem_append.mp hu with hu | hu
    · exact List.mem_append_left _ (pm.mem_iff.mpr (h.kid u hu hn k hk))
    · obtain rfl := List.mem_singleton.mp hu
      exact List.mem_append_right _ (List.mem_map.mpr ⟨k, hk, rfl⟩)
/-- a knot of the tree -/
def Knot (B : Book) (f : Int) (ys : List Int) (w : List Int) : Prop := w = [] ∨ ∃ i, w ∈ AW B f ys i
theorem Knot.lw {w : List Int} (h : Knot B f ys w) (ha : agW B f w = none) : w ∈ LW B f ys w.length := by
  rcases h with rfl | ⟨i, h⟩
  · simp [LW]
  · rw [AW_len h]; exact mem_LW.mpr ⟨h, ha⟩
theorem DF.knot {P W : List (List Int)} (h : DF B f ys P W) : ∀ (n : Nat) (w : List Int), w.length ≤ n → w ∈ P ++ W → Knot B f ys w
  | 0, w, hl, _ => .inl (List.length_eq_zero_iff.mp (by omega))
  | n + 1, w, hl, hw => by
    rcases h.par w hw with e | ⟨u, hu, ha, k, hk, rfl⟩
    · exact .inl e
    · rw [List.length_append, List.length_singleton] at hl
      have := h.knot n u (by omega) (List.mem_append_left _ hu)
      exact .inr ⟨u.length, mem_AW.mpr ⟨u, this.lw ha, k, hk, rfl⟩⟩
theorem DF.all {P : List (List Int)} (h : DF B f ys P []) : (∀ i, ∀ w ∈ LW B f ys i, w ∈ P) ∧ ∀ i, ∀ w ∈ AW B f ys i, w ∈ P := by
  have e : P ++ [] = P := List.append_nil P
  have ag : ∀ i, ∀ w ∈ LW B f ys i, agW B f w = none := fun i w hw => by
    cases i with
    | zero => rw [show LW B f ys 0 = [[]] from rfl] at hw; rw [List.mem_singleton.mp hw]; rfl
    | succ i => exact (mem_LW.mp hw).2
  have step : ∀ i, (∀ w ∈ LW B f ys i, w ∈ P) → ∀ w ∈ AW B f ys i, w ∈ P := fun i hi w hw => by
    obtain ⟨u, hu, k, hk, rfl⟩ := mem_AW.mp hw
    have := h.kid u (hi u hu) (ag i u hu) k hk
    rw [e] at this
    exact this
  have lw : ∀ i, ∀ w ∈ LW B f ys i, w ∈ P := fun i => by
    induction i with
    | zero => intro w hw; rw [show LW B f ys 0 = [[]] from rfl] at hw; rw [List.mem_singleton.mp hw]; have := h.root; rw [e] at this; exact this
    | succ i ih => intro w hw; exact step i ih w (mem_LW.mp hw).1
  exact ⟨lw, fun i => step i (lw i)⟩
/-- as many as the knots of the layers, at most -/
theorem sub_len {α : Type} [DecidableEq α] : ∀ {xs zs : List α}, xs.Nodup → (∀ x ∈ xs, x ∈ zs) → xs.length ≤ zs.length
  | [], _, _, _ => Nat.zero_le _
  | x :: xs, zs, hn, h => by
    obtain ⟨h1, h2⟩ := List.nodup_cons.mp hn
    have hx := h x List.mem_cons_self
    have := sub_len (zs := zs.erase x) h2 fun y hy => (List.mem_erase_of_ne (fun e : y = x => h1 (by rw [← e]; exact hy))).mpr (h y (List.mem_cons_of_mem _ hy))
    rw [List.length_erase_of_mem hx] at this
    have : 0 < zs.length := List.length_pos_of_mem hx
    rw [List.length_cons]
    omega
theorem DF.many {P : List (List Int)} (h : DF B f ys P []) (D : Nat) : knW B f ys D ≤ P.length := by
  rw [← NW_len]
  refine sub_len (NW_nd D) fun w hw => ?_
  rcases mem_NW.mp hw with rfl | ⟨i, _, hw⟩
  · exact h.all.1 0 [] (by simp [LW])
  · exact h.all.2 i w hw
theorem DF.few {P W : List (List Int)} (h : DF B f ys P W) {D : Nat} (hD : LW B f ys D = []) : P.length + W.length ≤ knW B f ys D := by
  rw [← List.length_append, ← NW_len]
  refine sub_len h.nd fun w hw => ?_
  rcases h.knot _ w (Nat.le_refl _) hw with rfl | ⟨i, hi⟩
  · exact mem_NW.mpr (.inl rfl)
  · refine mem_NW.mpr (.inr ⟨i, ?_, hi⟩)
    by_cases c : i < D
    · exact c
    · have := (LW_nil hD (i - D)).2
      rw [show D + (i - D) = i by omega] at this
      rw [this] at hi
      cases hi
end L3
end
section
namespace L3
open PySem L2
variable {G : Type} {K : PySem.W.Frag} {X : Cx} {Z : Zx K G}
def unF (A B : Hp) : Hp := fun a => match A a with
  | some o => some o
  | none => B a
theorem unF_l {A B : Hp} {a : Addr} {o : HO} (h : A a = some o) : unF A B a = some o := by unfold unF; rw [h]
theorem unF_r {A B : Hp} {a : Addr} (h : A a = none) : unF A B a = B a := by unfold unF; rw [h]
theorem unF_exl (A B : Hp) : Ex A (unF A B) := fun _ _ h => unF_l h
theorem unF_none {A B : Hp} {a : Addr} (h1 : A a = none) (h2 : B a = none) : unF A B a = none := by rw [unF_r h1, h2]
theorem unF_of {A B : Hp} {a : Addr} {o : HO} (h : unF A B a = some o) : A a = some o ∨ (A a = none ∧ B a = some o) := by
  cases e : A a with
  | some u => rw [unF_l e] at h; exact .inl h
  | none => rw [unF_r e] at h; exact .inr ⟨rfl, h⟩
theorem unF_sub {A B H : Hp} (h1 : Ex A H) (h2 : Ex B H) : Ex (unF A B) H := fun a o h => by
  rcases unF_of h with h | ⟨_, h⟩
  · exact h1 a o h
  · exact h2 a o h
theorem unF_exr {A B H : Hp} (h1 : Ex A H) (h2 : Ex B H) : Ex B (unF A B) := fun a o h => by
  cases e : A a with
  | none => rw [unF_r e]; exact h
  | some u =>
    have := (h1 a u e).symm.trans (h2 a o h)
    rw [unF_l e]; exact this
/-- a value kept aside: what it is as data is seen in what the caller had -/
def KpF (K : PySem.W.Frag) (v : V) (d : PyData) (f : Fx) : Prop := NoLo f.F0 ∧ ∃ Fs, Ex Fs f.B ∧ (∀ a ∈ f.fp0, Fs a = none) ∧ Da K Fs v d
/-- the resource's own holding does not hang on what is frozen -/
def FreeZ (Z : Zx K G) : Prop := ∀ g F F' H, Z.R g F H → Z.R g F' H
def QuietZ (Z : Zx K G) : Prop := ∀ c fs ρ g, ¬ Z.U c fs ρ g
theorem lexQ (hX : QuietZ Z) (f : Fx) (ra : Nat → Addr) : LeX Z f ra := fun _ _ _ _ _ _ _ _ _ _ _ _ h => (hX _ _ _ _ h).elim
/-- what a slot may still hold in the loop -/
def okK : Sl → Bool
  | .un => true
  | .dt d => noL d
  | .ls _ => false
  | .dk _ => false
  | .rs _ => true
  | .vv _ => true
abbrev CutK : En → En → Prop := Paired fun s s' => s' = .un ∨ (s' = s ∧ okK s = true)
theorem cutK_get {ρ ρ' : En} (h : CutK ρ ρ') {i : Nat} {s : Sl} (e : ρ'[i]? = some s) : s = .un ∨ (ρ[i]? = some s ∧ okK s = true) := by
  obtain ⟨t, h1, h2⟩ := paired_get h e
  rcases h2 with h2 | ⟨h2, h3⟩
  · exact .inl h2
  · subst h2; exact .inr ⟨h1, h3⟩
theorem okK_own {s : Sl} (h : okK s = true) : s.own = false := by cases s <;> first | rfl | cases h
def noOwn (ρ : En) : Bool := List.all ρ fun s : Sl => !s.own
theorem noOwn_get {ρ : En} (h : noOwn ρ = true) {i : Nat} {s : Sl} (e : ρ[i]? = some s) : s.own = false := by
  have := List.all_eq_true.mp h s (List.mem_of_getElem? e)
  simpa using this
section
variable {f f' : Fx} {F F1 F2 F4 : Hp} {ad ad1 ad4 : Nat → Addr} {ρ ρ1 ρ2 : En} {g g1 g2 : G} {σ σ1 σ2 : St} {H H1 H2 H4 : Hp}
theorem Rel.world (hX : QuietZ Z) (hR : FreeZ Z) (hc : CutK ρ1 ρ2) {j : Nat} {v : V} (hj : σ[j]? = some (some v)) (R : Rel Z f F ad ρ1 g σ H) : Rel Z ⟨H, noLF F, Z.fp g⟩ (noLF F) ad (ρ2.set j (.vv v)) g σ H := by
  have key : ∀ (i : Nat) (s : Sl), (ρ2.set j (.vv v))[i]? = some s → s = .un ∨ s = .vv v ∧ i = j ∨ (ρ1[i]? = some s ∧ okK s = true) := fun i s hi => by
    by_cases e : j = i
    · subst e
      have hl : j < ρ2.length := by
        have := (List.getElem?_eq_some_iff.mp hi).1
        rwa [List.length_set] at this
      rw [List.getElem?_set_self hl] at hi
      cases hi
      exact .inr (.inl ⟨rfl, rfl⟩)
    · rw [List.getElem?_set_ne e] at hi
      rcases cutK_get hc hi with h | h
      · exact .inl h
      · exact .inr (.inr h)
  have own : ∀ (i : Nat) (s : Sl), (ρ2.set j (.vv v))[i]? = some s → s.own = false := fun i s hi => by
    rcases key i s hi with rfl | ⟨rfl, _⟩ | ⟨_, h⟩
    · rfl
    · rfl
    · exact okK_own h
  refine ⟨⟨⟨Evl.Ex.refl _, fun b o e => R.fin.sub b o (noLF_ex F b o e), fun b o e _ => e, fun b e => e, fun b o e => .inl e, hR _ _ _ _ R.fin.res, fun a ha => noLF_none (R.fin.fpF a ha), fun a ha => .inl ha, fun a ha => Z.there R.fin.res a ha⟩, by rw [List.length_set]; exact (Paired.length hc).symm.trans R.len, fun i s hi => ?_, fun i k s t hi hk hs ht he => ?_⟩, lexQ hX _ _⟩
  · rcases key i s hi with rfl | ⟨rfl, rfl⟩ | ⟨h1, h2⟩
    · trivial
    · exact hj
    · have q := R.slot i s h1
      cases s with
      | un => trivial
      | dt d => obtain ⟨v, q1, q2⟩ := q; exact ⟨v, q1, da_noLF q2 h2⟩
      | ls ds => cases h2
      | dk ds => cases h2
      | rs n => exact q
      | vv v => exact q
  · rw [own i s hi] at hs; cases hs
/-- back in the caller's state -/
theorem Rel.home (hX : QuietZ Z) (hR : FreeZ Z) (R1 : Rel Z f F1 ad1 ρ1 g1 σ1 H1) (R2 : Rel Z ⟨H1, noLF F1, Z.fp g1⟩ F2 ad2 ρ2 g2 σ2 H2) : Rel Z f (unF F1 F2) ad2 ρ2 g2 σ2 H2 ∧ Ex F1 (unF F1 F2) := by
  have nfp : ∀ {a o}, F1 a = some o → a ∉ Z.fp g1 := fun {a o} h hm => by
    have := R1.fin.fpF a hm
    rw [h] at this; cases this
  have s1 : Ex F1 H2 := fun a o h => R2.fin.keep a o (R1.fin.sub a o h) (nfp h)
  have s2 : Ex F2 H2 := R2.fin.sub
  have r2 : Ex F2 (unF F1 F2) := unF_exr s1 s2
  have hBn : ∀ {a}, H1 a = none → f.B a = none := fun {a} h => by
    cases e : f.B a with
    | none => rfl
    | some u => exact absurd h (R1.fin.keepN a (by rw [e]; intro z; cases z))
  have hF1n : ∀ {a}, H1 a = none → F1 a = none := fun {a} h => Evl.fresh_back R1.fin.sub h
  have own : ∀ {a}, OwnA Z ⟨H1, noLF F1, Z.fp g1⟩ F2 g2 a → OwnA Z f (unF F1 F2) g2 a := fun {a} h => ⟨unF_none (hF1n h.2.1) h.1, hBn h.2.1, h.2.2⟩
  refine ⟨⟨⟨⟨R1.fin.base.trans (unF_exl _ _), unF_sub s1 s2, fun b o e hb => ?_, fun b e => R2.fin.keepN b (R1.fin.keepN b e), fun b o e => ?_, hR _ _ _ _ R2.fin.res, fun a ha => ?_, fun a ha => ?_, R1.fin.fpo⟩, R2.len, fun i s hi => ?_, R2.inj⟩, lexQ hX _ _⟩, unF_exl _ _⟩
  · refine R2.fin.keep b o (R1.fin.keep b o e hb) fun hm => ?_
    rcases R1.fin.fpB b hm with q | q
    · exact hb q
    · rw [e] at q; cases q
  · rcases unF_of e with e | ⟨_, e⟩
    · exact R1.fin.new b o e
    · rcases R2.fin.new b o e with q | q
      · exact R1.fin.new b o (noLF_ex F1 b o q)
      · exact .inr (hBn q)
  · refine unF_none ?_ (R2.fin.fpF a ha)
    rcases R2.fin.fpB a ha with q | q
    · exact R1.fin.fpF a q
    · exact hF1n q
  · rcases R2.fin.fpB a ha with q | q
    · exact R1.fin.fpB a q
    · exact .inr (hBn q)
  · have q := R2.slot i s hi
    cases s with
    | un => trivial
    | dt d => obtain ⟨v, q1, q2⟩ := q; exact ⟨v, q1, da_mono r2 q2⟩
    | ls ds => obtain ⟨q1, q2, vs, q3, q4⟩ := q; exact ⟨q1, own q2, vs, q3, daAll_mono r2 q4⟩
    | dk ds => obtain ⟨q1, q2, vs, q3, q4⟩ := q; exact ⟨q1, own q2, vs, q3, kv_mono r2 q4⟩
    | rs n => exact q
    | vv v => exact q
/-- what is kept is seen -/
theorem Rel.opens (hX : QuietZ Z) (hR : FreeZ Z) {v : V} {d : PyData} {j : Nat} (hn : noOwn ρ = true) (hj : ρ[j]? = some (.vv v)) (R : Rel Z f F ad ρ g σ H) {Fs : Hp} (h1 : Ex Fs f.B) (h2 : ∀ a ∈ f.fp0, Fs a = none) (h3 : Da K Fs v d) :
    Rel Z ⟨f.B, unF F Fs, f.fp0⟩ (unF F Fs) ad (ρ.set j (.dt d)) g σ H := by
  have s1 : Ex F H := R.fin.sub
  have s2 : Ex Fs H := fun a o h => R.fin.keep a o (h1 a o h) fun hm => by
    have := h2 a hm
    rw [h] at this; cases this
  have hl : j < ρ.length := (List.getElem?_eq_some_iff.mp hj).1
  refine ⟨⟨⟨Evl.Ex.refl _, unF_sub s1 s2, R.fin.keep, R.fin.keepN, fun b o e => .inl e, hR _ _ _ _ R.fin.res, fun a ha => unF_none (R.fin.fpF a ha) ?_, R.fin.fpB, R.fin.fpo⟩, by rw [List.length_set]; exact R.len, fun i s hi => ?_, fun i k s t hi hk hs ht he => ?_⟩, lexQ hX _ _⟩
  · rcases R.fin.fpB a ha with q | q
    · exact h2 a q
    · exact Evl.fresh_back h1 q
  · by_cases e : j = i
    · subst e
      rw [List.getElem?_set_self hl] at hi
      cases hi
      exact ⟨v, R.slot j _ hj, da_mono (unF_exr s1 s2) h3⟩
    · rw [List.getElem?_set_ne e] at hi
      have q := R.slot i s hi
      have o := noOwn_get hn hi
      cases s with
      | un => trivial
      | dt d => obtain ⟨v, q1, q2⟩ := q; exact ⟨v, q1, da_mono (unF_exl _ _) q2⟩
      | ls ds => cases o
      | dk ds => cases o
      | rs n => exact q
      | vv v => exact q
  · have o : s.own = false := by
      by_cases e : j = i
      · subst e
        rw [List.getElem?_set_self hl] at hi
        cases hi; rfl
      · rw [List.getElem?_set_ne e] at hi
        exact noOwn_get hn hi
    rw [o] at hs; cases hs
theorem Rel.closes (hX : QuietZ Z) (hR : FreeZ Z) {F0 : Hp} {ρ4 : En} (hn : noOwn ρ = true) (R : Rel Z f F ad ρ g σ H) (e0 : Ex F F0) (R4 : Rel Z ⟨f.B, F0, f.fp0⟩ F4 ad4 ρ4 g σ H4) : Rel Z f F ad4 ρ g σ H4 := by
  have e4 : Ex F F4 := e0.trans R4.fin.base
  refine ⟨⟨⟨R.fin.base, e4.trans R4.fin.sub, R4.fin.keep, R4.fin.keepN, R.fin.new, hR _ _ _ _ R4.fin.res, R.fin.fpF, R.fin.fpB, R.fin.fpo⟩, R.len, fun i s hi => ?_, fun i k s t hi hk hs ht he => ?_⟩, lexQ hX _ _⟩
  · have q := R.slot i s hi
    have o := noOwn_get hn hi
    cases s with
    | un => trivial
    | dt d => exact q
    | ls ds => cases o
    | dk ds => cases o
    | rs n => exact q
    | vv v => exact q
  · have := noOwn_get hn hi
    rw [this] at hs; cases hs
end
def SimSK (K : PySem.W.Frag) (v : V) (d : PyData) (Z : Zx K G) (ts : TS) (t : DS G) : Prop := ∀ f F ad ρ g σ H D, KpF K v d f → Rel Z f F ad ρ g σ H → t D ρ g → ∀ D2 : Ends, Le Z f (Z.ra g) D D2 → ts D2 σ H
structure DStK (X : Cx) (Z : Zx K G) (s : Stmt) (ts : TS) (t : V → PyData → DS G) : Prop where
  ps : PS X s ts
  sim : ∀ v d, SimSK K v d Z ts (t v d)
structure DSsK (X : Cx) (Z : Zx K G) (s : List Stmt) (ts : TS) (t : V → PyData → DS G) : Prop where
  ps : PSs X s ts
  sim : ∀ v d, SimSK K v d Z ts (t v d)
theorem k_of1 {s : Stmt} {ts : TS} {t : DS G} (h : DSt1 X Z s ts t) : DStK X Z s ts (fun _ _ => t) := ⟨h.ps, fun _ _ f F ad ρ g σ H D kp R q D2 le => h.sim f F ad ρ g σ H D kp.1 R q D2 le⟩
theorem k_of {s : Stmt} {ts : TS} {t : DS G} (h : DSt X Z s ts t) : DStK X Z s ts (fun _ _ => t) := k_of1 (s1_of h)
theorem k_one {s : Stmt} {t : TS} {a : V → PyData → DS G} (h : DStK X Z s t a) : DSsK X Z [s] t a := ⟨pss_one h.ps, h.sim⟩
theorem k_cons {s : Stmt} {ss : List Stmt} {t u : TS} {a b : V → PyData → DS G} (h : DStK X Z s t a) (k : DSsK X Z ss u b) : DSsK X Z (s :: ss) (tSeq t u) (fun v d => dSeq (a v d) (b v d)) := ⟨pss_cons h.ps k.ps, fun v d f F ad ρ g σ H D h0 R q D2 le => by
  refine h.sim v d f F ad ρ g σ H _ h0 R q _ ⟨fun F1 ad1 ρ1 g1 σ1 H1 er R1 q => ?_, le.rt, le.bk, le.ct⟩
  exact k.sim v d f F1 ad1 ρ1 g1 σ1 H1 D h0 R1 q D2 (by rw [er]; exact le)⟩
/-- if: the test sees what is kept -/
def dIfO (j : Nat) (v : V) (d : PyData) (c : DB G) (t u : DS G) : DS G := fun D ρ g => noOwn ρ = true ∧ ρ[j]? = some (.vv v) ∧ c (ρ.set j (.dt d)) g fun b _ g1 => g1 = g ∧ ifb b (t D ρ g) (u D ρ g)
theorem k_ifo (j : Nat) (hX : QuietZ Z) (hR : FreeZ Z) {c : Expr} {tc : TT} {dc : DB G} {a b : List Stmt} {t u : TS} {da db : DS G} {pos : Pos} (hc : DTe X Z c tc dc) (ha : DSs X Z a t da) (hb : DSs X Z b u db) : DStK X Z (.If c a b pos) (tIfS tc t u) (fun v d => dIfO j v d dc da db) := ⟨ps_if hc.pt ha.ps hb.ps, fun v d f F ad ρ g σ H D kp R h D2 le => by
  obtain ⟨hn, hj, h⟩ := h
  obtain ⟨_, Fs, k1, k2, k3⟩ := kp
  have R0 := R.opens hX hR hn hj k1 k2 k3
  refine hc.sim _ _ ad _ g σ H _ R0 h _ fun x H1 q => ?_
  obtain ⟨F1, ad1, ρ1, g1, e1, eg1, R1, rfl, q⟩ := q
  have R2 := Rel.closes hX hR hn R (unF_exl _ _) R1
  cases x with
  | true =>
    rw [if_pos rfl]
    replace q := ifb_t q
    exact ha.sim f F ad1 ρ g1 σ H1 D R2 q D2 le
  | false =>
    rw [if_neg Bool.false_ne_true]
    replace q := ifb_f q
    exact hb.sim f F ad1 ρ g1 σ H1 D R2 q D2 le⟩
def flatK : PyData → Bool
  | .int _ => true
  | .bool _ => true
  | .str _ => true
  | .none => true
  | _ => false
theorem da_flatK {F F' : Hp} {v : V} {d : PyData} (h : Da K F v d) (e : flatK d = true) : Da K F' v d := by
  cases h with
  | non => exact .non
  | bl b => exact .bl b
  | int i => exact .int i
  | str x => exact .str x
  | _ => cases e
def WkH (K : PySem.W.Frag) (F : Hp) (J : It) (items : List PyData) : Prop := ∀ H, Ex F H → J.stop items.length H ∧ ∀ i, i < items.length → J.go i H ∧ ∀ x H', J.yld i H x H' → H' = H ∧ ∃ d, items[i]? = some d ∧ Da K F x d
def SimIK (Z : Zx K G) (wi : TI) (t : DI G) : Prop := ∀ f F ad ρ g σ H Q, Rel Z f F ad ρ g σ H → t ρ g Q → ∀ R : It → Hp → Prop,
  (∀ J H' F' ad' ρ' g' items, Ex F F' → Z.ra g' = Z.ra g → Rel Z f F' ad' ρ' g' σ H' → WkH K F' J items → Q items ρ' g' → R J H') → wi σ H R
structure DItK (X : Cx) (Z : Zx K G) (tg e : Expr) (wi : TI) (t : DI G) : Prop where
  pi : PI X tg e wi
  sim : SimIK Z wi t
theorem i_seqK {tg e : Expr} {te : TE} {a : DT G} (h : DE X Z e te a) (hK : K = X.K := by rfl) : DItK X Z tg e (iSeq K te) (dSeqI a) := ⟨by rw [hK]; exact pi_seq h.pe, fun f F ad ρ g σ H Q R q P hP => by
  refine h.sim f F ad ρ g σ H _ R q _ fun x H1 q => ?_
  obtain ⟨F1, ad1, ρ1, g1, r1, e1, eg1, R1, v1, q⟩ := q
  obtain ⟨d, ρ2, ef, q⟩ := fz1_of q
  obtain ⟨F2, e2, R2, dv⟩ := R1.hfz v1 ef
  obtain ⟨ds, hd, q⟩ := seqD_of q
  rcases hd with hd | hd
  · cases hd
    cases dv with
    | lst h1 h2 =>
      rename_i a vs
      refine .inl ⟨_, rfl, ⟨_, .inl (.inl (R2.fin.sub _ _ h1))⟩, hP _ _ F2 ad1 ρ2 g1 ds (e1.trans e2) eg1 R2 (fun H2 eH => ?_) q⟩
      have hs : SqL K H2 a vs := .inl (.inl (eH _ _ h1))
      refine ⟨⟨vs, hs, by rw [h2.length]; exact Nat.le_refl _⟩, fun i hi => ?_⟩
      have hi2 : i < vs.length := by rw [h2.length]; exact hi
      refine ⟨⟨vs, vs[i], hs, by simp [hi2]⟩, fun x H' y => ?_⟩
      obtain ⟨rfl, hx⟩ := y
      exact ⟨rfl, h2.getV (hx vs hs)⟩
  · cases hd
    cases dv with
    | tup h1 h2 =>
      rename_i a vs
      refine .inr ⟨_, rfl, ⟨_, Evl.ex_t R2.fin.sub h1⟩, hP _ _ F2 ad1 ρ2 g1 ds (e1.trans e2) eg1 R2 (fun H2 eH => ?_) q⟩
      have hs : SqT K H2 a vs := Evl.ex_t eH h1
      refine ⟨⟨vs, hs, by rw [h2.length]; exact Nat.le_refl _⟩, fun i hi => ?_⟩
      have hi2 : i < vs.length := by rw [h2.length]; exact hi
      refine ⟨⟨vs, vs[i], hs, by simp [hi2]⟩, fun x H' y => ?_⟩
      obtain ⟨rfl, hx⟩ := y
      exact ⟨rfl, h2.getV (hx vs hs)⟩⟩
def dForK (j : Nat) (i : DI G) (tg : DG G) (b : V → PyData → DS G) : DS G := fun D ρ g => i ρ g fun items ρ1 g1 => items.all flatK = true ∧ ∃ d ρ2, ρ1[j]? = some (.dt d) ∧ CutK ρ1 ρ2 ∧ ∀ v, ForP items tg (b v d) { D with rt := fun _ _ => False } (ρ2.set j (.vv v)) g1
theorem s_forK (j : Nat) (hX : QuietZ Z) (hR : FreeZ Z) {iter tgE : Expr} {body : List Stmt} {wi : TI} {gt : TG} {tb : TS} {di : DI G} {dg : DG G} {db : V → PyData → DS G} {pos : Pos} (hi : DItK X Z tgE iter wi di) (hg : DGt X Z tgE gt dg) (hb : DSsK X Z body tb db) (hc : X.calm = true := by rfl) (hp : PassesOwn (model X.prog X.w) X.A X.env X.xe := by exact PassesOwn.never) (hs : ∀ x, foldedSetIterable iter X.env x = pure x := by intro _; rfl) :
    DSt X Z (.For tgE iter body [] pos) (tFor wi gt tb) (dForK j di dg db) := ⟨ps_for hp hc hi.pi hg.pg hb.ps hs, fun f F ad ρ g σ H D R h D2 le => by
  refine hi.sim f F ad ρ g σ H _ R h _ fun J H1 F1 ad1 ρ1 g1 items e1 eg1 R1 wk q => ?_
  obtain ⟨hfl, d, ρc, hj, hcut, q⟩ := q
  obtain ⟨v, hv, dv⟩ := R1.slot j _ hj
  have R0 := R1.world hX hR hcut hv
  have kp : KpF K v d ⟨H1, noLF F1, Z.fp g1⟩ := ⟨noLF_no _, F1, R1.fin.sub, R1.fin.fpF, dv⟩
  obtain ⟨⟨I, hI0, hs, hd⟩⟩ := q v
  refine ⟨fun i m σ' H' => m = items.length - i ∧ i ≤ items.length ∧ ∃ F2 ad2 ρ2 g2, Z.ra g2 = Z.ra g ∧ Rel Z ⟨H1, noLF F1, Z.fp g1⟩ F2 ad2 ρ2 g2 σ' H' ∧ I i ρ2 g2, ⟨items.length, rfl, Nat.zero_le _, _, ad1, _, g1, eg1, R0, hI0⟩, fun i m σ2 H2 hW => ?_⟩
  obtain ⟨rfl, hle, F2, ad2, ρ2, g2, eg2, R2, hI⟩ := hW
  obtain ⟨Rh, eh⟩ := Rel.home hX hR R1 R2
  obtain ⟨stop, go⟩ := wk H2 (eh.trans Rh.fin.sub)
  by_cases hlt : i < items.length
  · obtain ⟨hgo, hy⟩ := go i hlt
    refine .inr ⟨hgo, fun σ' H' => ∃ F2 ad2 ρ2 g2, Z.ra g2 = Z.ra g ∧ Rel Z ⟨H1, noLF F1, Z.fp g1⟩ F2 ad2 ρ2 g2 σ' H' ∧ I (i + 1) ρ2 g2, fun σ' H' z => ⟨items.length - (i + 1), by omega, rfl, hlt, z⟩, fun x H' y => ?_⟩
    obtain ⟨rfl, d2, hd2, dv2⟩ := hy x H' y
    have fl := List.all_eq_true.mp hfl d2 (List.mem_of_getElem? hd2)
    refine hg.sim _ F2 ad2 ρ2 g2 σ2 H' x d2 _ R2 (da_flatK dv2 fl) (hs i d2 ρ2 g2 hd2 hI) _ fun F4 ad4 ρ4 g4 σ4 H4 e4 er4 R4 q4 => ?_
    have er : Z.ra g4 = Z.ra g := er4.trans eg2
    exact hb.sim v d _ F4 ad4 ρ4 g4 σ4 H4 _ kp R4 q4 _ ⟨fun F5 ad5 ρ5 g5 σ5 H5 er5 R5 q5 => ⟨F5, ad5, ρ5, g5, er5.trans er, R5, q5⟩, fun F5 g5 H5 v r er5 R5 hv q5 => q5.elim,
      fun F5 ad5 ρ5 g5 σ5 H5 er5 R5 q5 => le.nx _ ad5 ρ5 g5 σ5 H5 (er5.trans er) (Rel.home hX hR R1 R5).1 q5, fun F5 ad5 ρ5 g5 σ5 H5 er5 R5 q5 => ⟨F5, ad5, ρ5, g5, er5.trans er, R5, q5⟩⟩
  · have e : i = items.length := by omega
    subst e
    exact .inl ⟨stop, le.nx _ ad2 ρ2 g2 σ2 H2 eg2 Rh (hd ρ2 g2 hI)⟩⟩
end L3
end
section
namespace L3
open PySem L2
variable {B : Book} {f : Int} {ys : List Int}
theorem minOf_is {α : Type} [DecidableEq α] [PySem.W.DatumOrd α] {m : α} : ∀ (xs : List α) (x : α), m ∈ x :: xs → (∀ y ∈ x :: xs, PySem.W.DatumOrd.lt y m = false) → (∀ y ∈ x :: xs, y ≠ m → PySem.W.DatumOrd.lt m y = true) → PySem.W.minOf x xs = m
  | [], x, h, _, _ => (List.mem_singleton.mp h).symm
  | y :: xs, x, h, h1, h2 => by
    show PySem.W.minOf (if PySem.W.DatumOrd.lt y x = true then y else x) xs = m
    have sub : ∀ {c : α}, c = x ∨ c = y → ∀ z ∈ c :: xs, z ∈ x :: y :: xs := fun {c} hc z hz => by
      rcases List.mem_cons.mp hz with rfl | hz
      · rcases hc with rfl | rfl <;> simp
      · simp [hz]
    by_cases e : x = m
    · subst e
      rw [h1 y (by simp), if_neg (by decide)]
      exact minOf_is xs x List.mem_cons_self (fun z hz => h1 z (sub (.inl rfl) z hz)) (fun z hz => h2 z (sub (.inl rfl) z hz))
    · by_cases e2 : y = m
      · subst e2
        rw [if_pos (h2 x (by simp) e)]
        exact minOf_is xs y List.mem_cons_self (fun z hz => h1 z (sub (.inr rfl) z hz)) (fun z hz => h2 z (sub (.inr rfl) z hz))
      · have hm : m ∈ xs := by
          rcases List.mem_cons.mp h with q | q
          · exact absurd q.symm e
          · rcases List.mem_cons.mp q with q | q
            · exact absurd q.symm e2
            · exact q
        split
        · exact minOf_is xs y (List.mem_cons_of_mem _ hm) (fun z hz => h1 z (sub (.inr rfl) z hz)) (fun z hz => h2 z (sub (.inr rfl) z hz))
        · exact minOf_is xs x (List.mem_cons_of_mem _ hm) (fun z hz => h1 z (sub (.inl rfl) z hz)) (fun z hz => h2 z (sub (.inl rfl) z hz))
theorem listLt_self : ∀ u : List Int, PySem.W.listLt u u = false
  | [] => rfl
  | x :: u => by
    show (if x = x then PySem.W.listLt u u else _) = false
    rw [if_pos rfl]; exact listLt_self u
theorem Bf.lt {u v : List Int} (h : Bf u v) : PySem.W.listLt u v = true ∧ PySem.W.listLt v u = false := by
  induction h with
  | @here a b u v h _ =>
    have e1 : ¬ a = b := by omega
    have e2 : ¬ b = a := by omega
    constructor
    · show (if a = b then PySem.W.listLt u v else decide (a < b)) = true
      rw [if_neg e1]; exact decide_eq_true h
    · show (if b = a then PySem.W.listLt v u else decide (b < a)) = false
      rw [if_neg e2]; exact decide_eq_false (by omega)
  | @on a u v _ ih =>
    constructor
    · show (if a = a then PySem.W.listLt u v else decide (a < a)) = true
      rw [if_pos rfl]; exact ih.1
    · show (if a = a then PySem.W.listLt v u else decide (a < a)) = false
      rw [if_pos rfl]; exact ih.2
theorem fstAg_first {p : List Int × List Int} : ∀ {ws : List (List Int)}, fstAg B f ws = some p → ∃ pre w post j, ws = pre ++ w :: post ∧ (∀ u ∈ pre, agW B f u = none) ∧ agW B f w = some j ∧ p = (w.take j, w.drop j)
  | w :: ws, h => by
    rw [fstAg] at h
    cases e : agW B f w with
    | none =>
      rw [e] at h
      obtain ⟨pre, u, post, j, rfl, h2, h3, h4⟩ := fstAg_first h
      refine ⟨w :: pre, u, post, j, rfl, fun x hx => ?_, h3, h4⟩
      rcases List.mem_cons.mp hx with rfl | hx
      · exact e
      · exact h2 x hx
    | some j =>
      rw [e] at h
      cases h
      exact ⟨[], w, ws, j, rfl, fun x hx => (nomatch hx), e, rfl⟩
theorem agnW_first {p : List Int × List Int} : ∀ {D : Nat}, agnW B f ys D = some p → ∃ i pre w post j, i < D ∧ AW B f ys i = pre ++ w :: post ∧ (∀ u ∈ pre, agW B f u = none) ∧ (∀ k, k < i → ∀ u ∈ AW B f ys k, agW B f u = none) ∧ agW B f w = some j ∧ p = (w.take j, w.drop j)
  | D + 1, h => by
    rw [agnW, Option.or_eq_some_iff] at h
    rcases h with h | ⟨h0, h⟩
    · obtain ⟨i, pre, w, post, j, hi, r⟩ := agnW_first h
      exact ⟨i, pre, w, post, j, by omega, r⟩
    · obtain ⟨pre, w, post, j, h1, h2, h3, h4⟩ := fstAg_first h
      exact ⟨D, pre, w, post, j, by omega, h1, h2, fun k hk u hu => agnW_none h0 k hk u hu, h3, h4⟩
def stgt (B : Book) (f : Int) (P : List (List Int)) : List (List Int) := P.filter fun w => (agW B f w).isNone
def agL (B : Book) (f : Int) (P : List (List Int)) : List (List Int × Nat) := P.filterMap fun w => (agW B f w).map fun j => (w, j)
def agT (p : List Int × Nat) : PyData := .tuple [.int (p.1.length : Nat), .list (p.1.map PyData.int), .int (p.2 : Nat)]
def ag3 (p : List Int × Nat) : PySem.W.T3 Int (List Int) Int := ⟨(p.1.length : Nat), p.1, (p.2 : Nat)⟩
def iLD (w : List Int) : PyData := .list (w.map PyData.int)
def treeD (B : Book) (f : Int) (P W : List (List Int)) : PyData := .tuple [.int ((P.length : Nat) + (W.length : Nat) : Int), .list ((stgt B f P).map iLD), .list ((agL B f P).map agT)]
theorem mem_agL {P : List (List Int)} {w : List Int} {j : Nat} : (w, j) ∈ agL B f P ↔ w ∈ P ∧ agW B f w = some j := by
  unfold agL
  rw [List.mem_filterMap]
  constructor
  · rintro ⟨u, hu, h⟩
    rw [Option.map_eq_some_iff] at h
    obtain ⟨k, h1, h2⟩ := h
    cases h2
    exact ⟨hu, h1⟩
  · rintro ⟨h1, h2⟩
    exact ⟨w, h1, by rw [h2]; rfl⟩
theorem mem_stgt {P : List (List Int)} {w : List Int} : w ∈ stgt B f P ↔ w ∈ P ∧ agW B f w = none := by
  unfold stgt
  rw [List.mem_filter, Option.isNone_iff_eq_none]
theorem agL_snoc (P : List (List Int)) (w : List Int) : agL B f (P ++ [w]) = match agW B f w with
    | some j => agL B f P ++ [(w, j)]
    | none => agL B f P := by
  unfold agL
  rw [List.filterMap_append]
  cases h : agW B f w with
  | none => simp [h]
  | some j => simp [h]
theorem stgt_snoc (P : List (List Int)) (w : List Int) : stgt B f (P ++ [w]) = match agW B f w with
    | some _ => stgt B f P
    | none => stgt B f P ++ [w] := by
  unfold stgt
  rw [List.filter_append]
  cases h : agW B f w with
  | none => simp [h]
  | some j => simp [h]
/-- of any knot that comes again: where the first such one is -/
theorem again_before {i : Nat} {pre post : List (List Int)} {w : List Int} (hA : AW B f ys i = pre ++ w :: post) (h1 : ∀ u ∈ pre, agW B f u = none) (h2 : ∀ k, k < i → ∀ u ∈ AW B f ys k, agW B f u = none) {u : List Int} (hu : Knot B f ys u) (ha : agW B f u ≠ none) :
    u = w ∨ (w.length < u.length) ∨ Bf w u := by
  rcases hu with rfl | ⟨k, hk⟩
  · exact absurd rfl ha
  · have lw : w.length = i + 1 := AW_len (B := B) (f := f) (ys := ys) (by rw [hA]; simp)
    have lu := AW_len hk
    by_cases c : k < i
    · exact absurd (h2 k c u hk) ha
    · by_cases c2 : k = i
      · subst c2
        have hp := AW_up (B := B) (f := f) (ys := ys) k
        rw [hA] at hk hp
        rcases List.mem_append.mp hk with hk | hk
        · exact absurd (h1 u hk) ha
        · rcases List.mem_cons.mp hk with rfl | hk
          · exact .inl rfl
          · rw [List.pairwise_append] at hp
            exact .inr (.inr ((List.pairwise_cons.mp hp.2.1).1 u hk))
      · exact .inr (.inl (by omega))
theorem agL_none {P : List (List Int)} (h : DF B f ys P []) {D : Nat} (hD : LW B f ys D = []) (ha : agnW B f ys D = none) : agL B f P = [] := by
  cases e : agL B f P with
  | nil => rfl
  | cons q r =>
    obtain ⟨w, j⟩ := q
    have hm : (w, j) ∈ agL B f P := by rw [e]; exact List.mem_cons_self
    obtain ⟨h1, h2⟩ := mem_agL.mp hm
    rcases h.knot _ w (Nat.le_refl _) (by simpa using h1) with rfl | ⟨i, hi⟩
    · cases h2
    · by_cases c : i < D
      · rw [agnW_none ha i c w hi] at h2; cases h2
      · have := (LW_nil hD (i - D)).2
        rw [show D + (i - D) = i by omega] at this
        rw [this] at hi
        cases hi
theorem agL_min {P : List (List Int)} (h : DF B f ys P []) {D : Nat} {p : List Int × List Int} (ha : agnW B f ys D = some p) :
    ∃ q r w j, agL B f P = q :: r ∧ PySem.W.minOf (ag3 q) (r.map ag3) = ag3 (w, j) ∧ p = (w.take j, w.drop j) ∧ w ∈ P ∧ j ≤ w.length := by
  obtain ⟨i, pre, w, post, j, hi, hA, h1, h2, h3, rfl⟩ := agnW_first ha
  have hw : w ∈ P := h.all.2 i w (by rw [hA]; simp)
  have hm : (w, j) ∈ agL B f P := mem_agL.mpr ⟨hw, h3⟩
  cases e : agL B f P with
  | nil => rw [e] at hm; cases hm
  | cons q r =>
    have bf : ∀ y ∈ ag3 q :: r.map ag3, ∃ u k, y = ag3 (u, k) ∧ (y = ag3 (w, j) ∨ w.length < u.length ∨ Bf w u) := fun y hy => by
      rw [← List.map_cons, ← e] at hy
      obtain ⟨⟨u, k⟩, hu, rfl⟩ := List.mem_map.mp hy
      obtain ⟨u1, u2⟩ := mem_agL.mp hu
      refine ⟨u, k, rfl, ?_⟩
      rcases again_before hA h1 h2 (h.knot _ u (Nat.le_refl _) (by simpa using u1)) (by rw [u2]; exact fun c => nomatch c) with rfl | q | q
      · rw [h3] at u2; cases u2; exact .inl rfl
      · exact .inr (.inl q)
      · exact .inr (.inr q)
    refine ⟨q, r, w, j, rfl, minOf_is _ _ (by rw [← List.map_cons, ← e]; exact List.mem_map_of_mem hm) (fun y hy => ?_) (fun y hy hn => ?_), rfl, hw, Nat.le_of_lt (agW_some h3).1⟩
    · obtain ⟨u, k, rfl, q | q | q⟩ := bf y hy
      · rw [q]
        show (if ((w.length : Nat) : Int) = (w.length : Nat) then (if w = w then decide (((j : Nat) : Int) < (j : Nat)) else _) else _) = false
        rw [if_pos rfl, if_pos rfl]; exact decide_eq_false (by omega)
      · show (if ((u.length : Nat) : Int) = (w.length : Nat) then _ else decide (((u.length : Nat) : Int) < (w.length : Nat))) = false
        rw [if_neg (by omega)]; exact decide_eq_false (by omega)
      · have hl := q.len
        show (if ((u.length : Nat) : Int) = (w.length : Nat) then (if u = w then _ else PySem.W.listLt u w) else _) = false
        rw [if_pos (by omega), if_neg (fun c => q.irr c.symm)]; exact q.lt.2
    · obtain ⟨u, k, rfl, c | q | q⟩ := bf y hy
      · exact absurd c hn
      · show (if ((w.length : Nat) : Int) = (u.length : Nat) then _ else decide (((w.length : Nat) : Int) < (u.length : Nat))) = true
        rw [if_neg (by omega)]; exact decide_eq_true (by omega)
      · have hl := q.len
        show (if ((w.length : Nat) : Int) = (u.length : Nat) then (if w = u then _ else PySem.W.listLt w u) else _) = true
        rw [if_pos (by omega), if_neg q.irr]; exact q.lt.1
/-- the walks that go on or can't: none is longer than the layers go -/
theorem stgt_le {P : List (List Int)} (h : DF B f ys P []) {D : Nat} (hD : LW B f ys D = []) {w : List Int} (hw : w ∈ stgt B f P) : w ∈ LW B f ys w.length ∧ w.length < D := by
  obtain ⟨h1, h2⟩ := mem_stgt.mp hw
  have hl := (h.knot _ w (Nat.le_refl _) (by simpa using h1)).lw h2
  refine ⟨hl, ?_⟩
  by_cases c : w.length < D
  · exact c
  · have := (LW_nil hD (w.length - D)).1
    rw [show D + (w.length - D) = w.length by omega] at this
    rw [this] at hl
    cases hl
theorem stgt_mem {P : List (List Int)} (h : DF B f ys P []) {i : Nat} {w : List Int} (hw : w ∈ LW B f ys i) : w ∈ stgt B f P := by
  refine mem_stgt.mpr ⟨h.all.1 i w hw, ?_⟩
  cases i with
  | zero => rw [show LW B f ys 0 = [[]] from rfl] at hw; rw [List.mem_singleton.mp hw]; rfl
  | succ i => exact (mem_LW.mp hw).2
/-- the first of the longest -/
theorem stgt_min {P : List (List Int)} (h : DF B f ys P []) {D : Nat} (hD : LW B f ys D = []) (hn : ∀ j, j < D → LW B f ys j ≠ []) (h1 : 1 < D) :
    ∃ q r w, (stgt B f P).filter (fun w => decide (w.length = D - 1)) = q :: r ∧ PySem.W.minOf q r = w ∧ lgW B f ys D = some w := by
  obtain ⟨d, rfl⟩ : ∃ d, D = d + 2 := ⟨D - 2, by omega⟩
  have hne := hn (d + 1) (by omega)
  cases e2 : LW B f ys (d + 1) with
  | nil => exact absurd e2 hne
  | cons w ws =>
    have hl : lgW B f ys (d + 2) = some w := by
      rw [lgW, hD]
      show lgW B f ys (d + 1) = some w
      rw [lgW, e2]
    have hmem : ∀ u, u ∈ (stgt B f P).filter (fun w => decide (w.length = d + 2 - 1)) ↔ u ∈ w :: ws := fun u => by
      rw [List.mem_filter, decide_eq_true_eq]
      constructor
      · rintro ⟨a, b⟩
        have := (stgt_le h hD a).1
        rw [b, show d + 2 - 1 = d + 1 by omega, e2] at this
        exact this
      · intro a
        rw [← e2] at a
        exact ⟨stgt_mem h a, by rw [LW_len a]; omega⟩
    have hup := LW_up (B := B) (f := f) (ys := ys) (d + 1)
    rw [e2] at hup
    have hup := (List.pairwise_cons.mp hup).1
    have hm := (hmem w).mpr List.mem_cons_self
    cases e : (stgt B f P).filter (fun w => decide (w.length = d + 2 - 1)) with
    | nil => rw [e] at hm; cases hm
    | cons q r =>
      rw [e] at hm hmem
      refine ⟨q, r, w, rfl, minOf_is _ _ hm (fun y hy => ?_) (fun y hy hne => ?_), hl⟩
      · rcases List.mem_cons.mp ((hmem y).mp hy) with rfl | hy
        · exact listLt_self y
        · exact (hup y hy).lt.2
      · rcases List.mem_cons.mp ((hmem y).mp hy) with rfl | hy
        · exact absurd rfl hne
        · exact (hup y hy).lt.1
theorem canL_rng (r : Int) (xs : List Int) : canL B r xs = ((List.range B.ways.length).filter fun (i : Nat) => fitsW (wAt B (i : Nat)) r xs).map fun i => ((i : Nat) : Int) := by
  have e : (List.range B.ways.length).zip B.ways = (List.range B.ways.length).map fun i => (i, wAt B (i : Nat)) := by
    apply List.ext_getElem?
    intro i
    by_cases c : i < B.ways.length
    · have h2 : B.ways[i]? = some (wAt B (i : Nat)) := by
        unfold wAt
        rw [List.getD_eq_getElem?_getD, Int.toNat_natCast, List.getElem?_eq_getElem c]; rfl
      rw [List.getElem?_map, List.getElem?_range c, List.zip, List.getElem?_zipWith, List.getElem?_range c, h2]
      rfl
    · rw [List.getElem?_eq_none (by rw [List.length_zip, List.length_range]; omega), List.getElem?_eq_none (by rw [List.length_map, List.length_range]; omega)]
  unfold canL
  rw [e, List.filter_map, List.map_map]
  rfl
end L3
end
local macro_rules | `(tactic| walk_at "w") => `(tactic| ((conv => whnf); repeat ((first | (refine L3.insK_of (by (apply Eq.trans; (first | assumption | exact L3.OS.put_self (by assumption) | exact L3.OS.look_new)); rfl) ?_) | (refine L3.keep_of rfl ?_) | (refine L3.opK_of (L3.intsL_map _) ?_) | (refine L3.opK_of (L3.boolsF _ _) ?_) | (refine L3.opK_of (L3.intsF _ _) ?_) | (refine L3.sh_of (by first | rfl | exact L3.shaped_ints _ | exact L3.shaped_tints _ | exact L3.shaped_ways _) (by first | rfl | exact L3.shaped_ints _ | exact L3.shaped_tints _ | exact L3.shaped_ways _) ?_)); (conv => whnf))))
local macro_rules | `(tactic| walk_at "lcw") => `(tactic| ((try simp only [L3.wipeE, L3.entry, L3.slOf, List.map_cons, List.map_nil, List.set_cons_zero, List.set_cons_succ, List.length_cons, List.length_nil, List.cons_append, List.nil_append, List.replicate, Nat.add_sub_cancel, Nat.reduceAdd, Nat.reduceSub]); rfl))
namespace Lw
open PySem PySem.Spec PyProof.Rows L2 L3
def topS (i : Nat) : Stmt := PySem.Challenge.pw_fallsum_k60_walks_from_one_stand.main.body.getD i (.Pass ⟨0, 0, 0, 0⟩)
abbrev s__law_mix : Stmt := topS 22
theorem c__law_mix : FnScope ["one"] ["one"] (defScope s__law_mix) := ⟨rfl, rfl, rfl, by decide +kernel, rfl, by decide +kernel, by decide +kernel⟩
theorem xor_lt {n : Nat} {x y : Int} (hx : 0 ≤ x) (hy : 0 ≤ y) (h1 : x < 2 ^ n) (h2 : y < 2 ^ n) : 0 ≤ Builtin.bitXor x y ∧ Builtin.bitXor x y < 2 ^ n := by
  rw [Bits.bitXor_pp hx hy]
  have e : ((2 : Int) ^ n) = ((2 ^ n : Nat) : Int) := by norm_cast
  rw [e] at h1 h2 ⊢
  have := Nat.xor_lt_two_pow (n := n) (x := x.toNat) (y := y.toNat) (by omega) (by omega)
  omega
def S__law_mix : Spec Unit := fun as g T U => match as with
  | [.dt (.int _)] => ∀ r : Int, 0 ≤ r → r < 18446744073709551616 → T (.dt (.int r)) g
  | _ => False
theorem mix_use {K : PySem.W.Frag} {H : Hp} {Q : VK} {E : XK} {i : Int} (h : ∀ (r : Int) (H' : Hp), 0 ≤ r → r < 18446744073709551616 → (∀ b o, H b = some o → H' b = some o) → Q (.int r) H') : spZ (Z0 K) S__law_mix ([.int i] ++ []) H Q E := by
  refine ⟨fun _ => none, (), [.dt (.int i)], fun r _ => ∃ z, r = .dt (.int z) ∧ 0 ≤ z ∧ z < 18446744073709551616, fun _ _ _ => False, (fun b o e => by cases e), trivial, (fun a ha => nomatch ha), .cons (.int i) .nil, fun r h1 h2 => ⟨r, rfl, h1, h2⟩, fun v r F' g' H' fr _ hv hT => ?_, fun c fs dx F' g' H' _ _ _ hU => hU.elim⟩
  obtain ⟨z, rfl, h1, h2⟩ := hT
  cases (show Da K F' v (.int z) from hv)
  exact h z H' h1 h2 fun b o e => fr.keep b o e (fun z => nomatch z)
theorem ok__law_mix {P : Program} {w : World} {K : PySem.W.Frag} {mg : Str → Option Value} {base : Heap} {k : Nat} (D : Dfn K mg "_law_mix" s__law_mix ["one"]) : Ok P w K mg base (k + 1) "_law_mix" ["one"] (spZ (Z0 K) S__law_mix) := by
  refine D.ok c__law_mix (fun as g T U h => by unfold S__law_mix at h; split at h <;> first | rfl | cases h) (by decide) fun fa cdv A outer s' H E hr => ⟨_, _, (s_cons (s_set 0 c__law_mix.nd (e_op b_mod (e_op b_mul (e_op b_xor (e_v 0) (e_op b_div (e_v 0) e_int)) e_int) e_int))
      (s_cons (s_set 0 c__law_mix.nd (e_op b_mod (e_op b_mul (e_op b_xor (e_v 0) (e_op b_div (e_v 0) e_int)) e_int) e_int))
      (s_one (s_ret (e_op b_xor (e_v 0) (e_op b_div (e_v 0) e_int)))))), ?_⟩
  intro as g T U h
  unfold S__law_mix at h
  clear hr
  split at h
  · rename_i i
    walk_at "w"
    have z := Int.emod_nonneg (Builtin.bitXor (Builtin.bitXor i (i / 1073741824) * 13787848793156543929 % 18446744073709551616) (Builtin.bitXor i (i / 1073741824) * 13787848793156543929 % 18446744073709551616 / 134217728) * 10723151780598845931) (show (18446744073709551616 : Int) ≠ 0 by decide)
    have z2 := Int.emod_lt_of_pos (Builtin.bitXor (Builtin.bitXor i (i / 1073741824) * 13787848793156543929 % 18446744073709551616) (Builtin.bitXor i (i / 1073741824) * 13787848793156543929 % 18446744073709551616 / 134217728) * 10723151780598845931) (show (0 : Int) < 18446744073709551616 by decide)
    have q := xor_lt (n := 64) z (Int.ediv_nonneg z (show (0 : Int) ≤ 2147483648 by decide)) z2 (Int.lt_of_le_of_lt (Int.ediv_le_self _ z) z2)
    exact h _ q.1 q.2
  · cases h
abbrev s__law_jar : Stmt := topS 23
theorem c__law_jar : FnScope ["script", "seed", "cell"] ["script"] (defScope s__law_jar) := ⟨rfl, rfl, rfl, by decide +kernel, rfl, by decide +kernel, by decide +kernel⟩
theorem ok__law_jar {P : Program} {w : World} {K : PySem.W.Frag} {mg : Str → Option Value} {base : Heap} {k : Nat} (D : Dfn K mg "_law_jar" s__law_jar ["script"]) (f__law_mix : Ok P w K mg base k "_law_mix" ["one"] (spZ (Z0 K) S__law_mix)) (z_list : mg "list" = none) : Ok P w K mg base (k + 1) "_law_jar" ["script"] (spJar K) := by
  refine D.raw c__law_jar (fun vs H Q E h => ?_) fun fa cdv A outer s' H vs Q E hr h => ?_
  · obtain ⟨a, ns, rfl, _⟩ := h
    rfl
  · refine ⟨_, pss_cons (ps_set (i := 1) c__law_jar.nd rfl (.inl rfl) pe_int)
      (pss_cons (ps_for PassesOwn.never rfl (pi_list (pe_slice sl_list (pv 0) po_none (po_some pe_int))) (pg_name (i := 2) c__law_jar.nd rfl (.inl rfl))
        (pss_one (ps_set (i := 1) c__law_jar.nd rfl (.inl rfl) (pe_fn f__law_mix hr (pa_cons (pe_op op_mod (pe_op op_add (pe_op op_mul (pv 1) pe_int) (pv 2)) pe_int) pa_nil)))))
      (pss_one (ps_ret (pe_disp (pps_cons pe_str (pe_callTy call_list_of (by rfl) z_list rfl (pa_cons (pe_slice sl_list (pv 0) po_none (po_some pe_int)) pa_nil))
        (pps_cons pe_str pe_int (pps_cons pe_str (pv 1) (pps_cons pe_str pe_int pps_nil)))) rfl rfl (by simp) (by decide))))), ?_⟩
    clear hr f__law_mix
    obtain ⟨a, ns, rfl, hS, hq⟩ := h
    show tSeq _ _ _ [some (.ref a), none, none] H
    refine ⟨.ref a, rfl, 63, rfl, a, ns.map V.int, rfl, hS, fun c nc => ?_⟩
    obtain ⟨ms, hms⟩ := cut_ints ns none (some 63)
    rw [hms]
    have e1 : ∀ b o, H b = some o → (upd H c (.lst (ms.map V.int))) b = some o := fun b o e => by rw [upd_ne (ne_of_none e nc)]; exact e
    refine ⟨c, rfl, ⟨_, .inl (.inl upd_same)⟩, fun i m σ H1 => m = ms.length - i ∧ ∃ s y, σ = [some (.ref a), some (.int s), y] ∧ ∀ b o, (upd H c (.lst (ms.map V.int))) b = some o → H1 b = some o, ⟨_, rfl, _, _, rfl, fun b o e => e⟩, fun i m σ H1 hW => ?_⟩
    obtain ⟨rfl, s, y, rfl, e2⟩ := hW
    have hc : SqL K H1 c (ms.map V.int) := .inl (.inl (e2 _ _ upd_same))
    by_cases hi : i < ms.length
    · have g : (ms.map V.int)[i]? = some (.int ms[i]) := by
        rw [List.getElem?_map, List.getElem?_eq_getElem hi]; rfl
      refine .inr ⟨⟨_, _, hc, g⟩, fun σ' H' => ∃ s y, σ' = [some (.ref a), some (.int s), y] ∧ ∀ b o, (upd H c (.lst (ms.map V.int))) b = some o → H' b = some o, fun σ' H' hN => ?_, fun v H' hy => ?_⟩
      · exact ⟨ms.length - (i + 1), by omega, rfl, hN⟩
      · obtain ⟨rfl, fv⟩ := hy
        have ev : v = .int ms[i] := Option.some.inj ((fv _ hc).symm.trans g)
        subst ev
        refine ⟨_, rfl, s, 3, rfl, rfl, .inr (by decide), _, rfl, _, _, rfl, rfl, _, 18446744073709551616, rfl, rfl, (by decide : (0 : Int) < 18446744073709551616), mix_use fun z H5 _ _ e5 => ?_⟩
        exact ⟨z, _, rfl, fun b o e => e5 b o (e2 b o e)⟩
    · refine .inl ⟨⟨_, hc, by rw [List.length_map]; omega⟩, ?_⟩
      have e3 : ∀ b o, H b = some o → H1 b = some o := fun b o e => e2 b o (e1 b o e)
      have back : ∀ b, H1 b = none → H b = none := fun b e => by
        cases q : H b with
        | none => rfl
        | some o => rw [e3 b o q] at e; cases e
      refine fun p hp => ?_
      have e4 : ∀ b o, H b = some o → (upd H1 p (.dK [])) b = some o := fun b o e => by rw [upd_ne (ne_of_none (e3 b o e) hp)]; exact e3 b o e
      have hS4 : SqL K (upd H1 p (.dK [])) a (ns.map V.int) := Same.seq (H := H) e4 hS
      refine ⟨.ref a, rfl, 63, rfl, a, ns.map V.int, rfl, hS4, fun d nd => ?_⟩
      rw [hms]
      have ndp : d ≠ p := fun e => by rw [e, upd_same] at nd; cases nd
      refine ⟨d, ms.map V.int, rfl, .inl (.inl (.inl upd_same)), fun l nl => ?_⟩
      have nld : l ≠ d := fun e => by rw [e, upd_same] at nl; cases nl
      have nlp : l ≠ p := fun e => by rw [e, upd_ne ndp.symm, upd_same] at nl; cases nl
      rw [upd_ne nld, upd_ne nlp] at nl
      refine ⟨_, rfl, ?_⟩
      refine ⟨by rw [upd_ne nlp.symm, upd_ne ndp.symm, upd_same], [(kCl, .ref l), (kRs, .int 0), (kSd, .int s), (kTn, .int 0)], rfl, (by show 4 ≤ 15; decide), ?_⟩
      refine hq _ ⟨p, l, none, none⟩ (fun b o e => ?_) (back p hp) (back l nl) ⟨ms, 0, s, 0, ?_, ?_, nlp.symm⟩ rfl
      · rw [upd_ne (ne_of_none (e3 b o e) hp), upd_ne (ne_of_none (e3 b o e) nl)]
        rw [upd_ne (ne_of_none (e4 b o e) nd)]
        exact e4 b o e
      · exact upd_same
      · show upd _ p _ l = _
        rw [upd_ne nlp, upd_same]
abbrev s__law_pick : Stmt := topS 24
theorem c__law_pick : FnScope ["jar", "many", "cell", "one", "found"] ["jar", "many"] (defScope s__law_pick) := ⟨rfl, rfl, rfl, by decide +kernel, rfl, by decide +kernel, by decide +kernel⟩
theorem ok__law_pick {P : Program} {w : World} {K : PySem.W.Frag} {mg : Str → Option Value} {base : Heap} {k : Nat} (D : Dfn K mg "_law_pick" s__law_pick ["jar", "many"]) (f__law_mix : Ok P w K mg base k "_law_mix" ["one"] (spZ (Z0 K) S__law_mix)) : Ok P w K mg base (k + 1) "_law_pick" ["jar", "many"] (spZ (ZJ K) S__law_pick) := by
  refine D.raw c__law_pick (fun vs H Q E h => ?_) fun fa cdv A outer s' H vs Q E hr h => ?_
  · obtain ⟨F, g, as, T, U, _, _, _, h4, h5, _⟩ := h
    rw [argR_len h4]
    unfold S__law_pick at h5
    split at h5 <;> first | rfl | cases h5
  · have hu := hu_of hr.rm
    refine ⟨_, pss_cons (ps_if (pt_cmpR op_lt (pe_dget hu (pv 0) pe_str (fun _ _ => rfl)) (pv 1) (nomark _))
      (pss_cons (ps_dput hu (pv 0) pe_str (pe_op op_add (pe_dget hu (pv 0) pe_str (fun _ _ => rfl)) pe_int) (by rfl))
        (pss_one (ps_if (pt_cmpR (op_neD hr.units) (pe_dget hu (pv 0) pe_str (fun _ _ => rfl)) (pe_lst pa_nil) (nomark _))
          (pss_cons (ps_set (i := 2) c__law_pick.nd rfl (.inl rfl) (pe_bm PySem.F.plainAttrs_list PySem.F.slot_list_pop PySem.F.type_list_pop mt_popAt (pe_dget hu (pv 0) pe_str (fun _ _ => rfl)) (pa_cons pe_int pa_nil)))
            (pss_cons (ps_dput hu (pv 0) pe_str (pv 2) (by rfl))
              (pss_one (ps_if (pt_cmpR op_lt (pv 2) (pe_op op_pow pe_int pe_int) (nomark _))
                (pss_cons (ps_set (i := 3) c__law_pick.nd rfl (.inl rfl) (pe_fn f__law_mix hr (pa_cons (pe_op op_mod (pe_op op_add (pe_op op_mul (pv 2) pe_int) (pe_dget hu (pv 0) pe_str (fun _ _ => rfl))) pe_int) pa_nil)))
                  (pss_one (ps_dput hu (pv 0) pe_str (pe_op op_add (pe_op op_mul (pv 3) pe_int) (pe_fn f__law_mix hr (pa_cons (pe_op op_xor (pv 3) pe_int) pa_nil))) (by rfl)))) pss_nil))))
          (pss_cons (ps_dput hu (pv 0) pe_str (pe_fn f__law_mix hr (pa_cons (pe_op op_mod (pe_op op_add (pe_dget hu (pv 0) pe_str (fun _ _ => rfl)) pe_int) pe_int) pa_nil)) (by rfl))
            (pss_one (ps_dput hu (pv 0) pe_str (pe_dget hu (pv 0) pe_str (fun _ _ => rfl)) (by rfl))))))) pss_nil)
      (pss_cons (ps_set (i := 4) c__law_pick.nd rfl (.inl rfl) (pe_op op_mod (pe_dget hu (pv 0) pe_str (fun _ _ => rfl)) (pv 1)))
      (pss_cons (ps_dput hu (pv 0) pe_str (pe_op op_fdivW (pe_dget hu (pv 0) pe_str (fun _ _ => rfl)) (pv 1)) (by rfl))
      (pss_one (ps_ret (pv 4))))), ?_⟩
    clear hr f__law_mix
    obtain ⟨F, g, as, T, U, h1, h2, h3, h4, h5, h6, _⟩ := h
    unfold S__law_pick at h5
    split at h5
    · rename_i m
      obtain ⟨⟨hm, hm2⟩, hT⟩ := dvK_e h5
      obtain ⟨ja, cl, mo1, mo2⟩ := g
      cases h4 with
      | cons a1 t1 =>
        cases t1 with
        | cons a2 t2 =>
          cases t2
          cases (show _ = V.ref ja from a1)
          cases (show Da K F _ (.int m) from a2)
          obtain ⟨cells, r, s, t, hJ⟩ := h2
          -- behind the first statement
          have fin : ∀ (H' : Hp) (y z u : Option V) (cells : List Int) (r s t : Int), JF ja cl H H' → JAt ja cl (mo1, mo2) cells r s t H' →
              tSeq (tAsg (tOp (rI (fun _ j => 0 < j) fun i j => .int (i % j)) (tDGet (tVar 0) (tC (.str "rest"))) (tVar 1)) (gName 4))
                (tSeq (sDPut (tVar 0) (tC (.str "rest")) (tOp (rI CDivW fun i j => .int (i / j)) (tDGet (tVar 0) (tC (.str "rest"))) (tVar 1))) (tRet (tVar 4))) { nx := fun _ H' => Q .non H', rt := Q } [some (.ref ja), some (.int m), y, z, u] H' := fun H' y z u cells r s t jf j => by
            refine ⟨_, rfl, ja, _, rfl, j.getR, _, rfl, r, m, rfl, rfl, hm, ?_⟩
            refine ⟨_, rfl, ja, _, rfl, j.getR, _, rfl, r, m, rfl, rfl, ⟨hm, hm2⟩, _, rfl, ja, _, rfl, j.putR, _, rfl, ?_⟩
            refine h6 _ (.dt (.int (r % m))) F ⟨ja, cl, mo1, mo2⟩ _ (JF.frm (g := ⟨ja, cl, mo1, mo2⟩) (jf.trans .dict) h1 h3 ⟨_, _, _, _, j.put⟩) rfl (.int _) (hT _ (Int.emod_nonneg _ (by omega)) (Int.emod_lt_of_pos _ hm))
          show tSeq _ _ _ [some (.ref ja), some (.int m), none, none, none] H
          refine ⟨_, rfl, ja, _, rfl, hJ.getR, _, rfl, r, m, rfl, rfl, _, rfl, ite2 (fun _ => ?_) (fun _ => ?_)⟩
          · refine ⟨_, rfl, ja, _, rfl, hJ.getT, t, 1, rfl, rfl, _, rfl, ja, _, rfl, hJ.putT, ?_⟩
            have j1 : JAt ja cl (mo1, mo2) cells r s (t + 1) _ := hJ.put
            refine ⟨_, rfl, ja, _, rfl, j1.getC, Nat.zero_le _, fun p hp => ?_⟩
            have j2 : JAt ja cl (mo1, mo2) cells r s (t + 1) _ := j1.keep (H' := upd _ p (.lst [])) fun b o e => by rw [upd_ne (ne_of_none e hp)]; exact e
            have f2 : JF ja cl H _ := JF.trans .dict (.new (o := .lst []) hp)
            refine ⟨.list (cells.map PyData.int), .list [], .lst (.inl (.inl j2.2.1)) (DaAll.dp (canLay_ints cells) (daAll_of_ints cells)), .lst (.inl (.inl upd_same)) .nil, shaped_ints cells, rfl, _, rfl, ite2 (fun hb => ?_) (fun _ => ?_)⟩
            · cases cells with
              | nil => cases hb
              | cons c0 cells =>
                refine ⟨_, rfl, ja, _, rfl, j2.getC, .inl ⟨rfl, _, .inl (.inl j2.2.1)⟩, cl, _, 0, 0, .int c0, rfl, rfl, j2.2.1, by decide, by decide, seqIndex_of (Int.le_refl 0) (by rw [List.length_map, List.length_cons]; omega), rfl, ?_⟩
                have j3 : JAt ja cl (mo1, mo2) cells r s (t + 1) _ := j2.cut (cells' := cells)
                have f3 := f2.trans (JF.lst (o := .lst (cells.map V.int)))
                refine ⟨_, rfl, _, rfl, ja, _, rfl, j3.putR, ?_⟩
                have j4 : JAt ja cl (mo1, mo2) cells c0 s (t + 1) _ := j3.put
                have f4 := f3.trans (JF.dict (o := .dK (jarKv (mo1, mo2) cl c0 s (t + 1))))
                refine ⟨_, rfl, 10, 18, rfl, rfl, ⟨by decide, by decide, by decide⟩, _, _, rfl, rfl, _, rfl, ite2 (fun _ => ?_) (fun _ => ?_)⟩
                · refine ⟨_, rfl, _, 5, rfl, rfl, .inr (by decide), _, rfl, ja, _, rfl, j4.getT, _, _, rfl, rfl, _, 18446744073709551616, rfl, rfl, (by decide : (0 : Int) < 18446744073709551616), mix_use fun z H5 z1 z2 e5 => ?_⟩
                  have j5 := j4.keep e5
                  have f5 := f4.trans (JF.same e5)
                  refine ⟨_, rfl, _, 18446744073709551616, rfl, rfl, .inl ⟨by omega, z2⟩, _, rfl, _, 77, rfl, rfl, mix_use fun z' H6 _ _ e6 => ?_⟩
                  have j6 := j5.keep e6
                  have f6 := f5.trans (JF.same e6)
                  refine ⟨_, _, rfl, rfl, _, rfl, ja, _, rfl, j6.putR, ?_⟩
                  exact fin _ _ _ _ _ _ _ _ (f6.trans .dict) j6.put
                · exact fin _ _ _ _ _ _ _ _ f4 j4
            · refine ⟨_, rfl, ja, _, rfl, j2.getS, _, 11400714819323198485, rfl, rfl, _, 18446744073709551616, rfl, rfl, (by decide : (0 : Int) < 18446744073709551616), mix_use fun z H5 _ _ e5 => ?_⟩
              have j5 := j2.keep e5
              have f5 := f2.trans (JF.same e5)
              refine ⟨_, rfl, ja, _, rfl, j5.putS, ?_⟩
              have j6 : JAt ja cl (mo1, mo2) cells r z (t + 1) _ := j5.put
              have f6 := f5.trans (JF.dict (o := .dK (jarKv (mo1, mo2) cl r z (t + 1))))
              refine ⟨_, rfl, ja, _, rfl, j6.getS, _, rfl, ja, _, rfl, j6.putR, ?_⟩
              exact fin _ _ _ _ _ _ _ _ (f6.trans .dict) j6.put
          · exact fin _ _ _ _ _ _ _ _ .refl hJ
    · cases h5
abbrev s__law_slow_book : Stmt := topS 30
theorem c__law_slow_book : FnScope ["jar", "most_rooms", "most_ways", "rooms", "purses", "ways", "k", "gains", "p"] ["jar", "most_rooms", "most_ways"] (defScope s__law_slow_book) := ⟨rfl, rfl, rfl, by decide +kernel, rfl, by decide +kernel, by decide +kernel⟩
def S__law_slow_book : Spec JG := fun as g T U => match as with
  | [.rs 0, .dt (.int mr), .dt (.int mw)] => (0 < mr ∧ mr ≤ 1000) ∧ (0 ≤ mw ∧ mw ≤ 1000) ∧ ∀ B : Book, B.Ok mr mw → T (.dt B.d) g
  | _ => False
theorem ok__law_slow_book {P : Program} {w : World} {K : PySem.W.Frag} {mg : Str → Option Value} {base : Heap} {k : Nat} (D : Dfn K mg "_law_slow_book" s__law_slow_book ["jar", "most_rooms", "most_ways"]) (f__law_pick : Ok P w K mg base k "_law_pick" ["jar", "many"] (spZ (ZJ K) S__law_pick)) (z_range : mg "range" = none) (z_tuple : mg "tuple" = none) : Ok P w K mg base (k + 1) "_law_slow_book" ["jar", "most_rooms", "most_ways"] (spZ (ZJ K) S__law_slow_book) := by
  refine D.ok c__law_slow_book (fun as g T U h => by unfold S__law_slow_book at h; split at h <;> first | rfl | cases h) (by decide) fun fa cdv A outer s' H E hr => ⟨_, _, (s_cons (s_set 3 c__law_slow_book.nd (e_op b_add e_int (e_fnU let_n f__law_pick hr (a_cons (e_v 0) (a_cons (e_v 1) a_nil)))))
      (s_cons (s_set 4 c__law_slow_book.nd (e_ixX hr.units (e_lst (a_cons e_int (a_cons e_int (a_cons e_int (a_cons e_int (a_cons e_int a_nil)))))) (e_fnU let_n f__law_pick hr (a_cons (e_v 0) (a_cons e_int a_nil)))))
      (s_cons (s_set 5 c__law_slow_book.nd (e_lst a_nil))
      (s_cons (s_for (i_rng1 z_range (a_cons (e_fnU let_n f__law_pick hr (a_cons (e_v 0) (a_cons (e_op b_add (e_v 2) e_int) a_nil))) a_nil)) (g_name 6 c__law_slow_book.nd) (s_cons (s_setLc 7 [("p", 8)] c__law_slow_book.nd (i_rng1 z_range (a_cons (e_v 4) a_nil)) (fun _ _ _ _ _ => (g_name 8 c__law_slow_book.nd)) (own_name (by decide)) (fun _ _ _ _ _ => ts_nil) (fun _ _ _ _ _ => (e_ixX hr.units (e_lst (a_cons (e_un u_neg e_int) (a_cons e_int (a_cons (e_un u_neg e_int) (a_cons e_int (a_cons (e_un u_neg e_int) (a_cons e_int (a_cons (e_un u_neg e_int) a_nil)))))))) (e_fnU let_n f__law_pick hr (a_cons (e_v 0) (a_cons e_int a_nil))))))
      (s_cut (s_if (t_cmp (c_eq hr.units) (e_fnU let_n f__law_pick hr (a_cons (e_v 0) (a_cons e_int a_nil))) e_int) (s_one (s_setIx 7 (e_op b_sub (e_op b_sub e_int e_int) (e_fnU let_n f__law_pick hr (a_cons (e_v 0) (a_cons e_int a_nil)))) (e_fnU let_n f__law_pick hr (a_cons (e_v 0) (a_cons (e_v 4) a_nil))))) s_nil)
      (s_one (s_expr (e_ml PySem.F.slot_list_append PySem.F.type_list_append mt_append m_app 5 (a_cons (e_tup (a_cons (e_fnU let_n f__law_pick hr (a_cons (e_v 0) (a_cons (e_v 3) a_nil))) (a_cons (e_fnU let_n f__law_pick hr (a_cons (e_v 0) (a_cons (e_v 3) a_nil))) (a_cons (e_callTy k_tuple (a_cons (e_v 7) a_nil) z_tuple rfl) a_nil)))) a_nil)))))))
      (s_one (s_ret (e_tup (a_cons (e_v 3) (a_cons (e_v 4) (a_cons (e_callTy k_tuple (a_cons (e_v 5) a_nil) z_tuple rfl) a_nil)))))))))), ?_⟩
  intro as g T U h
  unfold S__law_slow_book at h
  clear hr f__law_pick
  split at h
  · rename_i mr mw
    obtain ⟨hr, hw, h⟩ := h
    walk_at "w"
    refine pk_of hr.1 (by omega) fun a a1 a2 => ?_
    walk_at "w"
    intro p p1 p2
    walk_at "w"
    obtain ⟨n, hn, en⟩ := atI_int (zs := [1, 2, 3, 3, 6]) p1 p2
    refine opK_of en ?_
    walk_at "w"
    refine pk_of (by omega) (by omega) fun c c1 c2 => ?_
    walk_at "w"
    refine rgK_of (by omega) (by omega) ?_
    walk_at "w"
    simp at hn
    have hn1 : 1 ≤ n ∧ n ≤ 6 := by omega
    refine ⟨⟨fun k ρ' g' => Hold (g' = g ∧ ∃ (ws : List Way) (s6 s7 s8 : Sl), ρ' = [.rs 0, .dt (.int mr), .dt (.int mw), .dt (.int (1 + a)), .dt (.int n), .ls (ws.map Way.d), s6, s7, s8] ∧ ws.length = k ∧ ∀ w ∈ ws, w.Ok (1 + a) n), hold ⟨rfl, [], _, _, _, rfl, rfl, fun w hw => by cases hw⟩, fun k d ρ' g' hk hI => ?_, fun ρ' g' hI => ?_⟩⟩
    · obtain ⟨rfl, ws, s6, s7, s8, rfl, hl, hws⟩ := hI.h
      obtain ⟨rfl, hk⟩ := rngD_inv hk
      walk_at "w"
      refine rgK_of (by omega) (by omega) ?_
      walk_at "w"
      refine leK_of (by rw [rngD_len]; omega) (lc_all (fun _ d => ∃ z, d = .int z ∧ -99 ≤ z ∧ z ≤ 99) (by walk_at "lcw") (fun k d _ C1 C0 q => ?_) (fun acc hl2 hp => ?_))
      · walk_at "w"
        intro z z1 z2
        walk_at "w"
        obtain ⟨y, hy, ey⟩ := atI_int (zs := [-1, 0, -1, 1, -2, 2, -3]) z1 z2
        refine opK_of ey ?_
        walk_at "w"
        simp at hy
        exact q _ ⟨y, rfl, by omega, by omega⟩
      rw [rngD_len] at hl2
      obtain ⟨gs, rfl, hgs⟩ := ints_of_get hp
      rw [List.length_map] at hl2
      walk_at "w"
      refine dCut_of (fun ρ' g2 => g2 = g' ∧ ∃ gs : List Int, gs.length = n.toNat ∧ (∀ z ∈ gs, -99 ≤ z ∧ z ≤ 99) ∧ ∃ s6 : Sl, ρ' = [.rs 0, .dt (.int mr), .dt (.int mw), .dt (.int (1 + a)), .dt (.int n), .ls (ws.map Way.d), s6, .ls (gs.map PyData.int), .un]) (fun N hN => ?_) (fun ρ1 g1 hI => ?_)
      · walk_at "w"
        intro z z1 z2
        walk_at "w"
        refine ifb_of (fun q => ?_) (fun q => ?_)
        · walk_at "w"
          intro y y1 y2
          walk_at "w"
          refine pk_of (by omega) (by omega) fun i i1 i2 => ?_
          walk_at "w"
          refine opK_of (ixN_at i1 (by rw [List.length_map]; omega)) ?_
          walk_at "w"
          refine hN _ _ ⟨rfl, gs.set i.toNat (0 - 1 - y), by rw [List.length_set]; exact hl2, fun z hz => ?_, _, by rw [List.map_set]; rfl⟩
          rcases List.mem_or_eq_of_mem_set hz with hz | rfl
          · exact hgs z hz
          · omega
        · walk_at "w"
          exact hN _ _ ⟨rfl, gs, hl2, hgs, _, rfl⟩
      · obtain ⟨rfl, gs, hl2, hgs, s6, rfl⟩ := hI
        walk_at "w"
        refine pk_of (by omega) (by omega) fun f f1 f2 => ?_
        walk_at "w"
        refine pk_of (by omega) (by omega) fun l l1 l2 => ?_
        walk_at "w"
        refine ltK_of (by rw [List.length_map, hl]; omega) ?_
        walk_at "w"
        refine hold ⟨rfl, ws ++ [⟨f, l, gs⟩], _, _, _, by rw [List.map_append]; rfl, by rw [List.length_append, hl]; rfl, fun w hw => ?_⟩
        rcases List.mem_append.mp hw with hw | hw
        · exact hws w hw
        · cases List.mem_singleton.mp hw
          exact ⟨f1, f2, l1, l2, by show (gs.length : Int) = n; omega, hgs⟩
    · obtain ⟨rfl, ws, s6, s7, s8, rfl, hl, hws⟩ := hI.h
      rw [rngD_len] at hl
      walk_at "w"
      exact h ⟨1 + a, n, ws⟩ ⟨show 1 ≤ 1 + a by omega, show 1 + a ≤ mr by omega, hn1.1, hn1.2, show (ws.length : Int) ≤ mw by rw [hl]; omega, hws⟩
  · cases h
abbrev s__law_slow_stand : Stmt := topS 31
theorem c__law_slow_stand : FnScope ["jar", "book", "room", "p"] ["jar", "book"] (defScope s__law_slow_stand) := ⟨rfl, rfl, rfl, by decide +kernel, rfl, by decide +kernel, by decide +kernel⟩
def S__law_slow_stand : Spec JG := fun as g T U => match as with
  | [.rs 0, .dt b] => ∃ B : Book, b = B.d ∧ (1 ≤ B.rooms ∧ B.rooms ≤ 1000) ∧ (1 ≤ B.purses ∧ B.purses ≤ 1000) ∧ B.ways.length ≤ 1000 ∧ (∀ w ∈ B.ways, 0 ≤ w.a ∧ w.a < B.rooms) ∧ ∀ (r : Int) (xs : List Int), 0 ≤ r → r < B.rooms → xs.length = B.purses.toNat → (∀ x ∈ xs, 0 ≤ x ∧ x < 2 ^ 390) → T (.dt (standD r xs)) g
  | _ => False
theorem ok__law_slow_stand {P : Program} {w : World} {K : PySem.W.Frag} {mg : Str → Option Value} {base : Heap} {k : Nat} (D : Dfn K mg "_law_slow_stand" s__law_slow_stand ["jar", "book"]) (f__law_pick : Ok P w K mg base k "_law_pick" ["jar", "many"] (spZ (ZJ K) S__law_pick)) (z_len : mg "len" = none) (z_range : mg "range" = none) (z_tuple : mg "tuple" = none) : Ok P w K mg base (k + 1) "_law_slow_stand" ["jar", "book"] (spZ (ZJ K) S__law_slow_stand) := by
  refine D.ok c__law_slow_stand (fun as g T U h => by unfold S__law_slow_stand at h; split at h <;> first | rfl | cases h) (by decide) fun fa cdv A outer s' H E hr => ⟨_, _, (s_cons (s_set 2 c__law_slow_stand.nd (e_fnU let_n f__law_pick hr (a_cons (e_v 0) (a_cons (e_ixX hr.units (e_v 1) e_int) a_nil))))
      (s_cut (s_if (t_w (w_and (t_cmp (c_ne hr.units) (e_ixX hr.units (e_v 1) e_int) (e_tup a_nil)) (w_and1 (t_cmp c_gt (e_fnU let_n f__law_pick hr (a_cons (e_v 0) (a_cons e_int a_nil))) e_int)))) (s_one (s_set 2 c__law_slow_stand.nd (e_ixX hr.units (e_ixX hr.units (e_ixX hr.units (e_v 1) e_int) (e_fnU let_n f__law_pick hr (a_cons (e_v 0) (a_cons (e_callB k_len (a_cons (e_ixX hr.units (e_v 1) e_int) a_nil) z_len rfl) a_nil)))) e_int))) s_nil)
      (s_one (s_ret (e_tup (a_cons (e_v 2) (a_cons (e_callTy k_tuple (a_cons (e_lc [("p", 3)] c__law_slow_stand.nd (i_rng1 z_range (a_cons (e_ixX hr.units (e_v 1) e_int) a_nil)) (fun _ _ _ _ _ => (g_name 3 c__law_slow_stand.nd)) (own_name (by decide)) (fun _ _ _ _ _ => ts_nil) (fun _ _ _ _ _ => (e_ixX hr.units (e_lst (a_cons e_int (a_cons e_int (a_cons e_int (a_cons e_int (a_cons e_int (a_cons e_int (a_cons (e_op b_mul (e_op b_pow e_int e_int) (e_op b_pow e_int e_int)) a_nil)))))))) (e_fnU let_n f__law_pick hr (a_cons (e_v 0) (a_cons e_int a_nil)))))) a_nil) z_tuple rfl) a_nil))))))), ?_⟩
  intro as g T U h
  unfold S__law_slow_stand at h
  clear hr f__law_pick
  split at h
  · obtain ⟨B, rfl, hr, hp, hw, hws, h⟩ := h
    walk_at "w"
    refine pk_of (by omega) (by omega) fun a a1 a2 => ?_
    walk_at "w"
    refine dCut_of (fun ρ' g' => g' = g ∧ ∃ r : Int, 0 ≤ r ∧ r < B.rooms ∧ ρ' = [.rs 0, .dt B.d, .dt (.int r), .un]) (fun N hN => ?_) (fun ρ1 g1 hI => ?_)
    · walk_at "w"
      cases eW : B.ways with
      | nil =>
        rw [show (PyData.tuple (([] : List Way).map Way.d)).eqv (PyData.tuple []) = true from by first | rfl | decide +kernel | simp [PyData.eqv]]
        walk_at "w"
        exact hN _ _ ⟨rfl, a, a1, a2, rfl⟩
      | cons w0 wr =>
        rw [show (PyData.tuple ((w0 :: wr).map Way.d)).eqv (PyData.tuple []) = false from by first | rfl | decide +kernel | simp [PyData.eqv]]
        have hlw : 0 < B.ways.length := by rw [eW]; simp
        walk_at "w"
        intro z z1 z2
        walk_at "w"
        refine ifb_of (fun q => ?_) (fun q => ?_)
        · walk_at "w"
          rw [List.length_map]
          refine pk_of (by omega) (by omega) fun k k1 k2 => ?_
          walk_at "w"
          obtain ⟨hl, e⟩ := atI_at (xs := B.ways) k1 k2
          refine opK_of (atI_map Way.d e) ?_
          have hm := hws _ (List.getElem_mem hl)
          generalize B.ways[k.toNat] = w at hm
          walk_at "w"
          exact hN _ _ ⟨rfl, w.a, hm.1, hm.2, rfl⟩
        · walk_at "w"
          exact hN _ _ ⟨rfl, a, a1, a2, rfl⟩
    · obtain ⟨rfl, r, r1, r2, rfl⟩ := hI
      walk_at "w"
      refine rgK_of (by omega) (by omega) ?_
      walk_at "w"
      have hbig : (0 : Int) ≤ 10 ^ Int.toNat 50 * 10 ^ Int.toNat 48 ∧ (10 : Int) ^ Int.toNat 50 * 10 ^ Int.toNat 48 < 2 ^ 390 := by decide +kernel
      refine leK_of (by rw [rngD_len]; omega) (lc_all (fun _ d => ∃ z : Int, d = .int z ∧ 0 ≤ z ∧ z < 2 ^ 390) rfl (fun i d hd C1 C0 q1 => ?_) fun acc ha hb => ?_)
      · walk_at "w"
        intro z z1 z2
        walk_at "w"
        generalize (10 : Int) ^ Int.toNat 50 * 10 ^ Int.toNat 48 = big at hbig ⊢
        obtain ⟨y, hy, ey⟩ := atI_int (zs := [0, 1, 2, 3, 4, 6, big]) z1 z2
        refine opK_of ey ?_
        walk_at "w"
        exact q1 _ ⟨y, rfl, by simp at hy; omega⟩
      · obtain ⟨ys, rfl, hys⟩ := ints_of_get hb
        rw [rngD_len, List.length_map] at ha
        clear hbig
        walk_at "w"
        exact h r ys r1 r2 (by omega) hys
  · cases h
abbrev s__law_part_at : Stmt := topS 27
theorem c__law_part_at : FnScope ["stands", "here", "found", "at", "lower", "one", "other"] ["stands"] (defScope s__law_part_at) := ⟨rfl, rfl, rfl, by decide +kernel, rfl, by decide +kernel, by decide +kernel⟩
def optM : Option Nat → PyData
  | some n => .int (n : Nat)
  | none => .int (-1)
def S__law_part_at : Spec Unit := fun as g T U => match as with
  | [.dt s] => ∃ st : List Stn, s = .list (st.map stnD) ∧ st ≠ [] ∧ st.length ≤ 1000000 ∧ (∀ p ∈ st, p.2.length ≤ 1000) ∧ T (.dt (optM (againF st))) g
  | _ => False
theorem geL_fil : ∀ (xs ys : List Int), geL xs ys = ((ys.zip xs).filter fun p => decide (p.2 < p.1)).isEmpty
  | [], ys => by cases ys <;> rfl
  | _ :: _, [] => rfl
  | x :: xs, y :: ys => by
    have ih := geL_fil xs ys
    show (decide (x ≥ y) && geL xs ys) = (((y, x) :: ys.zip xs).filter _).isEmpty
    rw [ih, List.filter_cons]
    by_cases c : x < y
    · rw [if_pos (decide_eq_true c), decide_eq_false (by omega), Bool.false_and]
      rfl
    · rw [if_neg (by simpa using c), decide_eq_true (by omega), Bool.true_and]
theorem ok__law_part_at {P : Program} {w : World} {K : PySem.W.Frag} {mg : Str → Option Value} {base : Heap} {k : Nat} (D : Dfn K mg "_law_part_at" s__law_part_at ["stands"]) (z_range : mg "range" = none) (z_len : mg "len" = none) (z_zip : mg "zip" = none) : Ok P w K mg base (k + 1) "_law_part_at" ["stands"] (spZ (Z0 K) S__law_part_at) := by
  refine D.ok c__law_part_at (fun as g T U h => by unfold S__law_part_at at h; split at h <;> first | rfl | cases h) (by decide) fun fa cdv A outer s' H E hr => ⟨_, _, (s_cons (s_set 1 c__law_part_at.nd (e_ixX hr.units (e_v 0) (e_un u_neg e_int)))
      (s_cons (s_set 2 c__law_part_at.nd (e_un u_neg e_int))
      (s_cons (s_for (i_rng1 z_range (a_cons (e_op b_sub (e_callB k_len (a_cons (e_v 0) a_nil) z_len rfl) e_int) a_nil)) (g_name 3 c__law_part_at.nd) (s_cons (s_set 4 c__law_part_at.nd (e_cmp (c_eq hr.units) (e_lc [("one", 5), ("other", 6)] c__law_part_at.nd (i_zip z_zip (a_cons (e_ixX hr.units (e_ixX hr.units (e_v 0) (e_v 3)) e_int) (a_cons (e_ixX hr.units (e_v 1) e_int) a_nil))) (fun _ _ _ _ _ => (g_tup (n := 2) (gs_cons (g_name 5 c__law_part_at.nd) (gs_cons (g_name 6 c__law_part_at.nd) gs_nil)))) (own_seq (owns_cons (own_name (by decide)) (owns_cons (own_name (by decide)) owns_nil))) (fun _ _ _ _ _ => (ts_one (t_cmp c_gt (e_v 5) (e_v 6)))) (fun _ _ _ _ _ => e_int)) (e_lst a_nil)))
      (s_one (s_if (t_w (w_and (t_cmp (c_eq hr.units) (e_ixX hr.units (e_ixX hr.units (e_v 0) (e_v 3)) e_int) (e_ixX hr.units (e_v 1) e_int)) (w_and1 (t_val (e_v 4))))) (s_one (s_set 2 c__law_part_at.nd (e_v 3))) s_nil))))
      (s_one (s_ret (e_v 2)))))), ?_⟩
  intro as g T U h
  unfold S__law_part_at at h
  clear hr
  split at h
  · obtain ⟨st, rfl, hne, hl, hx, h⟩ := h
    have hf : againF st = againN st (st.getLast hne).1 (st.getLast hne).2 (st.length - 1) := by
      unfold againF
      rw [List.getLast?_eq_some_getLast hne]
    have hpos : 0 < st.length := List.length_pos_iff.mpr hne
    rw [hf] at h
    have hlx := hx _ (List.getLast_mem hne)
    walk_at "w"
    refine opK_of (atI_lastM stnD hne) ?_
    generalize hp : st.getLast hne = p at h hlx ⊢
    obtain ⟨r, xs⟩ := p
    walk_at "w"
    rw [List.length_map]
    refine rgK_of (by omega) (by omega) ?_
    walk_at "w"
    rw [show (((st.length : Nat) : Int) - 1).toNat = st.length - 1 from by omega]
    refine ⟨⟨fun i ρ' g' => Hold (g' = g ∧ ∃ (s3 s4 : Sl), ρ' = [.dt (.list (st.map stnD)), .dt (stnD (r, xs)), .dt (optM (againN st r xs i)), s3, s4, .un, .un]), hold ⟨rfl, _, _, rfl⟩, fun i d ρ' g' hk hI => ?_, fun ρ' g' hI => ?_⟩⟩
    · obtain ⟨rfl, s3, s4, rfl⟩ := hI.h
      obtain ⟨rfl, hk2⟩ := rngD_inv hk
      have hj : i < st.length := by omega
      rw [show (0 + (i : Nat) : Int) = (i : Nat) from Int.zero_add _]
      have hat : atI (st.map stnD) ((i : Nat) : Int) = some (stnD (st.getD i (0, []))) := by
        refine atI_map stnD (atI_nat ?_)
        rw [List.getD_eq_getElem?_getD, List.getElem?_eq_getElem hj]; rfl
      have hyl : (st.getD i (0, [])).2.length ≤ 1000 := by
        rw [List.getD_eq_getElem?_getD, List.getElem?_eq_getElem hj]
        exact hx _ (List.getElem_mem hj)
      have hag : againN st r xs (i + 1) = if decide ((st.getD i (0, [])).1 = r) && geL xs (st.getD i (0, [])).2 then some i else againN st r xs i := rfl
      generalize st.getD i (0, []) = q at hat hag hyl
      obtain ⟨r2, ys⟩ := q
      walk_at "w"
      refine opK_of hat ?_
      walk_at "w"
      rw [zipD_map]
      refine leK_of (by rw [List.length_map, List.length_zip]; omega) (lc_filL (fun p : Int × Int => decide (p.2 < p.1)) (fun _ => .int 1) (by walk_at "lcw") (fun p hp C1 C0 q1 q0 => ?_) ?_)
      · walk_at "w"
        refine ifb_of (fun c => ?_) (fun c => ?_)
        · walk_at "w"
          exact q1 c
        · walk_at "w"
          exact q0 c
      walk_at "w"
      refine ⟨(lay_listM (n := 0) (f := fun _ : Int × Int => PyData.int 1) fun x _ => lay_int 0 _).shaped, rfl, ?_⟩
      rw [show (PyData.list (((ys.zip xs).filter fun p => decide (p.2 < p.1)).map fun _ => PyData.int 1)).eqv (.list []) = geL xs ys from by
        rw [geL_fil]
        cases (ys.zip xs).filter fun p => decide (p.2 < p.1) with
        | nil => rfl
        | cons p l => rfl]
      generalize geL xs ys = gg at hag ⊢
      walk_at "w"
      refine opK_of hat ?_
      walk_at "w"
      have hag : againN st r xs (i + 1) = if decide (r2 = r) && gg then some i else againN st r xs i := hag
      rw [show decide ((r2, ys).fst = (r, xs).fst) = decide (r2 = r) from rfl]
      cases e1 : decide (r2 = r) with
      | false =>
        rw [e1, Bool.false_and, if_neg (by decide)] at hag
        walk_at "w"
        exact hold ⟨rfl, _, _, by rw [hag]; rfl⟩
      | true =>
        rw [e1, Bool.true_and] at hag
        cases gg with
        | false =>
          rw [if_neg (by decide)] at hag
          walk_at "w"
          exact hold ⟨rfl, _, _, by rw [hag]; rfl⟩
        | true =>
          rw [if_pos rfl] at hag
          walk_at "w"
          exact hold ⟨rfl, _, _, by rw [hag]; rfl⟩
    · obtain ⟨rfl, s3, s4, rfl⟩ := hI.h
      rw [rngD_len]
      walk_at "w"
      exact h
  · cases h
abbrev s__law_fits : Stmt := topS 25
theorem c__law_fits : FnScope ["book", "stand", "k", "first", "last", "gains", "one", "more"] ["book", "stand", "k"] (defScope s__law_fits) := ⟨rfl, rfl, rfl, by decide +kernel, rfl, by decide +kernel, by decide +kernel⟩
def S__law_fits : Spec Unit := fun as g T U => match as with
  | [.dt b, .dt s, .dt (.int k)] => ∃ B : Book, b = B.d ∧ ∃ (r : Int) (xs : List Int), s = standD r xs ∧ xs.length ≤ 1000 ∧ (∀ w ∈ B.ways, w.gs.length = xs.length) ∧ inW B k = true ∧ T (.dt (.bool (fitsW (wAt B k) r xs))) g
  | _ => False
theorem zip_addL : ∀ (xs gs : List Int), addL xs gs = (xs.zip gs).map fun p => p.1 + p.2
  | [], _ => by cases ‹List Int› <;> rfl
  | _ :: _, [] => rfl
  | x :: xs, g :: gs => by
    show (x + g) :: addL xs gs = (x + g) :: _
    rw [zip_addL xs gs]; rfl
theorem fits_fil (w : Way) (r : Int) (xs : List Int) : fitsW w r xs = (decide (w.a = r) && ((xs.zip w.gs).filter fun p => decide (p.1 + p.2 < 0)).isEmpty) := by
  unfold fitsW
  rw [zip_addL, List.all_map]
  congr 1
  induction xs.zip w.gs with
  | nil => rfl
  | cons p l ih =>
    rw [List.all_cons, ih, List.filter_cons]
    by_cases c : p.1 + p.2 < 0
    · rw [if_pos (decide_eq_true c)]
      show (decide (0 ≤ p.1 + p.2) && _) = false
      rw [decide_eq_false (by omega), Bool.false_and]
    · rw [if_neg (by simpa using c)]
      show (decide (0 ≤ p.1 + p.2) && _) = _
      rw [decide_eq_true (by omega), Bool.true_and]
theorem ok__law_fits {P : Program} {w : World} {K : PySem.W.Frag} {mg : Str → Option Value} {base : Heap} {k : Nat} (D : Dfn K mg "_law_fits" s__law_fits ["book", "stand", "k"]) (z_zip : mg "zip" = none) : Ok P w K mg base (k + 1) "_law_fits" ["book", "stand", "k"] (spZ (Z0 K) S__law_fits) := by
  refine D.ok c__law_fits (fun as g T U h => by unfold S__law_fits at h; split at h <;> first | rfl | cases h) (by decide) fun fa cdv A outer s' H E hr => ⟨_, _, (s_cons (s_asg (e_ixX hr.units (e_ixX hr.units (e_v 0) e_int) (e_v 2)) (g_tup (n := 3) (gs_cons (g_name 3 c__law_fits.nd) (gs_cons (g_name 4 c__law_fits.nd) (gs_cons (g_name 5 c__law_fits.nd) gs_nil)))))
      (s_one (s_ret (e_and (e_cmp (c_eq hr.units) (e_v 3) (e_ixX hr.units (e_v 1) e_int)) (e_one (e_cmp (c_eq hr.units) (e_lc [("one", 6), ("more", 7)] c__law_fits.nd (i_zip z_zip (a_cons (e_ixX hr.units (e_v 1) e_int) (a_cons (e_v 5) a_nil))) (fun _ _ _ _ _ => (g_tup (n := 2) (gs_cons (g_name 6 c__law_fits.nd) (gs_cons (g_name 7 c__law_fits.nd) gs_nil)))) (own_seq (owns_cons (own_name (by decide)) (owns_cons (own_name (by decide)) owns_nil))) (fun _ _ _ _ _ => (ts_one (t_cmp c_lt (e_op b_add (e_v 6) (e_v 7)) e_int))) (fun _ _ _ _ _ => e_int)) (e_lst a_nil))))))), ?_⟩
  intro as g T U h
  unfold S__law_fits at h
  clear hr
  split at h
  · rename_i k
    obtain ⟨B, rfl, r, xs, rfl, hl, hw, hk, h⟩ := h
    walk_at "w"
    refine opK_of (wAt_at hk) ?_
    have hwl := hw _ (wAt_mem hk)
    generalize wAt B k = w at h hwl ⊢
    walk_at "w"
    refine ifb_of (fun q => ?_) (fun q => ?_)
    · have q : w.a = r := of_decide_eq_true q
      walk_at "w"
      rw [zipD_map]
      refine leK_of (by rw [List.length_map, List.length_zip]; omega) (lc_filL (fun p : Int × Int => decide (p.1 + p.2 < 0)) (fun _ => .int 1) (by walk_at "lcw") (fun p hp C1 C0 q1 q0 => ?_) ?_)
      · walk_at "w"
        refine ifb_of (fun c => ?_) (fun c => ?_)
        · walk_at "w"
          exact q1 c
        · walk_at "w"
          exact q0 c
      · walk_at "w"
        refine ⟨(lay_listM (n := 0) (f := fun _ : Int × Int => PyData.int 1) fun x _ => lay_int 0 _).shaped, rfl, ?_⟩
        refine tb h ?_
        rw [fits_fil, q, decide_eq_true rfl, Bool.true_and]
        cases (xs.zip w.gs).filter fun p => decide (p.1 + p.2 < 0) with
        | nil => rfl
        | cons p l => rfl
    · have q : ¬ w.a = r := of_decide_eq_false q
      unfold fitsW at h
      rw [decide_eq_false q, Bool.false_and] at h
      walk_at "w"
      exact h
  · cases h
abbrev s__law_after : Stmt := topS 26
theorem c__law_after : FnScope ["book", "stand", "k", "first", "last", "gains", "one", "more"] ["book", "stand", "k"] (defScope s__law_after) := ⟨rfl, rfl, rfl, by decide +kernel, rfl, by decide +kernel, by decide +kernel⟩
def S__law_after : Spec Unit := fun as g T U => match as with
  | [.dt b, .dt s, .dt (.int k)] => ∃ B : Book, b = B.d ∧ ∃ (r : Int) (xs : List Int), s = standD r xs ∧ xs.length ≤ 1000 ∧ (∀ w ∈ B.ways, w.gs.length = xs.length) ∧ inW B k = true ∧ T (.dt (standD (wAt B k).b (addL xs (wAt B k).gs))) g
  | _ => False
theorem ok__law_after {P : Program} {w : World} {K : PySem.W.Frag} {mg : Str → Option Value} {base : Heap} {k : Nat} (D : Dfn K mg "_law_after" s__law_after ["book", "stand", "k"]) (z_zip : mg "zip" = none) (z_tuple : mg "tuple" = none) : Ok P w K mg base (k + 1) "_law_after" ["book", "stand", "k"] (spZ (Z0 K) S__law_after) := by
  refine D.ok c__law_after (fun as g T U h => by unfold S__law_after at h; split at h <;> first | rfl | cases h) (by decide) fun fa cdv A outer s' H E hr => ⟨_, _, (s_cons (s_asg (e_ixX hr.units (e_ixX hr.units (e_v 0) e_int) (e_v 2)) (g_tup (n := 3) (gs_cons (g_name 3 c__law_after.nd) (gs_cons (g_name 4 c__law_after.nd) (gs_cons (g_name 5 c__law_after.nd) gs_nil)))))
      (s_one (s_ret (e_tup (a_cons (e_v 4) (a_cons (e_callTy k_tuple (a_cons (e_lc [("one", 6), ("more", 7)] c__law_after.nd (i_zip z_zip (a_cons (e_ixX hr.units (e_v 1) e_int) (a_cons (e_v 5) a_nil))) (fun _ _ _ _ _ => (g_tup (n := 2) (gs_cons (g_name 6 c__law_after.nd) (gs_cons (g_name 7 c__law_after.nd) gs_nil)))) (own_seq (owns_cons (own_name (by decide)) (owns_cons (own_name (by decide)) owns_nil))) (fun _ _ _ _ _ => ts_nil) (fun _ _ _ _ _ => (e_op b_add (e_v 6) (e_v 7)))) a_nil) z_tuple rfl) a_nil)))))), ?_⟩
  intro as g T U h
  unfold S__law_after at h
  clear hr
  split at h
  · rename_i k
    obtain ⟨B, rfl, r, xs, rfl, hl, hw, hk, h⟩ := h
    walk_at "w"
    refine opK_of (wAt_at hk) ?_
    have hwl := hw _ (wAt_mem hk)
    generalize wAt B k = w at h hwl ⊢
    walk_at "w"
    rw [zipD_map]
    refine leK_of (by rw [List.length_map, List.length_zip]; omega) (lc_mapL (fun p : Int × Int => .int (p.1 + p.2)) (by walk_at "lcw") (fun p hp C1 C0 q => ?_) ?_)
    · walk_at "w"
      exact q
    · walk_at "w"
      rw [zip_addL] at h
      rw [show standD w.b ((xs.zip w.gs).map fun p => p.1 + p.2) = .tuple [.int w.b, .tuple ((xs.zip w.gs).map fun p => .int (p.1 + p.2))] from by unfold standD; rw [List.map_map]; rfl] at h
      exact h
  · cases h
abbrev s__law_tree : Stmt := topS 28
theorem c__law_tree : FnScope ["book", "stand", "most", "waiting", "many", "straight", "again", "walk", "stands", "at", "k"] ["book", "stand", "most"] (defScope s__law_tree) := ⟨rfl, rfl, rfl, by decide +kernel, rfl, by decide +kernel, by decide +kernel⟩
def ndD (B : Book) (f : Int) (ys w : List Int) : PyData := wstD (nd B f ys w)
def S__law_tree : Spec Unit := fun as g T U => match as with
  | [.dt b, .dt s, .dt (.int mo)] => ∃ B : Book, b = B.d ∧ ∃ (f : Int) (ys : List Int), s = standD f ys ∧ TB B ys ∧ ys.length ≤ 1000 ∧ B.ways.length ≤ 1000 ∧ (0 ≤ mo ∧ mo ≤ 1000) ∧
      ∀ P W, DF B f ys P W → (W = [] ∨ mo < (P.length : Int)) → (P.length : Int) ≤ mo + 1 → W.length ≤ 1 + P.length * 1000 → (∀ w ∈ P, w.length ≤ P.length) → T (.dt (treeD B f P W)) g
  | _ => False
theorem lay_ndD (B : Book) (f : Int) (ys w : List Int) : Lay 4 (ndD B f ys w) := lay_wst _
theorem kidW_len {B : Book} {f : Int} {ys : List Int} (w : List Int) : (kidW B f ys w).length ≤ B.ways.length := by
  unfold kidW canW
  rw [canL_rng, List.length_map, List.length_map]
  exact Nat.le_trans (List.length_filter_le _ _) (by rw [List.length_range]; exact Nat.le_refl _)
def kidN (B : Book) (f : Int) (ys w : List Int) (i : Nat) : List (List Int) := ((List.range i).filter fun k => fitsW (wAt B (k : Nat)) (atS B f ys w).1 (atS B f ys w).2).map fun k => w ++ [((k : Nat) : Int)]
theorem kidN_all {B : Book} {f : Int} {ys w : List Int} : kidN B f ys w B.ways.length = kidW B f ys w := by
  unfold kidN kidW canW
  rw [canL_rng, List.map_map]
  rfl
theorem kidN_succ (B : Book) (f : Int) (ys w : List Int) (i : Nat) : kidN B f ys w (i + 1) = kidN B f ys w i ++ if fitsW (wAt B (i : Nat)) (atS B f ys w).1 (atS B f ys w).2 then [w ++ [((i : Nat) : Int)]] else [] := by
  unfold kidN
  rw [List.range_succ, List.filter_append, List.map_append]
  congr 1
  rw [List.filter_cons]
  split <;> rfl
theorem kidN_len {B : Book} {f : Int} {ys w : List Int} {i n : Nat} (h : i ≤ n) : (kidN B f ys w i).length ≤ n := by
  unfold kidN
  rw [List.length_map]
  exact Nat.le_trans (List.length_filter_le _ _) (by rw [List.length_range]; exact h)
def TrInv (B : Book) (f : Int) (ys : List Int) (mo : Int) (g : Unit) (m : Nat) (ρ' : En) (g' : Unit) : Prop := g' = g ∧ ∃ (P W : List (List Int)) (s7 s8 s9 s10 : Sl), ρ' = [.dt B.d, .dt (standD f ys), .dt (.int mo), .ls (W.map (ndD B f ys)), .dt (.int (P.length : Nat)), .ls ((stgt B f P).map iLD), .ls ((agL B f P).map agT), s7, s8, s9, s10] ∧ DF B f ys P W ∧
        (P.length : Int) ≤ mo + 1 ∧ m = (mo + 1).toNat - P.length ∧ (∀ w ∈ P ++ W, w.length ≤ P.length ∧ ∀ k ∈ w, inW B k = true) ∧ W.length ≤ 1 + P.length * 1000
theorem TrInv.next {B : Book} {f : Int} {ys : List Int} {mo : Int} {g g' : Unit} {m : Nat} {ρ' : En} {P W W2 : List (List Int)} {w : List Int} {s7 s8 s9 s10 : Sl} {ss aa : List PyData} {n : Int} (hg : g' = g) (hm : m = (mo + 1).toNat - P.length) (hq : (P.length : Int) ≤ mo) (hin : ∀ x ∈ P ++ (W ++ [w]), x.length ≤ P.length ∧ ∀ k ∈ x, inW B k = true) (hD : DF B f ys (P ++ [w]) W2)
    (h2 : ∀ x ∈ W2, x ∈ W ∨ ∃ k, inW B k = true ∧ x = w ++ [k]) (hl : W2.length ≤ 1 + (P.length + 1) * 1000) (hn : n = (P.length : Nat) + 1) (hs : (stgt B f (P ++ [w])).map iLD = ss) (ha : (agL B f (P ++ [w])).map agT = aa)
    (e : ρ' = [.dt B.d, .dt (standD f ys), .dt (.int mo), .ls (W2.map (ndD B f ys)), .dt (.int n), .ls ss, .ls aa, s7, s8, s9, s10]) : ∃ m', m' < m ∧ Hold (TrInv B f ys mo g m' ρ' g') := by
  have hpl : (P ++ [w]).length = P.length + 1 := by simp
  refine ⟨(mo + 1).toNat - (P ++ [w]).length, by omega, hold ⟨hg, P ++ [w], W2, s7, s8, s9, s10, ?_, hD, by omega, rfl, fun x hx => ?_, by rw [hpl]; exact hl⟩⟩
  · rw [e, hs, ha, hn, hpl]; rfl
  · rw [hpl]
    have old : ∀ x ∈ P ++ (W ++ [w]), x.length ≤ P.length + 1 ∧ ∀ k ∈ x, inW B k = true := fun x hx => ⟨by have := (hin x hx).1; omega, (hin x hx).2⟩
    rcases List.mem_append.mp hx with hx | hx
    · rcases List.mem_append.mp hx with hx | hx
      · exact old x (List.mem_append_left _ hx)
      · exact old x (by simp at hx; simp [hx])
    · rcases h2 x hx with hx | ⟨k, hk, rfl⟩
      · exact old x (by simp [hx])
      · have := hin w (by simp)
        refine ⟨by rw [List.length_append, List.length_singleton]; omega, fun j hj => ?_⟩
        rcases List.mem_append.mp hj with hj | hj
        · exact this.2 j hj
        · rw [List.mem_singleton.mp hj]; exact hk
theorem ok__law_tree {P : Program} {w : World} {K : PySem.W.Frag} {mg : Str → Option Value} {base : Heap} {k : Nat} (D : Dfn K mg "_law_tree" s__law_tree ["book", "stand", "most"]) (f__law_part_at : Ok P w K mg base k "_law_part_at" ["stands"] (spZ (Z0 K) S__law_part_at)) (f__law_fits : Ok P w K mg base k "_law_fits" ["book", "stand", "k"] (spZ (Z0 K) S__law_fits)) (f__law_after : Ok P w K mg base k "_law_after" ["book", "stand", "k"] (spZ (Z0 K) S__law_after)) (z_len : mg "len" = none) (z_range : mg "range" = none) : Ok P w K mg base (k + 1) "_law_tree" ["book", "stand", "most"] (spZ (Z0 K) S__law_tree) := by
  refine D.ok c__law_tree (fun as g T U h => by unfold S__law_tree at h; split at h <;> first | rfl | cases h) (by decide) fun fa cdv A outer s' H E hr => ⟨_, _, (s_cons (s_set 3 c__law_tree.nd (e_lst (a_cons (e_tup (a_cons (e_lst a_nil) (a_cons (e_lst (a_cons (e_v 1) a_nil)) a_nil))) a_nil)))
      (s_cons (s_set 4 c__law_tree.nd e_int)
      (s_cons (s_set 5 c__law_tree.nd (e_lst a_nil))
      (s_cons (s_set 6 c__law_tree.nd (e_lst a_nil))
      (s_cons (s_while (t_w (w_and (t_cmp (c_ne hr.units) (e_v 3) (e_lst a_nil)) (w_and1 (t_cmp c_le (e_v 4) (e_v 2))))) (s_cons (s_asg (e_ml0 PySem.F.slot_list_pop PySem.F.type_list_pop mt_pop m_pop 3) (g_tup (n := 2) (gs_cons (g_name 7 c__law_tree.nd) (gs_cons (g_name 8 c__law_tree.nd) gs_nil))))
      (s_cons (s_set 4 c__law_tree.nd (e_op b_add (e_v 4) e_int))
      (s_cons (s_set 9 c__law_tree.nd (e_fn0U let_n f__law_part_at hr (a_cons (e_v 8) a_nil)))
      (s_one (s_if (t_cmp c_ge (e_v 9) e_int) (s_one (s_expr (e_ml PySem.F.slot_list_append PySem.F.type_list_append mt_append m_app 6 (a_cons (e_tup (a_cons (e_callB k_len (a_cons (e_v 7) a_nil) z_len rfl) (a_cons (e_v 7) (a_cons (e_v 9) a_nil)))) a_nil)))) (s_cons (s_expr (e_ml PySem.F.slot_list_append PySem.F.type_list_append mt_append m_app 5 (a_cons (e_v 7) a_nil)))
      (s_one (s_for (i_rng1 z_range (a_cons (e_callB k_len (a_cons (e_ixX hr.units (e_v 0) e_int) a_nil) z_len rfl) a_nil)) (g_name 10 c__law_tree.nd) (s_one (s_if (t_val (e_fn0U let_n f__law_fits hr (a_cons (e_v 0) (a_cons (e_ixX hr.units (e_v 8) (e_un u_neg e_int)) (a_cons (e_v 10) a_nil))))) (s_one (s_expr (e_ml PySem.F.slot_list_append PySem.F.type_list_append mt_append m_app 3 (a_cons (e_tup (a_cons (e_op b_add (e_v 7) (e_lst (a_cons (e_v 10) a_nil))) (a_cons (e_op b_add (e_v 8) (e_lst (a_cons (e_fn0U let_n f__law_after hr (a_cons (e_v 0) (a_cons (e_ixX hr.units (e_v 8) (e_un u_neg e_int)) (a_cons (e_v 10) a_nil)))) a_nil))) a_nil))) a_nil)))) s_nil)))))))))))
      (s_one (s_ret (e_tup (a_cons (e_op b_add (e_v 4) (e_callB k_len (a_cons (e_v 3) a_nil) z_len rfl)) (a_cons (e_v 5) (a_cons (e_v 6) a_nil))))))))))), ?_⟩
  intro as g T U h
  unfold S__law_tree at h
  clear hr f__law_part_at f__law_fits f__law_after
  split at h
  · rename_i mo
    obtain ⟨B, rfl, f, ys, rfl, hT, hyl, hwl, hmo, h⟩ := h
    have e0 : ([[]] : List (List Int)).map (ndD B f ys) = [wstD ([], [(f, ys)])] := by
      have e := root_nd (f := f) hT
      rw [show LW B f ys 0 = [[]] from rfl, List.map_cons, List.map_nil] at e
      injection e with e _
      rw [List.map_cons, List.map_nil, ndD, e]
    walk_at "w"
    refine ⟨⟨fun m ρ' g' => Hold (TrInv B f ys mo g m ρ' g'),
      ⟨(mo + 1).toNat, hold ⟨rfl, [], [[]], .un, .un, .un, .un, by rw [e0]; rfl, .start, by show ((0 : Nat) : Int) ≤ mo + 1; omega, rfl, fun w hw => ?_, by decide⟩⟩, fun m ρ' g' hI => ?_⟩⟩
    · obtain rfl : w = [] := by simpa using hw
      exact ⟨Nat.le_refl _, fun k hk => nomatch hk⟩
    obtain ⟨rfl, P, W, s7, s8, s9, s10, rfl, hD, hP, hm, hin, hWl⟩ := hI.h
    have sh : SeqAt.shaped (.list (W.map (ndD B f ys))) = true := (lay_listM (n := 4) (f := ndD B f ys) (xs := W) fun w _ => lay_ndD B f ys w).shaped
    walk_at "w"
    refine ⟨sh, rfl, ?_⟩
    rw [eqv_nil]
    have fin : (W = [] ∨ mo < (P.length : Int)) → T (.dt (treeD B f P W)) g' := fun q => h P W hD q hP hWl fun w hw => (hin w (List.mem_append_left _ hw)).1
    rcases List.eq_nil_or_concat W with rfl | ⟨W, w, e⟩
    · walk_at "w"
      exact fin (.inl rfl)
    · have e : _ = W ++ [w] := e.trans (by simp)
      subst e
      rw [show ((W ++ [w]).map (ndD B f ys)).isEmpty = false from by cases W <;> rfl]
      walk_at "w"
      refine ifb_of (fun q => ?_) (fun q => ?_)
      · have q : (P.length : Int) ≤ mo := of_decide_eq_true q
        walk_at "w"
        refine opK_of (a := ndD B f ys w) (by simp) ?_
        rw [show ((W ++ [w]).map (ndD B f ys)).dropLast = W.map (ndD B f ys) from by simp]
        obtain ⟨hwl2, hwi⟩ := hin w (by simp)
        have hst := stW_last B f ys w
        have hsne : stW B f ys w ≠ [] := by
          intro c
          rw [c] at hst; cases hst
        have hat : atI ((stW B f ys w).map stnD) (-1) = some (stnD (atS B f ys w)) := by
          rw [atI_lastM stnD hsne]
          rw [List.getLast?_eq_some_getLast hsne] at hst
          injection hst with hst
          rw [hst]
        walk_at "w"
        refine ⟨stW B f ys w, rfl, ?_, ?_, ?_, ?_⟩
        · intro c
          have := stW_len B f ys w
          rw [c] at this
          cases this
        · rw [stW_len]; omega
        · intro p hp
          obtain ⟨j, _, rfl⟩ := List.mem_map.mp hp
          have hg : GsOk B (w.take j) := hT.gs fun k hk => hwi k (List.take_subset _ _ hk)
          have : (addL ys (gainL B (w.take j))).length = B.purses.toNat := addL_len hT.l (gainL_len hg)
          show (addL ys (gainL B (w.take j))).length ≤ 1000
          have := hT.l
          omega
        rw [again_stW hT hwi]
        have hsn := stgt_snoc (B := B) (f := f) P w
        have han := agL_snoc (B := B) (f := f) P w
        have hpl : (P ++ [w]).length = P.length + 1 := by simp
        cases ha : agW B f w with
        | some j =>
          rw [ha] at hsn han
          have hD2 := hD.again (w := w) (by rw [ha]; exact fun c => nomatch c)
          walk_at "w"
          have hal : (agL B f P).length ≤ P.length := by unfold agL; exact List.length_filterMap_le _ _
          refine ltK_of (by rw [List.length_map]; omega) ?_
          walk_at "w"
          have hWl3 : W.length ≤ 1 + (P.length + 1) * 1000 := by
            rw [List.length_append, List.length_singleton] at hWl
            omega
          exact TrInv.next (W := W) (w := w) rfl hm q hin hD2 (fun x hx => .inl hx) hWl3 rfl (by rw [hsn]) (by
            rw [han, List.map_append]
            show _ ++ [PyData.tuple [.int (w.length : Nat), .list (w.map PyData.int), .int (j : Nat)]] = _ ++ [PyData.tuple [.int ((w.map PyData.int).length : Nat), .list (w.map PyData.int), .int (j : Nat)]]
            rw [List.length_map]) rfl
        | none =>
          rw [ha] at hsn han
          have hD2 := hD.open (w := w) ha
          have hsl : (stgt B f P).length ≤ P.length := by unfold stgt; exact List.length_filter_le _ _
          walk_at "w"
          refine ltK_of (by rw [List.length_map]; omega) ?_
          walk_at "w"
          rw [List.length_map]
          refine rgK_of (by omega) (by omega) ?_
          walk_at "w"
          have hWl3 : (W ++ kidW B f ys w).length ≤ 1 + (P.length + 1) * 1000 := by
            rw [List.length_append, List.length_singleton] at hWl
            rw [List.length_append]
            have : (kidW B f ys w).length ≤ B.ways.length := kidW_len w
            omega
          refine ⟨⟨fun i ρ' g2 => Hold (g2 = g' ∧ ∃ s10 : Sl, ρ' = [.dt B.d, .dt (standD f ys), .dt (.int mo), .ls ((W ++ kidN B f ys w i).map (ndD B f ys)), .dt (.int ((P.length : Nat) + 1)), .ls ((stgt B f P).map iLD ++ [iLD w]), .ls ((agL B f P).map agT), .dt (iLD w), .dt (.list ((stW B f ys w).map stnD)), .dt (.int (-1)), s10]),
            hold ⟨rfl, _, by rw [show kidN B f ys w 0 = [] from rfl, List.append_nil]; rfl⟩, fun i d ρ' g2 hk hI => ?_, fun ρ' g2 hI => ?_⟩⟩
          · obtain ⟨rfl, s10, rfl⟩ := hI.h
            obtain ⟨rfl, hk2⟩ := rngD_inv hk
            walk_at "w"
            refine opK_of hat ?_
            have hik : inW B ((i : Nat) : Int) = true := by
              unfold inW
              rw [Bool.and_eq_true, decide_eq_true_eq, decide_eq_true_eq]
              omega
            have hks := kidN_succ B f ys w i
            have hnx := nxt_stW (f := f) (k := ((i : Nat) : Int)) hT hwi hik
            have hkl : (kidN B f ys w i).length ≤ 1000 := kidN_len (by omega)
            have hsl2 := stW_len B f ys w
            have hlst := lst_stW B f ys w
            unfold nxtS at hnx
            rw [hlst] at hnx
            generalize hA : atS B f ys w = a at *
            obtain ⟨r, xs⟩ := a
            have hxl : xs.length = B.purses.toNat := by
              have hg : GsOk B w := hT.gs hwi
              have : (addL ys (gainL B w)).length = B.purses.toNat := addL_len hT.l (gainL_len hg)
              rw [show xs = addL ys (gainL B w) from by unfold L3.atS at hA; injection hA with _ e; exact e.symm]
              exact this
            have hxs : xs.length ≤ 1000 := by have := hT.l; omega
            have hgs : ∀ v ∈ B.ways, v.gs.length = xs.length := fun v hv => by rw [hT.hB v hv, hxl]
            walk_at "w"
            rw [show (0 + ((i : Nat) : Int)) = (i : Nat) from Int.zero_add _]
            refine ⟨B, rfl, r, xs, rfl, hxs, hgs, hik, ?_⟩
            cases hf : fitsW (wAt B ((i : Nat) : Int)) r xs with
            | true =>
              rw [hf, if_pos rfl] at hks
              walk_at "w"
              have hwl4 : w.length ≤ 1001 := by omega
              refine leK_of (by rw [List.length_map]; show w.length + 1 ≤ _; omega) ?_
              walk_at "w"
              refine opK_of hat ?_
              walk_at "w"
              refine ⟨B, rfl, r, xs, rfl, hxs, hgs, hik, ?_⟩
              walk_at "w"
              refine leK_of (by rw [List.length_map, hsl2]; show w.length + 1 + 1 ≤ _; omega) ?_
              walk_at "w"
              refine ltK_of (by
                rw [List.length_map, List.length_append]
                rw [List.length_append] at hWl3
                have := hWl
                rw [List.length_append] at this
                omega) ?_
              walk_at "w"
              refine hold ⟨rfl, .dt (.int (i : Nat)), ?_⟩
              rw [hks, ← List.append_assoc, List.map_append (l₁ := W ++ kidN B f ys w i)]
              have e2 : ndD B f ys (w ++ [((i : Nat) : Int)]) = .tuple [.list (w.map PyData.int ++ [.int (i : Nat)]), .list ((stW B f ys w).map stnD ++ [standD (wAt B (i : Nat)).b (addL xs (wAt B (i : Nat)).gs)])] := by
                show PyData.tuple [.list ((w ++ [((i : Nat) : Int)]).map PyData.int), .list ((stW B f ys (w ++ [((i : Nat) : Int)])).map stnD)] = _
                rw [← hnx, List.map_append, List.map_append]
                rfl
              rw [List.map_singleton, e2]
              rfl
            | false =>
              rw [hf, if_neg (by decide), List.append_nil] at hks
              walk_at "w"
              exact hold ⟨rfl, .dt (.int (i : Nat)), by rw [hks]; rfl⟩
          · obtain ⟨rfl, s10, rfl⟩ := hI.h
            rw [rngD_len, show ((B.ways.length : Nat) : Int).toNat = B.ways.length from Int.toNat_natCast _, kidN_all]
            walk_at "w"
            refine TrInv.next (W := W) (w := w) rfl hm q hin hD2 (fun x hx => ?_) hWl3 rfl (by rw [hsn, List.map_append]; rfl) (by rw [han]) rfl
            rcases List.mem_append.mp hx with hx | hx
            · exact .inl hx
            · obtain ⟨k, hk, rfl⟩ := List.mem_map.mp hx
              exact .inr ⟨k, canW_in hk, rfl⟩
      · have q : ¬ (P.length : Int) ≤ mo := of_decide_eq_false q
        walk_at "w"
        refine td (fin (.inr (by omega))) ?_
        unfold treeD
        rw [List.length_map]
  · cases h
abbrev s__law_word : Stmt := topS 33
theorem c__law_word : FnScope ["flags", "words"] ["flags"] (defScope s__law_word) := ⟨rfl, rfl, rfl, by decide +kernel, rfl, by decide +kernel, by decide +kernel⟩
def S__law_word : Spec Unit := fun as g T U => match as with
  | [.dt (.list ds)] => ∃ x w, (x, w) ∈ kindW ∧ ds = (kindL fun y => y == x).map PyData.bool ∧ T (.dt (.str w)) g
  | _ => False
theorem ok__law_word {P : Program} {w : World} {K : PySem.W.Frag} {mg : Str → Option Value} {base : Heap} {k : Nat} (D : Dfn K mg "_law_word" s__law_word ["flags"]) (z_len : mg "len" = none) : Ok P w K mg base (k + 1) "_law_word" ["flags"] (spZ (Z0 K) S__law_word) := by
  refine D.ok c__law_word (fun as g T U h => by unfold S__law_word at h; split at h <;> first | rfl | cases h) (by decide) fun fa cdv A outer s' H E hr => ⟨_, _, (s_cons (s_set 1 c__law_word.nd (e_lst (a_cons e_str (a_cons e_str (a_cons e_str (a_cons e_str (a_cons e_str (a_cons e_str (a_cons e_str (a_cons e_str (a_cons e_str a_nil)))))))))))
      (s_cons (s_if (t_w (w_or (t_cmp (c_ne hr.units) (e_callB k_len (a_cons (e_v 0) a_nil) z_len rfl) e_int) (w_or (t_cmp (c_ne hr.units) (e_cntB hr.units (e_sl (e_v 0) o_none (o_some e_int)) e_bl) e_int) (w_or1 (t_not (t_val (e_ixX hr.units (e_v 0) e_int))))))) (s_one (s_ret e_str)) s_nil)
      (s_one (s_ret (e_ixX hr.units (e_v 1) (e_idxB hr.units (e_v 0) e_bl)))))), ?_⟩
  intro as g T U h
  unfold S__law_word at h
  clear hr
  split at h
  · obtain ⟨x, w, hx, rfl, h⟩ := h
    have fin : ∀ bs : List Bool, true ∈ bs → bs.length = 10 → true ∈ bs ∧ bs.length ≤ sizeLine := fun bs h1 h2 => ⟨h1, by rw [h2]; decide⟩
    simp only [kindW, List.mem_cons, List.not_mem_nil, or_false, Prod.mk.injEq] at hx
    rcases hx with ⟨rfl, rfl⟩ | ⟨rfl, rfl⟩ | ⟨rfl, rfl⟩ | ⟨rfl, rfl⟩ | ⟨rfl, rfl⟩ | ⟨rfl, rfl⟩ | ⟨rfl, rfl⟩ | ⟨rfl, rfl⟩ | ⟨rfl, rfl⟩
    · rw [show (kindL fun y => y == ("NoWay" : Str)) = [true, false, false, false, false, false, false, false, false, true] from by decide]
      walk_at "w"
      refine ⟨(fin _ (by decide) rfl).1, (fin _ (by decide) rfl).2, ?_⟩
      walk_at "w"
      exact h
    · rw [show (kindL fun y => y == ("NoRound" : Str)) = [false, true, false, false, false, false, false, false, false, true] from by decide]
      walk_at "w"
      refine ⟨(fin _ (by decide) rfl).1, (fin _ (by decide) rfl).2, ?_⟩
      walk_at "w"
      exact h
    · rw [show (kindL fun y => y == ("NoRing" : Str)) = [false, false, true, false, false, false, false, false, false, true] from by decide]
      walk_at "w"
      refine ⟨(fin _ (by decide) rfl).1, (fin _ (by decide) rfl).2, ?_⟩
      walk_at "w"
      exact h
    · rw [show (kindL fun y => y == ("NoPurse" : Str)) = [false, false, false, true, false, false, false, false, false, true] from by decide]
      walk_at "w"
      refine ⟨(fin _ (by decide) rfl).1, (fin _ (by decide) rfl).2, ?_⟩
      walk_at "w"
      exact h
    · rw [show (kindL fun y => y == ("NoEnd" : Str)) = [false, false, false, false, true, false, false, false, false, true] from by decide]
      walk_at "w"
      refine ⟨(fin _ (by decide) rfl).1, (fin _ (by decide) rfl).2, ?_⟩
      walk_at "w"
      exact h
    · rw [show (kindL fun y => y == ("NoStand" : Str)) = [false, false, false, false, false, true, false, false, false, true] from by decide]
      walk_at "w"
      refine ⟨(fin _ (by decide) rfl).1, (fin _ (by decide) rfl).2, ?_⟩
      walk_at "w"
      exact h
    · rw [show (kindL fun y => y == ("TooMany" : Str)) = [false, false, false, false, false, false, true, false, false, true] from by decide]
      walk_at "w"
      refine ⟨(fin _ (by decide) rfl).1, (fin _ (by decide) rfl).2, ?_⟩
      walk_at "w"
      exact h
    · rw [show (kindL fun y => y == ("NoLine" : Str)) = [false, false, false, false, false, false, false, true, false, true] from by decide]
      walk_at "w"
      refine ⟨(fin _ (by decide) rfl).1, (fin _ (by decide) rfl).2, ?_⟩
      walk_at "w"
      exact h
    · rw [show (kindL fun y => y == ("NoRow" : Str)) = [false, false, false, false, false, false, false, false, true, true] from by decide]
      walk_at "w"
      refine ⟨(fin _ (by decide) rfl).1, (fin _ (by decide) rfl).2, ?_⟩
      walk_at "w"
      exact h
  · cases h
abbrev s_added : Stmt := topS 12
theorem c_added : FnScope ["one", "other", "first", "second"] ["one", "other"] (defScope s_added) := ⟨rfl, rfl, rfl, by decide +kernel, rfl, by decide +kernel, by decide +kernel⟩
def S_added : Spec Unit := fun as g T U => match as with
  | [.dt o, .dt (.list ps)] => ∃ xs : List Int, o = .tuple (xs.map PyData.int) ∧ ∃ ys : List Int, ps = ys.map PyData.int ∧ xs.length ≤ 1000 ∧ T (.dt (.tuple ((addL xs ys).map PyData.int))) g
  | [.dt o, .dt p] => ∃ xs : List Int, o = .tuple (xs.map PyData.int) ∧ ∃ ys : List Int, p = .tuple (ys.map PyData.int) ∧ xs.length ≤ 1000 ∧ T (.dt (.tuple ((addL xs ys).map PyData.int))) g
  | _ => False
theorem ok_added {P : Program} {w : World} {K : PySem.W.Frag} {mg : Str → Option Value} {base : Heap} {k : Nat} (D : Dfn K mg "added" s_added ["one", "other"]) (z_zip : mg "zip" = none) (z_tuple : mg "tuple" = none) : Ok P w K mg base (k + 1) "added" ["one", "other"] (spZ (Z0 K) S_added) := by
  refine D.ok c_added (fun as g T U h => by unfold S_added at h; split at h <;> first | rfl | cases h) (by decide) fun fa cdv A outer s' H E hr => ⟨_, _, (s_one (s_ret (e_callTy k_tuple (a_cons (e_lc [("first", 2), ("second", 3)] c_added.nd (i_zip z_zip (a_cons (e_v 0) (a_cons (e_v 1) a_nil))) (fun _ _ _ _ _ => (g_tup (n := 2) (gs_cons (g_name 2 c_added.nd) (gs_cons (g_name 3 c_added.nd) gs_nil)))) (own_seq (owns_cons (own_name (by decide)) (owns_cons (own_name (by decide)) owns_nil))) (fun _ _ _ _ _ => ts_nil) (fun _ _ _ _ _ => (e_op b_add (e_v 2) (e_v 3)))) a_nil) z_tuple rfl))), ?_⟩
  intro as g T U h
  unfold S_added at h
  clear hr
  split at h
  · obtain ⟨xs, rfl, ys, rfl, hl, h⟩ := h
    walk_at "w"
    rw [zipD_map]
    refine leK_of (by simp; omega) (lc_mapL (fun p => .int (p.1 + p.2)) rfl (fun p _ C1 C0 q => ?_) ?_)
    · walk_at "w"
      exact q
    · walk_at "w"
      exact td h (by rw [addL, List.zip, List.map_zipWith, List.map_zipWith])
  · obtain ⟨xs, rfl, ys, rfl, hl, h⟩ := h
    walk_at "w"
    rw [zipD_map]
    refine leK_of (by simp; omega) (lc_mapL (fun p => .int (p.1 + p.2)) rfl (fun p _ C1 C0 q => ?_) ?_)
    · walk_at "w"
      exact q
    · walk_at "w"
      exact td h (by rw [addL, List.zip, List.map_zipWith, List.map_zipWith])
  · cases h
abbrev s_fits : Stmt := topS 13
theorem c_fits : FnScope ["way", "stand"] ["way", "stand"] (defScope s_fits) := ⟨rfl, rfl, rfl, by decide +kernel, rfl, by decide +kernel, by decide +kernel⟩
def S_fits : Spec Unit := fun as g T U => match as with
  | [.dt x, .dt s] => ∃ w : Way, x = w.d ∧ ∃ (r : Int) (xs : List Int), s = standD r xs ∧ (0 < xs.length ∧ xs.length ≤ 1000 ∧ w.gs.length = xs.length) ∧ T (.dt (.bool (fitsW w r xs))) g
  | _ => False
theorem ok_fits {P : Program} {w : World} {K : PySem.W.Frag} {mg : Str → Option Value} {base : Heap} {k : Nat} (D : Dfn K mg "fits" s_fits ["way", "stand"]) (f_added : Ok P w K mg base k "added" ["one", "other"] (spZ (Z0 K) S_added)) (z_min : mg "min" = none) : Ok P w K mg base (k + 1) "fits" ["way", "stand"] (spZ (Z0 K) S_fits) := by
  refine D.ok c_fits (fun as g T U h => by unfold S_fits at h; split at h <;> first | rfl | cases h) (by decide) fun fa cdv A outer s' H E hr => ⟨_, _, (s_one (s_ret (e_and (e_cmp (c_eq hr.units) (e_ixX hr.units (e_v 0) e_int) (e_ixX hr.units (e_v 1) e_int)) (e_one (e_cmp c_ge (e_callB (k_minX hr.units) (a_cons (e_fn0U let_n f_added hr (a_cons (e_ixX hr.units (e_v 1) e_int) (a_cons (e_ixX hr.units (e_v 0) e_int) a_nil))) a_nil) z_min rfl) e_int))))), ?_⟩
  intro as g T U h
  unfold S_fits at h
  clear hr f_added
  split at h
  · obtain ⟨w, rfl, r, xs, rfl, hl, h⟩ := h
    walk_at "w"
    refine ifb_of (fun q => ?_) (fun q => ?_)
    · walk_at "w"
      refine ⟨xs, rfl, w.gs, rfl, hl.2.1, ?_⟩
      walk_at "w"
      refine ⟨by rw [addL_len (n := xs.length) rfl hl.2.2]; exact hl.1, fun m m1 m2 => ?_⟩
      walk_at "w"
      refine tb h ?_
      unfold fitsW
      rw [show decide (w.a = r) = true from q, Bool.true_and, Bool.eq_iff_iff, List.all_eq_true]
      simp only [decide_eq_true_eq]
      exact ⟨fun q => q m m1, fun q x hx => Int.le_trans q (m2 x hx)⟩
    · walk_at "w"
      refine tb h ?_
      unfold fitsW
      rw [show decide (w.a = r) = false from q, Bool.false_and]
  · cases h
abbrev s_can_do : Stmt := topS 14
theorem c_can_do : FnScope ["book", "stand", "k", "way"] ["book", "stand"] (defScope s_can_do) := ⟨rfl, rfl, rfl, by decide +kernel, rfl, by decide +kernel, by decide +kernel⟩
def S_can_do : Spec Unit := fun as g T U => match as with
  | [.dt b, .dt s] => ∃ B : Book, b = B.d ∧ B.ways.length ≤ 100000 ∧ ∃ (r : Int) (xs : List Int), s = standD r xs ∧ (0 < xs.length ∧ xs.length ≤ 1000) ∧ (∀ w ∈ B.ways, w.gs.length = xs.length) ∧ T (.nl ((canL B r xs).map PyData.int)) g
  | _ => False
theorem ok_can_do {P : Program} {w : World} {K : PySem.W.Frag} {mg : Str → Option Value} {base : Heap} {k : Nat} (D : Dfn K mg "can_do" s_can_do ["book", "stand"]) (f_fits : Ok P w K mg base k "fits" ["way", "stand"] (spZ (Z0 K) S_fits)) (z_enumerate : mg "enumerate" = none) : Ok P w K mg base (k + 1) "can_do" ["book", "stand"] (spZ (Z0 K) S_can_do) := by
  refine D.ok c_can_do (fun as g T U h => by unfold S_can_do at h; split at h <;> first | rfl | cases h) (by decide) fun fa cdv A outer s' H E hr => ⟨_, _, (s_one (s_ret (e_lc [("k", 2), ("way", 3)] c_can_do.nd (i_enum z_enumerate (a_cons (e_ixX hr.units (e_v 0) e_int) a_nil)) (fun _ _ _ _ _ => (g_tup (n := 2) (gs_cons (g_name 2 c_can_do.nd) (gs_cons (g_name 3 c_can_do.nd) gs_nil)))) (own_seq (owns_cons (own_name (by decide)) (owns_cons (own_name (by decide)) owns_nil))) (fun _ _ _ _ _ => (ts_one (t_val (e_fn0U let_n f_fits hr (a_cons (e_v 3) (a_cons (e_v 1) a_nil)))))) (fun _ _ _ _ _ => (e_v 2))))), ?_⟩
  intro as g T U h
  unfold S_can_do at h
  clear hr f_fits
  split at h
  · obtain ⟨B, rfl, hb, r, xs, rfl, hl, hw, h⟩ := h
    walk_at "w"
    rw [enumD_map]
    refine leK_of (by simp; omega) (lc_filL (fun p => fitsW p.2 r xs) (fun p => .int (p.1 : Nat)) rfl (fun p hp C1 C0 q1 q0 => ?_) ?_)
    · obtain ⟨i, w⟩ := p
      walk_at "w"
      refine ⟨w, rfl, r, xs, rfl, ⟨hl.1, hl.2, hw w (List.of_mem_zip hp).2⟩, ?_⟩
      walk_at "w"
      refine ifb_of (fun e => ?_) (fun e => ?_)
      · walk_at "w"
        exact q1 e
      · walk_at "w"
        exact q0 e
    · walk_at "w"
      unfold canL at h
      rw [List.map_map] at h
      exact h
  · cases h
abbrev s_is_enough : Stmt := topS 17
theorem c_is_enough : FnScope ["numbers", "wanted", "one", "other"] ["numbers", "wanted"] (defScope s_is_enough) := ⟨rfl, rfl, rfl, by decide +kernel, rfl, by decide +kernel, by decide +kernel⟩
def S_is_enough : Spec Unit := fun as g T U => match as with
  | [.dt a, .dt b] => ∃ xs ys : List Int, a = .tuple (xs.map PyData.int) ∧ b = .tuple (ys.map PyData.int) ∧ xs.length ≤ 1000 ∧ T (.dt (.bool (geL xs ys))) g
  | _ => False
theorem ok_is_enough {P : Program} {w : World} {K : PySem.W.Frag} {mg : Str → Option Value} {base : Heap} {k : Nat} (D : Dfn K mg "is_enough" s_is_enough ["numbers", "wanted"]) (z_zip : mg "zip" = none) (z_all : mg "all" = none) : Ok P w K mg base (k + 1) "is_enough" ["numbers", "wanted"] (spZ (Z0 K) S_is_enough) := by
  refine D.ok c_is_enough (fun as g T U h => by unfold S_is_enough at h; split at h <;> first | rfl | cases h) (by decide) fun fa cdv A outer s' H E hr => ⟨_, _, (s_one (s_ret (e_callB k_all (a_cons (e_lc [("one", 2), ("other", 3)] c_is_enough.nd (i_zip z_zip (a_cons (e_v 0) (a_cons (e_v 1) a_nil))) (fun _ _ _ _ _ => (g_tup (n := 2) (gs_cons (g_name 2 c_is_enough.nd) (gs_cons (g_name 3 c_is_enough.nd) gs_nil)))) (own_seq (owns_cons (own_name (by decide)) (owns_cons (own_name (by decide)) owns_nil))) (fun _ _ _ _ _ => ts_nil) (fun _ _ _ _ _ => (e_cmp c_ge (e_v 2) (e_v 3)))) a_nil) z_all rfl))), ?_⟩
  intro as g T U h
  unfold S_is_enough at h
  clear hr
  split at h
  · obtain ⟨xs, ys, rfl, rfl, hl, h⟩ := h
    walk_at "w"
    rw [zipD_map]
    refine leK_of (by simp; omega) (lc_mapL (fun p => .bool (decide (p.1 ≥ p.2))) rfl (fun p _ C1 C0 q => ?_) ?_)
    · walk_at "w"
      exact q
    · walk_at "w"
      refine tb h ?_
      unfold geL
      rw [List.all_map]; rfl
  · cases h
abbrev s_again_at : Stmt := topS 19
theorem c_again_at : FnScope ["stands", "room", "numbers", "at"] ["stands"] (defScope s_again_at) := ⟨rfl, rfl, rfl, by decide +kernel, rfl, by decide +kernel, by decide +kernel⟩
def S_again_at : Spec Unit := fun as g T U => match as with
  | [.dt s] => ∃ st : List Stn, s = .list (st.map stnD) ∧ st ≠ [] ∧ st.length ≤ 1000000 ∧ (∀ p ∈ st, p.2.length ≤ 1000) ∧ T (.dt (optN (againF st))) g
  | _ => False
theorem ok_again_at {P : Program} {w : World} {K : PySem.W.Frag} {mg : Str → Option Value} {base : Heap} {k : Nat} (D : Dfn K mg "again_at" s_again_at ["stands"]) (f_is_enough : Ok P w K mg base k "is_enough" ["numbers", "wanted"] (spZ (Z0 K) S_is_enough)) (z_reversed : mg "reversed" = none) (z_range : mg "range" = none) (z_len : mg "len" = none) : Ok P w K mg base (k + 1) "again_at" ["stands"] (spZ (Z0 K) S_again_at) := by
  refine D.ok c_again_at (fun as g T U h => by unfold S_again_at at h; split at h <;> first | rfl | cases h) (by decide) fun fa cdv A outer s' H E hr => ⟨_, _, (s_cons (s_asg (e_ixX hr.units (e_v 0) (e_un u_neg e_int)) (g_tup (n := 2) (gs_cons (g_name 1 c_again_at.nd) (gs_cons (g_name 2 c_again_at.nd) gs_nil))))
      (s_cons (s_for (i_rev1 z_reversed z_range (e_op b_sub (e_callB k_len (a_cons (e_v 0) a_nil) z_len rfl) e_int)) (g_name 3 c_again_at.nd) (s_one (s_if (t_w (w_and (t_cmp (c_eq hr.units) (e_ixX hr.units (e_ixX hr.units (e_v 0) (e_v 3)) e_int) (e_v 1)) (w_and1 (t_val (e_fn0U let_n f_is_enough hr (a_cons (e_v 2) (a_cons (e_ixX hr.units (e_ixX hr.units (e_v 0) (e_v 3)) e_int) a_nil))))))) (s_one (s_ret (e_v 3))) s_nil)))
      (s_one (s_ret e_non)))), ?_⟩
  intro as g T U h
  unfold S_again_at at h
  clear hr f_is_enough
  split at h
  · obtain ⟨st, rfl, hne, hl, hx, h⟩ := h
    have hf : againF st = againN st (st.getLast hne).1 (st.getLast hne).2 (st.length - 1) := by
      unfold againF
      rw [List.getLast?_eq_some_getLast hne]
    have hpos : 0 < st.length := List.length_pos_iff.mpr hne
    rw [hf] at h
    have hlx := hx _ (List.getLast_mem hne)
    walk_at "w"
    refine opK_of (atI_lastM stnD hne) ?_
    generalize hp : st.getLast hne = p at h hlx ⊢
    obtain ⟨r, xs⟩ := p
    walk_at "w"
    rw [List.length_map]
    refine rgK_of (by omega) (by omega) ?_
    rw [show (((st.length : Nat) : Int) - 1).toNat = st.length - 1 from by omega]
    refine ⟨⟨fun i ρ' g' => Hold (g' = g ∧ againN st r xs (st.length - 1) = againN st r xs (st.length - 1 - i) ∧ ∃ s3 : Sl, ρ' = [.dt (.list (st.map stnD)), .dt (.int r), .dt (.tuple (xs.map PyData.int)), s3]), hold ⟨rfl, rfl, _, rfl⟩, fun i d ρ' g' hk hI => ?_, fun ρ' g' hI => ?_⟩⟩
    · obtain ⟨rfl, hag, s3, rfl⟩ := hI.h
      obtain ⟨rfl, hk2⟩ := revD_inv hk
      have hj : st.length - 1 - i - 1 < st.length := by omega
      have ej : ((st.length - 1 : Nat) : Int) - 1 - (i : Nat) = ((st.length - 1 - i - 1 : Nat) : Int) := by omega
      have es : st.length - 1 - i = (st.length - 1 - i - 1) + 1 := by omega
      rw [ej]
      rw [es, againN] at hag
      have hat : atI (st.map stnD) ((st.length - 1 - i - 1 : Nat) : Int) = some (stnD (st.getD (st.length - 1 - i - 1) (0, []))) := by
        refine atI_map stnD (atI_nat ?_)
        rw [List.getD_eq_getElem?_getD, List.getElem?_eq_getElem hj]; rfl
      have hxm : ∀ p ∈ st, p.2.length ≤ 1000 := hx
      generalize hjj : st.length - 1 - i - 1 = j at hat hag hj ⊢
      generalize st.getD j (0, []) = q at hat hag
      obtain ⟨r2, ys⟩ := q
      walk_at "w"
      refine opK_of hat ?_
      walk_at "w"
      have nx : againN st r xs (st.length - 1) = againN st r xs j → Hold (g' = g' ∧ againN st r xs (st.length - 1) = againN st r xs (st.length - 1 - (i + 1)) ∧ ∃ s3 : Sl, [Sl.dt (.list (st.map stnD)), .dt (.int r), .dt (.tuple (xs.map PyData.int)), .dt (.int (j : Nat))] = [.dt (.list (st.map stnD)), .dt (.int r), .dt (.tuple (xs.map PyData.int)), s3]) := fun e => hold ⟨rfl, by rw [e, show st.length - 1 - (i + 1) = j from by omega], _, rfl⟩
      refine ifb_of (fun q => ?_) (fun q => ?_)
      · replace q : decide (r2 = r) = true := q
        rw [show decide ((r2, ys).1 = r) = true from q, Bool.true_and] at hag
        walk_at "w"
        refine opK_of hat ?_
        walk_at "w"
        refine ⟨xs, ys, rfl, rfl, hlx, ?_⟩
        walk_at "w"
        refine ifb_of (fun q2 => ?_) (fun q2 => ?_)
        · rw [if_pos q2] at hag
          rw [hag] at h
          walk_at "w"
          exact h
        · rw [if_neg (by rw [q2]; decide)] at hag
          walk_at "w"
          exact nx hag
      · replace q : decide (r2 = r) = false := q
        rw [show decide ((r2, ys).1 = r) = false from q, Bool.false_and, if_neg (by decide)] at hag
        walk_at "w"
        exact nx hag
    · obtain ⟨rfl, hag, s3, rfl⟩ := hI.h
      rw [revD_len, Nat.sub_self] at hag
      rw [hag] at h
      walk_at "w"
      exact h
  · cases h
abbrev s_behind : Stmt := topS 15
theorem c_behind : FnScope ["book", "stand", "k", "way"] ["book", "stand", "k"] (defScope s_behind) := ⟨rfl, rfl, rfl, by decide +kernel, rfl, by decide +kernel, by decide +kernel⟩
def S_behind (mg : Str → Option Value) : Spec Unit := fun as g T U => match as with
  | [.dt b, .dt s, .dt (.int k)] => ∃ B : Book, b = B.d ∧ ∃ (r : Int) (xs : List Int), s = standD r xs ∧ (0 < xs.length ∧ xs.length ≤ 1000) ∧ (∀ w ∈ B.ways, w.gs.length = xs.length) ∧
      ((inW B k = true ∧ fitsW (wAt B k) r xs = true) → T (.dt (standD (wAt B k).b (addL xs (wAt B k).gs))) g) ∧ (¬ (inW B k = true ∧ fitsW (wAt B k) r xs = true) → U (cv mg "NoWay") [] g)
  | _ => False
theorem ok_behind {P : Program} {w : World} {K : PySem.W.Frag} {mg : Str → Option Value} {base : Heap} {k : Nat} (D : Dfn K mg "behind" s_behind ["book", "stand", "k"]) (f_fits : Ok P w K mg base k "fits" ["way", "stand"] (spZ (Z0 K) S_fits)) (f_added : Ok P w K mg base k "added" ["one", "other"] (spZ (Z0 K) S_added)) (z_len : mg "len" = none) (x_NoWay : ExX K mg "NoWay") : Ok P w K mg base (k + 1) "behind" ["book", "stand", "k"] (spZ (Z0 K) (S_behind mg)) := by
  refine D.okX c_behind (fun as g T U h => by unfold S_behind at h; split at h <;> first | rfl | cases h) (by decide) fun fa cdv A outer s' H E U hr tk po => ⟨_, _, (s_cons (s_if (t_w (w_or (t_not (t_chain c_le c_lt e_int (e_v 2) (e_callB k_len (a_cons (e_ixX hr.units (e_v 0) e_int) a_nil) z_len rfl))) (w_or1 (t_not (t_val (e_fn0U let_n f_fits hr (a_cons (e_ixX hr.units (e_ixX hr.units (e_v 0) e_int) (e_v 2)) (a_cons (e_v 1) a_nil)))))))) (s_one (s_raise x_NoWay tk)) s_nil)
      (s_cons (s_set 3 c_behind.nd (e_ixX hr.units (e_ixX hr.units (e_v 0) e_int) (e_v 2)))
      (s_one (s_ret (e_tup (a_cons (e_ixX hr.units (e_v 3) e_int) (a_cons (e_fn0U let_n f_added hr (a_cons (e_ixX hr.units (e_v 1) e_int) (a_cons (e_ixX hr.units (e_v 3) e_int) a_nil))) a_nil))))))), ?_⟩
  intro as g T h
  unfold S_behind at h
  clear tk po
  clear hr f_fits f_added
  split at h
  · rename_i k
    obtain ⟨B, rfl, r, xs, rfl, hl, hw, h1, h0⟩ := h
    walk_at "w"
    have go : fitsW (wAt B k) r xs = true → inW B k = true → T (.dt (standD (wAt B k).b (addL xs (wAt B k).gs))) g := fun a b => h1 ⟨b, a⟩
    have no1 : inW B k = false → U (cv mg "NoWay") [] g := fun q => h0 fun c => by rw [q] at c; cases c.1
    have no2 : fitsW (wAt B k) r xs = false → U (cv mg "NoWay") [] g := fun q => h0 fun c => by rw [q] at c; cases c.2
    refine ifb_of (fun q1 => ?_) (fun q1 => ?_)
    · walk_at "w"
      rw [List.length_map]
      refine ifb_of (fun q2 => ?_) (fun q2 => ?_)
      · simp at q1 q2
        walk_at "w"
        exact no1 (by simp [inW]; omega)
      · simp at q1 q2
        have hk : inW B k = true := by simp [inW]; omega
        walk_at "w"
        refine opK_of (wAt_at hk) ?_
        walk_at "w"
        refine ⟨wAt B k, rfl, r, xs, rfl, ⟨hl.1, hl.2, hw _ (wAt_mem hk)⟩, ?_⟩
        walk_at "w"
        refine ifb_of (fun q3 => ?_) (fun q3 => ?_)
        · walk_at "w"
          exact no2 (by simpa using q3)
        · walk_at "w"
          refine opK_of (wAt_at hk) ?_
          walk_at "w"
          refine ⟨xs, rfl, _, rfl, hl.2, ?_⟩
          walk_at "w"
          exact go (by simpa using q3) hk
    · simp at q1
      walk_at "w"
      exact no1 (by simp [inW]; omega)
  · cases h
abbrev s_from_stand : Stmt := topS 20
theorem c_from_stand : FnScope ["book", "stand", "limit", "layer", "many", "again", "longest", "later", "walk", "stands", "k", "more", "at"] ["book", "stand", "limit"] (defScope s_from_stand) := ⟨rfl, rfl, rfl, by decide +kernel, rfl, by decide +kernel, by decide +kernel⟩
def S_from_stand (mg : Str → Option Value) : Spec Unit := fun as g T U => match as with
  | [.dt b, .dt s, .dt (.int lim)] => ∃ B : Book, b = B.d ∧ ∃ (r : Int) (xs : List Int), s = standD r xs ∧ (0 < xs.length ∧ xs.length ≤ 1000) ∧ B.ways.length ≤ 100000 ∧ (∀ w ∈ B.ways, w.gs.length = xs.length) ∧ (1 ≤ lim ∧ lim ≤ 500000) ∧
      ∃ n o, outF B lim n [([], [(r, xs)])] 1 none none = some o ∧ (∀ d, o = some d → T (.dt d) g) ∧ (o = none → U (cv mg "TooMany") [] g)
  | _ => False
theorem ok_from_stand {P : Program} {w : World} {K : PySem.W.Frag} {mg : Str → Option Value} {base : Heap} {k : Nat} (D : DfnE K mg "from_stand" s_from_stand ["book", "stand", "limit"] "limit" [.int 2000]) (f_can_do : Ok P w K mg base k "can_do" ["book", "stand"] (spZ (Z0 K) S_can_do)) (f_behind : Ok P w K mg base k "behind" ["book", "stand", "k"] (spZ (Z0 K) (S_behind mg))) (f_again_at : Ok P w K mg base k "again_at" ["stands"] (spZ (Z0 K) S_again_at)) (x_TooMany : ExX K mg "TooMany") : OkE P w K mg base (k + 1) "from_stand" ["book", "stand", "limit"] "limit" [.int 2000] (spZ (Z0 K) (S_from_stand mg)) := by
  refine D.okX c_from_stand (fun as g T U h => by unfold S_from_stand at h; split at h <;> first | rfl | cases h) (by decide) fun fa cdv A outer s' H E U hr tk po => ⟨_, _, (s_cons (s_set 3 c_from_stand.nd (e_lst (a_cons (e_tup (a_cons (e_lst a_nil) (a_cons (e_lst (a_cons (e_v 1) a_nil)) a_nil))) a_nil)))
      (s_cons (s_set 4 c_from_stand.nd e_int)
      (s_cons (s_set 5 c_from_stand.nd e_non)
      (s_cons (s_set 6 c_from_stand.nd e_non)
      (s_cons (s_while (t_cmp (c_ne hr.units) (e_v 3) (e_lst a_nil)) (s_cons (s_set 7 c_from_stand.nd (e_lst a_nil))
      (s_cons (s_for (i_seq (e_v 3)) (g_tup (n := 2) (gs_cons (g_name 8 c_from_stand.nd) (gs_cons (g_name 9 c_from_stand.nd) gs_nil))) (s_one (s_for (i_seq (e_fn0U let_n f_can_do hr (a_cons (e_v 0) (a_cons (e_ixX hr.units (e_v 9) (e_un u_neg e_int)) a_nil)))) (g_name 10 c_from_stand.nd) (s_cons (s_set 4 c_from_stand.nd (e_op b_add (e_v 4) e_int))
      (s_cons (s_if (t_cmp c_gt (e_v 4) (e_v 2)) (s_one (s_raise x_TooMany tk)) s_nil)
      (s_cons (s_set 11 c_from_stand.nd (e_op b_add (e_v 9) (e_lst (a_cons (e_fn0U (let_w tk) f_behind hr (a_cons (e_v 0) (a_cons (e_ixX hr.units (e_v 9) (e_un u_neg e_int)) (a_cons (e_v 10) a_nil)))) a_nil))))
      (s_cons (s_set 12 c_from_stand.nd (e_fn0U let_n f_again_at hr (a_cons (e_v 11) a_nil)))
      (s_one (s_if (t_cmp c_is (e_v 12) e_non) (s_one (s_expr (e_ml PySem.F.slot_list_append PySem.F.type_list_append mt_append m_app 7 (a_cons (e_tup (a_cons (e_op b_add (e_v 8) (e_lst (a_cons (e_v 10) a_nil))) (a_cons (e_v 11) a_nil))) a_nil)))) (s_one (s_if (t_cmp c_is (e_v 5) e_non) (s_one (s_set 5 c_from_stand.nd (e_tup (a_cons e_str (a_cons (e_sl (e_op b_add (e_v 8) (e_lst (a_cons (e_v 10) a_nil))) o_none (o_some (e_v 12))) (a_cons (e_sl (e_op b_add (e_v 8) (e_lst (a_cons (e_v 10) a_nil))) (o_some (e_v 12)) o_none) a_nil)))))) s_nil)))))))) (hp := po))) (hp := po))
      (s_cons (s_set 3 c_from_stand.nd (e_v 7))
      (s_one (s_if (t_cmp (c_ne hr.units) (e_v 3) (e_lst a_nil)) (s_one (s_set 6 c_from_stand.nd (e_ixX hr.units (e_ixX hr.units (e_v 3) e_int) e_int))) s_nil))))) (hp := po))
      (s_cons (s_if (t_cmp c_isN (e_v 5) e_non) (s_one (s_ret (e_v 5))) s_nil)
      (s_one (s_ret (e_tup (a_cons e_str (a_cons (e_v 6) a_nil))))))))))), ?_⟩
  intro as g T h
  unfold S_from_stand at h
  clear tk po
  clear hr f_can_do f_behind f_again_at
  split at h
  · rename_i lim
    obtain ⟨B, rfl, r, xs, rfl, hx, hl, hw, hlim, n, o, ho, hT, hU⟩ := h
    walk_at "w"
    refine ⟨⟨fun m ρ' g' => Hold (g' = g ∧ ∃ (lay : List Wst) (mn : Int) (ag : Option (List Int × List Int)) (lg : Option (List Int)) (s3 s7 s8 s9 s10 s11 s12 : Sl), ρ' = [.dt B.d, .dt (standD r xs), .dt (.int lim), s3, .dt (.int mn), .dt (agD ag), .dt (lgD lg), s7, s8, s9, s10, s11, s12] ∧ (s3 = .ls (lay.map wstD) ∨ s3 = .dt (.list (lay.map wstD))) ∧
        outF B lim m lay mn ag lg = some o ∧ (1 ≤ mn ∧ mn ≤ 500001) ∧ mn ≤ lim ∧ (lay.length : Int) ≤ mn ∧ ∀ p ∈ lay, WOk xs.length mn p),
      ⟨n, hold ⟨rfl, [([], [(r, xs)])], 1, none, none, _, _, _, _, _, _, _, rfl, .inl rfl, ho, ⟨by decide, by decide⟩, hlim.1, by simp, fun p hp => by
        rw [List.mem_singleton.mp hp]
        exact ⟨by simp, by simp, rfl, fun q hq => by rw [List.mem_singleton.mp hq]⟩⟩⟩, fun m ρ' g' hI => ?_⟩⟩
    obtain ⟨rfl, lay, mn, ag, lg, s3, s7, s8, s9, s10, s11, s12, rfl, h3, ho, hmn, hml, hll, hok⟩ := hI.h
    have sh := (lay_lay lay).shaped
    rcases h3 with rfl | rfl
    all_goals (
      walk_at "w"
      refine ⟨sh, rfl, ?_⟩
      rw [eqv_nil]
      cases lay with
      | nil =>
        walk_at "w"
        cases m with
        | zero => cases ho
        | succ m =>
          rw [outF] at ho
          cases ho
          cases ag with
          | none =>
            walk_at "w"
            exact hT _ rfl
          | some a =>
            walk_at "w"
            exact hT _ rfl
      | cons p0 lr =>
        rw [show ((p0 :: lr).map wstD).isEmpty = false from rfl]
        walk_at "w"
        have hon : lim < (layF B (p0 :: lr) mn ag).many → o = none := outF_many ho (by simp)
        generalize hL : p0 :: lr = L at *
        refine ⟨⟨fun i ρ' g2 => Hold (g2 = g' ∧ ∃ (s : Fs) (s8 s9 s10 s11 s12 : Sl), ρ' = [.dt B.d, .dt (standD r xs), .dt (.int lim), .dt (.list (L.map wstD)), .dt (.int s.many), .dt (agD s.again), .dt (lgD lg), .ls (s.later.map wstD), s8, s9, s10, s11, s12] ∧ s = (L.take i).foldl (stpOf B) ⟨[], mn, ag⟩ ∧
            mn ≤ s.many ∧ s.many ≤ 500001 ∧ (s.many ≤ lim ∨ s.many = mn) ∧ (s.later.length : Int) ≤ s.many - mn ∧ ∀ p ∈ s.later, WOk xs.length (mn + 1) p),
          hold ⟨rfl, _, _, _, _, _, _, rfl, rfl, Int.le_refl _, hmn.2, .inr rfl, by simp, by simp⟩, fun i d ρ' g2 hk hI => ?_, fun ρ' g2 hI => ?_⟩⟩
        · obtain ⟨rfl, s, s8, s9, s10, s11, s12, rfl, hs, hs1, hs2, hs3, hs4, hs5⟩ := hI.h
          rw [List.getElem?_map] at hk
          obtain ⟨p, hp, rfl⟩ := Option.map_eq_some_iff.mp hk
          obtain ⟨wk, st⟩ := p
          have hw0 := hok _ (List.mem_of_getElem? hp)
          have hne := hw0.ne
          have hle := hw0.le
          have hone := hw0.one
          have hq := hw0.q
          replace hne : st ≠ [] := hne
          replace hle : (st.length : Int) ≤ mn := hle
          replace hone : wk.length + 1 = st.length := hone
          have et : (L.take (i + 1)).foldl (stpOf B) ⟨[], mn, ag⟩ = stpOf B s (wk, st) := by
            rw [List.take_add_one, hp, List.foldl_append, ← hs]; rfl
          have elast : lstS st = st.getLast hne := by unfold lstS; rw [List.getLast?_eq_some_getLast hne]; rfl
          have hqL := hq _ (List.getLast_mem hne)
          walk_at "w"
          refine opK_of (atI_lastM stnD hne) ?_
          walk_at "w"
          refine ⟨B, rfl, by omega, (st.getLast hne).1, (st.getLast hne).2, rfl, ⟨by omega, by omega⟩, fun w hw2 => by rw [hw w hw2, hqL], ?_⟩
          walk_at "w"
          rw [← elast]
          refine ⟨⟨fun j ρ' g3 => Hold (g3 = g2 ∧ ∃ (s' : Fs) (s10 s11 s12 : Sl), ρ' = [.dt B.d, .dt (standD r xs), .dt (.int lim), .dt (.list (L.map wstD)), .dt (.int s'.many), .dt (agD s'.again), .dt (lgD lg), .ls (s'.later.map wstD), .dt (.list (wk.map PyData.int)), .dt (.list (st.map stnD)), s10, s11, s12] ∧ s' = ((canL B (lstS st).1 (lstS st).2).take j).foldl (stpKid B (wk, st)) s ∧
              mn ≤ s'.many ∧ s'.many ≤ 500001 ∧ (s'.many ≤ lim ∨ s'.many = mn) ∧ (s'.later.length : Int) ≤ s'.many - mn ∧ ∀ p ∈ s'.later, WOk xs.length (mn + 1) p),
            hold ⟨rfl, s, _, _, _, rfl, rfl, hs1, hs2, hs3, hs4, hs5⟩, fun j d ρ' g3 hk2 hI2 => ?_, fun ρ' g3 hI2 => ?_⟩⟩
          · obtain ⟨rfl, s', s10, s11, s12, rfl, ht, ht1, ht2, ht3, ht4, ht5⟩ := hI2.h
            rw [List.getElem?_map] at hk2
            obtain ⟨k, hkk, rfl⟩ := Option.map_eq_some_iff.mp hk2
            obtain ⟨hkW, hkF⟩ := canL_mem.mp (List.mem_of_getElem? hkk)
            have ej : ((canL B (lstS st).1 (lstS st).2).take (j + 1)).foldl (stpKid B (wk, st)) s = stpKid B (wk, st) s' k := by
              rw [List.take_add_one, hkk, List.foldl_append, ← ht]; rfl
            have hjl := (List.getElem?_eq_some_iff.mp hkk).1
            have hmore : s'.many + 1 ≤ (layF B L mn ag).many := by
              refine Int.le_trans ?_ (lay_from hp hs)
              have e1 := stpsKid_many B (wk, st) (canL B (lstS st).1 (lstS st).2) s
              have e2 := stpsKid_many B (wk, st) ((canL B (lstS st).1 (lstS st).2).take j) s
              rw [← ht, List.length_take] at e2
              unfold stpOf
              show _ ≤ (List.foldl (stpKid B (wk, st)) s (canL B (lstS st).1 (lstS st).2)).many
              omega
            walk_at "w"
            refine ifb_of (fun q => ?_) (fun q => ?_)
            · have q := of_decide_eq_true q
              walk_at "w"
              exact hU (hon (by omega))
            · have q := of_decide_eq_false q
              walk_at "w"
              refine opK_of (atI_lastM stnD hne) ?_
              walk_at "w"
              refine ⟨B, rfl, (st.getLast hne).1, (st.getLast hne).2, rfl, ⟨by omega, by omega⟩, fun w hw2 => by rw [hw w hw2, hqL], fun _ => ?_, fun hn => absurd ⟨hkW, by rw [← elast]; exact hkF⟩ hn⟩
              walk_at "w"
              refine leK_of (by rw [List.length_map]; show st.length + 1 ≤ _; omega) ?_
              walk_at "w"
              have eN : st.map stnD ++ [standD (wAt B k).b (addL (st.getLast hne).2 (wAt B k).gs)] = (nxtS B st k).map stnD := by
                unfold nxtS
                rw [List.map_append, elast]; rfl
              rw [eN]
              have hgl : (wAt B k).gs.length = xs.length := hw _ (wAt_mem hkW)
              have hnl : (nxtS B st k).length = st.length + 1 := by unfold nxtS; rw [List.length_append]; rfl
              have hnq : ∀ q ∈ nxtS B st k, q.2.length = xs.length := fun q hq2 => by
                unfold nxtS at hq2
                rcases List.mem_append.mp hq2 with hq2 | hq2
                · exact hq q hq2
                · rw [List.mem_singleton.mp hq2]
                  show (addL _ _).length = _
                  rw [elast]
                  exact addL_len hqL hgl
              have hnn : nxtS B st k ≠ [] := fun z => by rw [z] at hnl; simp at hnl
              refine ⟨nxtS B st k, rfl, hnn, by rw [hnl]; omega, fun q hq2 => by rw [hnq q hq2]; omega, ?_⟩
              cases eA : againF (nxtS B st k) with
              | none =>
                have es : stpKid B (wk, st) s' k = ⟨s'.later ++ [(wk ++ [k], nxtS B st k)], s'.many + 1, s'.again⟩ := by unfold stpKid; dsimp only; rw [eA]
                walk_at "w"
                refine leK_of (by rw [List.length_map]; show wk.length + 1 ≤ _; omega) ?_
                walk_at "w"
                refine ltK_of (by rw [List.length_map]; omega) ?_
                walk_at "w"
                have eL : s'.later.map wstD ++ [.tuple [.list (wk.map PyData.int ++ [PyData.int k]), .list ((nxtS B st k).map stnD)]] = (s'.later ++ [(wk ++ [k], nxtS B st k)]).map wstD := by
                  rw [List.map_append]
                  show _ = _ ++ [wstD _]
                  unfold wstD
                  rw [List.map_append]
                  rfl
                rw [eL]
                exact hold ⟨rfl, ⟨s'.later ++ [(wk ++ [k], nxtS B st k)], s'.many + 1, s'.again⟩, _, _, _, rfl, by rw [ej, es], by show mn ≤ s'.many + 1; omega, by show s'.many + 1 ≤ 500001; omega, by show s'.many + 1 ≤ lim ∨ _; omega, by show ((s'.later ++ [_]).length : Int) ≤ s'.many + 1 - mn; rw [List.length_append]; simp; omega, fun p hp2 => by
                  rcases List.mem_append.mp hp2 with hp2 | hp2
                  · exact ht5 p hp2
                  · rw [List.mem_singleton.mp hp2]
                    exact ⟨hnn, by show ((nxtS B st k).length : Int) ≤ _; rw [hnl]; omega, by show (wk ++ [k]).length + 1 = (nxtS B st k).length; rw [hnl, List.length_append]; simp; omega, hnq⟩⟩
              | some at1 =>
                have es : stpKid B (wk, st) s' k = ⟨s'.later, s'.many + 1, s'.again.or (some ((wk ++ [k]).take at1, (wk ++ [k]).drop at1))⟩ := by unfold stpKid; dsimp only; rw [eA]
                have fin : ∀ ag2, s'.again.or (some ((wk ++ [k]).take at1, (wk ++ [k]).drop at1)) = ag2 → Hold (g3 = g3 ∧ ∃ (s2 : Fs) (s10 s11 s12 : Sl), [Sl.dt B.d, .dt (standD r xs), .dt (.int lim), .dt (.list (L.map wstD)), .dt (.int (s'.many + 1)), .dt (agD ag2), .dt (lgD lg), .ls (s'.later.map wstD), .dt (.list (wk.map PyData.int)), .dt (.list (st.map stnD)), .dt (.int k), .dt (.list ((nxtS B st k).map stnD)), .dt (.int (at1 : Nat))] = [.dt B.d, .dt (standD r xs), .dt (.int lim), .dt (.list (L.map wstD)), .dt (.int s2.many), .dt (agD s2.again), .dt (lgD lg), .ls (s2.later.map wstD), .dt (.list (wk.map PyData.int)), .dt (.list (st.map stnD)), s10, s11, s12] ∧ s2 = ((canL B (lstS st).1 (lstS st).2).take (j + 1)).foldl (stpKid B (wk, st)) s ∧
                    mn ≤ s2.many ∧ s2.many ≤ 500001 ∧ (s2.many ≤ lim ∨ s2.many = mn) ∧ (s2.later.length : Int) ≤ s2.many - mn ∧ ∀ p ∈ s2.later, WOk xs.length (mn + 1) p) := fun ag2 e => hold ⟨rfl, ⟨s'.later, s'.many + 1, ag2⟩, _, _, _, rfl, by rw [ej, es, e], by show mn ≤ s'.many + 1; omega, by show s'.many + 1 ≤ 500001; omega, by show s'.many + 1 ≤ lim ∨ _; omega, by show (s'.later.length : Int) ≤ s'.many + 1 - mn; omega, ht5⟩
                cases hag : s'.again with
                | some a =>
                  walk_at "w"
                  exact fin (some a) (by rw [hag]; rfl)
                | none =>
                  have eW : wk.map PyData.int ++ [PyData.int k] = (wk ++ [k]).map PyData.int := by rw [List.map_append]; rfl
                  walk_at "w"
                  refine leK_of (by rw [List.length_map]; show wk.length + 1 ≤ _; omega) ?_
                  rw [eW]
                  walk_at "w"
                  refine leK_of (by rw [List.length_map]; show wk.length + 1 ≤ _; omega) ?_
                  rw [eW]
                  walk_at "w"
                  rw [cutD_map, cutD_map, cutL_take (Int.natCast_nonneg _), cutL_drop (Int.natCast_nonneg _), Int.toNat_natCast]
                  exact fin (some ((wk ++ [k]).take at1, (wk ++ [k]).drop at1)) (by rw [hag]; rfl)
          · obtain ⟨rfl, s', s10, s11, s12, rfl, ht, ht1, ht2, ht3, ht4, ht5⟩ := hI2.h
            rw [List.length_map, List.take_length] at ht
            walk_at "w"
            exact hold ⟨rfl, s', _, _, _, _, _, rfl, by rw [et]; exact ht, ht1, ht2, ht3, ht4, ht5⟩
        · obtain ⟨rfl, s, s8, s9, s10, s11, s12, rfl, hs, hs1, hs2, hs3, hs4, hs5⟩ := hI.h
          rw [List.length_map, List.take_length] at hs
          walk_at "w"
          refine ⟨(lay_lay s.later).shaped, rfl, ?_⟩
          rw [eqv_nil]
          cases m with
          | zero => cases ho
          | succ m =>
            subst hL
            rw [outF, if_neg (by
              show ¬ ((p0 :: lr).foldl (stpOf B) ⟨[], mn, ag⟩).many > lim
              rw [← hs]
              rcases hs3 with hs3 | hs3 <;> omega)] at ho
            rw [show layF B (p0 :: lr) mn ag = s from hs.symm] at ho
            have hml2 : s.many ≤ lim := by rcases hs3 with hs3 | hs3 <;> omega
            cases hsl : s.later with
            | nil =>
              rw [hsl] at ho
              walk_at "w"
              exact ⟨m, Nat.lt_succ_self m, hold ⟨rfl, [], s.many, s.again, lg, _, _, _, _, _, _, _, rfl, .inr rfl, ho, ⟨by omega, hs2⟩, hml2, by simp; omega, by simp⟩⟩
            | cons q qr =>
              rw [hsl] at ho hs4 hs5
              obtain ⟨q1, q2⟩ := q
              walk_at "w"
              refine opK_of (atI_nat (j := 0) rfl) ?_
              walk_at "w"
              simp only [List.length_cons] at hs4
              exact ⟨m, Nat.lt_succ_self m, hold ⟨rfl, (q1, q2) :: qr, s.many, s.again, some q1, _, _, _, _, _, _, _, rfl, .inr rfl, ho, ⟨by omega, hs2⟩, hml2, by simp only [List.length_cons]; omega, fun p hp => ⟨(hs5 p hp).ne, by have := (hs5 p hp).le; omega, (hs5 p hp).one, (hs5 p hp).q⟩⟩⟩)
  · cases h
abbrev s__law_kinds : Stmt := topS 32
theorem c__law_kinds : FnScope ["e", "found"] ["e"] (defScope s__law_kinds) := ⟨rfl, rfl, rfl, by decide +kernel, rfl, by decide +kernel, by decide +kernel⟩
theorem ok__law_kinds {P : Program} {w : World} {K : PySem.W.Frag} {mg : Str → Option Value} {base : Heap} {k : Nat} (D : Dfn K mg "_law_kinds" s__law_kinds ["e"]) (z_isinstance : mg "isinstance" = none) (z_ValueError : mg "ValueError" = none) (kn : ∀ x ∈ kindNs, ∃ C, mg x = some (.ref C)) : OkK P w K mg base (k + 1) "_law_kinds" ["e"] (spKinds K mg) := by
  obtain ⟨fa, fd, Fu, hm, hb⟩ := D
  refine ⟨fa, fd, hm, Fu.kp, hb, funK Fu c__law_kinds fun p cdv B oe s H vs Q hr h => ?_⟩
  obtain ⟨rfl, Dd, f, d, c, hz, hf, hdx, hk, hq⟩ := h
  have nm : ∀ x ∈ kindNs, ∃ C, mg x = some (.ref C) ∧ PySem.W.kitOne K (.ref Dd) (.ref C) = some (f x) := fun x hx => by
    obtain ⟨C, hC⟩ := kn x hx
    have := hk.k x hx
    rw [cv_of hC] at this
    exact ⟨C, hC, this⟩
  obtain ⟨C1, m1, e1⟩ := nm "NoWay" (by decide)
  obtain ⟨C2, m2, e2⟩ := nm "NoRound" (by decide)
  obtain ⟨C3, m3, e3⟩ := nm "NoRing" (by decide)
  obtain ⟨C4, m4, e4⟩ := nm "NoPurse" (by decide)
  obtain ⟨C5, m5, e5⟩ := nm "NoEnd" (by decide)
  obtain ⟨C6, m6, e6⟩ := nm "NoStand" (by decide)
  obtain ⟨C7, m7, e7⟩ := nm "TooMany" (by decide)
  obtain ⟨C8, m8, e8⟩ := nm "NoLine" (by decide)
  obtain ⟨C9, m9, e9⟩ := nm "NoRow" (by decide)
  have hp : ∀ (X : Cx), X.pn = [p] → p ∈ X.pn := fun X e => by rw [e]; exact List.mem_cons_self
  refine ⟨_, pss_cons (ps_set (i := 1) c__law_kinds.nd rfl (.inl rfl) (pe_lst (pa_cons (isE_pe2 c (hp _ rfl) hz hf z_isinstance m1 (pv 0)) (pa_cons (isE_pe2 c (hp _ rfl) hz hf z_isinstance m2 (pv 0)) (pa_cons (isE_pe2 c (hp _ rfl) hz hf z_isinstance m3 (pv 0)) (pa_cons (isE_pe2 c (hp _ rfl) hz hf z_isinstance m4 (pv 0)) pa_nil))))))
    (pss_cons (ps_set (i := 1) c__law_kinds.nd rfl (.inl rfl) (pe_op op_cat (pv 1) (pe_lst (pa_cons (isE_pe2 c (hp _ rfl) hz hf z_isinstance m5 (pv 0)) (pa_cons (isE_pe2 c (hp _ rfl) hz hf z_isinstance m6 (pv 0)) (pa_cons (isE_pe2 c (hp _ rfl) hz hf z_isinstance m7 (pv 0)) (pa_cons (isE_pe2 c (hp _ rfl) hz hf z_isinstance m8 (pv 0)) pa_nil)))))))
    (pss_one (ps_ret (pe_op op_cat (pv 1) (pe_lst (pa_cons (isE_pe2 c (hp _ rfl) hz hf z_isinstance m9 (pv 0)) (pa_cons (isT_pe2 c (hp _ rfl) hz hf z_isinstance z_ValueError rfl (pv 0)) pa_nil))))))), ?_⟩
  clear hr
  show tSeq _ _ _ [some (.ref p.1), none] H
  refine ⟨_, rfl, .ref C1, .ref C1, _, rfl, (fun u hu => hu), e1, hdx, _, rfl, .ref C2, .ref C2, _, rfl, (fun u hu => hu), e2, hdx, _, rfl, .ref C3, .ref C3, _, rfl, (fun u hu => hu), e3, hdx, _, rfl, .ref C4, .ref C4, _, rfl, (fun u hu => hu), e4, hdx, (by show 4 ≤ sizeLine; decide), fun l1 n1 => ?_⟩
  have g1 : ∀ b o, H b = some o → (upd H l1 (.lst [.bl (f "NoWay"), .bl (f "NoRound"), .bl (f "NoRing"), .bl (f "NoPurse")])) b = some o := fun b o e => by rw [upd_ne (ne_of_none e n1)]; exact e
  refine ⟨_, rfl, _, rfl, .ref C5, .ref C5, _, rfl, (fun u hu => hu), e5, hdx.keep g1, _, rfl, .ref C6, .ref C6, _, rfl, (fun u hu => hu), e6, hdx.keep g1, _, rfl, .ref C7, .ref C7, _, rfl, (fun u hu => hu), e7, hdx.keep g1, _, rfl, .ref C8, .ref C8, _, rfl, (fun u hu => hu), e8, hdx.keep g1, (by show 4 ≤ sizeLine; decide), fun l2 n2 => ?_⟩
  have h12 : l1 ≠ l2 := fun e => by rw [← e, upd_same] at n2; cases n2
  have st : ∀ {G : Hp} {l : Addr} {o : HO}, (∀ b o, H b = some o → G b = some o) → G l = none → (∀ b o', H b = some o' → (upd G l o) b = some o') := fun {G l o} k n b o' e => by rw [upd_ne (ne_of_none (k b o' e) n)]; exact k b o' e
  refine ⟨l1, l2, _, _, rfl, rfl, by rw [upd_ne h12, upd_same], upd_same, (by show 8 ≤ sizeLine; decide), fun l3 n3 => ?_⟩
  refine ⟨_, rfl, _, rfl, .ref C9, .ref C9, _, rfl, (fun u hu => hu), e9, hdx.keep (st (st g1 n2) n3), _, rfl, .ty "ValueError", .type "ValueError", _, rfl, (fun u hu => hu), hk.v, hdx.keep (st (st g1 n2) n3), (by show 2 ≤ sizeLine; decide), fun l4 n4 => ?_⟩
  have h34 : l3 ≠ l4 := fun e => by rw [← e, upd_same] at n4; cases n4
  refine ⟨l3, l4, _, _, rfl, rfl, by rw [upd_ne h34, upd_same], upd_same, (by show 10 ≤ sizeLine; decide), fun l5 n5 => ?_⟩
  have k5 := st (o := .lst [.bl (f "NoRow"), .bl true]) (st (o := .lst ([.bl (f "NoWay"), .bl (f "NoRound"), .bl (f "NoRing"), .bl (f "NoPurse")] ++ [.bl (f "NoEnd"), .bl (f "NoStand"), .bl (f "TooMany"), .bl (f "NoLine")])) (st (o := .lst [.bl (f "NoEnd"), .bl (f "NoStand"), .bl (f "TooMany"), .bl (f "NoLine")]) g1 n2) n3) n4
  refine hq _ l5 (st k5 n5) ?_ upd_same
  cases q : H l5 with
  | none => rfl
  | some o => rw [k5 l5 o q] at n5; cases n5
abbrev s__law_tried : Stmt := topS 35
theorem c__law_tried : FnScope ["book", "stand", "bound", "found", "kinds", "e"] ["book", "stand", "bound"] (defScope s__law_tried) := ⟨rfl, rfl, rfl, by decide +kernel, rfl, by decide +kernel, by decide +kernel⟩
def S__law_tried : Spec Unit := fun as g T U => match as with
  | [.dt b, .dt s, .dt (.int lim)] => ∃ B : Book, b = B.d ∧ ∃ (r : Int) (xs : List Int), s = standD r xs ∧ (0 < xs.length ∧ xs.length ≤ 1000) ∧ B.ways.length ≤ 100000 ∧ (∀ w ∈ B.ways, w.gs.length = xs.length) ∧ (1 ≤ lim ∧ lim ≤ 500000) ∧
      ∃ n o, outF B lim n [([], [(r, xs)])] 1 none none = some o ∧ T (.dt (o.getD (.str "many"))) g
  | _ => False
theorem ok__law_tried {P : Program} {w : World} {K : PySem.W.Frag} {mg : Str → Option Value} {base : Heap} {k : Nat} (D : Dfn K mg "_law_tried" s__law_tried ["book", "stand", "bound"]) (f_from_stand : OkE P w K mg base k "from_stand" ["book", "stand", "limit"] "limit" [.int 2000] (spZ (Z0 K) (S_from_stand mg))) (f__law_kinds : OkK P w K mg base k "_law_kinds" ["e"] (spKinds K mg)) (f__law_word : Ok P w K mg base k "_law_word" ["flags"] (spZ (Z0 K) S__law_word)) (x_FallError : ExX K mg "FallError") (u_TooMany_FallError : SubX K mg "TooMany" "FallError" true) (u_NoWay_FallError : SubX K mg "NoWay" "FallError" true) (kx_TooMany : KX K mg "TooMany") (kx_NoWay : KX K mg "NoWay") : Ok P w K mg base (k + 1) "_law_tried" ["book", "stand", "bound"] (spZ (Z0 K) S__law_tried) := by
  refine D.ok c__law_tried (fun as g T U h => by unfold S__law_tried at h; split at h <;> first | rfl | cases h) (by decide) fun fa cdv A outer s' H E hr => ⟨_, _, (s_cons (s_set 3 c__law_tried.nd e_non)
      (s_cons (s_set 4 c__law_tried.nd (e_lst a_nil))
      (s_cons (s_tryK 5 4 x_FallError takes0 f__law_kinds hr (fun W' U' pn xe tk po => ⟨_, (s_one (s_set 3 c__law_tried.nd (e_if (t_cmp (c_eq hr.units) (e_op b_mod (e_v 2) e_int) e_int) (e_fnE1 (let_w tk) f_from_stand hr (a_cons (e_v 0) (a_cons (e_v 1) (a_cons (e_v 2) a_nil)))) (e_fnEK (let_w tk) f_from_stand hr (a_cons (e_v 0) (a_cons (e_v 1) a_nil)) (e_v 2)))))⟩) c__law_tried.nd)
      (s_one (s_ret (e_if (t_cmp (c_eq hr.units) (e_v 4) (e_lst a_nil)) (e_v 3) (e_fn0U let_n f__law_word hr (a_cons (e_v 4) a_nil)))))))), ?_⟩
  intro as g T U h
  unfold S__law_tried at h
  clear hr f_from_stand f__law_kinds f__law_word
  split at h
  · rename_i lim
    obtain ⟨B, rfl, r, xs, rfl, hx, hl, hw, hlim, n, o, ho, hT⟩ := h
    walk_at "w"
    refine ifb_of (fun z => ?_) (fun z => ?_)
    all_goals (
      walk_at "w"
      refine ⟨B, rfl, r, xs, rfl, hx, hl, hw, hlim, n, o, ho, fun d e => ?_, fun e => ?_⟩
      · subst e
        walk_at "w"
        exact hT
      · subst e
        exact .inl ⟨rfl, takes1_of x_FallError u_TooMany_FallError, kx_TooMany.ok (by
          walk_at "w"
          refine ⟨"TooMany", "many", by simp [kindW], rfl, ?_⟩
          walk_at "w"
          exact hT)⟩)
  · cases h
abbrev s__law_alike : Stmt := topS 34
theorem c__law_alike : FnScope ["found", "due", "one", "other"] ["found", "due"] (defScope s__law_alike) := ⟨rfl, rfl, rfl, by decide +kernel, rfl, by decide +kernel, by decide +kernel⟩
def alk : Nat → PyData → Bool
  | 0, _ => false
  | n + 1, d => match d with
    | .list ds => decide (ds.length ≤ 16777216) && ds.all (alk n)
    | .tuple ds => decide (ds.length ≤ 16777216) && ds.all (alk n)
    | .dict _ => false
    | _ => true
def S__law_alike (n : Nat) : Spec Unit := fun as g T U => match as with
  | [.dt f, .dt d] => f = d ∧ alk n f = true ∧ T (.dt (.bool true)) g
  | _ => False
theorem z0__law_alike : ∀ as g T U, ¬ S__law_alike 0 as g T U := fun as g T U h => by
  unfold S__law_alike at h
  split at h
  · exact absurd h.2.1 (by simp [alk])
  · exact h
theorem alk_ints (n : Nat) (ns : List Int) : (ns.map PyData.int).all (alk (n + 1)) = true := by
  rw [List.all_map, List.all_eq_true]
  intro x _
  rfl
theorem alk_tup {n : Nat} {ds : List PyData} (h : ds.length ≤ 16777216) (h2 : ds.all (alk n) = true) : alk (n + 1) (.tuple ds) = true := by
  rw [alk]
  simp only [decide_eq_true h, h2]
  rfl
theorem alk_lst {n : Nat} {ds : List PyData} (h : ds.length ≤ 16777216) (h2 : ds.all (alk n) = true) : alk (n + 1) (.list ds) = true := by
  rw [alk]
  simp only [decide_eq_true h, h2]
  rfl
theorem st__law_alike {P : Program} {w : World} {K : PySem.W.Frag} {mg : Str → Option Value} {base : Heap} {k : Nat} {n : Nat} (D : Dfn K mg "_law_alike" s__law_alike ["found", "due"]) (z_bool : mg "bool" = none) (z_isinstance : mg "isinstance" = none) (z_int : mg "int" = none) (z_str : mg "str" = none) (z_list : mg "list" = none) (z_tuple : mg "tuple" = none) (z_len : mg "len" = none) (z_zip : mg "zip" = none) (z_all : mg "all" = none) (f__law_alike : Ok P w K mg base k "_law_alike" ["found", "due"] (spZ (Z0 K) (S__law_alike n))) : Ok P w K mg base (k + 1) "_law_alike" ["found", "due"] (spZ (Z0 K) (S__law_alike (n + 1))) := by
  refine D.ok c__law_alike (fun as g T U h => by unfold S__law_alike at h; split at h <;> first | rfl | cases h) (by decide) fun fa cdv A outer s' H E hr => ⟨_, _, (s_cons (s_if (t_cmp c_is (e_v 1) e_non) (s_one (s_ret (e_cmp c_is (e_v 0) e_non))) s_nil)
      (s_cons (s_if (t_val (e_callB k_isi (a_cons (e_v 1) (a_cons (e_ty "bool" z_bool rfl) a_nil)) z_isinstance rfl)) (s_one (s_ret (e_and (e_callB k_isi (a_cons (e_v 0) (a_cons (e_ty "bool" z_bool rfl) a_nil)) z_isinstance rfl) (e_one (e_cmp (c_eq hr.units) (e_v 0) (e_v 1)))))) s_nil)
      (s_cons (s_if (t_val (e_callB k_isi (a_cons (e_v 1) (a_cons (e_ty "int" z_int rfl) a_nil)) z_isinstance rfl)) (s_one (s_ret (e_and (e_callB k_isi (a_cons (e_v 0) (a_cons (e_ty "int" z_int rfl) a_nil)) z_isinstance rfl) (e_and (e_not (e_callB k_isi (a_cons (e_v 0) (a_cons (e_ty "bool" z_bool rfl) a_nil)) z_isinstance rfl)) (e_one (e_cmp (c_eq hr.units) (e_v 0) (e_v 1))))))) s_nil)
      (s_cons (s_if (t_val (e_callB k_isi (a_cons (e_v 1) (a_cons (e_ty "str" z_str rfl) a_nil)) z_isinstance rfl)) (s_one (s_ret (e_and (e_callB k_isi (a_cons (e_v 0) (a_cons (e_ty "str" z_str rfl) a_nil)) z_isinstance rfl) (e_one (e_cmp (c_eq hr.units) (e_v 0) (e_v 1)))))) s_nil)
      (s_cons (s_if (t_w (w_or (t_cmp (c_ne hr.units) (e_callB k_isi (a_cons (e_v 1) (a_cons (e_ty "tuple" z_tuple rfl) a_nil)) z_isinstance rfl) (e_callB k_isi (a_cons (e_v 0) (a_cons (e_ty "tuple" z_tuple rfl) a_nil)) z_isinstance rfl)) (w_or1 (t_cmp (c_ne hr.units) (e_callB k_isi (a_cons (e_v 1) (a_cons (e_ty "list" z_list rfl) a_nil)) z_isinstance rfl) (e_callB k_isi (a_cons (e_v 0) (a_cons (e_ty "list" z_list rfl) a_nil)) z_isinstance rfl))))) (s_one (s_ret e_bl)) s_nil)
      (s_cons (s_if (t_cmp (c_ne hr.units) (e_callB k_len (a_cons (e_v 0) a_nil) z_len rfl) (e_callB k_len (a_cons (e_v 1) a_nil) z_len rfl)) (s_one (s_ret e_bl)) s_nil)
      (s_one (s_ret (e_callB k_all (a_cons (e_lc [("one", 2), ("other", 3)] c__law_alike.nd (i_zip z_zip (a_cons (e_v 0) (a_cons (e_v 1) a_nil))) (fun _ _ _ _ _ => (g_tup (n := 2) (gs_cons (g_name 2 c__law_alike.nd) (gs_cons (g_name 3 c__law_alike.nd) gs_nil)))) (own_seq (owns_cons (own_name (by decide)) (owns_cons (own_name (by decide)) owns_nil))) (fun _ _ _ _ _ => ts_nil) (fun _ _ _ _ _ => (e_fn0U let_n f__law_alike hr (a_cons (e_v 2) (a_cons (e_v 3) a_nil))))) a_nil) z_all rfl))))))))), ?_⟩
  intro as g T U h
  unfold S__law_alike at h
  clear hr f__law_alike
  split at h
  · rename_i f d
    obtain ⟨rfl, ha, h⟩ := h
    cases f
    case none => walk_at "w"; exact h
    case bool b =>
      walk_at "w"
      cases b <;> (walk_at "w"; exact h)
    case int i =>
      walk_at "w"
      exact tb h (by simp)
    case str s =>
      walk_at "w"
      exact tb h (by simp)
    case list ds =>
      rw [alk, Bool.and_eq_true] at ha
      obtain ⟨ha, hb⟩ := ha
      have ha := of_decide_eq_true ha
      walk_at "w"
      refine ifb_of (fun q => ?_) (fun q => ?_)
      · simp at q
      · walk_at "w"
        rw [zipD_self]
        refine leK_of (by rw [List.length_map]; exact ha) (lc_mapL (fun _ => .bool true) rfl (fun p hp C1 C0 q => ?_) ?_)
        · walk_at "w"
          refine ⟨rfl, List.all_eq_true.mp hb p hp, ?_⟩
          walk_at "w"
          exact q
        · walk_at "w"
          exact tb h (by simp)
    case tuple ds =>
      rw [alk, Bool.and_eq_true] at ha
      obtain ⟨ha, hb⟩ := ha
      have ha := of_decide_eq_true ha
      walk_at "w"
      refine ifb_of (fun q => ?_) (fun q => ?_)
      · simp at q
      · walk_at "w"
        rw [zipD_self]
        refine leK_of (by rw [List.length_map]; exact ha) (lc_mapL (fun _ => .bool true) rfl (fun p hp C1 C0 q => ?_) ?_)
        · walk_at "w"
          refine ⟨rfl, List.all_eq_true.mp hb p hp, ?_⟩
          walk_at "w"
          exact q
        · walk_at "w"
          exact tb h (by simp)
    case dict ds => cases ha
  · cases h
theorem ok__law_alike {P : Program} {w : World} {K : PySem.W.Frag} {mg : Str → Option Value} {base : Heap} {k : Nat} (D : Dfn K mg "_law_alike" s__law_alike ["found", "due"]) (z_bool : mg "bool" = none) (z_isinstance : mg "isinstance" = none) (z_int : mg "int" = none) (z_str : mg "str" = none) (z_list : mg "list" = none) (z_tuple : mg "tuple" = none) (z_len : mg "len" = none) (z_zip : mg "zip" = none) (z_all : mg "all" = none) : Ok P w K mg base (k + 6) "_law_alike" ["found", "due"] (spZ (Z0 K) (S__law_alike 6)) := by
  have go : ∀ n, Ok P w K mg base (k + n) "_law_alike" ["found", "due"] (spZ (Z0 K) (S__law_alike n)) := fun n => by
    induction n with
    | zero => exact D.none z0__law_alike
    | succ n ih => exact st__law_alike (D := D) (f__law_alike := ih) (z_bool := z_bool) (z_isinstance := z_isinstance) (z_int := z_int) (z_str := z_str) (z_list := z_list) (z_tuple := z_tuple) (z_len := z_len) (z_zip := z_zip) (z_all := z_all)
  exact go 6
abbrev s__law_tree_told : Stmt := topS 29
theorem c__law_tree_told : FnScope ["found", "many", "straight", "again", "size", "walk", "at"] ["found"] (defScope s__law_tree_told) := ⟨rfl, rfl, rfl, by decide +kernel, rfl, by decide +kernel, by decide +kernel⟩
def S__law_tree_told : Spec Unit := fun as g T U => match as with
  | [.dt t] => ∃ (B : Book) (f : Int) (ys : List Int) (P : List (List Int)) (D : Nat), t = treeD B f P [] ∧ DF B f ys P [] ∧ LW B f ys D = [] ∧ (∀ j, j < D → LW B f ys j ≠ []) ∧ P.length ≤ 10000 ∧ (∀ w ∈ P, w.length ≤ P.length) ∧ T (.dt (resD (agnW B f ys D) (lgW B f ys D))) g
  | _ => False
theorem lay_agT (q : List Int × Nat) : Lay 2 (agT q) := lay_tup fun d hd => by
  simp only [List.mem_cons, List.not_mem_nil, or_false] at hd
  rcases hd with rfl | rfl | rfl
  · exact lay_int _ _
  · exact lay_lints _ _
  · exact lay_int _ _
theorem ok__law_tree_told {P : Program} {w : World} {K : PySem.W.Frag} {mg : Str → Option Value} {base : Heap} {k : Nat} (D : Dfn K mg "_law_tree_told" s__law_tree_told ["found"]) (z_min : mg "min" = none) (z_len : mg "len" = none) (z_max : mg "max" = none) : Ok P w K mg base (k + 1) "_law_tree_told" ["found"] (spZ (Z0 K) S__law_tree_told) := by
  refine D.ok c__law_tree_told (fun as g T U h => by unfold S__law_tree_told at h; split at h <;> first | rfl | cases h) (by decide) fun fa cdv A outer s' H E hr => ⟨_, _, (s_cons (s_asg (e_v 0) (g_tup (n := 3) (gs_cons (g_name 1 c__law_tree_told.nd) (gs_cons (g_name 2 c__law_tree_told.nd) (gs_cons (g_name 3 c__law_tree_told.nd) gs_nil)))))
      (s_cons (s_if (t_cmp (c_ne hr.units) (e_v 3) (e_lst a_nil)) (s_cons (s_asg (e_callB (k_minQ hr.units) (a_cons (e_v 3) a_nil) z_min rfl) (g_tup (n := 3) (gs_cons (g_name 4 c__law_tree_told.nd) (gs_cons (g_name 5 c__law_tree_told.nd) (gs_cons (g_name 6 c__law_tree_told.nd) gs_nil)))))
      (s_one (s_ret (e_tup (a_cons e_str (a_cons (e_sl (e_v 5) o_none (o_some (e_v 6))) (a_cons (e_sl (e_v 5) (o_some (e_v 6)) o_none) a_nil))))))) s_nil)
      (s_cons (s_set 4 c__law_tree_told.nd (e_callB (k_maxX hr.units) (a_cons (e_lc [("walk", 5)] c__law_tree_told.nd (i_seq (e_v 2)) (fun _ _ _ _ _ => (g_name 5 c__law_tree_told.nd)) (own_name (by decide)) (fun _ _ _ _ _ => ts_nil) (fun _ _ _ _ _ => (e_callB k_len (a_cons (e_v 5) a_nil) z_len rfl))) a_nil) z_max rfl))
      (s_one (s_ret (e_tup (a_cons e_str (a_cons (e_if (t_cmp c_gt (e_v 4) e_int) (e_callB (k_minQ hr.units) (a_cons (e_lc [("walk", 5)] c__law_tree_told.nd (i_seq (e_v 2)) (fun _ _ _ _ _ => (g_name 5 c__law_tree_told.nd)) (own_name (by decide)) (fun _ _ _ _ _ => (ts_one (t_cmp (c_eq hr.units) (e_callB k_len (a_cons (e_v 5) a_nil) z_len rfl) (e_v 4)))) (fun _ _ _ _ _ => (e_v 5))) a_nil) z_min rfl) e_non) a_nil)))))))), ?_⟩
  intro as g T U h
  unfold S__law_tree_told at h
  clear hr
  split at h
  · obtain ⟨B, f, ys, P, D, rfl, hD, hL, hn, hP, hw, h⟩ := h
    walk_at "w"
    refine ⟨(lay_listM (n := 2) (f := agT) fun q _ => lay_agT q).shaped, rfl, ?_⟩
    rw [eqv_nil]
    cases ha : agnW B f ys D with
    | some p =>
      obtain ⟨q, r, w, j, e1, e2, rfl, hwP, hj⟩ := agL_min hD ha
      rw [ha] at h
      rw [e1]
      walk_at "w"
      refine ⟨_, inferInstance, inferInstance, ag3 q, r.map ag3, ?_, ?_, ?_⟩
      · rw [List.map_cons, List.map_map]; rfl
      · decide
      rw [e2]
      walk_at "w"
      have e3 : L3.cutD (w.map PyData.int) none (some ((j : Nat) : Int)) = (w.take j).map PyData.int := by rw [cutD_map, cutL_take (by omega)]; rfl
      have e4 : L3.cutD (w.map PyData.int) (some ((j : Nat) : Int)) none = (w.drop j).map PyData.int := by rw [cutD_map, cutL_drop (by omega)]; rfl
      refine td h ?_
      show PyData.tuple [.str "again", .list ((w.take j).map PyData.int), .list ((w.drop j).map PyData.int)] = .tuple [.str "again", .list (L3.cutD (w.map PyData.int) none (some ((j : Nat) : Int))), .list (L3.cutD (w.map PyData.int) (some ((j : Nat) : Int)) none)]
      rw [e3, e4]
    | none =>
      rw [agL_none hD hL ha]
      rw [ha] at h
      have hsl : (stgt B f P).length ≤ P.length := by unfold stgt; exact List.length_filter_le _ _
      obtain ⟨d1, d2, d3⟩ := lgW_told hL hn
      have hne := hn (D - 1) (by omega)
      obtain ⟨w0, hw0⟩ := List.exists_mem_of_ne_nil _ hne
      have hw1 := stgt_mem hD hw0
      have hw2 := LW_len hw0
      walk_at "w"
      refine leK_of (by rw [List.length_map]; omega) (lc_mapL (fun w : List Int => .int (w.length : Nat)) (by walk_at "lcw") (fun x hx C1 C0 q => ?_) ?_)
      · walk_at "w"
        rw [List.length_map]
        exact q
      walk_at "w"
      refine ⟨by rw [List.length_map]; exact List.length_pos_of_mem hw1, fun m hm hmx => ?_⟩
      obtain ⟨w3, hw3, rfl⟩ := List.mem_map.mp hm
      have hl3 : w3.length = D - 1 := by
        have a := (stgt_le hD hL hw3).2
        have b := hmx _ (List.mem_map_of_mem (f := fun w : List Int => ((w.length : Nat) : Int)) hw1)
        replace b : ((w0.length : Nat) : Int) ≤ (w3.length : Nat) := b
        omega
      rw [hl3]
      by_cases c : D = 1
      · rw [c] at h ⊢
        have d4 := d2 c
        rw [c] at d4
        rw [d4] at h
        walk_at "w"
        exact h
      · walk_at "w"
        refine ifb_of (fun q => ?_) (fun q => ?_)
        · walk_at "w"
          obtain ⟨q0, r0, w4, e1, e2, e3⟩ := stgt_min hD hL hn (by omega)
          rw [e3] at h
          refine leK_of (by rw [List.length_map]; omega) (lc_filL (fun x : List Int => decide (x.length = D - 1)) iLD (by walk_at "lcw") (fun x hx C1 C0 q1 q0 => ?_) ?_)
          · walk_at "w"
            rw [List.length_map]
            refine ifb_of (fun c => ?_) (fun c => ?_)
            · walk_at "w"
              refine q1 (decide_eq_true ?_)
              have c : ((x.length : Nat) : Int) = ((D - 1 : Nat) : Nat) := of_decide_eq_true c
              omega
            · walk_at "w"
              refine q0 (decide_eq_false fun e => ?_)
              have c : ¬ ((x.length : Nat) : Int) = ((D - 1 : Nat) : Nat) := of_decide_eq_false c
              omega
          rw [e1]
          walk_at "w"
          refine ⟨_, inferInstance, inferInstance, q0, r0, ?_, ?_, ?_⟩
          · rfl
          · decide
          rw [e2]
          walk_at "w"
          exact h
        · have q : ¬ 0 < (((D - 1 : Nat) : Nat) : Int) := of_decide_eq_false q
          omega
  · cases h
abbrev s_law : Stmt := topS 36
theorem c_law : FnScope ["script", "jar", "book", "turn", "stand", "before", "tree", "bounds", "bound", "found"] ["script"] (defScope s_law) := ⟨rfl, rfl, rfl, by decide +kernel, rfl, by decide +kernel, by decide +kernel⟩
theorem noLs_map {α : Type} {f : α → PyData} (h : ∀ x, noL (f x) = true) : ∀ xs : List α, noLs (xs.map f) = true
  | [] => rfl
  | x :: r => by rw [List.map_cons, noLs, h x, noLs_map h r]; rfl
theorem noL_tints (ns : List Int) : noL (.tuple (ns.map PyData.int)) = true := by rw [noL]; exact noLs_ints ns
theorem noL_way (w : Way) : noL w.d = true := by
  show noL (.tuple [.int w.a, .int w.b, .tuple (w.gs.map PyData.int)]) = true
  rw [noL, noLs, noLs, noLs, noLs, noL_tints]; rfl
theorem noL_book (B : Book) : noL B.d = true := by
  show noL (.tuple [.int B.rooms, .int B.purses, .tuple (B.ways.map Way.d)]) = true
  rw [noL, noLs, noLs, noLs, noLs, show noL (.tuple (B.ways.map Way.d)) = true from by rw [noL]; exact noLs_map noL_way _]; rfl
theorem noL_stand (r : Int) (xs : List Int) : noL (standD r xs) = true := by
  show noL (.tuple [.int r, .tuple (xs.map PyData.int)]) = true
  rw [noL, noLs, noLs, noLs, noL_tints]; rfl
theorem nice_book {B : Book} {mr mw : Int} (hB : B.Ok mr mw) (h1 : mr ≤ 1000) (h2 : mw ≤ 60) : Nice 4 1315818 B.d := by
  have hn := hB.n
  have p0 := hB.p0
  have p1 := hB.p1
  have r0 := hB.r0
  have r1 := hB.r1
  have hw : ∀ w ∈ B.ways, Nice 2 7308 w.d := fun w hw => nice_tup (n := 1) (w := 2433) (m := 3) (fun d hd => by
    have ok := hB.w w hw
    have a0 := ok.a0
    have a1 := ok.a1
    have b0 := ok.b0
    have b1 := ok.b1
    have hl := ok.len
    simp only [List.mem_cons, List.not_mem_nil, or_false] at hd
    rcases hd with rfl | rfl | rfl
    · exact (nice_small (by omega) (by omega)).mono (by decide) (by decide)
    · exact (nice_small (by omega) (by omega)).mono (by decide) (by decide)
    · exact nice_tup (n := 0) (w := 403) (m := 6) (fun d hd => by
        obtain ⟨x, hx, rfl⟩ := List.mem_map.mp hd
        have := ok.g x hx
        exact nice_small (by omega) (by omega)) (by rw [List.length_map]; omega)) (Nat.le_refl _)
  exact nice_tup (n := 3) (w := 438603) (m := 3) (fun d hd => by
    simp only [List.mem_cons, List.not_mem_nil, or_false] at hd
    rcases hd with rfl | rfl | rfl
    · exact (nice_small (by omega) (by omega)).mono (by decide) (by decide)
    · exact (nice_small (by omega) (by omega)).mono (by decide) (by decide)
    · exact nice_tup (n := 2) (w := 7308) (m := 60) (fun d hd => by
        obtain ⟨x, hx, rfl⟩ := List.mem_map.mp hd
        exact hw x hx) (by rw [List.length_map]; omega)) (Nat.le_refl _)
theorem nice_stand {r : Int} {xs : List Int} (h0 : 0 ≤ r) (h1 : r < 1000) (hl : xs.length ≤ 6) (hx : ∀ x ∈ xs, 0 ≤ x ∧ x < 2 ^ 390) : Nice 2 4873 (standD r xs) := nice_tup (n := 1) (w := 2433) (m := 2) (fun d hd => by
    simp only [List.mem_cons, List.not_mem_nil, or_false] at hd
    rcases hd with rfl | rfl
    · exact (nice_small (by omega) (by omega)).mono (by decide) (by decide)
    · exact nice_tup (n := 0) (w := 403) (m := 6) (fun d hd => by
        obtain ⟨x, hx2, rfl⟩ := List.mem_map.mp hd
        obtain ⟨x0, x1⟩ := hx x hx2
        exact nice_int (log_le x0 (by omega))) (by rw [List.length_map]; omega)) (Nat.le_refl _)
theorem flat_bs : ∀ bs : List Int, (bs.map PyData.int).all flatK = true
  | [] => rfl
  | _ :: bs => flat_bs bs
theorem alk_res {B : Book} {f : Int} {ys : List Int} {P : List (List Int)} (hD : DF B f ys P []) (hl : ∀ w ∈ P, w.length ≤ P.length) (hP : P.length ≤ 16777216) {D : Nat} (e1 : LW B f ys D = []) (e2 : ∀ j, j < D → LW B f ys j ≠ []) : alk 6 (resD (agnW B f ys D) (lgW B f ys D)) = true := by
  cases ha : agnW B f ys D with
  | some p =>
    obtain ⟨i, _, w, hw, j, _, rfl⟩ := agnW_some ha
    have := hl w (hD.all.2 i w hw)
    refine alk_tup (show 3 ≤ 16777216 by decide) ?_
    have a1 : alk 5 (.list ((w.take j).map PyData.int)) = true := alk_lst (by rw [List.length_map, List.length_take]; omega) (alk_ints 3 _)
    have a2 : alk 5 (.list ((w.drop j).map PyData.int)) = true := alk_lst (by rw [List.length_map, List.length_drop]; omega) (alk_ints 3 _)
    show (true && (alk 5 (.list ((w.take j).map PyData.int)) && (alk 5 (.list ((w.drop j).map PyData.int)) && true))) = true
    rw [a1, a2]; rfl
  | none =>
    refine alk_tup (show 2 ≤ 16777216 by decide) ?_
    show (true && (alk 5 (lgD (lgW B f ys D)) && true)) = true
    obtain ⟨d1, d2, d3⟩ := lgW_told e1 e2
    by_cases c : D = 1
    · rw [d2 c]; rfl
    · obtain ⟨w, hw, e⟩ := d3 (by omega)
      have := hl w (hD.all.1 _ w hw)
      rw [e, show alk 5 (lgD (some w)) = true from alk_lst (by rw [List.length_map]; omega) (alk_ints 3 _)]
      rfl
theorem res_len {B : Book} {f : Int} {ys : List Int} {P : List (List Int)} (hD : DF B f ys P []) (hl : ∀ w ∈ P, w.length ≤ P.length) {D : Nat} (e1 : LW B f ys D = []) (e2 : ∀ j, j < D → LW B f ys j ≠ []) : (∀ p, agnW B f ys D = some p → p.2.length ≤ P.length) ∧ ∀ w, lgW B f ys D = some w → w.length ≤ P.length := by
  constructor
  · intro p ha
    obtain ⟨i, _, w, hw, j, _, rfl⟩ := agnW_some ha
    have := hl w (hD.all.2 i w hw)
    rw [List.length_drop]; omega
  · intro w hw
    obtain ⟨d1, d2, d3⟩ := lgW_told e1 e2
    by_cases c : D = 1
    · rw [d2 c] at hw; cases hw
    · obtain ⟨u, hu, e⟩ := d3 (by omega)
      rw [hw] at e
      cases e
      exact hl w (hD.all.1 _ w hu)
theorem ok_law {P : Program} {w : World} {K : PySem.W.Frag} {mg : Str → Option Value} {base : Heap} {k : Nat} (D : Dfn K mg "law" s_law ["script"]) (f__law_jar : Ok P w K mg base k "_law_jar" ["script"] (spJar K)) (f__law_slow_book : Ok P w K mg base k "_law_slow_book" ["jar", "most_rooms", "most_ways"] (spZ (ZJ K) S__law_slow_book)) (f__law_pick : Ok P w K mg base k "_law_pick" ["jar", "many"] (spZ (ZJ K) S__law_pick)) (f__law_slow_stand : Ok P w K mg base k "_law_slow_stand" ["jar", "book"] (spZ (ZJ K) S__law_slow_stand)) (f__law_tree : Ok P w K mg base k "_law_tree" ["book", "stand", "most"] (spZ (Z0 K) S__law_tree)) (f__law_tried : Ok P w K mg base k "_law_tried" ["book", "stand", "bound"] (spZ (Z0 K) S__law_tried)) (f__law_alike : Ok P w K mg base k "_law_alike" ["found", "due"] (spZ (Z0 K) (S__law_alike 6))) (f__law_tree_told : Ok P w K mg base k "_law_tree_told" ["found"] (spZ (Z0 K) S__law_tree_told)) (z_range : mg "range" = none) (z_repr : mg "repr" = none) (z_max : mg "max" = none) (z_str : mg "str" = none) (z_isinstance : mg "isinstance" = none) : Ok P w K mg base (k + 1) "law" ["script"] (spLaw K) := by
  refine D.raw c_law (fun vs H Q E h => by obtain ⟨a, ns, rfl, _⟩ := h; rfl) fun fa cdv A outer s' H vs Q E hr h => ?_
  obtain ⟨a, ns, rfl, hS, hq⟩ := h
  have hd : ∃ ts t, DSs (cxOf (L2.CX P w) P w K mg base ["script", "jar", "book", "turn", "stand", "before", "tree", "bounds", "bound", "found"] "law" (defScope s_law) fa cdv A outer s' H E).nox ((ZJ K).wish (fun _ _ _ _ => False) Un) (defBody s_law).tail ts t ∧ ∀ g, t (lawD JG) (lawE ["script", "jar", "book", "turn", "stand", "before", "tree", "bounds", "bound", "found"] 1) g := by
    refine ⟨_, _, (s_cons (s_set 2 c_law.nd (e_fnU let_n f__law_slow_book hr (a_cons (e_v 1) (a_cons (e_ixX hr.units (e_lst (a_cons e_int (a_cons e_int (a_cons e_int a_nil)))) (e_fnU let_n f__law_pick hr (a_cons (e_v 1) (a_cons e_int a_nil)))) (a_cons (e_ixX hr.units (e_lst (a_cons e_int (a_cons e_int (a_cons e_int a_nil)))) (e_fnU let_n f__law_pick hr (a_cons (e_v 1) (a_cons e_int a_nil)))) a_nil)))))
      (s_cons (s_for (i_rng1 z_range (a_cons e_int a_nil)) (g_name 3 c_law.nd) (s_cons (s_set 4 c_law.nd (e_fnU let_n f__law_slow_stand hr (a_cons (e_v 1) (a_cons (e_v 2) a_nil))))
      (s_cons (s_set 5 c_law.nd (e_callB (k_reprX hr) (a_cons (e_tup (a_cons (e_v 2) (a_cons (e_v 4) a_nil))) a_nil) z_repr rfl))
      (s_cons (s_set 6 c_law.nd (e_fn0U let_n f__law_tree hr (a_cons (e_v 2) (a_cons (e_v 4) (a_cons e_int a_nil)))))
      (s_cons (s_set 7 c_law.nd (e_lst (a_cons e_int (a_cons (e_op b_add e_int (e_fnU let_n f__law_pick hr (a_cons (e_v 1) (a_cons e_int a_nil)))) a_nil))))
      (s_cut (s_if (t_cmp c_le (e_ixX hr.units (e_v 6) e_int) e_int) (s_one (s_set 7 c_law.nd (e_op b_add (e_v 7) (e_lst (a_cons (e_ixX hr.units (e_v 6) e_int) (a_cons (e_callB k_max2 (a_cons e_int (a_cons (e_op b_sub (e_ixX hr.units (e_v 6) e_int) e_int) a_nil)) z_max rfl) (a_cons (e_ixX hr.units (e_v 6) e_int) a_nil))))))) s_nil)
      (s_cons (s_forK 6 (fun _ _ _ _ h => h) (fun _ _ _ _ h => h) (i_seqK (e_v 7)) (g_name 8 c_law.nd) (k_cons (k_of (s_set 9 c_law.nd (e_fn0U let_n f__law_tried hr (a_cons (e_v 2) (a_cons (e_v 4) (a_cons (e_v 8) a_nil))))))
      (k_cons (k_ifo 6 (fun _ _ _ _ h => h) (fun _ _ _ _ h => h) (t_not (t_val (e_fn0U let_n f__law_alike hr (a_cons (e_v 9) (a_cons (e_if (t_cmp c_le (e_ixX hr.units (e_v 6) e_int) (e_v 8)) (e_fn0U let_n f__law_tree_told hr (a_cons (e_v 6) a_nil)) e_str) a_nil))))) (s_one (s_ret e_bl)) s_nil)
      (k_one (k_of1 (s1_if (t_w (w_and (t_not (t_val (e_callB k_isi (a_cons (e_v 9) (a_cons (e_ty "str" z_str rfl) a_nil)) z_isinstance rfl))) (w_and1 (t_cmp c_isN (e_ixX hr.units (e_v 9) (e_un u_neg e_int)) e_non)))) (s1_one (s1_app (cutZ_w cutZ_J) (e_ixX hr.units (e_v 9) (e_un u_neg e_int)) e_int)) (s1s_of s_nil)))))))
      (s_one (s_if (t_cmp (c_ne hr.units) (e_callB (k_reprX hr) (a_cons (e_tup (a_cons (e_v 2) (a_cons (e_v 4) a_nil))) a_nil) z_repr rfl) (e_v 5)) (s_one (s_ret e_bl)) s_nil)))))))))
      (s_one (s_ret e_bl)))), ?_⟩
    intro g
    clear hr f__law_jar f__law_slow_book f__law_pick f__law_slow_stand f__law_tree f__law_tried f__law_alike f__law_tree_told
    walk_at "w"
    intro b b1 b2
    walk_at "w"
    refine atI_gen b1 b2 fun e he => ?_
    have he2 : ∃ mr : Int, e = .int mr ∧ 0 < mr ∧ mr ≤ 60 := by
      simp at he
      rcases he with rfl | rfl
      · exact ⟨4, rfl, by decide, by decide⟩
      · exact ⟨12, rfl, by decide, by decide⟩
    obtain ⟨mr, rfl, w1, w2⟩ := he2
    walk_at "w"
    intro c c1 c2
    walk_at "w"
    refine atI_gen c1 c2 fun e he3 => ?_
    have he4 : ∃ mw : Int, e = .int mw ∧ 0 < mw ∧ mw ≤ 60 := by
      simp at he3
      rcases he3 with rfl | rfl
      · exact ⟨6, rfl, by decide, by decide⟩
      · exact ⟨60, rfl, by decide, by decide⟩
    obtain ⟨mw, rfl, w3, w4⟩ := he4
    walk_at "w"
    refine ⟨⟨w1, by omega⟩, ⟨by omega, by omega⟩, fun B hB => ?_⟩
    have hBl : B.ways.length ≤ 60 := by have := hB.n; omega
    have hBr : 1 ≤ B.rooms ∧ B.rooms ≤ 1000 := ⟨hB.r0, by have := hB.r1; omega⟩
    have hBp : 1 ≤ B.purses ∧ B.purses ≤ 6 := ⟨by have := hB.p0; omega, by have := hB.p1; omega⟩
    have hBg : ∀ w ∈ B.ways, w.gs.length = B.purses.toNat := fun w hw => by have := (hB.w w hw).len; omega
    have hNB := nice_book hB (by omega) w4
    have hLB := noL_book B
    walk_at "w"
    refine ⟨⟨fun k ρ' g' => Hold (g' = g ∧ ∃ (s3 s4 s5 s6 s7 s8 s9 : Sl), ρ' = [.un, .rs 0, .dt B.d, s3, s4, s5, s6, s7, s8, s9]), hold ⟨rfl, _, _, _, _, _, _, _, rfl⟩, fun k d ρ' g' hk hI => ?_, fun ρ' g' hI => ?_⟩⟩
    · obtain ⟨eg, s3, s4, s5, s6, s7, s8, s9, rfl⟩ := hI.h
      subst eg
      obtain ⟨rfl, hk2⟩ := rngD_inv hk
      walk_at "w"
      refine ⟨B, rfl, hBr, ⟨hBp.1, by omega⟩, by omega, fun w hw => ⟨(hB.w w hw).a0, (hB.w w hw).a1⟩, fun r xs r1 r2 hxl hx => ?_⟩
      have hT : TB B xs := ⟨hBg, by omega, hxl, fun y hy => (hx y hy).1⟩
      have hNS := nice_stand r1 (by omega) (by omega) hx
      have hLS := noL_stand r xs
      have hNP : Nice 5 2631643 (.tuple [B.d, standD r xs]) := nice_tup (n := 4) (w := 1315818) (m := 2) (fun d hd => by
        simp only [List.mem_cons, List.not_mem_nil, or_false] at hd
        rcases hd with rfl | rfl
        · exact hNB
        · exact hNS.mono (by decide) (by decide)) (Nat.le_refl _)
      walk_at "w"
      refine shK_of (hNP.ok (by decide) (by decide)) ?_
      generalize hTx : PyData.shown _ = tx
      walk_at "w"
      refine ⟨B, rfl, r, xs, rfl, hT, by omega, by omega, by decide, fun P W hD hW hP hWl hPl => ?_⟩
      have hpos : 1 ≤ P.length + W.length := by
        have := List.length_pos_of_mem hD.root
        rw [List.length_append] at this
        omega
      generalize hTr : treeD B r P W = tree
      walk_at "w"
      intro c c1 c2
      walk_at "w"
      refine dCut_of (fun ρ' g2 => g2 = g' ∧ ∃ bs : List Int, (∀ b ∈ bs, 1 ≤ b ∧ b ≤ 120) ∧ ρ' = [.un, .rs 0, .dt B.d, .dt (.int (0 + (k : Nat))), .dt (standD r xs), .dt (.str tx), .dt tree, .ls (bs.map PyData.int), s8, s9]) (fun N hN => ?_) (fun ρ1 g1 hI => ?_)
      · subst hTr
        walk_at "w"
        refine ifb_of (fun q => ?_) (fun q => ?_)
        · have q : ((P.length : Nat) : Int) + (W.length : Nat) ≤ 120 := of_decide_eq_true q
          walk_at "w"
          refine hN _ _ ⟨rfl, [120, 1 + c, ((P.length : Nat) : Int) + (W.length : Nat), if ((P.length : Nat) : Int) + (W.length : Nat) - 1 > 1 then ((P.length : Nat) : Int) + (W.length : Nat) - 1 else 1, ((P.length : Nat) : Int) + (W.length : Nat)], fun b hb => ?_, rfl⟩
          simp only [List.mem_cons, List.not_mem_nil, or_false] at hb
          split at hb <;> omega
        · walk_at "w"
          refine hN _ _ ⟨rfl, [120, 1 + c], fun b hb => ?_, rfl⟩
          simp only [List.mem_cons, List.not_mem_nil, or_false] at hb
          omega
      · obtain ⟨rfl, bs, hbs, rfl⟩ := hI
        walk_at "w"
        have hcut : CutK [.un, .rs 0, .dt B.d, .dt (.int (0 + (k : Nat))), .dt (standD r xs), .dt (.str tx), .dt tree, .dt (.list (bs.map PyData.int)), s8, s9] [.un, .rs 0, .dt B.d, .dt (.int (0 + (k : Nat))), .dt (standD r xs), .dt (.str tx), .un, .un, .un, .un] :=
          .cons (.inl rfl) (.cons (.inr ⟨rfl, rfl⟩) (.cons (.inr ⟨rfl, hLB⟩) (.cons (.inr ⟨rfl, rfl⟩) (.cons (.inr ⟨rfl, hLS⟩) (.cons (.inr ⟨rfl, rfl⟩) (.cons (.inl rfl) (.cons (.inl rfl) (.cons (.inl rfl) (.cons (.inl rfl) .nil)))))))))
        refine ⟨flat_bs bs, tree, _, rfl, hcut, fun v => ⟨⟨fun i ρ' g2 => Hold (g2 = g1 ∧ ∃ (s8 s9 : Sl), ρ' = [.un, .rs 0, .dt B.d, .dt (.int (0 + (k : Nat))), .dt (standD r xs), .dt (.str tx), .vv v, .un, s8, s9]), hold ⟨rfl, _, _, rfl⟩, fun i d ρ' g2 hi hI => ?_, fun ρ' g2 hI => ?_⟩⟩⟩
        · obtain ⟨rfl, s8, s9, rfl⟩ := hI.h
          rw [List.getElem?_map] at hi
          obtain ⟨bd, hb, rfl⟩ := Option.map_eq_some_iff.mp hi
          obtain ⟨hb1, hb2⟩ := hbs bd (List.mem_of_getElem? hb)
          obtain ⟨n, o, ho, hn1, hn2⟩ := out_tree (f := r) hT bd hb1
          walk_at "w"
          refine ⟨B, rfl, r, xs, rfl, ⟨by omega, by omega⟩, by omega, fun x hx => by rw [hBg x hx]; omega, ⟨hb1, by omega⟩, n, o, ho, ?_⟩
          have hcE : ∀ d : PyData, CutE [.un, .rs 0, .dt B.d, .dt (.int (0 + (k : Nat))), .dt (standD r xs), .dt (.str tx), .vv v, .un, .dt (.int bd), .dt d] [.un, .rs 0, .dt B.d, .dt (.int (0 + (k : Nat))), .dt (standD r xs), .dt (.str tx), .vv v, .un, .un, .un] := fun d =>
            .cons (.inl rfl) (.cons (.inr ⟨rfl, rfl⟩) (.cons (.inr ⟨rfl, hLB⟩) (.cons (.inr ⟨rfl, rfl⟩) (.cons (.inr ⟨rfl, hLS⟩) (.cons (.inr ⟨rfl, rfl⟩) (.cons (.inr ⟨rfl, rfl⟩) (.cons (.inl rfl) (.cons (.inl rfl) (.cons (.inl rfl) .nil)))))))))
          generalize hfd : o.getD (.str "many") = fd
          walk_at "w"
          refine ⟨rfl, rfl, ?_⟩
          subst hTr
          walk_at "w"
          refine ifb_of (fun q => ?_) (fun q => ?_)
          · have q : ((P.length : Nat) : Int) + (W.length : Nat) ≤ bd := of_decide_eq_true q
            obtain rfl : W = [] := by
              rcases hW with e | e
              · exact e
              · omega
            have q : ((P.length : Nat) : Int) + ((0 : Nat) : Int) ≤ bd := q
            cases o with
            | none =>
              obtain ⟨D, hD2⟩ := hn1 rfl
              have := hD.many D
              omega
            | some d =>
              obtain ⟨D, e1, e2, e3, rfl⟩ := hn2 d rfl
              subst hfd
              have hak := alk_res hD hPl (by omega) e1 e2
              walk_at "w"
              refine ⟨B, r, xs, P, D, rfl, hD, e1, e2, by omega, hPl, ?_⟩
              cases ha : agnW B r xs D with
              | some p =>
                rw [ha] at hak
                walk_at "w"
                refine ⟨rfl, hak, ?_⟩
                walk_at "w"
                refine ⟨rfl, ?_⟩
                walk_at "w"
                refine ⟨rfl, ltK_of (by rw [List.length_map]; have := (res_len hD hPl e1 e2).1 p ha; omega) ⟨_, hcE _, ?_⟩⟩
                exact hold ⟨rfl, _, _, rfl⟩
              | none =>
                rw [ha] at hak
                cases hg : lgW B r xs D with
                | none =>
                  rw [hg] at hak
                  walk_at "w"
                  refine ⟨rfl, hak, ?_⟩
                  walk_at "w"
                  refine ⟨rfl, ?_⟩
                  walk_at "w"
                  exact hold ⟨rfl, _, _, rfl⟩
                | some w3 =>
                  rw [hg] at hak
                  walk_at "w"
                  refine ⟨rfl, hak, ?_⟩
                  walk_at "w"
                  refine ⟨rfl, ?_⟩
                  walk_at "w"
                  refine ⟨rfl, ltK_of (by rw [List.length_map]; have := (res_len hD hPl e1 e2).2 w3 hg; omega) ⟨_, hcE _, ?_⟩⟩
                  exact hold ⟨rfl, _, _, rfl⟩
          · have q : ¬ ((P.length : Nat) : Int) + (W.length : Nat) ≤ bd := of_decide_eq_false q
            cases o with
            | some d =>
              obtain ⟨D, e1, e2, e3, rfl⟩ := hn2 d rfl
              have := hD.few e1
              omega
            | none =>
              subst hfd
              walk_at "w"
              refine ⟨rfl, rfl, ?_⟩
              walk_at "w"
              refine ⟨rfl, ?_⟩
              walk_at "w"
              exact hold ⟨rfl, _, _, rfl⟩
        · obtain ⟨rfl, s8, s9, rfl⟩ := hI.h
          walk_at "w"
          refine shK_of (hNP.ok (by decide) (by decide)) ?_
          rw [hTx]
          walk_at "w"
          rw [show (!decide (tx = tx)) = false from by rw [decide_eq_true rfl]; rfl]
          exact hold ⟨rfl, _, _, _, _, _, _, _, rfl⟩
    · obtain ⟨rfl, s3, s4, s5, s6, s7, s8, s9, rfl⟩ := hI.h
      walk_at "w"
  obtain ⟨ts, t, hd, hb⟩ := hd
  exact ⟨_, pss_cons (ps_set (i := 1) c_law.nd rfl (by first | exact .inl rfl | exact .inr rfl) (pe_fn f__law_jar hr (pa_cons (pv 0) pa_nil))) hd.ps, law_simJ hd.sim hS hq (by decide) (by decide) hb⟩
theorem all_mk {l : PySem.W.OpenLaw} {w : World} {K : PySem.W.Frag} {h : Heap} {mg : Str → Option Value} {fa : Addr} (X : K.In h) (G : h.Ns mainGlobals mg) (hfa : mg "law" = some (.ref fa))
    {f1 : Addr} {od1 an1 : Option Addr} {sl1 : Array (Option Value)} {oc1 kV1 dc1 pm1 cd1 ct1 : Value}
    (a1 : PySem.W.nsIn K mainGlobals "_law_mix" = some (some (.ref f1))) (l1 : K.lookup f1 = some ⟨oc1, od1, .func (PySem.W.fnOf "_law_mix" "_law_mix" (defArgs s__law_mix) (defBody s__law_mix) (defScope s__law_mix) .none kV1 dc1 pm1 an1 cd1 ct1), sl1⟩) (c1 : PySem.W.codeIn K cd1 "_law_mix" = true) (k1 : PySem.W.keepIn K (.ref f1) = true)
    {f2 : Addr} {od2 an2 : Option Addr} {sl2 : Array (Option Value)} {oc2 kV2 dc2 pm2 cd2 ct2 : Value}
    (a2 : PySem.W.nsIn K mainGlobals "_law_jar" = some (some (.ref f2))) (l2 : K.lookup f2 = some ⟨oc2, od2, .func (PySem.W.fnOf "_law_jar" "_law_jar" (defArgs s__law_jar) (defBody s__law_jar) (defScope s__law_jar) .none kV2 dc2 pm2 an2 cd2 ct2), sl2⟩) (c2 : PySem.W.codeIn K cd2 "_law_jar" = true) (k2 : PySem.W.keepIn K (.ref f2) = true)
    {f3 : Addr} {od3 an3 : Option Addr} {sl3 : Array (Option Value)} {oc3 kV3 dc3 pm3 cd3 ct3 : Value}
    (a3 : PySem.W.nsIn K mainGlobals "_law_pick" = some (some (.ref f3))) (l3 : K.lookup f3 = some ⟨oc3, od3, .func (PySem.W.fnOf "_law_pick" "_law_pick" (defArgs s__law_pick) (defBody s__law_pick) (defScope s__law_pick) .none kV3 dc3 pm3 an3 cd3 ct3), sl3⟩) (c3 : PySem.W.codeIn K cd3 "_law_pick" = true) (k3 : PySem.W.keepIn K (.ref f3) = true)
    {f4 : Addr} {od4 an4 : Option Addr} {sl4 : Array (Option Value)} {oc4 kV4 dc4 pm4 cd4 ct4 : Value}
    (a4 : PySem.W.nsIn K mainGlobals "_law_slow_book" = some (some (.ref f4))) (l4 : K.lookup f4 = some ⟨oc4, od4, .func (PySem.W.fnOf "_law_slow_book" "_law_slow_book" (defArgs s__law_slow_book) (defBody s__law_slow_book) (defScope s__law_slow_book) .none kV4 dc4 pm4 an4 cd4 ct4), sl4⟩) (c4 : PySem.W.codeIn K cd4 "_law_slow_book" = true) (k4 : PySem.W.keepIn K (.ref f4) = true)
    {f5 : Addr} {od5 an5 : Option Addr} {sl5 : Array (Option Value)} {oc5 kV5 dc5 pm5 cd5 ct5 : Value}
    (a5 : PySem.W.nsIn K mainGlobals "_law_slow_stand" = some (some (.ref f5))) (l5 : K.lookup f5 = some ⟨oc5, od5, .func (PySem.W.fnOf "_law_slow_stand" "_law_slow_stand" (defArgs s__law_slow_stand) (defBody s__law_slow_stand) (defScope s__law_slow_stand) .none kV5 dc5 pm5 an5 cd5 ct5), sl5⟩) (c5 : PySem.W.codeIn K cd5 "_law_slow_stand" = true) (k5 : PySem.W.keepIn K (.ref f5) = true)
    {f6 : Addr} {od6 an6 : Option Addr} {sl6 : Array (Option Value)} {oc6 kV6 dc6 pm6 cd6 ct6 : Value}
    (a6 : PySem.W.nsIn K mainGlobals "_law_part_at" = some (some (.ref f6))) (l6 : K.lookup f6 = some ⟨oc6, od6, .func (PySem.W.fnOf "_law_part_at" "_law_part_at" (defArgs s__law_part_at) (defBody s__law_part_at) (defScope s__law_part_at) .none kV6 dc6 pm6 an6 cd6 ct6), sl6⟩) (c6 : PySem.W.codeIn K cd6 "_law_part_at" = true) (k6 : PySem.W.keepIn K (.ref f6) = true)
    {f7 : Addr} {od7 an7 : Option Addr} {sl7 : Array (Option Value)} {oc7 kV7 dc7 pm7 cd7 ct7 : Value}
    (a7 : PySem.W.nsIn K mainGlobals "_law_fits" = some (some (.ref f7))) (l7 : K.lookup f7 = some ⟨oc7, od7, .func (PySem.W.fnOf "_law_fits" "_law_fits" (defArgs s__law_fits) (defBody s__law_fits) (defScope s__law_fits) .none kV7 dc7 pm7 an7 cd7 ct7), sl7⟩) (c7 : PySem.W.codeIn K cd7 "_law_fits" = true) (k7 : PySem.W.keepIn K (.ref f7) = true)
    {f8 : Addr} {od8 an8 : Option Addr} {sl8 : Array (Option Value)} {oc8 kV8 dc8 pm8 cd8 ct8 : Value}
    (a8 : PySem.W.nsIn K mainGlobals "_law_after" = some (some (.ref f8))) (l8 : K.lookup f8 = some ⟨oc8, od8, .func (PySem.W.fnOf "_law_after" "_law_after" (defArgs s__law_after) (defBody s__law_after) (defScope s__law_after) .none kV8 dc8 pm8 an8 cd8 ct8), sl8⟩) (c8 : PySem.W.codeIn K cd8 "_law_after" = true) (k8 : PySem.W.keepIn K (.ref f8) = true)
    {f9 : Addr} {od9 an9 : Option Addr} {sl9 : Array (Option Value)} {oc9 kV9 dc9 pm9 cd9 ct9 : Value}
    (a9 : PySem.W.nsIn K mainGlobals "_law_tree" = some (some (.ref f9))) (l9 : K.lookup f9 = some ⟨oc9, od9, .func (PySem.W.fnOf "_law_tree" "_law_tree" (defArgs s__law_tree) (defBody s__law_tree) (defScope s__law_tree) .none kV9 dc9 pm9 an9 cd9 ct9), sl9⟩) (c9 : PySem.W.codeIn K cd9 "_law_tree" = true) (k9 : PySem.W.keepIn K (.ref f9) = true)
    {f10 : Addr} {od10 an10 : Option Addr} {sl10 : Array (Option Value)} {oc10 kV10 dc10 pm10 cd10 ct10 : Value}
    (a10 : PySem.W.nsIn K mainGlobals "_law_word" = some (some (.ref f10))) (l10 : K.lookup f10 = some ⟨oc10, od10, .func (PySem.W.fnOf "_law_word" "_law_word" (defArgs s__law_word) (defBody s__law_word) (defScope s__law_word) .none kV10 dc10 pm10 an10 cd10 ct10), sl10⟩) (c10 : PySem.W.codeIn K cd10 "_law_word" = true) (k10 : PySem.W.keepIn K (.ref f10) = true)
    {f11 : Addr} {od11 an11 : Option Addr} {sl11 : Array (Option Value)} {oc11 kV11 dc11 pm11 cd11 ct11 : Value}
    (a11 : PySem.W.nsIn K mainGlobals "added" = some (some (.ref f11))) (l11 : K.lookup f11 = some ⟨oc11, od11, .func (PySem.W.fnOf "added" "added" (defArgs s_added) (defBody s_added) (defScope s_added) .none kV11 dc11 pm11 an11 cd11 ct11), sl11⟩) (c11 : PySem.W.codeIn K cd11 "added" = true) (k11 : PySem.W.keepIn K (.ref f11) = true)
    {f12 : Addr} {od12 an12 : Option Addr} {sl12 : Array (Option Value)} {oc12 kV12 dc12 pm12 cd12 ct12 : Value}
    (a12 : PySem.W.nsIn K mainGlobals "fits" = some (some (.ref f12))) (l12 : K.lookup f12 = some ⟨oc12, od12, .func (PySem.W.fnOf "fits" "fits" (defArgs s_fits) (defBody s_fits) (defScope s_fits) .none kV12 dc12 pm12 an12 cd12 ct12), sl12⟩) (c12 : PySem.W.codeIn K cd12 "fits" = true) (k12 : PySem.W.keepIn K (.ref f12) = true)
    {f13 : Addr} {od13 an13 : Option Addr} {sl13 : Array (Option Value)} {oc13 kV13 dc13 pm13 cd13 ct13 : Value}
    (a13 : PySem.W.nsIn K mainGlobals "can_do" = some (some (.ref f13))) (l13 : K.lookup f13 = some ⟨oc13, od13, .func (PySem.W.fnOf "can_do" "can_do" (defArgs s_can_do) (defBody s_can_do) (defScope s_can_do) .none kV13 dc13 pm13 an13 cd13 ct13), sl13⟩) (c13 : PySem.W.codeIn K cd13 "can_do" = true) (k13 : PySem.W.keepIn K (.ref f13) = true)
    {f14 : Addr} {od14 an14 : Option Addr} {sl14 : Array (Option Value)} {oc14 kV14 dc14 pm14 cd14 ct14 : Value}
    (a14 : PySem.W.nsIn K mainGlobals "is_enough" = some (some (.ref f14))) (l14 : K.lookup f14 = some ⟨oc14, od14, .func (PySem.W.fnOf "is_enough" "is_enough" (defArgs s_is_enough) (defBody s_is_enough) (defScope s_is_enough) .none kV14 dc14 pm14 an14 cd14 ct14), sl14⟩) (c14 : PySem.W.codeIn K cd14 "is_enough" = true) (k14 : PySem.W.keepIn K (.ref f14) = true)
    {f15 : Addr} {od15 an15 : Option Addr} {sl15 : Array (Option Value)} {oc15 kV15 dc15 pm15 cd15 ct15 : Value}
    (a15 : PySem.W.nsIn K mainGlobals "again_at" = some (some (.ref f15))) (l15 : K.lookup f15 = some ⟨oc15, od15, .func (PySem.W.fnOf "again_at" "again_at" (defArgs s_again_at) (defBody s_again_at) (defScope s_again_at) .none kV15 dc15 pm15 an15 cd15 ct15), sl15⟩) (c15 : PySem.W.codeIn K cd15 "again_at" = true) (k15 : PySem.W.keepIn K (.ref f15) = true)
    {f16 : Addr} {od16 an16 : Option Addr} {sl16 : Array (Option Value)} {oc16 kV16 dc16 pm16 cd16 ct16 : Value}
    (a16 : PySem.W.nsIn K mainGlobals "behind" = some (some (.ref f16))) (l16 : K.lookup f16 = some ⟨oc16, od16, .func (PySem.W.fnOf "behind" "behind" (defArgs s_behind) (defBody s_behind) (defScope s_behind) .none kV16 dc16 pm16 an16 cd16 ct16), sl16⟩) (c16 : PySem.W.codeIn K cd16 "behind" = true) (k16 : PySem.W.keepIn K (.ref f16) = true)
    {dT17 : Addr}
    {f17 : Addr} {od17 an17 : Option Addr} {sl17 : Array (Option Value)} {oc17 kV17 dc17 pm17 cd17 ct17 : Value}
    (a17 : PySem.W.nsIn K mainGlobals "from_stand" = some (some (.ref f17))) (l17 : K.lookup f17 = some ⟨oc17, od17, .func (PySem.W.fnOf "from_stand" "from_stand" (defArgs s_from_stand) (defBody s_from_stand) (defScope s_from_stand) (.ref dT17) kV17 dc17 pm17 an17 cd17 ct17), sl17⟩) (c17 : PySem.W.codeIn K cd17 "from_stand" = true) (k17 : PySem.W.keepIn K (.ref f17) = true)
    {dC17 : Value} {dO17 : Option Addr} {dK17 : Tok} {dN17 : Nat} {dS17 : Array (Option Value)} (d17 : K.lookup dT17 = some ⟨dC17, dO17, .seq #[.int 2000 dK17] dN17, dS17⟩)
    {f18 : Addr} {od18 an18 : Option Addr} {sl18 : Array (Option Value)} {oc18 kV18 dc18 pm18 cd18 ct18 : Value}
    (a18 : PySem.W.nsIn K mainGlobals "_law_kinds" = some (some (.ref f18))) (l18 : K.lookup f18 = some ⟨oc18, od18, .func (PySem.W.fnOf "_law_kinds" "_law_kinds" (defArgs s__law_kinds) (defBody s__law_kinds) (defScope s__law_kinds) .none kV18 dc18 pm18 an18 cd18 ct18), sl18⟩) (c18 : PySem.W.codeIn K cd18 "_law_kinds" = true) (k18 : PySem.W.keepIn K (.ref f18) = true)
    {f19 : Addr} {od19 an19 : Option Addr} {sl19 : Array (Option Value)} {oc19 kV19 dc19 pm19 cd19 ct19 : Value}
    (a19 : PySem.W.nsIn K mainGlobals "_law_tried" = some (some (.ref f19))) (l19 : K.lookup f19 = some ⟨oc19, od19, .func (PySem.W.fnOf "_law_tried" "_law_tried" (defArgs s__law_tried) (defBody s__law_tried) (defScope s__law_tried) .none kV19 dc19 pm19 an19 cd19 ct19), sl19⟩) (c19 : PySem.W.codeIn K cd19 "_law_tried" = true) (k19 : PySem.W.keepIn K (.ref f19) = true)
    {f20 : Addr} {od20 an20 : Option Addr} {sl20 : Array (Option Value)} {oc20 kV20 dc20 pm20 cd20 ct20 : Value}
    (a20 : PySem.W.nsIn K mainGlobals "_law_alike" = some (some (.ref f20))) (l20 : K.lookup f20 = some ⟨oc20, od20, .func (PySem.W.fnOf "_law_alike" "_law_alike" (defArgs s__law_alike) (defBody s__law_alike) (defScope s__law_alike) .none kV20 dc20 pm20 an20 cd20 ct20), sl20⟩) (c20 : PySem.W.codeIn K cd20 "_law_alike" = true) (k20 : PySem.W.keepIn K (.ref f20) = true)
    {f21 : Addr} {od21 an21 : Option Addr} {sl21 : Array (Option Value)} {oc21 kV21 dc21 pm21 cd21 ct21 : Value}
    (a21 : PySem.W.nsIn K mainGlobals "_law_tree_told" = some (some (.ref f21))) (l21 : K.lookup f21 = some ⟨oc21, od21, .func (PySem.W.fnOf "_law_tree_told" "_law_tree_told" (defArgs s__law_tree_told) (defBody s__law_tree_told) (defScope s__law_tree_told) .none kV21 dc21 pm21 an21 cd21 ct21), sl21⟩) (c21 : PySem.W.codeIn K cd21 "_law_tree_told" = true) (k21 : PySem.W.keepIn K (.ref f21) = true)
    {f22 : Addr} {od22 an22 : Option Addr} {sl22 : Array (Option Value)} {oc22 kV22 dc22 pm22 cd22 ct22 : Value}
    (a22 : PySem.W.nsIn K mainGlobals "law" = some (some (.ref f22))) (l22 : K.lookup f22 = some ⟨oc22, od22, .func (PySem.W.fnOf "law" "law" (defArgs s_law) (defBody s_law) (defScope s_law) .none kV22 dc22 pm22 an22 cd22 ct22), sl22⟩) (c22 : PySem.W.codeIn K cd22 "law" = true) (k22 : PySem.W.keepIn K (.ref f22) = true)
    (z1 : PySem.W.nsIn K mainGlobals "list" = some none)
    (z2 : PySem.W.nsIn K mainGlobals "range" = some none)
    (z3 : PySem.W.nsIn K mainGlobals "tuple" = some none)
    (z4 : PySem.W.nsIn K mainGlobals "len" = some none)
    (z5 : PySem.W.nsIn K mainGlobals "zip" = some none)
    (z6 : PySem.W.nsIn K mainGlobals "min" = some none)
    (z7 : PySem.W.nsIn K mainGlobals "enumerate" = some none)
    (z8 : PySem.W.nsIn K mainGlobals "all" = some none)
    (z9 : PySem.W.nsIn K mainGlobals "reversed" = some none)
    (z10 : PySem.W.nsIn K mainGlobals "isinstance" = some none)
    (z11 : PySem.W.nsIn K mainGlobals "ValueError" = some none)
    (z12 : PySem.W.nsIn K mainGlobals "bool" = some none)
    (z13 : PySem.W.nsIn K mainGlobals "int" = some none)
    (z14 : PySem.W.nsIn K mainGlobals "str" = some none)
    (z15 : PySem.W.nsIn K mainGlobals "max" = some none)
    (z16 : PySem.W.nsIn K mainGlobals "repr" = some none)
    {C_NoRound : Addr} (xa_NoRound : PySem.W.nsIn K mainGlobals "NoRound" = some (some (.ref C_NoRound)))
    {C_NoRing : Addr} (xa_NoRing : PySem.W.nsIn K mainGlobals "NoRing" = some (some (.ref C_NoRing)))
    {C_NoPurse : Addr} (xa_NoPurse : PySem.W.nsIn K mainGlobals "NoPurse" = some (some (.ref C_NoPurse)))
    {C_NoEnd : Addr} (xa_NoEnd : PySem.W.nsIn K mainGlobals "NoEnd" = some (some (.ref C_NoEnd)))
    {C_NoStand : Addr} (xa_NoStand : PySem.W.nsIn K mainGlobals "NoStand" = some (some (.ref C_NoStand)))
    {C_NoLine : Addr} (xa_NoLine : PySem.W.nsIn K mainGlobals "NoLine" = some (some (.ref C_NoLine)))
    {C_NoRow : Addr} (xa_NoRow : PySem.W.nsIn K mainGlobals "NoRow" = some (some (.ref C_NoRow)))
    {C_NoWay : Addr} (xa_NoWay : PySem.W.nsIn K mainGlobals "NoWay" = some (some (.ref C_NoWay))) (xb_NoWay : PySem.W.excIn K C_NoWay [.type "ValueError", .type "Exception", .type "BaseException", .type "object"] "ValueError.__new__" = true) (xc_NoWay : PySem.W.keepIn K (.ref C_NoWay) = true)
    (xd_NoWay : PySem.W.subIn K (.ref C_NoWay) (.type "BaseException") = some true) (xe_NoWay : PySem.W.typeIn K (.ref C_NoWay) = some (.type "type")) (xf_NoWay : PySem.W.hasDictIn K C_NoWay = true)
    {C_TooMany : Addr} (xa_TooMany : PySem.W.nsIn K mainGlobals "TooMany" = some (some (.ref C_TooMany))) (xb_TooMany : PySem.W.excIn K C_TooMany [.type "ValueError", .type "Exception", .type "BaseException", .type "object"] "ValueError.__new__" = true) (xc_TooMany : PySem.W.keepIn K (.ref C_TooMany) = true)
    (xd_TooMany : PySem.W.subIn K (.ref C_TooMany) (.type "BaseException") = some true) (xe_TooMany : PySem.W.typeIn K (.ref C_TooMany) = some (.type "type")) (xf_TooMany : PySem.W.hasDictIn K C_TooMany = true)
    {C_FallError : Addr} (xa_FallError : PySem.W.nsIn K mainGlobals "FallError" = some (some (.ref C_FallError))) (xb_FallError : PySem.W.excIn K C_FallError [.type "ValueError", .type "Exception", .type "BaseException", .type "object"] "ValueError.__new__" = true) (xc_FallError : PySem.W.keepIn K (.ref C_FallError) = true)
    (xd_FallError : PySem.W.subIn K (.ref C_FallError) (.type "BaseException") = some true) (xe_FallError : PySem.W.typeIn K (.ref C_FallError) = some (.type "type")) (xf_FallError : PySem.W.hasDictIn K C_FallError = true)
    (us_TooMany_FallError : PySem.W.subIn K (.ref C_TooMany) (.ref C_FallError) = some true)
    (us_NoWay_FallError : PySem.W.subIn K (.ref C_NoWay) (.ref C_FallError) = some true)
    (kb : PySem.W.specialIn K (.builtin "object.__class__") "__get__" = some (some (.builtin "getset_descriptor.__get__"))) (kc : PySem.W.takesIn K (.builtin "object.__class__") = some true)
    (ka_TooMany : PySem.W.findIn K (.ref C_TooMany) "__getattribute__" = some (some (.builtin "BaseException.__getattribute__"))) (kd_TooMany : PySem.W.findIn K (.ref C_TooMany) "__getattr__" = some none) (ke_TooMany : PySem.W.findIn K (.ref C_TooMany) "__class__" = some (some (.builtin "object.__class__"))) (kf_TooMany : PySem.W.mroIn K C_TooMany (.type "object") = some true) (kg_TooMany : PySem.W.kitOne K (.ref C_TooMany) (.type "ValueError") = some true)
    (kh_TooMany_NoWay : PySem.W.kitOne K (.ref C_TooMany) (.ref C_NoWay) = some false)
    (kh_TooMany_NoRound : PySem.W.kitOne K (.ref C_TooMany) (.ref C_NoRound) = some false)
    (kh_TooMany_NoRing : PySem.W.kitOne K (.ref C_TooMany) (.ref C_NoRing) = some false)
    (kh_TooMany_NoPurse : PySem.W.kitOne K (.ref C_TooMany) (.ref C_NoPurse) = some false)
    (kh_TooMany_NoEnd : PySem.W.kitOne K (.ref C_TooMany) (.ref C_NoEnd) = some false)
    (kh_TooMany_NoStand : PySem.W.kitOne K (.ref C_TooMany) (.ref C_NoStand) = some false)
    (kh_TooMany_TooMany : PySem.W.kitOne K (.ref C_TooMany) (.ref C_TooMany) = some true)
    (kh_TooMany_NoLine : PySem.W.kitOne K (.ref C_TooMany) (.ref C_NoLine) = some false)
    (kh_TooMany_NoRow : PySem.W.kitOne K (.ref C_TooMany) (.ref C_NoRow) = some false)
    (ka_NoWay : PySem.W.findIn K (.ref C_NoWay) "__getattribute__" = some (some (.builtin "BaseException.__getattribute__"))) (kd_NoWay : PySem.W.findIn K (.ref C_NoWay) "__getattr__" = some none) (ke_NoWay : PySem.W.findIn K (.ref C_NoWay) "__class__" = some (some (.builtin "object.__class__"))) (kf_NoWay : PySem.W.mroIn K C_NoWay (.type "object") = some true) (kg_NoWay : PySem.W.kitOne K (.ref C_NoWay) (.type "ValueError") = some true)
    (kh_NoWay_NoWay : PySem.W.kitOne K (.ref C_NoWay) (.ref C_NoWay) = some true)
    (kh_NoWay_NoRound : PySem.W.kitOne K (.ref C_NoWay) (.ref C_NoRound) = some false)
    (kh_NoWay_NoRing : PySem.W.kitOne K (.ref C_NoWay) (.ref C_NoRing) = some false)
    (kh_NoWay_NoPurse : PySem.W.kitOne K (.ref C_NoWay) (.ref C_NoPurse) = some false)
    (kh_NoWay_NoEnd : PySem.W.kitOne K (.ref C_NoWay) (.ref C_NoEnd) = some false)
    (kh_NoWay_NoStand : PySem.W.kitOne K (.ref C_NoWay) (.ref C_NoStand) = some false)
    (kh_NoWay_TooMany : PySem.W.kitOne K (.ref C_NoWay) (.ref C_TooMany) = some false)
    (kh_NoWay_NoLine : PySem.W.kitOne K (.ref C_NoWay) (.ref C_NoLine) = some false)
    (kh_NoWay_NoRow : PySem.W.kitOne K (.ref C_NoWay) (.ref C_NoRow) = some false)
    : ∃ fd : FuncData, (∀ (s : Shared) (v : Value), BindsTo s fd ⟨[v], []⟩ [("script", v)]) ∧ ∀ base : Heap, K.In base → base.Ns mainGlobals mg → FnG l.prog w K mg base (L2.CX l.prog w) 7 fa fd ["script"] (spLaw K) := by
  have D1 : Dfn K mg "_law_mix" s__law_mix ["one"] := ⟨f1, _, fun_mk (st := s__law_mix) l1 c1 k1, PySem.W.mg_of X G a1, (fun_mk (st := s__law_mix) l1 c1 k1).binds fun _ _ _ _ _ _ us hl => match us, hl with | [_], _ => rfl⟩
  have D2 : Dfn K mg "_law_jar" s__law_jar ["script"] := ⟨f2, _, fun_mk (st := s__law_jar) l2 c2 k2, PySem.W.mg_of X G a2, (fun_mk (st := s__law_jar) l2 c2 k2).binds fun _ _ _ _ _ _ us hl => match us, hl with | [_], _ => rfl⟩
  have D3 : Dfn K mg "_law_pick" s__law_pick ["jar", "many"] := ⟨f3, _, fun_mk (st := s__law_pick) l3 c3 k3, PySem.W.mg_of X G a3, (fun_mk (st := s__law_pick) l3 c3 k3).binds fun _ _ _ _ _ _ us hl => match us, hl with | [_, _], _ => rfl⟩
  have D4 : Dfn K mg "_law_slow_book" s__law_slow_book ["jar", "most_rooms", "most_ways"] := ⟨f4, _, fun_mk (st := s__law_slow_book) l4 c4 k4, PySem.W.mg_of X G a4, (fun_mk (st := s__law_slow_book) l4 c4 k4).binds fun _ _ _ _ _ _ us hl => match us, hl with | [_, _, _], _ => rfl⟩
  have D5 : Dfn K mg "_law_slow_stand" s__law_slow_stand ["jar", "book"] := ⟨f5, _, fun_mk (st := s__law_slow_stand) l5 c5 k5, PySem.W.mg_of X G a5, (fun_mk (st := s__law_slow_stand) l5 c5 k5).binds fun _ _ _ _ _ _ us hl => match us, hl with | [_, _], _ => rfl⟩
  have D6 : Dfn K mg "_law_part_at" s__law_part_at ["stands"] := ⟨f6, _, fun_mk (st := s__law_part_at) l6 c6 k6, PySem.W.mg_of X G a6, (fun_mk (st := s__law_part_at) l6 c6 k6).binds fun _ _ _ _ _ _ us hl => match us, hl with | [_], _ => rfl⟩
  have D7 : Dfn K mg "_law_fits" s__law_fits ["book", "stand", "k"] := ⟨f7, _, fun_mk (st := s__law_fits) l7 c7 k7, PySem.W.mg_of X G a7, (fun_mk (st := s__law_fits) l7 c7 k7).binds fun _ _ _ _ _ _ us hl => match us, hl with | [_, _, _], _ => rfl⟩
  have D8 : Dfn K mg "_law_after" s__law_after ["book", "stand", "k"] := ⟨f8, _, fun_mk (st := s__law_after) l8 c8 k8, PySem.W.mg_of X G a8, (fun_mk (st := s__law_after) l8 c8 k8).binds fun _ _ _ _ _ _ us hl => match us, hl with | [_, _, _], _ => rfl⟩
  have D9 : Dfn K mg "_law_tree" s__law_tree ["book", "stand", "most"] := ⟨f9, _, fun_mk (st := s__law_tree) l9 c9 k9, PySem.W.mg_of X G a9, (fun_mk (st := s__law_tree) l9 c9 k9).binds fun _ _ _ _ _ _ us hl => match us, hl with | [_, _, _], _ => rfl⟩
  have D10 : Dfn K mg "_law_word" s__law_word ["flags"] := ⟨f10, _, fun_mk (st := s__law_word) l10 c10 k10, PySem.W.mg_of X G a10, (fun_mk (st := s__law_word) l10 c10 k10).binds fun _ _ _ _ _ _ us hl => match us, hl with | [_], _ => rfl⟩
  have D11 : Dfn K mg "added" s_added ["one", "other"] := ⟨f11, _, fun_mk (st := s_added) l11 c11 k11, PySem.W.mg_of X G a11, (fun_mk (st := s_added) l11 c11 k11).binds fun _ _ _ _ _ _ us hl => match us, hl with | [_, _], _ => rfl⟩
  have D12 : Dfn K mg "fits" s_fits ["way", "stand"] := ⟨f12, _, fun_mk (st := s_fits) l12 c12 k12, PySem.W.mg_of X G a12, (fun_mk (st := s_fits) l12 c12 k12).binds fun _ _ _ _ _ _ us hl => match us, hl with | [_, _], _ => rfl⟩
  have D13 : Dfn K mg "can_do" s_can_do ["book", "stand"] := ⟨f13, _, fun_mk (st := s_can_do) l13 c13 k13, PySem.W.mg_of X G a13, (fun_mk (st := s_can_do) l13 c13 k13).binds fun _ _ _ _ _ _ us hl => match us, hl with | [_, _], _ => rfl⟩
  have D14 : Dfn K mg "is_enough" s_is_enough ["numbers", "wanted"] := ⟨f14, _, fun_mk (st := s_is_enough) l14 c14 k14, PySem.W.mg_of X G a14, (fun_mk (st := s_is_enough) l14 c14 k14).binds fun _ _ _ _ _ _ us hl => match us, hl with | [_, _], _ => rfl⟩
  have D15 : Dfn K mg "again_at" s_again_at ["stands"] := ⟨f15, _, fun_mk (st := s_again_at) l15 c15 k15, PySem.W.mg_of X G a15, (fun_mk (st := s_again_at) l15 c15 k15).binds fun _ _ _ _ _ _ us hl => match us, hl with | [_], _ => rfl⟩
  have D16 : Dfn K mg "behind" s_behind ["book", "stand", "k"] := ⟨f16, _, fun_mk (st := s_behind) l16 c16 k16, PySem.W.mg_of X G a16, (fun_mk (st := s_behind) l16 c16 k16).binds fun _ _ _ _ _ _ us hl => match us, hl with | [_, _, _], _ => rfl⟩
  have D17 : DfnE K mg "from_stand" s_from_stand ["book", "stand", "limit"] "limit" [.int 2000] := dfnE_int 2 rfl (PySem.W.mg_of X G a17) l17 d17 c17 k17 (fun _ _ _ _ _ _ _ us its hl hm => match us, its, hl, hm with | [_, _], [_], _, _ => ⟨_, rfl, rfl⟩) (fun _ _ _ _ _ _ _ us its hl hm => match us, its, hl, hm with | [_, _, _], [_], _, _ => ⟨_, rfl, rfl⟩) (fun _ _ _ _ _ _ _ us its _ hl hm => match us, its, hl, hm with | [_, _], [_], _, _ => ⟨_, rfl, rfl⟩)
  have D18 : Dfn K mg "_law_kinds" s__law_kinds ["e"] := ⟨f18, _, fun_mk (st := s__law_kinds) l18 c18 k18, PySem.W.mg_of X G a18, (fun_mk (st := s__law_kinds) l18 c18 k18).binds fun _ _ _ _ _ _ us hl => match us, hl with | [_], _ => rfl⟩
  have D19 : Dfn K mg "_law_tried" s__law_tried ["book", "stand", "bound"] := ⟨f19, _, fun_mk (st := s__law_tried) l19 c19 k19, PySem.W.mg_of X G a19, (fun_mk (st := s__law_tried) l19 c19 k19).binds fun _ _ _ _ _ _ us hl => match us, hl with | [_, _, _], _ => rfl⟩
  have D20 : Dfn K mg "_law_alike" s__law_alike ["found", "due"] := ⟨f20, _, fun_mk (st := s__law_alike) l20 c20 k20, PySem.W.mg_of X G a20, (fun_mk (st := s__law_alike) l20 c20 k20).binds fun _ _ _ _ _ _ us hl => match us, hl with | [_, _], _ => rfl⟩
  have D21 : Dfn K mg "_law_tree_told" s__law_tree_told ["found"] := ⟨f21, _, fun_mk (st := s__law_tree_told) l21 c21 k21, PySem.W.mg_of X G a21, (fun_mk (st := s__law_tree_told) l21 c21 k21).binds fun _ _ _ _ _ _ us hl => match us, hl with | [_], _ => rfl⟩
  have D22 : Dfn K mg "law" s_law ["script"] := ⟨f22, _, fun_mk (st := s_law) l22 c22 k22, PySem.W.mg_of X G a22, (fun_mk (st := s_law) l22 c22 k22).binds fun _ _ _ _ _ _ us hl => match us, hl with | [_], _ => rfl⟩
  have y_list := PySem.W.mg_none_of X G z1
  have y_range := PySem.W.mg_none_of X G z2
  have y_tuple := PySem.W.mg_none_of X G z3
  have y_len := PySem.W.mg_none_of X G z4
  have y_zip := PySem.W.mg_none_of X G z5
  have y_min := PySem.W.mg_none_of X G z6
  have y_enumerate := PySem.W.mg_none_of X G z7
  have y_all := PySem.W.mg_none_of X G z8
  have y_reversed := PySem.W.mg_none_of X G z9
  have y_isinstance := PySem.W.mg_none_of X G z10
  have y_ValueError := PySem.W.mg_none_of X G z11
  have y_bool := PySem.W.mg_none_of X G z12
  have y_int := PySem.W.mg_none_of X G z13
  have y_str := PySem.W.mg_none_of X G z14
  have y_max := PySem.W.mg_none_of X G z15
  have y_repr := PySem.W.mg_none_of X G z16
  have m_NoRound := PySem.W.mg_of X G xa_NoRound
  have m_NoRing := PySem.W.mg_of X G xa_NoRing
  have m_NoPurse := PySem.W.mg_of X G xa_NoPurse
  have m_NoEnd := PySem.W.mg_of X G xa_NoEnd
  have m_NoStand := PySem.W.mg_of X G xa_NoStand
  have m_NoLine := PySem.W.mg_of X G xa_NoLine
  have m_NoRow := PySem.W.mg_of X G xa_NoRow
  have m_NoWay := PySem.W.mg_of X G xa_NoWay
  have q_NoWay : ExX K mg "NoWay" := ⟨⟨C_NoWay, m_NoWay, xb_NoWay, xc_NoWay, xd_NoWay, xe_NoWay, xf_NoWay⟩⟩
  have m_TooMany := PySem.W.mg_of X G xa_TooMany
  have q_TooMany : ExX K mg "TooMany" := ⟨⟨C_TooMany, m_TooMany, xb_TooMany, xc_TooMany, xd_TooMany, xe_TooMany, xf_TooMany⟩⟩
  have m_FallError := PySem.W.mg_of X G xa_FallError
  have q_FallError : ExX K mg "FallError" := ⟨⟨C_FallError, m_FallError, xb_FallError, xc_FallError, xd_FallError, xe_FallError, xf_FallError⟩⟩
  have r_TooMany_FallError : SubX K mg "TooMany" "FallError" true := by unfold SubX; rw [cv_of m_TooMany, cv_of m_FallError]; exact us_TooMany_FallError
  have r_NoWay_FallError : SubX K mg "NoWay" "FallError" true := by unfold SubX; rw [cv_of m_NoWay, cv_of m_FallError]; exact us_NoWay_FallError
  have kn : ∀ x ∈ kindNs, ∃ C, mg x = some (.ref C) := fun x hx => by
    simp only [kindNs, List.mem_cons, List.not_mem_nil, or_false] at hx
    rcases hx with rfl | rfl | rfl | rfl | rfl | rfl | rfl | rfl | rfl
    · exact ⟨_, m_NoWay⟩
    · exact ⟨_, m_NoRound⟩
    · exact ⟨_, m_NoRing⟩
    · exact ⟨_, m_NoPurse⟩
    · exact ⟨_, m_NoEnd⟩
    · exact ⟨_, m_NoStand⟩
    · exact ⟨_, m_TooMany⟩
    · exact ⟨_, m_NoLine⟩
    · exact ⟨_, m_NoRow⟩
  have w_TooMany : KX K mg "TooMany" := ⟨C_TooMany, cv_of m_TooMany, ⟨ka_TooMany, kd_TooMany, xd_TooMany, xf_TooMany, ke_TooMany, kb, kc, kf_TooMany⟩, ⟨fun y hy => by
    simp only [kindNs, List.mem_cons, List.not_mem_nil, or_false] at hy
    rcases hy with rfl | rfl | rfl | rfl | rfl | rfl | rfl | rfl | rfl
    · rw [cv_of m_NoWay]; exact kh_TooMany_NoWay
    · rw [cv_of m_NoRound]; exact kh_TooMany_NoRound
    · rw [cv_of m_NoRing]; exact kh_TooMany_NoRing
    · rw [cv_of m_NoPurse]; exact kh_TooMany_NoPurse
    · rw [cv_of m_NoEnd]; exact kh_TooMany_NoEnd
    · rw [cv_of m_NoStand]; exact kh_TooMany_NoStand
    · rw [cv_of m_TooMany]; exact kh_TooMany_TooMany
    · rw [cv_of m_NoLine]; exact kh_TooMany_NoLine
    · rw [cv_of m_NoRow]; exact kh_TooMany_NoRow, kg_TooMany⟩⟩
  have w_NoWay : KX K mg "NoWay" := ⟨C_NoWay, cv_of m_NoWay, ⟨ka_NoWay, kd_NoWay, xd_NoWay, xf_NoWay, ke_NoWay, kb, kc, kf_NoWay⟩, ⟨fun y hy => by
    simp only [kindNs, List.mem_cons, List.not_mem_nil, or_false] at hy
    rcases hy with rfl | rfl | rfl | rfl | rfl | rfl | rfl | rfl | rfl
    · rw [cv_of m_NoWay]; exact kh_NoWay_NoWay
    · rw [cv_of m_NoRound]; exact kh_NoWay_NoRound
    · rw [cv_of m_NoRing]; exact kh_NoWay_NoRing
    · rw [cv_of m_NoPurse]; exact kh_NoWay_NoPurse
    · rw [cv_of m_NoEnd]; exact kh_NoWay_NoEnd
    · rw [cv_of m_NoStand]; exact kh_NoWay_NoStand
    · rw [cv_of m_TooMany]; exact kh_NoWay_TooMany
    · rw [cv_of m_NoLine]; exact kh_NoWay_NoLine
    · rw [cv_of m_NoRow]; exact kh_NoWay_NoRow, kg_NoWay⟩⟩
  refine ⟨PySem.W.fnOf "law" "law" (defArgs s_law) (defBody s_law) (defScope s_law) .none kV22 dc22 pm22 an22 cd22 ct22, fun s v => .of_eq rfl, fun base _ _ => ?_⟩
  have o1 : Ok l.prog w K mg base 1 "_law_mix" ["one"] (spZ (Z0 K) S__law_mix) := ok__law_mix (D := D1)
  have o2 : Ok l.prog w K mg base 2 "_law_jar" ["script"] (spJar K) := ok__law_jar D2 (o1.up (by decide)) y_list
  have o3 : Ok l.prog w K mg base 2 "_law_pick" ["jar", "many"] (spZ (ZJ K) S__law_pick) := ok__law_pick D3 (o1.up (by decide))
  have o4 : Ok l.prog w K mg base 3 "_law_slow_book" ["jar", "most_rooms", "most_ways"] (spZ (ZJ K) S__law_slow_book) := ok__law_slow_book (D := D4) (f__law_pick := o3.up (by decide)) (z_range := y_range) (z_tuple := y_tuple)
  have o5 : Ok l.prog w K mg base 3 "_law_slow_stand" ["jar", "book"] (spZ (ZJ K) S__law_slow_stand) := ok__law_slow_stand (D := D5) (f__law_pick := o3.up (by decide)) (z_len := y_len) (z_range := y_range) (z_tuple := y_tuple)
  have o6 : Ok l.prog w K mg base 1 "_law_part_at" ["stands"] (spZ (Z0 K) S__law_part_at) := ok__law_part_at (D := D6) (z_range := y_range) (z_len := y_len) (z_zip := y_zip)
  have o7 : Ok l.prog w K mg base 1 "_law_fits" ["book", "stand", "k"] (spZ (Z0 K) S__law_fits) := ok__law_fits (D := D7) (z_zip := y_zip)
  have o8 : Ok l.prog w K mg base 1 "_law_after" ["book", "stand", "k"] (spZ (Z0 K) S__law_after) := ok__law_after (D := D8) (z_zip := y_zip) (z_tuple := y_tuple)
  have o9 : Ok l.prog w K mg base 2 "_law_tree" ["book", "stand", "most"] (spZ (Z0 K) S__law_tree) := ok__law_tree (D := D9) (f__law_part_at := o6.up (by decide)) (f__law_fits := o7.up (by decide)) (f__law_after := o8.up (by decide)) (z_len := y_len) (z_range := y_range)
  have o10 : Ok l.prog w K mg base 1 "_law_word" ["flags"] (spZ (Z0 K) S__law_word) := ok__law_word (D := D10) (z_len := y_len)
  have o11 : Ok l.prog w K mg base 1 "added" ["one", "other"] (spZ (Z0 K) S_added) := ok_added (D := D11) (z_zip := y_zip) (z_tuple := y_tuple)
  have o12 : Ok l.prog w K mg base 2 "fits" ["way", "stand"] (spZ (Z0 K) S_fits) := ok_fits (D := D12) (f_added := o11.up (by decide)) (z_min := y_min)
  have o13 : Ok l.prog w K mg base 3 "can_do" ["book", "stand"] (spZ (Z0 K) S_can_do) := ok_can_do (D := D13) (f_fits := o12.up (by decide)) (z_enumerate := y_enumerate)
  have o14 : Ok l.prog w K mg base 1 "is_enough" ["numbers", "wanted"] (spZ (Z0 K) S_is_enough) := ok_is_enough (D := D14) (z_zip := y_zip) (z_all := y_all)
  have o15 : Ok l.prog w K mg base 2 "again_at" ["stands"] (spZ (Z0 K) S_again_at) := ok_again_at (D := D15) (f_is_enough := o14.up (by decide)) (z_reversed := y_reversed) (z_range := y_range) (z_len := y_len)
  have o16 : Ok l.prog w K mg base 3 "behind" ["book", "stand", "k"] (spZ (Z0 K) (S_behind mg)) := ok_behind (D := D16) (f_fits := o12.up (by decide)) (f_added := o11.up (by decide)) (z_len := y_len) (x_NoWay := q_NoWay)
  have o17 : OkE l.prog w K mg base 4 "from_stand" ["book", "stand", "limit"] "limit" [.int 2000] (spZ (Z0 K) (S_from_stand mg)) := ok_from_stand (D := D17) (f_can_do := o13.up (by decide)) (f_behind := o16.up (by decide)) (f_again_at := o15.up (by decide)) (x_TooMany := q_TooMany)
  have o18 : OkK l.prog w K mg base 1 "_law_kinds" ["e"] (spKinds K mg) := ok__law_kinds D18 y_isinstance y_ValueError kn
  have o19 : Ok l.prog w K mg base 5 "_law_tried" ["book", "stand", "bound"] (spZ (Z0 K) S__law_tried) := ok__law_tried (D := D19) (f_from_stand := o17.up (by decide)) (f__law_kinds := o18.up (by decide)) (f__law_word := o10.up (by decide)) (x_FallError := q_FallError) (u_TooMany_FallError := r_TooMany_FallError) (u_NoWay_FallError := r_NoWay_FallError) (kx_TooMany := w_TooMany) (kx_NoWay := w_NoWay)
  have o20 : Ok l.prog w K mg base 6 "_law_alike" ["found", "due"] (spZ (Z0 K) (S__law_alike 6)) := ok__law_alike (D := D20) (z_bool := y_bool) (z_isinstance := y_isinstance) (z_int := y_int) (z_str := y_str) (z_list := y_list) (z_tuple := y_tuple) (z_len := y_len) (z_zip := y_zip) (z_all := y_all)
  have o21 : Ok l.prog w K mg base 1 "_law_tree_told" ["found"] (spZ (Z0 K) S__law_tree_told) := ok__law_tree_told (D := D21) (z_min := y_min) (z_len := y_len) (z_max := y_max)
  have o22 : Ok l.prog w K mg base 7 "law" ["script"] (spLaw K) := ok_law (D := D22) (f__law_jar := o2.up (by decide)) (f__law_slow_book := o4.up (by decide)) (f__law_pick := o3.up (by decide)) (f__law_slow_stand := o5.up (by decide)) (f__law_tree := o9.up (by decide)) (f__law_tried := o19.up (by decide)) (f__law_alike := o20.up (by decide)) (f__law_tree_told := o21.up (by decide)) (z_range := y_range) (z_repr := y_repr) (z_max := y_max) (z_str := y_str) (z_isinstance := y_isinstance)
  exact o22.fn hfa (by have e := hfa.symm.trans (PySem.W.mg_of X G a22); cases e; exact l22)
end Lw
open PySem PySem.W PyProof.Rows
set_option maxHeartbeats 0 in
theorem PySem.Challenge.cw_fallsum_k60_walks_from_one_stand_holds : PySem.Challenge.rw_fallsum_k60_walks_from_one_stand.Holds := by
  w_on; o_law; k_head; (case hw => w_witness2)
  k_fill
  refine L3.walk_ofG (l := PySem.Challenge.rw_fallsum_k60_walks_from_one_stand) (m := 63) (n := 7) (x := "script") (CC := fun w => L2.CX PySem.Challenge.rw_fallsum_k60_walks_from_one_stand.prog w) (sp := fun w => L3.spLaw _) rfl (by decide) rfl ⟨⟨rfl, by decide, by decide⟩, rfl⟩ (fun w h Y => PySem.W.kIn_of Y) ?F (fun _ _ a ns hl _ hS => ⟨a, ns, rfl, hS, fun _ => rfl⟩) (fun w H s e t h => L3.leave0 _ w H s e t h)
  case F =>
    intro w mg fa h KX G hmg
    refine' Lw.all_mk KX G hmg ?a1 ?l1 ?c1 ?k1 ?a2 ?l2 ?c2 ?k2 ?a3 ?l3 ?c3 ?k3 ?a4 ?l4 ?c4 ?k4 ?a5 ?l5 ?c5 ?k5 ?a6 ?l6 ?c6 ?k6 ?a7 ?l7 ?c7 ?k7 ?a8 ?l8 ?c8 ?k8 ?a9 ?l9 ?c9 ?k9 ?a10 ?l10 ?c10 ?k10 ?a11 ?l11 ?c11 ?k11 ?a12 ?l12 ?c12 ?k12 ?a13 ?l13 ?c13 ?k13 ?a14 ?l14 ?c14 ?k14 ?a15 ?l15 ?c15 ?k15 ?a16 ?l16 ?c16 ?k16 ?a17 ?l17 ?c17 ?k17 ?d17 ?a18 ?l18 ?c18 ?k18 ?a19 ?l19 ?c19 ?k19 ?a20 ?l20 ?c20 ?k20 ?a21 ?l21 ?c21 ?k21 ?a22 ?l22 ?c22 ?k22 ?z1 ?z2 ?z3 ?z4 ?z5 ?z6 ?z7 ?z8 ?z9 ?z10 ?z11 ?z12 ?z13 ?z14 ?z15 ?z16 ?xa_NoRound ?xa_NoRing ?xa_NoPurse ?xa_NoEnd ?xa_NoStand ?xa_NoLine ?xa_NoRow ?xa_NoWay ?xb_NoWay ?xc_NoWay ?xd_NoWay ?xe_NoWay ?xf_NoWay ?xa_TooMany ?xb_TooMany ?xc_TooMany ?xd_TooMany ?xe_TooMany ?xf_TooMany ?xa_FallError ?xb_FallError ?xc_FallError ?xd_FallError ?xe_FallError ?xf_FallError ?us_TooMany_FallError ?us_NoWay_FallError ?kb ?kc ?ka_TooMany ?kd_TooMany ?ke_TooMany ?kf_TooMany ?kg_TooMany ?kh_TooMany_NoWay ?kh_TooMany_NoRound ?kh_TooMany_NoRing ?kh_TooMany_NoPurse ?kh_TooMany_NoEnd ?kh_TooMany_NoStand ?kh_TooMany_TooMany ?kh_TooMany_NoLine ?kh_TooMany_NoRow ?ka_NoWay ?kd_NoWay ?ke_NoWay ?kf_NoWay ?kg_NoWay ?kh_NoWay_NoWay ?kh_NoWay_NoRound ?kh_NoWay_NoRing ?kh_NoWay_NoPurse ?kh_NoWay_NoEnd ?kh_NoWay_NoStand ?kh_NoWay_TooMany ?kh_NoWay_NoLine ?kh_NoWay_NoRow
    (case a1 => k_is); (case l1 => k_is); (case c1 => k_is); (case k1 => k_is); (case a2 => k_is); (case l2 => k_is); (case c2 => k_is); (case k2 => k_is); (case a3 => k_is); (case l3 => k_is); (case c3 => k_is); (case k3 => k_is); (case a4 => k_is); (case l4 => k_is); (case c4 => k_is); (case k4 => k_is); (case a5 => k_is); (case l5 => k_is); (case c5 => k_is); (case k5 => k_is); (case a6 => k_is); (case l6 => k_is); (case c6 => k_is); (case k6 => k_is); (case a7 => k_is); (case l7 => k_is); (case c7 => k_is); (case k7 => k_is); (case a8 => k_is); (case l8 => k_is); (case c8 => k_is); (case k8 => k_is); (case a9 => k_is); (case l9 => k_is); (case c9 => k_is); (case k9 => k_is); (case a10 => k_is); (case l10 => k_is); (case c10 => k_is); (case k10 => k_is); (case a11 => k_is); (case l11 => k_is); (case c11 => k_is); (case k11 => k_is); (case a12 => k_is); (case l12 => k_is); (case c12 => k_is); (case k12 => k_is); (case a13 => k_is); (case l13 => k_is); (case c13 => k_is); (case k13 => k_is); (case a14 => k_is); (case l14 => k_is); (case c14 => k_is); (case k14 => k_is); (case a15 => k_is); (case l15 => k_is); (case c15 => k_is); (case k15 => k_is); (case a16 => k_is); (case l16 => k_is); (case c16 => k_is); (case k16 => k_is); (case a17 => k_is); (case l17 => k_is); (case c17 => k_is); (case k17 => k_is); (case d17 => k_is); (case a18 => k_is); (case l18 => k_is); (case c18 => k_is); (case k18 => k_is); (case a19 => k_is); (case l19 => k_is); (case c19 => k_is); (case k19 => k_is); (case a20 => k_is); (case l20 => k_is); (case c20 => k_is); (case k20 => k_is); (case a21 => k_is); (case l21 => k_is); (case c21 => k_is); (case k21 => k_is); (case a22 => k_is); (case l22 => k_is); (case c22 => k_is); (case k22 => k_is); (case z1 => k_is); (case z2 => k_is); (case z3 => k_is); (case z4 => k_is); (case z5 => k_is); (case z6 => k_is); (case z7 => k_is); (case z8 => k_is); (case z9 => k_is); (case z10 => k_is); (case z11 => k_is); (case z12 => k_is); (case z13 => k_is); (case z14 => k_is); (case z15 => k_is); (case z16 => k_is); (case xa_NoRound => k_is); (case xa_NoRing => k_is); (case xa_NoPurse => k_is); (case xa_NoEnd => k_is); (case xa_NoStand => k_is); (case xa_NoLine => k_is); (case xa_NoRow => k_is); (case xa_NoWay => k_is); (case xb_NoWay => k_exc); (case xc_NoWay => k_is); (case xd_NoWay => k_is); (case xe_NoWay => k_is); (case xf_NoWay => k_is); (case xa_TooMany => k_is); (case xb_TooMany => k_exc); (case xc_TooMany => k_is); (case xd_TooMany => k_is); (case xe_TooMany => k_is); (case xf_TooMany => k_is); (case xa_FallError => k_is); (case xb_FallError => k_exc); (case xc_FallError => k_is); (case xd_FallError => k_is); (case xe_FallError => k_is); (case xf_FallError => k_is); (case us_TooMany_FallError => k_is); (case us_NoWay_FallError => k_is); (case kb => k_is); (case kc => k_is); (case ka_TooMany => k_is); (case kd_TooMany => k_is); (case ke_TooMany => k_is); (case kf_TooMany => k_is); (case kg_TooMany => kit_is); (case kh_TooMany_NoWay => kit_is); (case kh_TooMany_NoRound => kit_is); (case kh_TooMany_NoRing => kit_is); (case kh_TooMany_NoPurse => kit_is); (case kh_TooMany_NoEnd => kit_is); (case kh_TooMany_NoStand => kit_is); (case kh_TooMany_TooMany => kit_is); (case kh_TooMany_NoLine => kit_is); (case kh_TooMany_NoRow => kit_is); (case ka_NoWay => k_is); (case kd_NoWay => k_is); (case ke_NoWay => k_is); (case kf_NoWay => k_is); (case kg_NoWay => kit_is); (case kh_NoWay_NoWay => kit_is); (case kh_NoWay_NoRound => kit_is); (case kh_NoWay_NoRing => kit_is); (case kh_NoWay_NoPurse => kit_is); (case kh_NoWay_NoEnd => kit_is); (case kh_NoWay_NoStand => kit_is); (case kh_NoWay_TooMany => kit_is); (case kh_NoWay_NoLine => kit_is); (case kh_NoWay_NoRow => kit_is)
