import PyProof.Rows.All
import Wide.All
import OpenK.AllK
import Wide.FinOn
import HandS.ForMost
import HandS.ForExc
import HandS.ExcValue
import KE.KUnpackStar
import HandS.TupMul
import PyProof.StrOps2
import HandS.SetKeys
import HandS.SetBool
import HandS.Strs
import KE.GoesEnum
import KE.GoesMore
import HandS.Deep
import KE.SortData
import HandS.ExcIs
import HandS.IsInst
import HandS.Evl
import HandS.Walk
import HandS.Zip
import HandS.FStr
import HandS.TupAny
import HandS.Text
import HandS.Dict
import HandS.DictComp
import HandS.Words
import HandS.Defaults
import HandS.MakeKw
import HandS.More
import PySem.Challenge.RW_onetrace_k56_links_refused
import HandS.CallLocal
import HandS.ForSpec
import HandS.Sort
set_option Elab.async false
set_option linter.all false
set_option maxRecDepth 100000
set_option maxHeartbeats 4000000
/-! Ru1: rules of my own over the hand layer: a star in targets, an item changed by an operator. -/
namespace Ru
open PySem PySem.Spec
open PyProof.Rows L2

section
variable {prog : Program} {w : World} {A : Around} {E : Value → Shared → Prop} {s : Shared}
/-- a, .., *r, .., z = a tuple, by values -/
theorem star_tuple {t : Addr} {its : Array Value} {n i : Nat} {Q : List Value → Shared → Prop} (hh : A.handled = none) (ht : IsTup s.heap t its)
    (hi : i < n) (hn : n ≤ its.size + 1) (hz : its.size ≤ sizeLine)
    (k : ∀ (h' : Heap) (tk : Nat) (D : Addr), (∀ b o, s.heap.get? b = some o → h'.get? b = some o) → s.heap.get? D = none →
      h'.get? D = some { cls := .type "list", data := .seq ((its.toList.drop i).take (its.size + 1 - n)).toArray 0 } →
      Q (its.toList.take i ++ .ref D :: (its.toList.drop i).drop (its.size + 1 - n)) { s with heap := h', toks := tk }) :
    wpAny (model prog w) A (unpackItems (.ref t) n (some i)) Q E s := by
  have ne : t ≠ s.heap.objs.size := by
    obtain ⟨o, ho, _⟩ := ht
    exact Nat.ne_of_lt (Heap.lt_size ho)
  unfold unpackItems notIterableAtAll
  refine wpAny_bind (wpAny_bind (wpAny_specialOf ht.typeIs slot_tuple_iter.lookup (wpAny_pure ?_)))
  simp only [Bool.false_eq_true, if_false]
  refine wpAny_bind (wpAny_holding (iter_tuple ht (wpAny_bind (wpAny_holding
    (draw_tuple ne i 0 _ _ ⟨_, Heap.get?_push_size _ rfl, rfl, rfl⟩ (ht.push _) (by omega) fun h1 it1 sb1 => ?_)))))
  have t1 : IsTup h1 t its := (ht.push _).extBut sb1.extBut ne
  rw [Nat.zero_add] at it1
  obtain ⟨oi, goi, _⟩ := id it1
  obtain ⟨ot, got, _⟩ := id t1
  rw [List.drop_zero]
  have lf : (its.toList.take i).length = i := by
    rw [List.length_take, Array.length_toList]
    omega
  rw [if_neg (by rw [lf]; omega)]
  have lr : (its.toList.drop i).length = its.size - i := by rw [List.length_drop, Array.length_toList]
  refine wpAny_bind (wpAny_holding (PySem.W.kun_collect (s := { s with heap := h1 }) (T := "tuple_iterator") (.inr (.inr (.inr rfl)))
    (Walks.tuple (A := A.in1) hh s.heap.objs.size t ne its) (fun j u st => st.1.typeIs) (k := i) (by omega) ⟨it1, t1⟩ (Heap.lt_size goi) (Heap.lt_size got) (fun h2 tk kp => ?_) hz))
  show wpAny _ _ (if (its.toList.drop i).length < n - 1 - i then _ else _) _ _ _
  rw [if_neg (by rw [lr]; omega)]
  have em : (its.toList.drop i).length - (n - 1 - i) = its.size + 1 - n := by
    rw [lr]
    omega
  show wpAny _ _ (newList ((its.toList.drop i).take ((its.toList.drop i).length - (n - 1 - i))) >>= fun d => pure (its.toList.take i ++ [d] ++ (its.toList.drop i).drop ((its.toList.drop i).length - (n - 1 - i)))) _ _ _
  rw [em]
  have old : ∀ b o, s.heap.get? b = some o → h2.get? b = some o := fun b o e =>
    kp b o (Nat.ne_of_lt (Heap.lt_size e)) (sb1.extBut b o (Nat.ne_of_lt (Heap.lt_size e)) (Heap.get?_push_of_some _ e))
  have new : ∀ (h : Heap), h2 = h → s.heap.get? h.objs.size = none := fun h e => by
    cases q : s.heap.get? h.objs.size with
    | none => rfl
    | some o =>
      have z := old _ _ q
      rw [e] at z
      exact absurd (Heap.lt_size z) (Nat.lt_irrefl _)
  refine wpAny_bind (wpAny_newList (wpAny_pure ?_) ?_)
  · rw [List.append_assoc]
    exact k _ tk _ (fun b o e => Heap.get?_push_of_some _ (old b o e)) (new h2 rfl) (Heap.get?_push_size _ rfl)
  · rw [List.length_take, lr]
    omega
end

/-- what is tracked stands in the heap -/
theorem objok_there {P : Program} {w : World} {H : Hp} {h : Heap} {a : Addr} {o : HO} (x : ObjOk P w H h a o) : ∃ u, h.get? a = some u := by
  cases o with
  | lst xs => exact let ⟨_, _, _, _, e⟩ := x; ⟨_, e⟩
  | tup xs => exact let ⟨_, _, _, ob, e, _⟩ := x; ⟨ob, e⟩
  | dK kvs => exact let ⟨_, _, _, _, ob, _, _, e, _⟩ := x; ⟨ob, e⟩
  | dT kvs => exact let ⟨_, _, _, _, ob, _, _, e, _⟩ := x; ⟨ob, e⟩
  | set S n => exact let ⟨ob, _, _, _, e, _⟩ := x; ⟨ob, e⟩
  | ins C dx fs => exact let ⟨_, _, _, e, _⟩ := x; ⟨_, e⟩
  | own y => exact x
  | xd fs => exact let ⟨_, ⟨ob, _, _, e, _⟩, _⟩ := x; ⟨ob, e⟩
  | rng lo hi => exact let ⟨_, _, _, e⟩ := x; ⟨_, e⟩
  | frz ob u => exact ⟨ob, x.1⟩
  | tbl ps => exact ⟨_, show h.get? a = some _ from x⟩
  | met f y => exact ⟨_, show h.get? a = some _ from x⟩
  | ext f => exact x.2.1
theorem hok_none {P : Program} {w : World} {H : Hp} {h : Heap} {a : Addr} (x : HOk P w H h) (e : h.get? a = none) : H a = none := by
  cases q : H a with
  | none => rfl
  | some o =>
    obtain ⟨u, hu⟩ := objok_there (x a o q)
    rw [e] at hu
    cases hu

section
variable {X : Cx}
/-- a, *r, z = a tuple: which names, where the star stands, how many -/
def gStar (K : PySem.W.Frag) (i n : Nat) (t : TGs) : TG := fun v σ H Q => ∃ (a : Addr) (xs : List V), v = .ref a ∧ SqT K H a xs ∧ n ≤ xs.length + 1 ∧
  ∀ l, H l = none → t (xs.take i ++ .ref l :: (xs.drop i).drop (xs.length + 1 - n)) σ (upd H l (.lst ((xs.drop i).take (xs.length + 1 - n)))) Q
theorem pgs_starred {e : Expr} {es : List Expr} {t : TG} {u : TGs} {p : Pos} (h1 : PG X e t) (h2 : PGs X es u)
    (hs : (assignEach (.Starred e p :: es) X.env).map (·.2) = assign e X.env :: (assignEach es X.env).map (·.2) := by rfl) : PGs X (.Starred e p :: es) (gCons t u) := by
  refine ⟨fun pins s σ H vs us Q I r h => ?_⟩
  obtain ⟨v, vr, rfl, h⟩ := h
  cases r with
  | cons r rr =>
    rw [hs]
    exact assignInOrder_cons (thn (h1.run pins s σ H _ _ _ I r h) fun _ s1 ⟨σ1, H1, I1, q1⟩ => h2.run pins s1 σ1 H1 _ _ Q I1 rr q1)
theorem pg_star {es : List Expr} {k : Nat} {pos : Pos} {t : TGs} {i n : Nat} (hc : X.calm = true) (h : PGs X es t) (hi : i < n := by decide)
    (hn : (assignEach es X.env).length = n := by rfl) (hst : (assignEach es X.env).findIdx? (·.1) = some i := by rfl) : PG X (.Tuple es k pos) (gStar X.K i n t) := by
  refine ⟨fun pins s σ H v u Q I r hw => ?_⟩
  obtain ⟨a, xs, rfl, hq, hl, hw⟩ := hw
  cases r
  obtain ⟨its, rv, ht, hz⟩ := I.tuple hq
  have el := rv.length
  rw [assign_Tuple]
  refine wpAny_bind (wpAny_standAt ?_)
  unfold unpack
  rw [hn, hst]
  refine wpAny_bind (wpAny_holding (star_tuple (I.ok.hd hc) ht hi (by simp; omega) (by simp; omega) fun h' tk D kp nw hD => ?_))
  have es : its.toArray.size = xs.length := by rw [el]; simp
  rw [es] at hD ⊢
  have hD' : H D = none := hok_none I.hok nw
  have vm : Vals ((xs.drop i).take (xs.length + 1 - n)) ((its.drop i).take (xs.length + 1 - n)) := Vals.take _ (Vals.drop i rv)
  have J : Inv X pins σ (upd H D (.lst ((xs.drop i).take (xs.length + 1 - n)))) { s with heap := h', toks := tk } :=
    I.laidN kp nw hD' ⟨Nat.le_trans (by rw [List.length_take, List.length_drop]; omega) hz, _, 0, vm, hD⟩
  exact h.run pins _ σ _ _ _ Q J (Vals.append (Vals.take i rv) (Paired.cons (show RelV (.ref D) (.ref D) from rfl) (Vals.drop _ (Vals.drop i rv)))) (hw D hD')
/-- a list's item, for xs[i] op= e -/
theorem get_list : PGet X (rIxL X.K) := by
  intro pins s σ H o i ov iv Q I ro ri h
  obtain ⟨p, xs, k, v, rfl, rfl, hq, he, q⟩ := h
  cases ro
  obtain ⟨t, rfl⟩ := ri
  obtain ⟨its, r, pl, hz⟩ := I.list hq
  obtain ⟨j, h1, h2, h3, h4, h5⟩ := atI_get he
  obtain ⟨u, eu, ru⟩ := r.get h2
  have hl := r.length
  have hn := line63
  by_cases h0 : 0 ≤ k
  · have hj : k.toNat = j := by
      rw [seqIndex_of h0 h5] at h1
      exact Option.some.inj h1
    exact wpAny_getItem_list pl.isList h0 (by omega) (by rw [hj]; simpa using eu) ⟨v, H, I, ru, q⟩
  · have hj : (k + (its.toArray.size : Int)).toNat = j := by
      rw [seqIndex_neg (by omega) h4] at h1
      rw [List.size_toArray, ← hl]
      exact Option.some.inj h1
    exact wpAny_getItem_list_neg pl.isList (by omega) (by rw [List.size_toArray] <;> omega) (by omega) (by rw [hj]; simpa using eu) ⟨v, H, I, ru, q⟩
end
end Ru
set_option Elab.async false
set_option linter.all false
set_option maxRecDepth 100000
set_option maxHeartbeats 4000000
/-! Ru2: a tuple so many times, a text so many times, the length of an instance of an own class. -/
namespace Ru
open PySem PySem.Spec
open PyProof.Rows L2

/-- the same tuple again: once, or nothing in it -/
theorem tuple_mul_same (l : Addr) (items : Array Value) (n : Nat) (dd : Option Addr) (sl : Array (Option Value)) (x : Int) (u : Tok) (c0 : (decide (x < -(2 ^ 63)) || decide (x ≥ 2 ^ 63)) = false) (c1 : (items.isEmpty || x == 1) = true) :
    Meets (Builtin.«tuple.__mul__» ⟨[.ref l, .int x u], []⟩) (fun _ R s => s.heap.get? l = some { cls := .type "tuple", dict := dd, data := .seq items n, slots := sl } ∧ R (.ok (.ret (Value.ref l))) s) :=
  .of_wp fun prog w A R s h => by
    obtain ⟨hp, g, d, tk, os⟩ := s
    obtain ⟨hl, h⟩ := h
    have f1 := AutoSeq1.idx_int
    wp_walk using wpAny_loadPart' hl
    repeat (first
      | (refine wpAny_ite_false (decide_eq_false (by rw [c0]; exact Bool.false_ne_true)) ?_; wp_walk using wpAny_loadPart' hl)
      | (refine wpAny_ite_true (decide_eq_true c1) ?_; wp_walk using wpAny_loadPart' hl))
    exact ⟨_, rfl, h⟩
/-- no times: a new empty one -/
theorem tuple_mul_none (l : Addr) (items : Array Value) (n : Nat) (dd : Option Addr) (sl : Array (Option Value)) (x : Int) (u : Tok) (c0 : (decide (x < -(2 ^ 63)) || decide (x ≥ 2 ^ 63)) = false) (c1 : (items.isEmpty || x == 1) = false)
    (c2 : (decide (x ≤ 0) || items.isEmpty) = true) :
    Meets (Builtin.«tuple.__mul__» ⟨[.ref l, .int x u], []⟩) (fun _ R s => s.heap.get? l = some { cls := .type "tuple", dict := dd, data := .seq items n, slots := sl } ∧
      R (.ok (.ret (Value.ref s.heap.objs.size))) { s with heap := s.heap.push { cls := Value.type "tuple", data := Data.seq #[] }, toks := s.toks }) :=
  .of_wp fun prog w A R s h => by
    obtain ⟨hp, g, d, tk, os⟩ := s
    obtain ⟨hl, h⟩ := h
    have f1 := AutoSeq1.idx_int
    wp_walk using wpAny_loadPart' hl
    repeat (first
      | (refine wpAny_ite_false (decide_eq_false (by rw [c0]; exact Bool.false_ne_true)) ?_; wp_walk using wpAny_loadPart' hl)
      | (refine wpAny_ite_false (decide_eq_false (by rw [c1]; exact Bool.false_ne_true)) ?_; wp_walk using wpAny_loadPart' hl)
      | (refine wpAny_ite_true (decide_eq_true c2) ?_; wp_walk using wpAny_loadPart' hl))
    exact ⟨_, rfl, h⟩

/-- t * k, any small k -/
def rRepTA (K : PySem.W.Frag) : R2 := fun x y H Q => ∃ (l : Addr) (k : Int) (xs : List V), x = .ref l ∧ y = .int k ∧ SqT K H l xs ∧ xs ≠ [] ∧ 0 ≤ k ∧ k ≤ 1000 ∧ xs.length ≤ 1000 ∧
  (k = 1 → Q (.ref l) H) ∧ (k ≠ 1 → ∀ p, H p = none → Q (.ref p) (upd H p (.tup (List.replicate k.toNat xs).flatten)))
section
variable {X : Cx}
theorem op_repTA : OpR X (binaryOp .Mult) (rRepTA X.K) := by
  intro pins s σ H x y v u Q I rx ry h
  obtain ⟨l, k, xs, rfl, rfl, hT, hne, h0, h1, hz, q1, q2⟩ := h
  rcases Int.lt_or_le 1 k with hk | hk
  · exact op_repT pins s σ H _ _ v u Q I rx ry ⟨l, k, xs, rfl, rfl, hT, hne, hk, h1, hz, q2 (by omega)⟩
  · cases rx
    obtain ⟨t, rfl⟩ := ry
    obtain ⟨its, r, ⟨⟨cls, dd, data, sl⟩, ho, hc, n, hd⟩, hs⟩ := I.tuple hT
    simp only at hc hd
    subst hc hd
    have hle : its.length = xs.length := r.length.symm
    have hn : its ≠ [] := fun e => hne (List.eq_nil_of_length_eq_zero (by rw [← hle, e]; rfl))
    have hi : its.toArray.isEmpty = false := by
      cases its with
      | nil => exact absurd rfl hn
      | cons a b => rfl
    have c0 : (decide (k < -(2 ^ 63)) || decide (k ≥ 2 ^ 63)) = false := by
      rw [decide_eq_false (by omega), decide_eq_false (by omega)]
      rfl
    rcases Int.lt_or_le k 1 with hk0 | hk0
    · refine wpAny_binaryOp_repeat_ref (T := "tuple") (U := "int") (by decide) ⟨_, ho, rfl⟩ (fun s' => typeIs_int s' k t) noFill_tuple_mul F.fills_int_mul F.slot_int_rmul repeat_tuple F.slot_int_index.lookup
        (call_meets F.slot_int_rmul (typeIs_int s k t) F.entry_int_rmul (F.args_int_rmul_2 _ _) (int_rmul_tuple k t l its.toArray n dd sl) ⟨ho, rfl, ⟨_, ho, rfl⟩, call_meets F.slot_tuple_mul ⟨_, ho, rfl⟩ F.entry_tuple_mul (F.args_tuple_mul_2 _ _) (tuple_mul_none l its.toArray n dd sl k t c0 (by rw [hi, Bool.false_or]; exact beq_eq_false_iff_ne.mpr (by omega)) (by rw [hi, Bool.or_false]; exact decide_eq_true (by omega))) ⟨ho, ?_⟩⟩)
      have ek : k.toNat = 0 := by omega
      have q := q2 (by omega) _ (I.hok.fresh (Nat.le_refl _))
      rw [ek] at q
      exact ⟨.ref s.heap.objs.size, _, I.laid (t' := s.toks) (o := .tup []) (fun b ob e => Heap.get?_push_of_some _ e) (Nat.le_refl _) ⟨Nat.zero_le _, [], .nil, IsTup.new _ _⟩, rfl, q⟩
    · have ek : k = 1 := by omega
      refine wpAny_binaryOp_repeat_ref (T := "tuple") (U := "int") (by decide) ⟨_, ho, rfl⟩ (fun s' => typeIs_int s' k t) noFill_tuple_mul F.fills_int_mul F.slot_int_rmul repeat_tuple F.slot_int_index.lookup
        (call_meets F.slot_int_rmul (typeIs_int s k t) F.entry_int_rmul (F.args_int_rmul_2 _ _) (int_rmul_tuple k t l its.toArray n dd sl) ⟨ho, rfl, ⟨_, ho, rfl⟩, call_meets F.slot_tuple_mul ⟨_, ho, rfl⟩ F.entry_tuple_mul (F.args_tuple_mul_2 _ _) (tuple_mul_same l its.toArray n dd sl k t c0 (by rw [hi, Bool.false_or]; exact beq_iff_eq.mpr ek)) ⟨ho, ?_⟩⟩)
      exact ⟨.ref l, H, I, rfl, q1 ek⟩
/-- s * k, a written text of one sign -/
def rRepS : R2 := fun x y H Q => ∃ (z : Str) (k : Int), x = .str z ∧ y = .int k ∧ z.length = 1 ∧ 0 ≤ k ∧ k ≤ 1000 ∧ Q (.str ⟨(List.replicate k.toNat z.cps).foldl (· ++ ·) #[]⟩) H
theorem op_repS : OpR X (binaryOp .Mult) rRepS := by
  intro pins s σ H x y v u Q I rx ry h
  obtain ⟨z, k, rfl, rfl, hz, h0, h1, q⟩ := h
  obtain ⟨t, rfl⟩ := rx
  obtain ⟨t', rfl⟩ := ry
  have c0 : (decide (k < -(2 ^ 63 : Int)) || decide (k ≥ 2 ^ 63)) = false := by
    rw [decide_eq_false (by omega), decide_eq_false (by omega)]
    rfl
  refine P.mul_str c0 (fun a b => ?_) (fun a b => ?_) ?_
  · rw [hz]
    have : (1 : Int) ≤ (2 ^ 63 - 1) / k := by
      rw [Int.le_ediv_iff_mul_le (by omega)]
      omega
    omega
  · rw [hz, Nat.one_mul]
    exact decide_eq_false (by rw [sizeLine_eq]; omega)
  · have fin : EP X pins σ Q (.str ⟨(List.replicate k.toNat z.cps).foldl (· ++ ·) #[]⟩ s.toks) { s with toks := s.toks + 1 } := ⟨.str _, H, I.tok _, ⟨_, rfl⟩, q⟩
    by_cases c1 : k < 1
    · rw [if_pos c1]
      have ek : k.toNat = 0 := by omega
      rw [ek] at fin
      exact ⟨by decide, fin⟩
    · rw [if_neg c1]
      by_cases c2 : (k == 1 || z.length == 0) = true
      · rw [if_pos c2]
        have e1 : k = 1 := by
          rw [hz] at c2
          simpa using c2
        subst e1
        have q' : Q (.str ⟨#[] ++ z.cps⟩) H := q
        rw [Array.empty_append] at q'
        exact ⟨.str z, H, I, ⟨_, rfl⟩, q'⟩
      · rw [if_neg c2]
        refine ⟨?_, fin⟩
        have h3 : ∀ (n : Nat) (a : Array Nat), ((List.replicate n z.cps).foldl (· ++ ·) a).size = a.size + n * z.cps.size := by
          intro n
          induction n with
          | zero => intro a; simp
          | succ n ih => intro a; rw [List.replicate_succ, List.foldl_cons, ih, Array.size_append, Nat.succ_mul]; omega
        show ((List.replicate k.toNat z.cps).foldl (· ++ ·) #[]).size ≤ sizeLine
        have hz' : z.cps.size = 1 := hz
        rw [h3, hz', sizeLine_eq]
        simp
        omega
/-- what len of an instance of the class at C asks: the promise of its own __len__ -/
def rLenI (C : Addr) (sp : Sp) : List V → Hp → VK → Prop := fun xs H Q => ∃ (a dx : Addr) (fs : List (Str × V)), xs = [.ref a] ∧ H a = some (.ins C dx fs) ∧
  sp [.ref a] H (fun v H' => ∃ n : Int, v = .int n ∧ (0 ≤ n ∧ n < 2 ^ 63) ∧ Q v H') (fun _ _ _ => False)
theorem call_lenI {CX : CXT} {k : Nat} {C f : Addr} {fd : FuncData} {sp : Sp} (c : Cls X.K C) (hs : PySem.W.findIn X.K (.ref C) "__len__" = some (some (.ref f))) (hf : PySem.W.isFn X.K (.ref f) = true)
    (F : FnOk X.prog X.w X.K X.mg X.base CX0 k f fd ["self"] sp) (hr : Room (k + 1) X.A) (hb : Binds X.K fd ["self"] []) : CallR X (.builtin "len") (rLenI C sp) := by
  intro pins s σ H xs us Q I r h
  obtain ⟨a, dx, fs, rfl, ea, h⟩ := h
  cases r with
  | cons rv rn =>
    cases rn
    cases rv
    obtain ⟨mA, O, _, _, _, _⟩ := ins_get I.hok ea
    obtain ⟨od, J, _⟩ := O.look
    obtain ⟨m, fr⟩ := I.fr
    refine PySem.W.len_K fr I.ok.mod.kin J hs hf (wpAny_call (codeAny_mono (F.run X.A.in1 X.stack s H ⟨[.ref a], []⟩ [.ref a] [.ref a] _ _ hr.in1 I.env0.in1 (hb _ [.ref a] I.kIn rfl) (.cons rfl .nil) h) fun r s' hq => ?_))
    cases r with
    | error er => exact False.elim hq
    | ok fl =>
      cases fl with
      | ret u =>
        obtain ⟨v, H', I3, rv, n, rfl, hn, q3⟩ := I.after hq
        obtain ⟨t, rfl⟩ := rv
        exact ⟨hn, .int n, H', I3.tok _, ⟨_, rfl⟩, q3⟩
      | next => exact False.elim hq
      | brk => exact False.elim hq
      | cont => exact False.elim hq
end
end Ru
set_option Elab.async false
set_option linter.all false
set_option maxRecDepth 100000
set_option maxHeartbeats 4000000
/-! Ru3: sets of keys made of lists and tuples in which none stands twice; the length of a set; set comprehensions of keys. -/
namespace Ru
open PySem PySem.Spec
open PyProof.Rows L2

/-- each item is the key at its place -/
def KeysAt (items : Array Value) (ks : List Key) : Prop := ks.length = items.size ∧ ∀ (i : Nat) (v : Value), items[i]? = some v → ∃ k : Key, ks[i]? = some k ∧ keyIs k v = true
theorem key_scannable {k : Key} {v : Value} (h : keyIs k v = true) : v.scannable = true := by
  rcases keyIs_shape h with ⟨i, t, _, rfl⟩ | ⟨x, t, _, rfl⟩
  · rfl
  · rfl
/-- whether a key is among some -/
def hasK (ks : List Key) (j : Key) : Bool := ks.any fun k => decide (j = k)
theorem hasK_iff {ks : List Key} {j : Key} : hasK ks j = true ↔ j ∈ ks := by
  unfold hasK
  rw [List.any_eq_true]
  exact ⟨fun ⟨x, h, e⟩ => by rw [of_decide_eq_true e]; exact h, fun h => ⟨j, h, decide_eq_true rfl⟩⟩
theorem hasK_next {l : List Key} {i : Nat} {k : Key} (h : l[i]? = some k) (j : Key) : (hasK (l.take i) j || decide (j = k)) = hasK (l.take (i + 1)) j := by
  have e : l.take (i + 1) = l.take i ++ [k] := by rw [List.take_add_one, h]; rfl
  unfold hasK
  rw [e, List.any_append, List.any_cons, List.any_nil, Bool.or_false]
theorem setOf_is {prog : Program} {w : World} {h : Heap} {a : Addr} {S S' : Key → Bool} {n n' : Nat} (x : h.SetOf (mixKind prog w) a S n) (e : ∀ k, S k = S' k) (en : n = n') : h.SetOf (mixKind prog w) a S' n' := by
  have q : S = S' := funext e
  rw [← q, ← en]
  exact x
theorem not_mem_take {α : Type} {l : List α} (nd : l.Nodup) {i : Nat} {k : α} (h : l[i]? = some k) : k ∉ l.take i := by
  intro m
  obtain ⟨j, hj, e⟩ := List.getElem_of_mem m
  have lj : j < i := by
    have := List.length_take (i := i) (l := l)
    omega
  rw [List.getElem_take] at e
  obtain ⟨hi, ei⟩ := List.getElem?_eq_some_iff.mp h
  have z := (List.getElem_inj nd).mp (e.trans ei.symm)
  omega

section
variable {prog : Program} {w : World} {A : Around} {R : Result → Shared → Prop} {I : Addr} {fp wr : List Addr} {G : Array GenState → Array GenState → Prop} {n : Nat} {P : Nat → Value → Prop} {St : Nat → Shared → Prop}
/-- what is walked is put into the set, one by one -/
theorem put_keys (W : WalksS prog w A.in1 I fp wr G n P St) (S : Addr) (hSf : S ∉ fp) (ks : List Key) (nd : ks.Nodup)
    (hval : ∀ i v, P i v → ∃ k, ks[i]? = some k ∧ keyIs k v = true) (hb : n + 1 < scanBound) (m : Nat) :
    ∀ (i : Nat) (s : Shared), i + m = n → St i s → s.heap.SetOf (mixKind prog w) S (fun j => hasK (ks.take i) j) i →
      (∀ s', Moved (S :: wr) G s s' → s'.heap.SetOf (mixKind prog w) S (fun j => hasK (ks.take n) j) n → R (.ok (.ret .none)) s') →
      codeAny (model prog w) A (.builtin "set.update.loop" ⟨[.ref S, .ref I], []⟩) R s := by
  have nw : S ∉ wr := fun h => hSf (W.sub _ h)
  have sub : ∀ b ∈ wr, b ∈ S :: wr := fun b hb => List.mem_cons_of_mem _ hb
  induction m with
  | zero =>
    intro i s e st h0 k
    obtain rfl : i = n := by omega
    refine codeAny_builtin F.entry_set_update_loop ?_
    rw [Around.under_plainId F.plain_set_update_loop _]
    refine (show wpAny _ A.in1 (pyNext (.ref I) >>= _) _ _ s from wpAny_bind (W.done s _ _ st fun s' mv => ?_))
    refine (show wpAny _ A.in1 (ret Value.none) _ _ s' from wpAny_pure (k s' (mv.mono sub) ?_))
    obtain ⟨o, es, ep, t, ho, more⟩ := h0
    exact ⟨o, es, ep, t, mv.heap S _ nw ho, more⟩
  | succ m ih =>
    intro i s e st h0 k
    have lt : i < n := by omega
    refine codeAny_builtin F.entry_set_update_loop ?_
    rw [Around.under_plainId F.plain_set_update_loop _]
    refine (show wpAny _ A.in1 (pyNext (.ref I) >>= _) _ _ s from wpAny_bind (W.item i s _ _ lt st fun v s' pv st' mv => ?_))
    obtain ⟨key, ek, hk⟩ := hval i v pv
    have h1 : s'.heap.SetOf (mixKind prog w) S (fun j => hasK (ks.take i) j) i := by
      obtain ⟨o, es, ep, t, ho, more⟩ := h0
      exact ⟨o, es, ep, t, mv.heap S _ nw ho, more⟩
    refine (show wpAny _ A.in1 (holding [v] (setAdd S v) >>= _) _ _ s' from wpAny_bind (wpAny_holding ?_))
    unfold setAdd
    refine wpAny_holding (wpAny_bind ((mixKind prog w).pyHash (k := key) hk ?_))
    refine wpAny_setAddHashed_of (knd := mixKind prog w) (s := { s' with toks := s'.toks + 1 }) hk (key_scannable hk) h1 (by omega) fun h' sb h2 => ?_
    have h3 : h'.SetOf (mixKind prog w) S (fun j => hasK (ks.take (i + 1)) j) (i + 1) := by
      have nm : hasK (ks.take i) key = false := by
        cases q : hasK (ks.take i) key with
        | false => rfl
        | true => exact absurd (hasK_iff.mp q) (not_mem_take nd ek)
      exact setOf_is h2 (fun j => hasK_next ek j) (by rw [nm]; rfl)
    refine wpAny_pure ⟨plainId_quiet F.plain_set_update_loop _, ih (i + 1) _ (by omega) (W.frame _ s' _ _ st' (Nat.le_succ _) fun b hb o eo => ?_) h3 fun s'' mv2 h4 => ?_⟩
    · exact (sb.2 b (fun z : b = S => hSf (z ▸ hb))).trans eo
    · exact k s'' (Moved.trans W.gtrans ((mv.mono sub).then_heap (Nat.le_succ _) fun b o hb eo => (sb.2 b (fun z : b = S => hb (z ▸ List.mem_cons_self))).trans eo) mv2) h4
end

section
variable {prog : Program} {w : World} {A : Around} {E : Value → Shared → Prop} {s : Shared}
set_option maxHeartbeats 8000000 in
/-- set(xs), xs a list or a tuple of keys, none twice -/
theorem call_set_keys {l : Addr} {items : Array Value} {T : String} {od : Option Addr} {nl : Nat} {sl : Array (Option Value)} {ks : List Key} {Q : Value → Shared → Prop}
    (hT : T = "list" ∨ T = "tuple") (hh : A.handled = none) (ho : s.heap.get? l = some { cls := .type T, dict := od, data := .seq items nl, slots := sl }) (hk : KeysAt items ks) (nd : ks.Nodup) (room : items.size + 1 < scanBound)
    (h : ∀ (h' : Heap) (tk : Nat), h'.SetOf (mixKind prog w) s.heap.objs.size (fun j => hasK ks j) ks.length →
      (∀ b o, s.heap.get? b = some o → h'.get? b = some o) → Q (.ref s.heap.objs.size) { s with heap := h', toks := tk }) :
    wpAny (model prog w) A (call (.type "set") [.ref l]) Q E s := by
  obtain ⟨c, tl, hmro⟩ := PySem.F.called_set.mro
  have hmade := PySem.F.called_set.made
  have hsub := PySem.F.called_set.sub
  refine wpAny_call (codeAny_of_tree (show wpAny _ _ (callAny (.type "set") _) _ _ _ from wpAny_pure ⟨Code.quiet_builtin _ (by decide +kernel), codeAny_builtin PySem.F.entry_type_call ?_⟩))
  rw [Around.under_plain (weight_type_call_type "set" [.ref l] []) rfl]
  have h1 := PySem.F.called_set.notType
  have h2 := PySem.F.called_set.canCreate
  have hct := PySem.F.typeCall_set_1 (.ref l)
  repeat (any_goals (first | assumption | wp_step))
  let mid : Bool → Heap := fun led => s.heap.push { cls := .type "set", dict := none, data := .set #[] 0 (.fresh 0 0 led) }
  refine codeAny_mono (code_set_new_1 (.ref l) (E := E) (Q₁ := fun obj s1 => ∃ led : Bool, obj = .ref s.heap.objs.size ∧ s1 = { s with heap := mid led }) fun led => ⟨led, rfl, rfl⟩) fun r s1 hr => ?_
  cases r with
  | error e => exact hr
  | ok fl =>
    cases fl with
    | ret obj =>
      obtain ⟨led, rfl, rfl⟩ := hr
      have hS : (mid led).get? s.heap.objs.size = some { cls := .type "set", dict := none, data := .set #[] 0 (.fresh 0 0 led) } := Heap.get?_push_size _ rfl
      have tT : Shared.TypeIs { s with heap := mid led } (.ref s.heap.objs.size) "set" := ⟨_, hS, rfl⟩
      have hli := PySem.F.called_set.init.lookup
      have hbi := PySem.F.called_set.init.bind (.ref s.heap.objs.size)
      repeat (any_goals (first | assumption | wp_step))
      refine codeAny_mono (codeAny_call_builtin (R := wants (fun r s2 => r = .none ∧ ∃ h' tk, s2 = { s with heap := h', toks := tk } ∧
          h'.SetOf (mixKind prog w) s.heap.objs.size (fun j => hasK (ks.take items.size) j) items.size ∧ (∀ b o, s.heap.get? b = some o → h'.get? b = some o)) E) PySem.F.called_set.init.plain PySem.F.entry_set_init (check_set_init_1 tT ?_)) fun r2 s2 hr2 => ?_
      · have gl : (mid led).get? l = some { cls := .type T, dict := od, data := .seq items nl, slots := sl } := Heap.get?_push_of_some _ ho
        have ltl : l < s.heap.objs.size := Heap.lt_size ho
        have sz : (mid led).objs.size = s.heap.objs.size + 1 := Heap.size_push ..
        have hh3 : A.in1.in1.in1.handled = none := by simp [hh]
        have neI : l ≠ (mid led).objs.size := by rw [sz]; exact Nat.ne_of_lt (Nat.lt_succ_of_lt ltl)
        have nSf : s.heap.objs.size ∉ [(mid led).objs.size, l] := by
          rw [sz]
          simp only [List.mem_cons, List.not_mem_nil, or_false, not_or]
          exact ⟨Nat.ne_of_lt (Nat.lt_succ_self _), Nat.ne_of_gt ltl⟩
        have fresh : (mid led).SetOf (mixKind prog w) s.heap.objs.size (fun j => hasK (ks.take 0) j) 0 :=
          ⟨_, #[], 0, _, hS, ⟨rfl, rfl, rfl⟩, rfl, (fun e he => by simp at he), (fun k => by simp [hasK]), (by decide), (by rfl), rfl⟩
        have later : ∀ (o : Obj), ((mid led).push o).SetOf (mixKind prog w) s.heap.objs.size (fun j => hasK (ks.take 0) j) 0 := fun o => by
          obtain ⟨ob, es, ep, t, e, more⟩ := fresh
          exact ⟨ob, es, ep, t, Heap.get?_push_of_some _ e, more⟩
        have ends : ∀ (s' : Shared) (o : Obj) (wr : List Addr) (GG : Array GenState → Array GenState → Prop), (∀ a b, GG a b → b = a) → (∀ b ∈ wr, b = (mid led).objs.size) → Moved (s.heap.objs.size :: wr) GG { s with heap := (mid led).push o } s' →
            (∃ tk h', s' = { s with heap := h', toks := tk } ∧ ∀ b u, s.heap.get? b = some u → h'.get? b = some u) := fun s' o wr GG hG hw mv => by
          obtain ⟨h', g', d', tk', os'⟩ := s'
          have eg : g' = s.gens := hG _ _ mv.gens
          have ed : d' = s.drawn := mv.drawn
          have eo : os' = s.os := mv.os
          subst eg ed eo
          refine ⟨tk', h', rfl, fun b u e => mv.heap b u ?_ (Heap.get?_push_of_some _ (Heap.get?_push_of_some _ e))⟩
          have lb := Heap.lt_size e
          intro hm
          rcases List.mem_cons.mp hm with z | z
          · exact absurd z (Nat.ne_of_lt lb)
          · have q := hw b z
            rw [sz] at q
            exact absurd q (Nat.ne_of_lt (Nat.lt_succ_of_lt lb))
        rcases hT with rfl | rfl
        · have hsls := PySem.F.sub_list_set
          have hslf := PySem.F.sub_list_frozenset
          have hne : (Value.type "list" == Value.type "dict") = false := by decide
          have is1 : (mid led).IsList l items := ⟨_, gl, rfl, nl, rfl⟩
          unfold Builtin.«set.__init__» noKeywords Builtin.Frozenset.updateFrom
          generalize hPI : pyIter = PI
          wp_walk
          subst hPI
          refine wpAny_pyIter_list is1 (wpAny_bind (wpAny_runValue ?_))
          refine put_keys ((Walks.list hh3 _ l neI items).toS) s.heap.objs.size nSf ks nd hk.2 room items.size 0 _ (Nat.zero_add _) ⟨⟨_, Heap.get?_push_size _ rfl, rfl, rfl⟩, is1.push _⟩ (later _) fun s' mv hS' => ?_
          obtain ⟨tk', h', rfl, old⟩ := ends s' _ _ _ (fun a b e => e) (fun b hb => by simpa using hb) mv
          exact (show wpAny _ _ _ _ _ _ from wpAny_pure (show wpAny _ _ (ret Value.none) _ _ _ from wpAny_pure ⟨rfl, h', tk', rfl, hS', old⟩))
        · have hsls := PySem.F.sub_tuple_set
          have hslf := PySem.F.sub_tuple_frozenset
          have hne : (Value.type "tuple" == Value.type "dict") = false := by decide
          have is1 : (mid led).IsTuple l items := ⟨_, gl, rfl, nl, rfl⟩
          unfold Builtin.«set.__init__» noKeywords Builtin.Frozenset.updateFrom
          generalize hPI : pyIter = PI
          wp_walk
          subst hPI
          refine wpAny_pyIter_tuple is1 (wpAny_bind (wpAny_runValue ?_))
          refine put_keys ((Walks.tuple hh3 _ l neI items).toS) s.heap.objs.size nSf ks nd hk.2 room items.size 0 _ (Nat.zero_add _) ⟨⟨_, Heap.get?_push_size _ rfl, rfl, rfl⟩, is1.push _⟩ (later _) fun s' mv hS' => ?_
          obtain ⟨tk', h', rfl, old⟩ := ends s' _ _ _ (fun a b e => e) (fun b hb => by simpa using hb) mv
          exact (show wpAny _ _ _ _ _ _ from wpAny_pure (show wpAny _ _ (ret Value.none) _ _ _ from wpAny_pure ⟨rfl, h', tk', rfl, hS', old⟩))
      · cases r2 with
        | error e => exact hr2
        | ok fl2 =>
          cases fl2 with
          | ret r =>
            obtain ⟨rfl, h', tk, rfl, hS', hk'⟩ := hr2
            have e1 : ks.take items.size = ks := List.take_of_length_le (Nat.le_of_eq hk.1)
            rw [e1, ← hk.1] at hS'
            repeat (any_goals (first | assumption | wp_step))
            exact h _ _ hS' hk'
          | next => exact hr2.elim
          | brk => exact hr2.elim
          | cont => exact hr2.elim
    | next => exact hr.elim
    | brk => exact hr.elim
    | cont => exact hr.elim
end
end Ru
set_option Elab.async false
set_option linter.all false
set_option maxRecDepth 100000
set_option maxHeartbeats 4000000
/-! Ru4: the rules of Ru3 over the layer: set(xs), len of a set, set comprehensions of keys. -/
namespace Ru
open PySem PySem.Spec
open PyProof.Rows L2

section
variable {X : Cx}
theorem keysAt_of : ∀ {ks : List Key} {us : List Value}, Vals (ks.map kV) us → KeysAt us.toArray ks := fun {ks us} r => by
  have hl := r.length
  rw [List.length_map] at hl
  refine ⟨by simpa using hl, fun i v hv => ?_⟩
  have hi : us[i]? = some v := by simpa using hv
  have lt : i < us.length := (List.getElem?_eq_some_iff.mp hi).1
  have e : (ks.map kV)[i]? = some (kV ks[i]) := by
    rw [List.getElem?_map, List.getElem?_eq_getElem (by omega)]
    rfl
  obtain ⟨u, hu, ru⟩ := r.get e
  rw [hi] at hu
  cases hu
  refine ⟨_, List.getElem?_eq_getElem (by omega), ?_⟩
  cases hk : ks[i] with
  | inl n =>
    rw [hk] at ru
    obtain ⟨t, rfl⟩ := ru
    exact keyIs_int n t
  | inr x =>
    rw [hk] at ru
    obtain ⟨t, rfl⟩ := ru
    exact keyIs_str x t
/-- set(xs) of a list or tuple of keys, none twice -/
def rSetOfK (K : PySem.W.Frag) (P : Program) (w : World) : List V → Hp → VK → Prop := fun xs H Q => ∃ (l : Addr) (ks : List Key), xs = [.ref l] ∧ (SqL K H l (ks.map kV) ∨ SqT K H l (ks.map kV)) ∧ ks.Nodup ∧ ks.length < 4000 ∧
  ∀ p, H p = none → Q (.ref p) (upd H p (SetK P w p (hasK ks) ks.length))
theorem cr_setOfK (hc : X.calm = true) : CallR X (.type "set") (rSetOfK X.K X.prog X.w) := by
  intro pins s σ H xs us Q I r h
  obtain ⟨l, ks, rfl, hs, nd, hz, q⟩ := h
  cases r with
  | cons rv rn =>
    cases rn
    cases rv
    have fin : ∀ (h' : Heap) (tk : Nat), h'.SetOf (mixKind X.prog X.w) s.heap.objs.size (fun j => hasK ks j) ks.length → (∀ b o, s.heap.get? b = some o → h'.get? b = some o) → EP X pins σ Q (.ref s.heap.objs.size) { s with heap := h', toks := tk } := fun h' tk new old =>
      ⟨.ref s.heap.objs.size, _, I.laid (t' := tk) (o := SetK X.prog X.w s.heap.objs.size (hasK ks) ks.length) old (Nat.le_refl _) (setK_new new), rfl, q _ (I.hok.fresh (Nat.le_refl _))⟩
    have room : ∀ its : List Value, (ks.map kV).length = its.length → its.toArray.size + 1 < scanBound := fun its e => by
      rw [List.length_map] at e
      rw [List.size_toArray, ← e]
      unfold scanBound
      omega
    rcases hs with hs | hs
    · obtain ⟨its, rv, ⟨⟨cls, dd, data, sl⟩, n, ho, hc', hd, hdat⟩, _⟩ := I.list hs
      simp only at hc' hd hdat
      subst hc' hd hdat
      exact call_set_keys (.inl rfl) (I.ok.hd hc) ho (keysAt_of rv) nd (room its rv.length) fin
    · obtain ⟨its, rv, ⟨⟨cls, dd, data, sl⟩, ho, hc', n, hdat⟩, _⟩ := I.tuple hs
      simp only at hc' hdat
      subst hc' hdat
      exact call_set_keys (.inr rfl) (I.ok.hd hc) ho (keysAt_of rv) nd (room its rv.length) fin
/-- len of a set of keys -/
def rLenK (P : Program) (w : World) : List V → Hp → VK → Prop := fun xs H Q => ∃ (a : Addr) (S : Key → Bool) (n : Nat), xs = [.ref a] ∧ H a = some (SetK P w a S n) ∧ n < 4096 ∧ Q (.int n) H
theorem call_lenK : CallR X (.builtin "len") (rLenK X.prog X.w) := by
  intro pins s σ H xs us Q I r h
  obtain ⟨a, S, n, rfl, ha, hn, q⟩ := h
  cases r with
  | cons rv rn =>
    cases rn
    cases rv
    obtain ⟨o, es, ep, t, ho, hex, hd, hel, hmem, hb, hf, en⟩ := setK_get I ha
    refine call_len_set ho hex hd hf (by rw [en]; omega) ⟨.int n, H, (I.tok _), ⟨_, by rw [en]⟩, q⟩

/-- {elt for tg in iter if ..}, elt a key: D the new set -/
def tScK (P : Program) (w : World) (wi : TI) (g : TG) (tt : TT) (te : TE) (vs : List Nat) : TE := fun σ H Q => wi σ H fun J H1 => ∀ D, H1 D = none →
  ∃ W : Nat → Nat → Hp → Prop, (∃ m, W 0 m (upd H1 D (SetK P w D (fun _ => false) 0))) ∧ ∀ i m H, W i m H →
    (J.stop i H ∧ Q (.ref D) H) ∨ (J.go i H ∧ ∃ Nx : Hp → Prop, (∀ H', Nx H' → ∃ m', m' < m ∧ W (i + 1) m' H') ∧ ∀ x H', J.yld i H x H' → g x (wipe σ vs) H' fun σ2 H2 => wipe σ2 vs = wipe σ vs ∧ tt σ2 H2 fun b H3 =>
      if b = true then te σ2 H3 fun y H4 => ∃ (c : Key) (S : Key → Bool) (n : Nat), y = kV c ∧ H4 D = some (SetK P w D S n) ∧ n + 1 < scanBound ∧ Nx (upd H4 D (SetK P w D (fun j => S j || decide (j = c)) (if S c = true then n else n + 1))) else Nx H3)
theorem addK_ok {pins : List (Addr × Obj)} {σ : L2.St} {H : Hp} {s : Shared} {E : Value → Shared → Prop} {D : Addr} {S : Key → Bool} {n : Nat} {c : Key} {u : Value} {Q : Value → Shared → Prop} (I : Inv X pins σ H s) (hD : H D = some (SetK X.prog X.w D S n)) (room : n + 1 < scanBound)
    (r : RelV (kV c) u) (h : ∀ s', Inv X pins σ (upd H D (SetK X.prog X.w D (fun j => S j || decide (j = c)) (if S c = true then n else n + 1))) s' → Q .none s') : wpAny (model X.prog X.w) X.A (call (.builtin "set.add") [.ref D, u]) Q E s := by
  refine call_set_add (kV_is r) (key_scan r) (setK_get I hD) room fun h' sb new => ?_
  obtain ⟨o, es, ep, t, ho, more⟩ := id new
  exact h _ (I.write (e := D) (t' := s.toks + 1) (by rw [hD]; trivial) (.inl rfl) (fun b u hb hu => (sb.2 b hb).trans hu) ⟨o, ho⟩ (setK_new new))
theorem pe_scK {elt tg iter : Expr} {ifs : List Expr} {scope : Scope} {own : List (PySem.Str × Nat)} {pos : Pos} {wi : TI} {g : TG} {tt : TT} {te : TE} (hc : X.calm = true) (hN : X.N.Nodup) (hi : PI X tg iter wi) (ok : BlkOk X.N X.env.scope scope own)
    (hg : ∀ (s : Shared) (H : Hp) (C : Addr) (cl : List (PySem.Str × Addr)) (fp : List Addr), PG (X.blk s H scope (compEnvC scope cl C X.env) fp) tg g)
    (ht : ∀ (s : Shared) (H : Hp) (C : Addr) (cl : List (PySem.Str × Addr)) (fp : List Addr), PTs (X.blk s H scope (compEnvC scope cl C X.env) fp) ifs tt)
    (he : ∀ (s : Shared) (H : Hp) (C : Addr) (cl : List (PySem.Str × Addr)) (fp : List Addr), PE (X.blk s H scope (compEnvC scope cl C X.env) fp) elt te) (hs : ∀ x, foldedSetIterable iter X.env x = pure x := by intro _; rfl) :
    PE X (.SetComp elt [⟨tg, iter, ifs, 0⟩] scope pos) (tScK X.prog X.w wi g tt te (own.map (·.2))) := by
  refine ⟨fun pins s σ H Q I h => ?_⟩
  rw [PpSet.eval_SetComp]
  have cellsOf : ∀ y ∈ scope.names, y.2 = .free → ∃ c, X.env.cells.lookup y.1 = some c := fun y hy e => (ok.free y hy e).elim (fun k => I.ok.has _ (.inl k)) fun k => I.ok.has _ (.inr k)
  refine wpAny_comprehension_free (use := none) rfl hs (closure_ok cellsOf) ok.kind (fun y hy e => by rw [ok.uniq y hy, e]) (thn (hi.run pins s σ H _ I h) fun xv s1 hx => thn hx fun itv s2 h2 => ?_)
  obtain ⟨it, fp, tn, J, H2, rfl, I2, T, st2, f2, q⟩ := h2
  refine PpSet.newSet_ok (newEnv_comp ?_)
  generalize hD : s2.heap.objs.size = D
  have free : H2 D = none := I2.hok.fresh (Nat.le_of_eq hD)
  obtain ⟨W, ⟨m0, w0⟩, turn⟩ := q D free
  let ob : Obj := { cls := .type "set", dict := none, data := .set #[] 0 (.fresh 0 0 (!X.w.params.followText "set-order")) }
  generalize hs3 : ({ s2 with heap := s2.heap.push ob } : Shared) = s3
  have e3 : s3.heap = s2.heap.push ob := by rw [← hs3]
  generalize hH3 : upd H2 D (SetK X.prog X.w D (fun _ => false) 0) = H3 at w0
  have I3 : Inv X pins σ H3 s3 := by
    rw [← hs3, ← hH3]
    refine I2.laid (t' := s2.toks) (fun b o e => Heap.get?_push_of_some _ e) (Nat.le_of_eq hD) (setK_new ?_)
    rw [← hD]
    exact ⟨_, #[], 0, _, Heap.get?_push_size _ rfl, ⟨rfl, rfl, rfl⟩, rfl, (fun e he => by simp at he), (fun k => by simp), (by decide), (by rfl), rfl⟩
  have inH : ∀ b ∈ fp, b < s2.heap.objs.size := fun b hb => let ⟨o, e, _⟩ := T.obj _ _ st2 b hb; Heap.lt_size e
  have f3 : ∀ b ∈ fp, FpOk X pins H3 b ∧ b < s3.heap.objs.size := fun b hb => by
    refine ⟨⟨?_, (f2 b hb).2⟩, by rw [e3, Heap.size_push]; exact Nat.lt_succ_of_lt (inH b hb)⟩
    rw [← hH3, upd_ne (by rw [← hD]; exact Nat.ne_of_lt (inH b hb))]
    exact (f2 b hb).1
  have st3 : tn 0 s3.heap := T.keep _ _ _ st2 fun b _ o e => by rw [e3]; exact Heap.get?_push_of_some _ e
  have I4 := block_start I3 ok hN f3
  let cl := cellsFrom (s3.heap.objs.size + 1) scope.names (cloFrom X.env.cells scope.names [])
  have pg := hg s3 H3 s3.heap.objs.size cl fp
  have pt := ht s3 H3 s3.heap.objs.size cl fp
  have pe := he s3 H3 s3.heap.objs.size cl fp
  refine (show codeAny _ _ (.compStart (.SetComp elt [⟨tg, iter, ifs, 0⟩] scope pos) 0 (.ref it) (.ref D) (compEnvC scope cl s3.heap.objs.size X.env)) (compPost (model X.prog X.w) X.A X.xe none (EP X pins σ Q) (.ref D) s3.heap.objs.size)
    { s3 with heap := pushCells (s3.heap.push { cls := .type "dict", data := .dict #[] }) scope.names } from ?_)
  have nofp : ∀ b ∈ fp, H3 b = none := fun b hb => (f3 b hb).1.1
  generalize hce : compEnvC scope cl s3.heap.objs.size X.env = ce at pg pt pe ⊢
  have J4 : Inv (X.blk s3 H3 scope ce fp) [] (wipe σ (own.map (·.2))) H3 { s3 with heap := pushCells (s3.heap.push { cls := .type "dict", data := .dict #[] }) scope.names } := by
    rw [← hce]
    exact I4
  have cL : ce.locals = s3.heap.objs.size := by rw [← hce]; rfl
  generalize hs4 : ({ s3 with heap := pushCells (s3.heap.push { cls := .type "dict", data := .dict #[] }) scope.names } : Shared) = s4 at J4 ⊢
  have st4 : tn 0 s4.heap := T.keep _ _ _ st3 fun b _ o e => by rw [← hs4]; exact pushCells_keeps _ _ _ _ (Heap.get?_push_of_some _ e)
  have foot : ∀ {σ' : L2.St} {H' : Hp} {s' : Shared}, Inv (X.blk s3 H3 scope ce fp) [] σ' H' s' → (∀ b ∈ fp, H' b = none) → ∀ b ∈ fp, FpOk (X.blk s3 H3 scope ce fp) [] H' b := fun {σ' H' s'} I' no b hb =>
    ⟨no b hb, (I'.ok.exf b hb).1, I'.ok.exfs b hb, .inl hb, fun x c e => (I'.ok.exf b hb).2 x c e, fun p hp => absurd hp (List.not_mem_nil (a := p))⟩
  have loop : codeAny (model X.prog X.w) X.A (.compLoop (.SetComp elt [⟨tg, iter, ifs, 0⟩] scope pos) 0 (.ref it) (.ref D) ce) (compPost (model X.prog X.w) X.A X.xe none (EP X pins σ Q) (.ref D) s3.heap.objs.size) s4 := by
    refine PpSet.compLoopS_any (fun n s' => ∃ i H', Inv (X.blk s3 H3 scope ce fp) [] (wipe σ (own.map (·.2))) H' s' ∧ tn i s'.heap ∧ (∀ b ∈ fp, H' b = none) ∧ W i n H') ?_ m0 ⟨0, H3, J4, st4, nofp, w0⟩
    rintro n s5 ⟨i, H5, I5, st5, n5, w5⟩
    rcases turn i n H5 w5 with ⟨stop, qq⟩ | ⟨go, Nx, hNx, step⟩
    · refine thnF (T.done (X.blk s3 H3 scope ce fp) rfl rfl rfl hc i [] s5 _ H5 (fun _ _ => False) I5 (foot I5 n5) st5 stop) fun r s6 ⟨er, I6⟩ => ?_
      subst er
      have I7 : Inv X pins σ H5 s6 := I3.call' (ch := fp) I6.os I6.base I6.hok I6.bare fun b hb =>
        let ⟨_, a1, _, a3, a4, a5⟩ := (f3 b hb).1
        ⟨a3, a1, a4, a5⟩
      have nC : H5 s3.heap.objs.size = none := by
        have z : H5 ce.locals = none := I6.free
        rwa [cL] at z
      obtain ⟨m, hn, _⟩ := I6.loc
      have hn' : s6.heap.Ns ce.locals m := hn
      rw [cL] at hn'
      refine ⟨m, hn', fun h'' sb => ?_⟩
      obtain ⟨b0, b1, _, b3, b4, b5⟩ := I3.fpOk (Nat.le_refl _) nC
      exact ⟨.ref D, H5, I7.turned (t' := s6.toks) (fun b o hb e => (sb.2 b hb).trans e) b0 b1 b3 b4 b5, rfl, qq⟩
    · refine thnF (T.item (X.blk s3 H3 scope ce fp) rfl rfl rfl hc i [] s5 _ H5 (fun _ _ => False) I5 (foot I5 n5) st5 go) fun r s6 ⟨u, er, h6⟩ => ?_
      subst er
      refine thnF h6 fun _ s7 ⟨x, H7, I7, r7, y7, st7, n7⟩ => ?_
      refine thnF (pg.run _ s7 _ H7 x u _ (I7.pinned (foot I7 n7) (T.obj _ _ st7)) r7 (step x H7 y7)) fun _ s8 ⟨σ8, H8, I8, hw8, q8⟩ => ?_
      refine thnF (pt.run _ s8 σ8 H8 _ I8 q8) fun b s9 ⟨H9, I9, q9⟩ => ?_
      have fin : ∀ {s' : Shared} {H' : Hp}, Inv (X.blk s3 H3 scope ce fp) ([] ++ pinsAt fp s7.heap) σ8 H' s' → Nx H' →
          ∃ m, m < n ∧ ∃ i H', Inv (X.blk s3 H3 scope ce fp) [] (wipe σ (own.map (·.2))) H' s' ∧ tn i s'.heap ∧ (∀ b ∈ fp, H' b = none) ∧ W i m H' := fun {s' H'} I' nx => by
        obtain ⟨m', hm, w'⟩ := hNx H' nx
        have pin' : ∀ b ∈ fp, ∀ o, s7.heap.get? b = some o → s'.heap.get? b = some o ∧ H' b = none := fun b hb o e =>
          let z := I'.pin (b, o) (List.mem_append_right _ (List.mem_append_right _ (mem_pinsAt hb e)))
          ⟨z.1, z.2.1⟩
        refine ⟨m', hm, i + 1, H', (I'.unpinned (pins := [])).weak (by rw [← hw8, wipe_length]) (fun j v e => ?_), T.keep _ _ _ st7 fun b hb o e => (pin' b hb o e).1, fun b hb => ?_, w'⟩
        · rw [← hw8] at e
          exact (wipe_some e).1
        · obtain ⟨o, e, _⟩ := T.obj _ _ st7 b hb
          exact (pin' b hb o e).2
      cases b with
      | false => exact fin I9 q9
      | true =>
        refine thnF (pe.run _ s9 σ8 H9 _ I9 q9) fun z s10 ⟨yv, H10, I10, r10, cb, S0, n0, ey, hD10, hz10, nx⟩ => ?_
        subst ey
        exact addK_ok (X := X.blk s3 H3 scope ce fp) I10 hD10 hz10 r10 fun s11 I11 => fin I11 nx
  exact PpSet.codeAny_compStart_set loop (T.self X.A 0 _ _ _ st4 loop)
end
end Ru
set_option Elab.async false
set_option linter.all false
set_option maxRecDepth 100000
set_option maxHeartbeats 4000000
/-! Ru5: enumerate over a tuple. -/
namespace Ru
open PySem PySem.Spec
open PyProof.Rows L2

theorem enum_made {v : Value} {o : Obj} {P : Heap → Prop} (B : Begins v o P) :
    Meets (Builtin.«enumerate.__new__» ⟨[.type "enumerate", v], []⟩) (fun _ R s => P s.heap ∧
      R (.ok (.ret (.ref (s.heap.push o).objs.size))) { s with heap := (s.heap.push o).push { cls := .type "enumerate", data := .fields #[.none, .bool false, .ref s.heap.objs.size, rawInt 0, .none, .none] } }) :=
  .of_wp fun prog w A R s hyp => by
    obtain ⟨hp, g, d, tk, os⟩ := s
    obtain ⟨h1, hyp⟩ := hyp
    have hsub := sub_enumerate
    have q1 : ∀ {A' : Around} {E : Value → Shared → Prop} {Q : Value → Shared → Prop}, Q (.ref hp.objs.size) ⟨hp.push o, g, d, tk, os⟩ → wpAny (model prog w) A' (pyIter v) Q E ⟨hp, g, d, tk, os⟩ :=
      fun q => B.iter prog w _ _ ⟨hp, g, d, tk, os⟩ _ h1 q
    wp_walk using q1
    first
      | exact ⟨_, rfl, hyp⟩
      | (refine wpAny_stack_any fun st => wpAny_pure ?_
         split
         · rename_i c _ _ _ _ _
           cases (c == Value.type "enumerate")
           · wp_walk using q1
             exact ⟨_, rfl, hyp⟩
           · wp_walk using q1
             exact ⟨_, rfl, hyp⟩
         · wp_walk using q1
           exact ⟨_, rfl, hyp⟩)
section
variable {prog : Program} {w : World} {A : Around} {E : Value → Shared → Prop} {s : Shared}
theorem call_enum1 {v : Value} {o : Obj} {P : Heap → Prop} {Q : Value → Shared → Prop} (B : Begins v o P) (h1 : P s.heap)
    (k : ∀ h', IsEnum h' (s.heap.objs.size + 1) s.heap.objs.size 0 .none → h'.get? s.heap.objs.size = some o → (∀ b o, s.heap.get? b = some o → h'.get? b = some o) → Q (.ref (s.heap.objs.size + 1)) { s with heap := h' }) :
    wpAny (model prog w) A (call (.type "enumerate") [v]) Q E s := by
  refine callType_new F.called_enumerate (by decide) (F.typeCall_enumerate_1 _) (F.newCall_enumerate_1 _) (fun obj => F.args_object_init_2 obj _) F.entry_enumerate_new (enum_made B) ⟨h1, ?_⟩
  have sz : (s.heap.push o).objs.size = s.heap.objs.size + 1 := Heap.size_push ..
  refine (show _ ∧ _ from ?_)
  rw [sz]
  have ie : IsEnum ((s.heap.push o).push { cls := .type "enumerate", data := .fields #[.none, .bool false, .ref s.heap.objs.size, rawInt 0, .none, .none] }) (s.heap.objs.size + 1) s.heap.objs.size 0 .none := by
    have z := Heap.get?_push_size (s.heap.push o) (o := { cls := .type "enumerate", data := .fields #[.none, .bool false, .ref s.heap.objs.size, rawInt 0, .none, .none] }) rfl
    rwa [sz] at z
  exact ⟨⟨_, ie, rfl⟩, k _ ie (Heap.get?_push_of_some _ (Heap.get?_push_size _ B.free)) fun b u x => Heap.get?_push_of_some _ (Heap.get?_push_of_some _ x)⟩
end
/-- nothing more is drawn -/
theorem no_draws {prog : Program} {w : World} {A : Around} (hh : A.handled = none) (it t : Addr) (items : Array Value) (i : Nat) (hx : items[i]? = none) :
    Draws prog w A it [it, t] 0 (fun _ _ => False) (fun _ h => h.IsTupleIter it t i ∧ h.IsTuple t items) where
  live := fun _ _ st => let ⟨o, ho, _⟩ := st.1; ⟨o, ho⟩
  frame := fun _ _ _ st hk => ⟨st.1.at fun o e => hk it (by simp) o e, st.2.at fun o e => hk t (by simp) o e⟩
  item := fun i s Q E hi st hQ => absurd hi (Nat.not_lt_zero _)
  done := fun s Q E st hE => wpAny_nextOf_tuple_end hh st.1 st.2 hx hE
/-- the tuple at a, each item in a new pair with its number -/
def IteT (K : PySem.W.Frag) (a : Addr) : It :=
  ⟨fun i H => ∃ (xs : List V) (x : V), SqT K H a xs ∧ xs[i]? = some x, fun i H v H' => ∃ T x, v = .ref T ∧ H T = none ∧ H' = upd H T (.tup [.int (i : Nat), x]) ∧ ∀ xs, SqT K H a xs → xs[i]? = some x,
    fun i H => ∃ xs : List V, SqT K H a xs ∧ xs.length ≤ i⟩
theorem turn_enumT {P : Program} {w : World} {K : PySem.W.Frag} {elts : List Expr} {kk : Nat} {tpos : Pos} (a e it : Addr) :
    Turn P w K (.Tuple elts kk tpos) (IteT K a) [e, it] e (fun i h => (∃ old, IsEnum h e it ((i : Nat) : Int) old) ∧ h.IsTupleIter it a i ∧ e ≠ it ∧ a ≠ it ∧ a ≠ e) where
  mem := by simp
  obj := fun i h st b hb => by
    obtain ⟨⟨old, he⟩, ⟨o, ho, hc, hd⟩, _⟩ := st
    rcases (show b = e ∨ b = it by simpa using hb) with z | z
    · rw [z]
      exact ⟨_, he, fun v q => nomatch q⟩
    · rw [z]
      exact ⟨o, ho, fun v q => by rw [hd] at q; cases q⟩
  keep := fun i h h' st k => let ⟨⟨old, he⟩, hi, ne⟩ := st; ⟨⟨old, k e (by simp) _ he⟩, hi.at fun o q => k it (by simp) o q, ne⟩
  item := by
    intro X hP hw hK hc i pins s σ H E I hf st hg
    subst hP hw hK
    obtain ⟨⟨old, he⟩, hit, ne, nai, nae⟩ := st
    obtain ⟨xs, x, hq, hx⟩ := hg
    obtain ⟨its, rv, p, hz⟩ := I.tuple hq
    obtain ⟨u, hu, ru⟩ := rv.get hx
    have lte : e < s.heap.objs.size := Heap.lt_size he
    have lti : it < s.heap.objs.size := let ⟨_, q, _⟩ := hit; Heap.lt_size q
    have li : i < its.toArray.size := by
      have := (List.getElem?_eq_some_iff.mp hu).1
      simpa using this
    refine wpAny_pyNext_enum_itemD (Draws.tuple (A := X.A.in1) (show X.A.in1.handled = none from I.ok.hd hc) it a nai its.toArray) he ⟨hit, p⟩ li ne (by simp [ne, Ne.symm nae]) fun y h' tk py ho st' hT _ kp => ?_
    have ey : y = u := by
      have z : its.toArray[i]? = some u := by simpa using hu
      rw [z] at py
      exact (Option.some.inj py).symm
    subst ey
    refine ⟨_, rfl, wpAny_letOwnedTupleGo_enum (s := { s with heap := h', toks := tk + 1 }) ho fun h'' he' sb => ?_⟩
    have gT : h''.get? s.heap.objs.size = some { cls := .type "tuple", data := .seq #[.int i tk, y] } := (sb.2 _ (Nat.ne_of_gt lte)).trans hT
    have new : ObjOk X.prog X.w (upd H s.heap.objs.size (.tup [.int (i : Nat), x])) h'' s.heap.objs.size (.tup [.int (i : Nat), x]) :=
      ⟨by show 2 ≤ sizeLine; decide, [.int i tk, y], .cons ⟨_, rfl⟩ (.cons ru .nil), ⟨_, gT, rfl, _, rfl⟩⟩
    have J : Inv X pins σ (upd H s.heap.objs.size (.tup [.int (i : Nat), x])) { s with heap := h'', toks := tk + 1 } :=
      I.turnedNew (ch := [e, it]) (fun b ob hb q => (sb.2 b (fun z => hb (by simp [z]))).trans (kp b ob (fun z => hb (by simp [z])) (fun z => hb (by simp [z])) q)) hf (Nat.le_refl _) new
    refine ⟨.ref s.heap.objs.size, _, J, rfl, ⟨_, x, rfl, I.hok.fresh (Nat.le_refl _), rfl, fun ys hy => by rw [I.tuple_inj hy hq]; exact hx⟩, ⟨⟨y, ?_⟩, st'.1.at fun o q => (sb.2 it (Ne.symm ne)).trans q, ne, nai, nae⟩, fun b hb => ?_⟩
    · have e1 : ((i + 1 : Nat) : Int) = (i : Int) + 1 := by omega
      rw [e1]
      exact he'
    · have lb : b < s.heap.objs.size := by
        rcases (show b = e ∨ b = it by simpa using hb) with z | z
        · rw [z]
          exact lte
        · rw [z]
          exact lti
      rw [upd_ne (Nat.ne_of_lt lb)]
      exact (hf b hb).1
  done := by
    intro X hP hw hK hc i pins s σ H E I hf st hg
    subst hP hw hK
    obtain ⟨⟨old, he⟩, hit, ne, nai, nae⟩ := st
    obtain ⟨xs, hq, hx⟩ := hg
    obtain ⟨its, rv, p, hz⟩ := I.tuple hq
    obtain ⟨f0, f1, f2, f3, f4, f5⟩ := hf it (by simp)
    have hl := rv.length
    refine wpAny_pyNext_enum_endD (no_draws (A := X.A.in1) (show X.A.in1.handled = none from I.ok.hd hc) it a its.toArray i (by simp; omega)) he ⟨hit, p⟩ fun h' eb => ?_
    exact ⟨rfl, I.turned (t' := s.toks) (fun b o hb q => eb b o hb q) f0 f1 f3 f4 f5⟩
  self := fun A i s Q E st h => let ⟨⟨_, he⟩, _⟩ := st; wpAny_pyIter_enum he h
/-- for i, x in enumerate(t), t a list or a tuple -/
def iEnumT (K : PySem.W.Frag) (ta : TA) : TI := fun σ H R => ta σ H fun vs H1 => ∃ a xs, vs = [.ref a] ∧ SqT K H1 a xs ∧ R (IteT K a) H1
theorem pi_enumT {X : Cx} {e : Expr} {ta : TA} {p pos tpos : Pos} {elts : List Expr} {kk : Nat} (hg : Gl X "enumerate") (hm : X.mg "enumerate" = none) (ha : PA X [e] ta) (hs : starEach [e] X.env = [(false, eval e X.env)] := by rfl) :
    PI X (.Tuple elts kk tpos) (.Call (.Name "enumerate" p) [e] [] pos) (iEnumT X.K ta) := by
  refine ⟨fun pins s σ H R I h => ?_⟩
  refine Call_ (ld_blt I hg hm boot_enumerate (PyProof.Rows.callWith_type1 (thn (ha.run pos pins s σ H _ I h) fun us s1 ⟨vs, H1, I1, r1, q1⟩ => ?_) hs rfl))
  obtain ⟨a, xs, rfl, hq, q⟩ := q1
  cases r1 with
  | cons r rr =>
    cases rr
    cases r
    obtain ⟨its, rv, p', hz⟩ := I1.tuple hq
    have lta : a < s1.heap.objs.size := let ⟨_, z, _⟩ := p'; Heap.lt_size z
    refine call_enum1 (begins_tuple a its.toArray) p' fun h' he hit kp => wpAny_pyIter_enum he ?_
    have I2 : Inv X pins σ H1 { s1 with heap := h' } := I1.kept (t' := s1.toks) kp
    refine ⟨s1.heap.objs.size + 1, [s1.heap.objs.size + 1, s1.heap.objs.size], _, _, H1, rfl, I2, turn_enumT a (s1.heap.objs.size + 1) s1.heap.objs.size,
      ⟨⟨.none, he⟩, ⟨_, hit, rfl, rfl⟩, Nat.succ_ne_self _, Nat.ne_of_lt lta, Nat.ne_of_lt (Nat.lt_succ_of_lt lta)⟩, fun b hb => ?_, q⟩
    have le : s1.heap.objs.size ≤ b := by
      rcases (show b = s1.heap.objs.size + 1 ∨ b = s1.heap.objs.size by simpa using hb) with z | z
      · rw [z]
        exact Nat.le_add_right _ _
      · rw [z]
        exact Nat.le_refl _
    exact I1.fpOk le (I1.hok.fresh le)
end Ru
set_option Elab.async false
set_option linter.all false
set_option maxRecDepth 100000
set_option maxHeartbeats 4000000
/-! Ru6: in and not in over a tuple of data; sorted of a list of data. -/
namespace Ru
open PySem PySem.Spec
open PyProof.Rows L2
section
variable {X : Cx}
/-- x in t, x not in t: t a tuple that reads as data -/
def rInT (K : PySem.W.Frag) (neg : Bool) : R2 := fun x y H Q => ∃ (d : PyData) (ds : List PyData), Dp K H x d ∧ Dp K H y (.tuple ds) ∧ SeqAt.shaped d = true ∧ SeqAt.shaped (.tuple ds) = true ∧ Q (.bl (if neg then !(ds.any fun z => PyData.eqv z d) else ds.any fun z => PyData.eqv z d)) H
theorem op_inT (hu : X.A.units + 65 < cLine) : OpR X (compareOp .In) (rInT X.K false) := by
  intro pins s σ H x y v u Q I rx ry h
  obtain ⟨d, ds, hd, he, sd, se, q⟩ := h
  obtain ⟨as, r1⟩ := Dp.reads I d x v hd rx
  obtain ⟨bs, r2⟩ := Dp.reads I (.tuple ds) y u he ry
  exact SeqAt.in_tuple_reads r2 r1 (SeqAt.canLay_of_shaped se) (SeqAt.canLay_of_shaped sd) (room_in_shaped sd hu) ⟨.bl _, H, I, rfl, q⟩
theorem op_notInT (hu : X.A.units + 65 < cLine) : OpR X (compareOp .NotIn) (rInT X.K true) := by
  intro pins s σ H x y v u Q I rx ry h
  obtain ⟨d, ds, hd, he, sd, se, q⟩ := h
  obtain ⟨as, r1⟩ := Dp.reads I d x v hd rx
  obtain ⟨bs, r2⟩ := Dp.reads I (.tuple ds) y u he ry
  exact SeqAt.notIn_tuple_reads r2 r1 (SeqAt.canLay_of_shaped se) (SeqAt.canLay_of_shaped sd) (room_in_shaped sd hu) ⟨.bl _, H, I, rfl, q⟩
/-- each value with what it reads as -/
theorem each_of {pins : List (Addr × Obj)} {σ : L2.St} {H : Hp} {s : Shared} (I : Inv X pins σ H s) : ∀ {xs : List V} {ds : List PyData} {us : List Value}, DpAll X.K H xs ds → Vals xs us →
    PySem.W.EachIs (fun v (b : V × PyData) => RelV b.1 v) us (xs.zip ds) ∧ PySem.W.EachIs (fun v (b : V × PyData) => ∃ as, Reads s.heap v b.2 as) us (xs.zip ds)
  | [], _, _, .nil, r => by
    cases r
    exact ⟨.nil, .nil⟩
  | x :: xs, d :: ds, us, .cons h t, r => by
    cases r with
    | cons rx rr =>
      obtain ⟨a, b⟩ := each_of I t rr
      exact ⟨.cons rx a, .cons (Dp.reads I d x _ h rx) b⟩
theorem vals_of_each : ∀ {us : List Value} {bs : List (V × PyData)}, PySem.W.EachIs (fun v (b : V × PyData) => RelV b.1 v) us bs → Vals (bs.map (·.1)) us
  | _, _, .nil => .nil
  | _, _, .cons h t => .cons h (vals_of_each t)
theorem dpAll_len {K : PySem.W.Frag} {H : Hp} : ∀ {xs : List V} {ds : List PyData}, DpAll K H xs ds → xs.length = ds.length
  | _, _, .nil => rfl
  | _, _, .cons _ t => congrArg Nat.succ (dpAll_len t)
/-- sorted of a list that reads as data -/
def rSortedD (K : PySem.W.Frag) : List V → Hp → VK → Prop := fun vs H Q => ∃ (a : Addr) (xs : List V) (ds : List PyData), vs = [.ref a] ∧ SqL K H a xs ∧ DpAll K H xs ds ∧ PySem.W.AllAlike ds ∧ PySem.W.Sortable ds ∧ (∀ d ∈ ds, d.depth ≤ 30) ∧
  ∀ p, H p = none → Q (.ref p) (upd H p (.lst (((xs.zip ds).mergeSort (PySem.W.dataLe false (·.2))).map (·.1))))
theorem cr_sortedD (hu : X.A.units + 64 < cLine) : CallR X (.builtin "sorted") (rSortedD X.K) := by
  intro pins s σ H vs us Q I r h
  obtain ⟨a, xs, ds, rfl, hs, hd, hal, hso, hdep, q⟩ := h
  cases r with
  | cons rv rn =>
    cases rn
    cases rv
    obtain ⟨its, rv, pl, hz⟩ := I.list hs
    have el := dpAll_len hd
    obtain ⟨e1, e2⟩ := each_of I hd rv
    have em : (xs.zip ds).map (·.2) = ds := by
      rw [List.map_snd_zip (by omega)]
    have lz : (xs.zip ds).length = xs.length := by
      rw [List.length_zip]
      omega
    refine PySem.W.sorted_data (bs := xs.zip ds) (enc := (·.2)) pl.isList e1 e2 (by rw [em]; exact hal) (by rw [em]; exact hso) (by omega) (fun b hb => ?_) fun out hlen hout => ?_
    · have hm : b.2 ∈ ds := by
        rw [← em]
        exact List.mem_map.mpr ⟨b, hb, rfl⟩
      have := hdep _ hm
      omega
    · obtain ⟨c, hc⟩ := PyProof.Rows.sortedAll_at s.heap its out.toArray
      have le : s.heap.objs.size ≤ s.heap.objs.size + 1 := Nat.le_succ _
      refine ⟨.ref (s.heap.objs.size + 1), _, I.laid (t' := s.toks) (o := .lst (((xs.zip ds).mergeSort (PySem.W.dataLe false (·.2))).map (·.1))) (fun b o e => PyProof.Rows.sortedAll_old e) le ⟨?_, out, c, vals_of_each hout, hc⟩, rfl, q _ (I.hok.fresh le)⟩
      rw [List.length_map, List.length_mergeSort, lz]
      exact hz
end
end Ru
set_option Elab.async false
set_option linter.all false
set_option maxRecDepth 100000
set_option maxHeartbeats 4000000
/-! Ru7: an exception that is kept under another name when its clause is over; its classes. -/
namespace Ru
open PySem PySem.Spec
open PyProof.Rows L2
/-- a caught exception of the class cls, at a -/
def ExT (cls : Value) (d : Option Addr) (a : Addr) : HO := .ext fun h => ∃ (oe : Obj) (vs : Array Value), h.get? a = some oe ∧ Zc cls d oe ∧ oe.data = .fields vs
theorem exT_ok {P : Program} {w : World} {H : Hp} {h : Heap} {a : Addr} {cls : Value} {d : Option Addr} {oe : Obj} {vs : Array Value} (e : h.get? a = some oe) (z : Zc cls d oe) (dd : oe.data = .fields vs) : ObjOk P w H h a (ExT cls d a) :=
  ⟨⟨oe, vs, e, z, dd⟩, ⟨oe, e⟩, fun _ _ ⟨o, v, q, r⟩ k => ⟨o, v, k o q, r⟩⟩
section
variable {X : Cx} {pins : List (Addr × Obj)} {σ : L2.St} {H : Hp} {s : Shared}
/-- an object that stands there, new since the def began, is told of from now on -/
theorem track {a : Addr} {cls : Value} {d : Option Addr} {oe : Obj} {vs : Array Value} (I : Inv X pins σ H s) (ha : s.heap.get? a = some oe) (hz : Zc cls d oe) (hd : oe.data = .fields vs) (na : H a = none) (n0 : X.s_0.heap.get? a = none) (nL : a ≠ X.env.locals)
    (np : ∀ p ∈ X.pn ++ pins, p.1 ≠ a) : Inv X pins σ (upd H a (ExT cls d a)) s := by
  refine ⟨I.ok, I.os, I.bare, ⟨I.base.keep, I.base.slot, fun b o e n hb => ?_, I.base.there, fun b xs e => ?_, fun b o u e => ?_, fun b ps e => ?_⟩, I.loc, I.cell, ?_, fun x c e => ?_, fun p hp => ?_, fun b o e => ?_, I.len⟩
  · rw [upd_ne (fun z => by rw [z, n0] at e; cases e)]
    exact I.base.free b o e n hb
  · have z := I.base.tups b xs e
    rw [upd_ne (ne_of_none z na)]
    exact z
  · have z := I.base.frzs b o u e
    rw [upd_ne (ne_of_none z na)]
    exact z
  · obtain ⟨more, z⟩ := I.base.tbls b ps e
    refine ⟨more, ?_⟩
    rw [upd_ne (ne_of_none z na)]
    exact z
  · rw [upd_ne nL.symm]
    exact I.free
  · have hc : c ≠ a := by
      intro z
      obtain ⟨v, oc, e1, e2⟩ := I.cell x c e
      rw [z, ha] at e1
      cases e1
      rw [hd] at e2
      cases e2
    rw [upd_ne hc]
    exact I.freeC x c e
  · obtain ⟨q1, q2, q3, q4, q5⟩ := I.pin p hp
    refine ⟨q1, ?_, q3, q4, q5⟩
    rw [upd_ne (np p hp)]
    exact q2
  · by_cases q : b = a
    · subst q
      rw [upd_same] at e
      cases e
      exact exT_ok ha hz hd
    · rw [upd_ne q] at e
      exact (I.hok b o e).stay (fun _ _ _ z => z) (fun c z => by rw [upd_ne (ne_of_none z na)]; exact z) fun c xs z => by rw [upd_ne (ne_of_none z na)]; exact z
/-- a suite's end: what it pinned stays pinned -/
theorem unsuiteP {a : Addr} {oe : Obj} {pn' : List (Addr × Obj)} (I : Inv (X.suite a ((a, oe) :: (X.pn ++ pins))) pn' σ H s) (ok : X.Ok) : Inv X ((a, oe) :: pins) σ H s :=
  ⟨ok, I.os, I.bare, I.base, I.loc, I.cell, I.free, I.freeC, fun p hp => I.pin p (List.mem_append_left _ (by
    rcases List.mem_append.mp hp with z | z
    · exact List.mem_cons_of_mem _ (List.mem_append_left _ z)
    · rcases List.mem_cons.mp z with y | y
      · exact y ▸ List.mem_cons_self
      · exact List.mem_cons_of_mem _ (List.mem_append_right _ y))), I.hok, I.len⟩
theorem fewer {p : Addr × Obj} (I : Inv X (p :: pins) σ H s) : Inv X pins σ H s :=
  ⟨I.ok, I.os, I.bare, I.base, I.loc, I.cell, I.free, I.freeC, fun q hq => I.pin q (by
    rcases List.mem_append.mp hq with z | z
    · exact List.mem_append_left _ z
    · exact List.mem_append_right _ (List.mem_cons_of_mem _ z)), I.hok, I.len⟩
end
/-- 'except x as n' whose exception outlives the clause: slot i is n's; behind the suite the object is told of -/
def wKeep (K : PySem.W.Frag) (c : Value) (i : Nat) (ts : Addr → Value → Option Addr → TS) (Wout : WX) (D : Ends) : WX := fun cls d σ H =>
  ∃ b, PySem.W.exmOne K cls c = some b ∧ (b = true → ∀ a, H a = none → ts a cls d { nx := fun σ' H' => H' a = none → D.nx (σ'.set i none) (upd H' a (ExT cls d a)), rt := fun _ _ => False } (σ.set i (some (.ref a))) H) ∧ (b = false → Wout cls d σ H)
section
variable {X : Cx} {x n : PySem.Str} {c : Value} {i : Nat} {body suite : List Stmt} {b₀ : Stmt} {np pos pos' : Pos} {tb : WX → TS} {ts : Addr → Value → Option Addr → TS} {Wout : WX}
theorem ps_try_keep (sk : X.stack = X.env :: X.outer) (fr : X.env.frame = some X.env.locals) (ex0 : X.ex = []) (nodup : X.N.Nodup) (ix : X.N[i]? = some n) (kl : X.env.kindOf n = some .local) (nm : Names X x c) (tko : Takes X Wout)
    (bodyOk : ∀ (W : WX) (pn : List (Addr × Obj)) (xe : Value → Shared → Prop), Takes (X.tr pn xe) W → PassesOwn (model X.prog X.w) X.A X.env xe → PSs (X.tr pn xe) body (tb W))
    (suiteOk : ∀ (a : Addr) (oe : Obj) (cls : Value) (d : Option Addr) (pn : List (Addr × Obj)), Zc cls d oe → (∃ vs, oe.data = .fields vs) → PSs (X.suite a ((a, oe) :: pn)) (b₀ :: suite) (ts a cls d)) :
    PS X (.Try body [.ExceptHandler (some (.Name x np)) (some n) (b₀ :: suite) pos'] [] [] pos) (fun D σ H => tb (wKeep X.K c i ts Wout D) D σ H) := by
  constructor
  intro pins s σ H D I wish
  have xok := I.ok
  have frames : X.A.frames = some (X.env :: X.outer) := by rw [xok.frames, sk]
  refine wpAny_Try_except ?_
  let hands : List ExceptHandler := [.ExceptHandler (some (.Name x np)) (some n) (b₀ :: suite) pos']
  have run := (bodyOk (wKeep X.K c i ts Wout D) (X.pn ++ pins) (fun e s₁ => wpAny (model X.prog X.w) X.A (noteFrame e X.env) (fun _ s₂ => wpAny (model X.prog X.w) X.A (setFlight e none) (fun _ s₃ =>
    wpAny (model X.prog X.w) X.A (handleBy e X.env hands) (SP X pins D) X.xe s₃) X.xe s₂) X.xe s₁) (fun u s' air => ?_) PassesOwn.looking).run [] s σ H D (I.toTry _) wish
  · refine wpAny_mono run (fun fl s1 done => ?_) (fun e s1 z => z)
    cases fl with
    | next =>
      obtain ⟨σ1, H1, J1, q⟩ := done
      exact wpAny_execs_nil ⟨σ1, H1, J1.ofTry xok, q⟩
    | brk =>
      obtain ⟨σ1, H1, J1, q⟩ := done
      exact ⟨σ1, H1, J1.ofTry xok, q⟩
    | cont =>
      obtain ⟨σ1, H1, J1, q⟩ := done
      exact ⟨σ1, H1, J1.ofTry xok, q⟩
    | ret u =>
      obtain ⟨v, σ1, H1, J1, rv, q⟩ := done
      exact ⟨v, σ1, H1, J1.ofTry xok, rv, q⟩
  · obtain ⟨a, B, sI, pins1, σ1, H1, cls, d, rfl, J0, inB, slots, sky, na, osEq, bare1, b, isB, yes, no⟩ := air
    have J : Inv X pins σ1 H1 sI := J0.ofTry xok
    rw [sk] at sky
    refine Sky.land Zc.steady frames fr sky fun hA flA upA => ?_
    have JA : Inv X pins σ1 H1 { s' with heap := hA } := J.landed inB flA.1 (slots.trans upA) osEq bare1
    obtain ⟨oA, vA, getA, zA, dA⟩ := flA.there
    have offFrames : a ∉ frs (X.env :: X.outer) := fun hm => by
      obtain ⟨_, o', e', noFields⟩ := flA.2.2.1.mem hm
      rw [getA] at e'
      cases e'
      exact noFields _ dA
    have offLocals : a ≠ X.env.locals := fun z => offFrames (List.mem_filterMap.mpr ⟨X.env, List.mem_cons_self, by rw [fr, z]⟩)
    have offFs : a ∉ X.fs := fun hm => by
      obtain ⟨e, he, z⟩ := List.mem_filterMap.mp hm
      exact offFrames (List.mem_filterMap.mpr ⟨e, List.mem_cons_of_mem _ he, z⟩)
    have newI : sI.heap.get? a = none := by
      cases z : sI.heap.get? a with
      | none => rfl
      | some o =>
        have y := inB a o z (by rw [sk]; exact offFrames)
        rw [flA.2.1] at y
        cases y
    have new0 : X.s_0.heap.get? a = none := by
      cases z : X.s_0.heap.get? a with
      | none => rfl
      | some o =>
        obtain ⟨o', y⟩ := J.base.there a o z (by rw [ex0]; exact fun q => nomatch q)
        rw [newI] at y
        cases y
    have offPins : ∀ p ∈ X.pn ++ pins, p.1 ≠ a := fun p hp z => by
      have y := (J.pin p hp).1
      rw [z, newI] at y
      cases y
    have SA := JA.suite getA dA na offLocals offFs
    refine wpAny_handleBy_cons (codeAny_handlers_test ?_) (by intro q; cases q)
    have typeA : PySem.W.Looks (model X.prog X.w) hA (typeOf (.ref a)) cls := fun A Q E s k q => wpAny_typeOf_ref (k _ _ getA) (by rw [zA.1]; exact q)
    have fits := PySem.W.exm_one (M := model X.prog X.w) (JA.kIn) typeA isB
    have named : ∀ {Q : Value → Shared → Prop} {E : Value → Shared → Prop}, Q c { s' with heap := hA } → wpAny (model X.prog X.w) (X.A.mark (some (.ref a))) (eval (.Name x np) X.env) Q E { s' with heap := hA } := by
      intro Q E q
      obtain ⟨gl, dbg, hm | ⟨hm, hv, hnn⟩⟩ := nm
      · exact ld_glob (X := X.suite a ((a, oA) :: (X.pn ++ pins))) SA gl hm q dbg
      · exact ld_blt (X := X.suite a ((a, oA) :: (X.pn ++ pins))) SA gl hm hv q hnn dbg
    refine named (fits.here ?_)
    cases b with
    | false =>
      show wpAny _ X.A (handleBy (.ref a) X.env []) _ _ _
      refine wpAny_handleBy_nil ?_
      obtain ⟨_, _, _, oe, ve, T, oT, _, getE, _, dE, oneT, _⟩ := id flA
      unfold PySem.passOn
      refine wpAny_bind (wpAny_field getE dE oneT ?_)
      rw [if_neg (show ¬ ((Value.ref T == Value.none) = true) from by simp)]
      have onward : wpAny (model X.prog X.w) X.A (setFlight (.ref a) X.env.frame) (fun _ s4 => wpAny (model X.prog X.w) X.A (throw (.ref a) : Sem Flow) (SP X pins D) X.xe s4) X.xe { s' with heap := hA } := by
        rw [fr]
        refine HandSPX.setFlight_upZ flA fun hB hh upB => wpAny_throw (tko _ _ ?_)
        exact ⟨a, B, sI, pins, σ1, H1, cls, d, rfl, J, inB, (slots.trans upA).trans upB, .inr (.inr (by rw [sk]; exact hh)), na, osEq, bare1, no rfl⟩
      first
        | exact wpAny_bind (wpAny_pure (wpAny_bind onward))
        | exact wpAny_bind onward
    | true =>
      refine codeAny_handlers_suite_as ?_
      refine HandSPX.lands_againZ flA fun hB flB upB => ?_
      have JB : Inv X pins σ1 H1 { s' with heap := hB } := J.landed inB flB.1 ((slots.trans upA).trans upB) osEq bare1
      obtain ⟨oB, vB, getB, zB, dB⟩ := flB.there
      have SB := JB.suite getB dB na offLocals offFs
      refine store_ok (X := X.suite a ((a, oB) :: (X.pn ++ pins))) (v := .ref a) SB nodup ix (.inl kl) rfl (fun s5 S5 => ?_) (.inr kl)
      refine wpAny_mono ((suiteOk a oB cls d (X.pn ++ pins) zB ⟨_, dB⟩).run [] s5 _ H1 _ S5 (yes rfl a na)) (fun fl s6 done => ?_) (fun _ _ z => z.elim)
      cases fl with
      | next =>
        obtain ⟨σ6, H6, S6, q6⟩ := done
        refine gone_ok (unsuiteP S6 xok) nodup ix kl fun s7 J7 => ?_
        obtain ⟨get7, na7, _⟩ := J7.pin (a, oB) (List.mem_append_right _ List.mem_cons_self)
        exact ⟨_, _, track (fewer J7) get7 zB dB na7 new0 offLocals offPins, q6 na7⟩
      | brk =>
        obtain ⟨_, _, _, q6⟩ := done
        exact q6.elim
      | cont =>
        obtain ⟨_, _, _, q6⟩ := done
        exact q6.elim
      | ret u =>
        obtain ⟨_, _, _, _, _, q6⟩ := done
        exact q6.elim
end
/-! ### isinstance of a caught exception -/
/-- one class, or a new tuple of classes -/
def rIsX (K : PySem.W.Frag) : List V → Hp → VK → Prop := fun xs H Q => ∃ (a D : Addr) (c : V) (cv : Value) (b : Bool), xs = [.ref a, c] ∧ H a = some (ExT (.ref D) none a) ∧ ExcC K D ∧ ClsV c cv ∧ PySem.W.kitOne K (.ref D) cv = some b ∧ Q (.bl b) H
def rIsXT (K : PySem.W.Frag) : List V → Hp → VK → Prop := fun xs H Q => ∃ (a D tp : Addr) (cs : List V) (us : List Value) (b : Bool), xs = [.ref a, .ref tp] ∧ H a = some (ExT (.ref D) none a) ∧ ExcC K D ∧ H tp = some (.tup cs) ∧ Paired ClsV cs us ∧ PySem.W.kitAny K (.ref D) us = some b ∧ Q (.bl b) H
section
variable {X : Cx}
theorem exT_at {pins : List (Addr × Obj)} {σ : L2.St} {H : Hp} {s : Shared} {a D : Addr} (I : Inv X pins σ H s) (h : H a = some (ExT (.ref D) none a)) : ∃ oe, PySem.W.InstAt s.heap a oe D none := by
  obtain ⟨⟨oe, vs, e, z, d⟩, _⟩ := (show ObjOk X.prog X.w H s.heap a (ExT (.ref D) none a) from I.hok a _ h)
  obtain ⟨oc, od, oda, osl⟩ := oe
  obtain ⟨h1, h2⟩ := z
  dsimp only at h1 h2 d
  subst h1 h2 d
  exact ⟨_, e, rfl, rfl, trivial⟩
theorem call_isX : CallR X (.builtin "isinstance") (rIsX X.K) := by
  intro pins s σ H xs us Q I r h
  obtain ⟨a, D, c, cv, b, rfl, ha, C, k, e, q⟩ := h
  obtain ⟨u1, u2, rfl, r1, r2⟩ := vals2 r
  obtain rfl : u1 = Value.ref a := r1
  have ec := k.eq r2
  subst ec
  obtain ⟨oe, J⟩ := exT_at I ha
  exact PySem.W.kia_one (PySem.W.handS_kitx_exc C.hg C.hk C.hs C.hd C.ha C.hn C.ht C.hm) I.kIn J e (fun z => nomatch z) fun tk => ⟨.bl b, H, I.tok tk, rfl, q⟩
theorem call_isXT : CallR X (.builtin "isinstance") (rIsXT X.K) := by
  intro pins s σ H xs us Q I r h
  obtain ⟨a, D, tp, cs, ws, b, rfl, ha, C, hT, k, e, q⟩ := h
  obtain ⟨u1, u2, rfl, r1, r2⟩ := vals2 r
  obtain rfl : u1 = Value.ref a := r1
  cases (show u2 = Value.ref tp from r2)
  obtain ⟨oe, J⟩ := exT_at I ha
  obtain ⟨_, its, rv, o, h1, h2, n, h3⟩ := (show ObjOk X.prog X.w H s.heap tp (.tup cs) from I.hok tp _ hT)
  have e3 := ClsV.all k rv
  subst e3
  obtain ⟨oc, od, dt, sl⟩ := o
  simp only at h2 h3
  subst h2 h3
  exact PySem.W.kia_tup (PySem.W.handS_kitx_exc C.hg C.hk C.hs C.hd C.ha C.hn C.ht C.hm) I.kIn J h1 e (fun z => nomatch z) fun tk => ⟨.bl b, H, I.tok tk, rfl, q⟩
end
end Ru
set_option Elab.async false
set_option linter.all false
set_option maxRecDepth 100000
set_option maxHeartbeats 4000000
/-! Dn1: data (Dat), what stands for it in a part G of the heap that only grows (Rep), and what a reading comes to, told by data alone (Den). -/
namespace Dn
open PySem PySem.Spec
open PyProof.Rows L2
open Evl (Ex fresh_back)

inductive Dat where
  | s (v : V)
  | lst (ds : List Dat)
  | tup (ds : List Dat)
  | dct (ks : List Key) (ds : List Dat)
  | ins (C : Addr) (ns : List Str) (ds : List Dat)
namespace Dat
abbrev int (i : Int) : Dat := .s (.int i)
abbrev str (x : Str) : Dat := .s (.str x)
abbrev bl (b : Bool) : Dat := .s (.bl b)
abbrev non : Dat := .s .non
end Dat
mutual
inductive Rep (K : PySem.W.Frag) (G : Hp) : V → Dat → Prop
  | s (v : V) : Rep K G v (.s v)
  | lst {a : Addr} {xs : List V} {ds : List Dat} : G a = some (.lst xs) → RepAll K G xs ds → Rep K G (.ref a) (.lst ds)
  | tup {a : Addr} {xs : List V} {ds : List Dat} : SqT K G a xs → RepAll K G xs ds → Rep K G (.ref a) (.tup ds)
  | dct {a : Addr} {kvs : List (Key × V)} {ks : List Key} {ds : List Dat} : G a = some (.dK kvs) → kvs.map (·.1) = ks → RepAll K G (kvs.map (·.2)) ds → Rep K G (.ref a) (.dct ks ds)
  | ins {a C dx : Addr} {fs : List (Str × V)} {ns : List Str} {ds : List Dat} : G a = some (.ins C dx fs) → fs.map (·.1) = ns → RepAll K G (fs.map (·.2)) ds → Rep K G (.ref a) (.ins C ns ds)
inductive RepAll (K : PySem.W.Frag) (G : Hp) : List V → List Dat → Prop
  | nil : RepAll K G [] []
  | cons {v : V} {vs : List V} {d : Dat} {ds : List Dat} : Rep K G v d → RepAll K G vs ds → RepAll K G (v :: vs) (d :: ds)
end
section
variable {K : PySem.W.Frag} {G G' H H' G2 H2 : Hp}
mutual
theorem Rep.mono (e : Ex G G') : ∀ (d : Dat) (v : V), Rep K G v d → Rep K G' v d
  | .s v, _, h => by
    cases h
    exact .s v
  | .lst ds, _, h => by
    cases h with
    | lst a b => exact .lst (e _ _ a) (RepAll.mono e _ _ b)
  | .tup ds, _, h => by
    cases h with
    | tup a b => exact .tup (Evl.ex_t e a) (RepAll.mono e _ _ b)
  | .dct ks ds, _, h => by
    cases h with
    | dct a b c => exact .dct (e _ _ a) b (RepAll.mono e _ _ c)
  | .ins C ns ds, _, h => by
    cases h with
    | ins a b c => exact .ins (e _ _ a) b (RepAll.mono e _ _ c)
theorem RepAll.mono (e : Ex G G') : ∀ (ds : List Dat) (vs : List V), RepAll K G vs ds → RepAll K G' vs ds
  | [], _, h => by
    cases h
    exact .nil
  | d :: ds, _, h => by
    cases h with
    | cons a b => exact .cons (Rep.mono e _ _ a) (RepAll.mono e _ _ b)
end
theorem Rep.up {v : V} {d : Dat} (h : Rep K G v d) (e : Ex G G') : Rep K G' v d := Rep.mono e _ _ h
theorem RepAll.up {vs : List V} {ds : List Dat} (h : RepAll K G vs ds) (e : Ex G G') : RepAll K G' vs ds := RepAll.mono e _ _ h
theorem RepAll.len : ∀ {vs : List V} {ds : List Dat}, RepAll K G vs ds → vs.length = ds.length
  | _, _, .nil => rfl
  | _, _, .cons _ t => congrArg Nat.succ t.len
theorem RepAll.get : ∀ {vs : List V} {ds : List Dat} {i : Nat} {d : Dat}, RepAll K G vs ds → ds[i]? = some d → ∃ v, vs[i]? = some v ∧ Rep K G v d
  | _, _, _, _, .nil, e => by simp at e
  | _, _, 0, _, .cons h _, e => by
    simp at e
    subst e
    exact ⟨_, rfl, h⟩
  | _, _, i + 1, _, .cons _ t, e => by
    simp at e
    obtain ⟨v, e1, r⟩ := t.get e
    exact ⟨v, by simpa using e1, r⟩
theorem RepAll.get' : ∀ {vs : List V} {ds : List Dat} {i : Nat} {v : V}, RepAll K G vs ds → vs[i]? = some v → ∃ d, ds[i]? = some d ∧ Rep K G v d
  | _, _, _, _, .nil, e => by simp at e
  | _, _, 0, _, .cons h _, e => by
    simp at e
    subst e
    exact ⟨_, rfl, h⟩
  | _, _, i + 1, _, .cons _ t, e => by
    simp at e
    obtain ⟨v, e1, r⟩ := t.get' e
    exact ⟨v, by simpa using e1, r⟩
theorem RepAll.app : ∀ {vs us : List V} {ds es : List Dat}, RepAll K G vs ds → RepAll K G us es → RepAll K G (vs ++ us) (ds ++ es)
  | _, _, _, _, .nil, h => h
  | _, _, _, _, .cons a t, h => .cons a (t.app h)
theorem RepAll.drop : ∀ {vs : List V} {ds : List Dat} (n : Nat), RepAll K G vs ds → RepAll K G (vs.drop n) (ds.drop n)
  | _, _, 0, h => h
  | _, _, n + 1, .nil => .nil
  | _, _, n + 1, .cons _ t => t.drop n
theorem RepAll.take : ∀ {vs : List V} {ds : List Dat} (n : Nat), RepAll K G vs ds → RepAll K G (vs.take n) (ds.take n)
  | _, _, 0, h => .nil
  | _, _, n + 1, .nil => .nil
  | _, _, n + 1, .cons a t => .cons a (t.take n)
theorem RepAll.set : ∀ {vs : List V} {ds : List Dat} (n : Nat) {v : V} {d : Dat}, RepAll K G vs ds → Rep K G v d → RepAll K G (vs.set n v) (ds.set n d)
  | _, _, _, _, _, .nil, h => .nil
  | _, _, 0, _, _, .cons _ t, h => .cons h t
  | _, _, n + 1, _, _, .cons a t, h => .cons a (t.set n h)
theorem RepAll.dropLast : ∀ {vs : List V} {ds : List Dat}, RepAll K G vs ds → RepAll K G vs.dropLast ds.dropLast := fun {vs ds} h => by
  rw [List.dropLast_eq_take, List.dropLast_eq_take, h.len]
  exact h.take _
theorem RepAll.rep {v : V} {d : Dat} (h : Rep K G v d) : ∀ n, RepAll K G (List.replicate n v) (List.replicate n d)
  | 0 => .nil
  | n + 1 => .cons h (RepAll.rep h n)
/-- values that are data by themselves -/
theorem RepAll.vals : ∀ (vs : List V), RepAll K G vs (vs.map Dat.s)
  | [] => .nil
  | v :: vs => .cons (.s v) (RepAll.vals vs)
theorem rep_s {v w : V} (h : Rep K G v (.s w)) : v = w := by
  cases h
  rfl
theorem repAll_s : ∀ {vs ws : List V}, RepAll K G vs (ws.map Dat.s) → vs = ws
  | _, [], h => by
    cases h
    rfl
  | _, w :: ws, h => by
    cases h with
    | cons a t => rw [rep_s a, repAll_s t]

/-- G and H grow; what G gains is new to H -/
structure Fr (G H G' H' : Hp) : Prop where
  g : Ex G G'
  h : Ex H H'
  i : Ex G' H'
  n : ∀ a, G a = none → G' a ≠ none → H a = none
theorem Fr.refl (i : Ex G H) : Fr G H G H := ⟨Ex.refl G, Ex.refl H, i, fun _ a b => absurd a b⟩
theorem Fr.trans (a : Fr G H G' H') (b : Fr G' H' G2 H2) : Fr G H G2 H2 := ⟨a.g.trans b.g, a.h.trans b.h, b.i, fun x h0 h2 => by
  by_cases e : G' x = none
  · exact fresh_back a.h (b.n x e h2)
  · exact a.n x h0 e⟩
/-- a new object that both know -/
theorem Fr.new (i : Ex G H) {p : Addr} {o : HO} (h : H p = none) : Fr G H (upd G p o) (upd H p o) := by
  have g0 : G p = none := fresh_back i h
  refine ⟨Ex.new g0, Ex.new h, fun a u e => ?_, fun a e n => ?_⟩
  · by_cases q : a = p
    · subst q
      rw [upd_same] at e ⊢
      exact e
    · rw [upd_ne q] at e ⊢
      exact i a u e
  · by_cases q : a = p
    · subst q
      exact h
    · rw [upd_ne q] at n
      exact absurd e n
/-- G comes to know an object of H that it knew not -/
theorem Fr.take (f : Fr G H G' H') {p : Addr} {o : HO} (h : H p = none) (e : H' p = some o) (g0 : G' p = none) : Fr G H (upd G' p o) H' := by
  refine ⟨f.g.trans (Ex.new g0), f.h, fun a u e1 => ?_, fun a e1 n => ?_⟩
  · by_cases q : a = p
    · subst q
      rw [upd_same] at e1
      rw [← e1]
      exact e
    · rw [upd_ne q] at e1
      exact f.i a u e1
  · by_cases q : a = p
    · subst q
      exact h
    · rw [upd_ne q] at n
      exact f.n a e1 n

/-! ### the slots, told by data -/
abbrev DSt := List (Option Dat)
structure EnvD (K : PySem.W.Frag) (G : Hp) (σ : L2.St) (ρ : DSt) : Prop where
  len : σ.length = ρ.length
  at_ : ∀ (i : Nat) (d : Dat), ρ[i]? = some (some d) → ∃ v, σ[i]? = some (some v) ∧ Rep K G v d
variable {σ : L2.St} {ρ ρ' : DSt}
theorem EnvD.up (h : EnvD K G σ ρ) (e : Ex G G') : EnvD K G' σ ρ := ⟨h.len, fun i d q => let ⟨v, a, b⟩ := h.at_ i d q; ⟨v, a, b.up e⟩⟩
theorem EnvD.set (h : EnvD K G σ ρ) {v : V} {d : Dat} (r : Rep K G v d) (i : Nat) : EnvD K G (σ.set i (some v)) (ρ.set i (some d)) := by
  refine ⟨by rw [List.length_set, List.length_set, h.len], fun j e q => ?_⟩
  by_cases z : i = j
  · subst z
    rw [List.getElem?_set_self'] at q
    have hl : i < ρ.length := by
      cases hq : ρ[i]? with
      | none =>
        rw [hq] at q
        cases q
      | some x => exact (List.getElem?_eq_some_iff.mp hq).1
    rw [List.getElem?_eq_getElem hl] at q
    simp at q
    subst q
    refine ⟨v, ?_, r⟩
    rw [List.getElem?_set_self (by rw [h.len]; exact hl)]
  · rw [List.getElem?_set_ne z] at q
    rw [List.getElem?_set_ne z]
    exact h.at_ j e q
/-- slots that are no more looked at -/
def wipeD (ρ : DSt) : List Nat → DSt
  | [] => ρ
  | v :: vs => (wipeD ρ vs).set v none
theorem EnvD.wipe (h : EnvD K G σ ρ) : ∀ vs : List Nat, EnvD K G (L2.wipe σ vs) (wipeD ρ vs)
  | [] => h
  | v :: vs => by
    have ih := EnvD.wipe h vs
    show EnvD K G ((L2.wipe σ vs).set v none) ((wipeD ρ vs).set v none)
    refine ⟨by rw [List.length_set, List.length_set, ih.len], fun j e q => ?_⟩
    by_cases z : v = j
    · subst z
      rw [List.getElem?_set_self'] at q
      cases hq : (wipeD ρ vs)[v]? with
      | none =>
        rw [hq] at q
        cases q
      | some x =>
        rw [hq] at q
        simp at q
    · rw [List.getElem?_set_ne z] at q
      rw [List.getElem?_set_ne z]
      exact ih.at_ j e q
/-- fewer slots known -/
def lessD : DSt → DSt → Bool
  | [], [] => true
  | none :: a, _ :: b => lessD a b
  | _, _ => false
/-- the start of a def -/
theorem envD_start (N : List Str) {vs : List V} {ds : List Dat} (r : RepAll K G vs ds) : EnvD K G (L2.start N vs) (ds.map some ++ List.replicate (N.length - ds.length) none) := by
  unfold L2.start
  refine ⟨by simp [r.len], fun i d q => ?_⟩
  by_cases hl : i < ds.length
  · rw [List.getElem?_append_left (by simpa using hl)] at q
    rw [List.getElem?_append_left (by simpa [r.len] using hl)]
    simp at q
    obtain ⟨v, a, b⟩ := r.get q
    exact ⟨v, by simp [a], b⟩
  · rw [List.getElem?_append_right (by simpa using hl)] at q
    rw [List.getElem?_replicate] at q
    split at q
    · simp at q
    · cases q
end

/-! ### what comes of an expression -/
section
variable (K : PySem.W.Frag)
def Den (te : TE) (ρ : DSt) (d : Dat) : Prop := ∀ σ G H (Q : VK), Ex G H → EnvD K G σ ρ → (∀ v G' H', Fr G H G' H' → Rep K G' v d → Q v H') → te σ H Q
/-- a new list, not yet in G -/
def DenL (te : TE) (ρ : DSt) (ds : List Dat) : Prop := ∀ σ G H (Q : VK), Ex G H → EnvD K G σ ρ → (∀ p vs G' H', Fr G H G' H' → G' p = none → H p = none → H' p = some (.lst vs) → RepAll K G' vs ds → Q (.ref p) H') → te σ H Q
def DenT (tt : TT) (ρ : DSt) (b : Bool) : Prop := ∀ σ G H (Q : Bool → Hp → Prop), Ex G H → EnvD K G σ ρ → (∀ G' H', Fr G H G' H' → Q b H') → tt σ H Q
def DenA (ta : TA) (ρ : DSt) (ds : List Dat) : Prop := ∀ σ G H (Q : List V → Hp → Prop), Ex G H → EnvD K G σ ρ → (∀ vs G' H', Fr G H G' H' → RepAll K G' vs ds → Q vs H') → ta σ H Q
def DenO (to : Option Int → Hp → (Option Int → Hp → Prop) → Prop) : Prop := True
/-- a two-place operation, a one-place one, a call, by data -/
def RD (r : R2) (x y z : Dat) : Prop := ∀ G H (Q : VK) vx vy, Ex G H → Rep K G vx x → Rep K G vy y → (∀ v G' H', Fr G H G' H' → Rep K G' v z → Q v H') → r vx vy H Q
def RU (r : V → Hp → VK → Prop) (x z : Dat) : Prop := ∀ G H (Q : VK) vx, Ex G H → Rep K G vx x → (∀ v G' H', Fr G H G' H' → Rep K G' v z → Q v H') → r vx H Q
def RC (r : List V → Hp → VK → Prop) (xs : List Dat) (z : Dat) : Prop := ∀ G H (Q : VK) vs, Ex G H → RepAll K G vs xs → (∀ v G' H', Fr G H G' H' → Rep K G' v z → Q v H') → r vs H Q
def RCL (r : List V → Hp → VK → Prop) (xs : List Dat) (zs : List Dat) : Prop := ∀ G H (Q : VK) vs, Ex G H → RepAll K G vs xs → (∀ p vs G' H', Fr G H G' H' → G' p = none → H p = none → H' p = some (.lst vs) → RepAll K G' vs zs → Q (.ref p) H') → r vs H Q
/-- an assignment's target, over the slots js -/
def DenG (g : TG) (d : Dat) (ρ ρ' : DSt) (js : List Nat) : Prop := ∀ σ G H v (Q : L2.St → Hp → Prop), Ex G H → Rep K G v d → EnvD K G σ ρ → (∀ σ', σ'.length = σ.length → (∀ i, i ∉ js → σ'[i]? = σ[i]?) → ∀ G' H', Fr G H G' H' → EnvD K G' σ' ρ' → Q σ' H') → g v σ H Q
def DenGs (g : TGs) (ds : List Dat) (ρ ρ' : DSt) (js : List Nat) : Prop := ∀ σ G H vs (Q : L2.St → Hp → Prop), Ex G H → RepAll K G vs ds → EnvD K G σ ρ → (∀ σ', σ'.length = σ.length → (∀ i, i ∉ js → σ'[i]? = σ[i]?) → ∀ G' H', Fr G H G' H' → EnvD K G' σ' ρ' → Q σ' H') → g vs σ H Q
end
section
variable {K : PySem.W.Frag} {ρ ρ' ρ2 : DSt} {te ta tb tc : TE} {tt tu : TT} {d x y z : Dat} {ds es xs : List Dat} {r r' : R2} {b c : Bool}
theorem Den.is (h : Den K te ρ d) (e : d = x) : Den K te ρ x := e ▸ h
theorem DenT.is (h : DenT K tt ρ b) (e : b = c) : DenT K tt ρ c := e ▸ h
theorem DenL.is (h : DenL K te ρ ds) (e : ds = es) : DenL K te ρ es := e ▸ h
theorem DenA.is {t : TA} (h : DenA K t ρ ds) (e : ds = es) : DenA K t ρ es := e ▸ h
theorem DenL.den (h : DenL K te ρ ds) : Den K te ρ (.lst ds) := fun σ G H Q i e k => h σ G H Q i e fun p vs G' H' f g0 h0 e1 ra => by
  have f' := f.take h0 e1 g0
  exact k _ (upd G' p (.lst vs)) H' f' (.lst upd_same (ra.up (Ex.new g0)))
theorem den_var {i : Nat} (h : ρ[i]? = some (some d)) : Den K (tVar i) ρ d := fun σ G H Q i e k => by
  obtain ⟨v, a, r⟩ := e.at_ _ _ h
  exact ⟨v, a, k v G H (Fr.refl i) r⟩
theorem den_c {v : V} : Den K (tC v) ρ (.s v) := fun σ G H Q i e k => k v G H (Fr.refl i) (.s v)
theorem den_op (ha : Den K ta ρ x) (hb : Den K tb ρ y) (hr : RD K r x y z) : Den K (tOp r ta tb) ρ z := fun σ G H Q i e k =>
  ha σ G H _ i e fun v G1 H1 f1 r1 => hb σ G1 H1 _ f1.i (e.up f1.g) fun w G2 H2 f2 r2 => hr G2 H2 Q v w f2.i (r1.up f2.g) r2 fun u G3 H3 f3 r3 => k u G3 H3 ((f1.trans f2).trans f3) r3
theorem den_un {r : V → Hp → VK → Prop} (ha : Den K ta ρ x) (hr : RU K r x z) : Den K (tUn r ta) ρ z := fun σ G H Q i e k =>
  ha σ G H _ i e fun v G1 H1 f1 r1 => hr G1 H1 Q v f1.i r1 fun u G3 H3 f3 r3 => k u G3 H3 (f1.trans f3) r3
theorem da_nil : DenA K tNil ρ [] := fun σ G H Q i e k => k [] G H (Fr.refl i) .nil
theorem da_cons {t : TA} (ha : Den K ta ρ x) (hb : DenA K t ρ xs) : DenA K (tCons ta t) ρ (x :: xs) := fun σ G H Q i e k =>
  ha σ G H _ i e fun v G1 H1 f1 r1 => hb σ G1 H1 _ f1.i (e.up f1.g) fun w G2 H2 f2 r2 => k (v :: w) G2 H2 (f1.trans f2) (.cons (r1.up f2.g) r2)
theorem den_cb {r : List V → Hp → VK → Prop} {t : TA} (ha : DenA K t ρ xs) (hr : RC K r xs z) : Den K (tCB r t) ρ z := fun σ G H Q i e k =>
  ha σ G H _ i e fun v G1 H1 f1 r1 => hr G1 H1 Q v f1.i r1 fun u G3 H3 f3 r3 => k u G3 H3 (f1.trans f3) r3
theorem fresh_g {G H G' H' : Hp} (f : Fr G H G' H') {p : Addr} (h : H' p = none) : G' p = none := fresh_back f.i h
theorem dl_cb {r : List V → Hp → VK → Prop} {t : TA} (ha : DenA K t ρ xs) (hr : RCL K r xs es) : DenL K (tCB r t) ρ es := fun σ G H Q i e k =>
  ha σ G H _ i e fun v G1 H1 f1 r1 => hr G1 H1 Q v f1.i r1 fun p vs G3 H3 f3 g0 h0 e1 r3 => k p vs G3 H3 (f1.trans f3) g0 (fresh_back f1.h h0) e1 r3
theorem den_tup {t : TA} (ha : DenA K t ρ xs) (hz : xs.length ≤ 100000) : Den K (tTup t) ρ (.tup xs) := fun σ G H Q i e k =>
  ha σ G H _ i e fun v G1 H1 f1 r1 => ⟨Evl.sz_of (by rw [r1.len]; exact hz), fun p hp => by
    have f2 := Fr.new (o := .tup v) f1.i hp
    exact k _ _ _ (f1.trans f2) (.tup (Evl.st_of upd_same) (r1.up f2.g))⟩
theorem dl_lst {t : TA} (ha : DenA K t ρ xs) (hz : xs.length ≤ 100000) : DenL K (tLst t) ρ xs := fun σ G H Q i e k =>
  ha σ G H _ i e fun v G1 H1 f1 r1 => ⟨Evl.sz_of (by rw [r1.len]; exact hz), fun p hp => by
    have g0 : G1 p = none := fresh_back f1.i hp
    refine k p v G1 (upd H1 p (.lst v)) ⟨f1.g, f1.h.trans (Ex.new hp), f1.i.trans (Ex.new hp), f1.n⟩ g0 (fresh_back f1.h hp) upd_same r1⟩
theorem den_lst {t : TA} (ha : DenA K t ρ xs) (hz : xs.length ≤ 100000) : Den K (tLst t) ρ (.lst xs) := (dl_lst ha hz).den
theorem dt_val (h : Den K te ρ (.bl b)) : DenT K (tB te) ρ b := fun σ G H Q i e k => h σ G H _ i e fun v G1 H1 f r => ⟨b, rep_s r, k G1 H1 f⟩
theorem dt_test (h : Den K te ρ (.bl b)) : DenT K (tTest te) ρ b := fun σ G H Q i e k => h σ G H _ i e fun v G1 H1 f r => ⟨b, rep_s r, k G1 H1 f⟩
theorem dt_not (h : DenT K tt ρ b) : DenT K (tNot tt) ρ (!b) := fun σ G H Q i e k => h σ G H _ i e k
theorem dt_and (h : DenT K tt ρ b) (h2 : b = true → DenT K tu ρ c) : DenT K (tAnd tt tu) ρ (b && c) := fun σ G H Q i e k => h σ G H _ i e fun G1 H1 f => by
  cases b with
  | true =>
    show tu σ H1 Q
    exact h2 rfl σ G1 H1 Q f.i (e.up f.g) fun G2 H2 f2 => k G2 H2 (f.trans f2)
  | false =>
    show Q false H1
    exact k G1 H1 f
theorem dt_or (h : DenT K tt ρ b) (h2 : b = false → DenT K tu ρ c) : DenT K (tOr tt tu) ρ (b || c) := fun σ G H Q i e k => h σ G H _ i e fun G1 H1 f => by
  cases b with
  | false =>
    show tu σ H1 Q
    exact h2 rfl σ G1 H1 Q f.i (e.up f.g) fun G2 H2 f2 => k G2 H2 (f.trans f2)
  | true =>
    show Q true H1
    exact k G1 H1 f
theorem den_and (h : Den K ta ρ (.bl b)) (h2 : b = true → Den K tb ρ (.bl c)) : Den K (tAndV ta tb) ρ (.bl (b && c)) := fun σ G H Q i e k => h σ G H _ i e fun v G1 H1 f r => ⟨b, rep_s r, by
  cases b with
  | true =>
    show tb σ H1 Q
    exact h2 rfl σ G1 H1 Q f.i (e.up f.g) fun v G2 H2 f2 => k v G2 H2 (f.trans f2)
  | false =>
    show Q (.bl false) H1
    exact k _ G1 H1 f (.s _)⟩
theorem den_or (h : Den K ta ρ (.bl b)) (h2 : b = false → Den K tb ρ (.bl c)) : Den K (tOrV ta tb) ρ (.bl (b || c)) := fun σ G H Q i e k => h σ G H _ i e fun v G1 H1 f r => ⟨b, rep_s r, by
  cases b with
  | false =>
    show tb σ H1 Q
    exact h2 rfl σ G1 H1 Q f.i (e.up f.g) fun v G2 H2 f2 => k v G2 H2 (f.trans f2)
  | true =>
    show Q (.bl true) H1
    exact k _ G1 H1 f (.s _)⟩
theorem den_not (h : Den K ta ρ (.bl b)) : Den K (tNotV ta) ρ (.bl (!b)) := fun σ G H Q i e k => h σ G H _ i e fun v G1 H1 f r => ⟨b, rep_s r, k _ G1 H1 f (.s _)⟩
theorem den_if (h : DenT K tt ρ b) (h1 : b = true → Den K ta ρ d) (h2 : b = false → Den K tb ρ d) : Den K (tIf tt ta tb) ρ d := fun σ G H Q i e k => h σ G H _ i e fun G1 H1 f => by
  cases b with
  | true =>
    show ta σ H1 Q
    exact h1 rfl σ G1 H1 Q f.i (e.up f.g) fun v G2 H2 f2 => k v G2 H2 (f.trans f2)
  | false =>
    show tb σ H1 Q
    exact h2 rfl σ G1 H1 Q f.i (e.up f.g) fun v G2 H2 f2 => k v G2 H2 (f.trans f2)
theorem lookup_zip {α : Type} {m : Str} {v : α} : ∀ {fs : List (Str × α)}, fs.lookup m = some v → ∃ i : Nat, (fs.map (·.2))[i]? = some v ∧ (fs.map (·.1))[i]? = some m ∧ ∀ j, j < i → (fs.map (·.1))[j]? ≠ some m
  | [], h => by simp at h
  | (n, w) :: fs, h => by
    rw [List.lookup_cons] at h
    by_cases e : m = n
    · subst e
      simp at h
      subst h
      exact ⟨0, rfl, rfl, fun j hj => absurd hj (Nat.not_lt_zero j)⟩
    · have e' : (m == n) = false := by simpa using e
      rw [e'] at h
      obtain ⟨i, a, b, q⟩ := lookup_zip (fs := fs) h
      refine ⟨i + 1, by simpa using a, by simpa using b, fun j hj => ?_⟩
      cases j with
      | zero =>
        simp
        exact fun z => e z.symm
      | succ j =>
        simp
        have := q j (by omega)
        simpa using this
theorem zip_lookup {K : PySem.W.Frag} {G : Hp} {m : Str} {d : Dat} : ∀ {fs : List (Str × V)} {ns : List Str} {ds : List Dat}, fs.map (·.1) = ns → RepAll K G (fs.map (·.2)) ds → (ns.zip ds).lookup m = some d → ∃ v, fs.lookup m = some v ∧ Rep K G v d
  | [], _, _, e, r, h => by
    subst e
    simp at h
  | (n, w) :: fs, _, _, e, r, h => by
    subst e
    cases r with
    | cons r1 r2 =>
      simp only [List.map_cons, List.zip_cons_cons, List.lookup_cons] at h ⊢
      by_cases e : m = n
      · subst e
        simp at h ⊢
        subst h
        exact r1
      · have e' : (m == n) = false := by simpa using e
        rw [e'] at h ⊢
        exact zip_lookup rfl r2 h
theorem zip_lookup_none {m : Str} : ∀ {fs : List (Str × V)} {ns : List Str}, fs.map (·.1) = ns → ns.contains m = false → fs.lookup m = none
  | [], _, e, h => rfl
  | (n, w) :: fs, _, e, h => by
    subst e
    simp only [List.map_cons, List.contains_cons, Bool.or_eq_false_iff] at h
    rw [List.lookup_cons, h.1]
    exact zip_lookup_none rfl h.2
theorem den_fld {C : Addr} {ns : List Str} {f : Str} (h : Den K te ρ (.ins C ns ds)) (c : Cls K C) (n : NoAttr K C f) (l : (ns.zip ds).lookup f = some d) : Den K (tFld K te f) ρ d := fun σ G H Q i e k => h σ G H _ i e fun v G1 H1 fr r => by
  cases r with
  | ins a b ra =>
    obtain ⟨v, l', r'⟩ := zip_lookup b ra l
    exact ⟨_, _, _, _, v, rfl, fr.i _ _ a, c, n, l', k v G1 H1 fr r'⟩
end
/-! ### promises of defs that change nothing -/
def spF (K : PySem.W.Frag) (F : List Dat → Dat → Prop) : Sp := fun vs H Q _ => ∃ G ds d, Ex G H ∧ RepAll K G vs ds ∧ F ds d ∧ ∀ v G' H', Fr G H G' H' → Rep K G' v d → Q v H'
section
variable {K : PySem.W.Frag} {ρ ρ' ρ2 : DSt} {te ta tb tc : TE} {tt tu : TT} {d x y z : Dat} {ds es xs : List Dat} {r r' : R2} {b c : Bool} {F : List Dat → Dat → Prop} {E : XK}
theorem den_call {t : TA} (ha : DenA K t ρ xs) (hf : F xs d) : Den K (tCall (spF K F) [] E t) ρ d := fun σ G H Q i e k =>
  ha σ G H _ i e fun vs G1 H1 f1 r1 => ⟨G1, xs, d, f1.i, by rw [List.append_nil]; exact r1, hf, fun v G2 H2 f2 r2 => k v G2 H2 (f1.trans f2) r2⟩
theorem den_meth {C : Addr} {m : Str} {ns : List Str} {t : TA} (ho : Den K te ρ (.ins C ns ds)) (hm : ns.contains m = false) (ha : DenA K t ρ xs) (hf : F (.ins C ns ds :: xs) d) : Den K (tMeth C m (spF K F) [] E te t) ρ d := fun σ G H Q i e k =>
  ho σ G H _ i e fun v G1 H1 f1 r1 => by
    cases id r1 with
    | ins a b ra =>
      refine ⟨_, _, _, rfl, f1.i _ _ a, zip_lookup_none b hm, ha σ G1 H1 _ f1.i (e.up f1.g) fun vs G2 H2 f2 r2 => ⟨G2, _, d, f2.i, ?_, hf, fun v G3 H3 f3 r3 => k v G3 H3 ((f1.trans f2).trans f3) r3⟩⟩
      rw [List.append_nil]
      exact .cons (r1.up f2.g) r2
/-- a class whose making stores data -/
def spI (K : PySem.W.Frag) (C : Addr) (ns : List Str) (F : List Dat → List Dat → Prop) : Sp := fun vs H Q _ => ∃ (G : Hp) (p dx : Addr) (us : List V) (ds fs : List Dat), vs = .ref p :: us ∧ Ex G H ∧ H p = some (.ins C dx []) ∧ G p = none ∧ G dx = none ∧ dx ≠ p ∧ RepAll K G us ds ∧ F ds fs ∧
  ∀ (G' H' : Hp) (gs : List (Str × V)), Ex G G' → (∀ a o, a ≠ p → H a = some o → H' a = some o) → Ex G' H' → (∀ a, G a = none → G' a ≠ none → H a = none) → H' p = some (.ins C dx gs) → gs.map (·.1) = ns → RepAll K G' (gs.map (·.2)) fs → Q .non H'
theorem den_make {C : Addr} {ns : List Str} {FI : List Dat → List Dat → Prop} {t : TA} {fs : List Dat} (ha : DenA K t ρ xs) (hf : FI xs fs) : Den K (tMake C (spI K C ns FI) [] E t) ρ (.ins C ns fs) := fun σ G H Q i e k =>
  ha σ G H _ i e fun vs G1 H1 f1 r1 p dx np ndx ne => by
    have np1 : G1 p = none := fresh_back f1.i np
    have nd1 : G1 dx = none := fresh_back f1.i ndx
    have i1 : Ex G1 (upd (upd H1 dx (.own p)) p (.ins C dx [])) := fun a o q => by
      rw [upd_ne (ne_of_none q np1), upd_ne (ne_of_none q nd1)]
      exact f1.i a o q
    refine ⟨G1, p, dx, vs, xs, fs, by rw [List.append_nil], i1, upd_same, np1, nd1, ne, r1, hf, fun G2 H2 gs g12 h12 i2 n2 e2 en rg => ⟨rfl, ?_⟩⟩
    have np2 : G2 p = none := by
      cases q : G2 p with
      | none => rfl
      | some o =>
        have := n2 p np1 (by rw [q]; intro z; cases z)
        rw [upd_same] at this
        cases this
    have hh : Ex H1 H2 := fun a o q => h12 a o (ne_of_none q np) (by
      rw [upd_ne (ne_of_none q np), upd_ne (ne_of_none q ndx)]
      exact q)
    have f2 : Fr G1 H1 G2 H2 := ⟨g12, hh, i2, fun a a1 a2 => by
      have := n2 a a1 a2
      by_cases q : a = p
      · subst q
        exact np
      · rw [upd_ne q] at this
        by_cases q2 : a = dx
        · subst q2
          exact ndx
        · rw [upd_ne q2] at this
          exact this⟩
    exact k _ _ _ (f1.trans (f2.take np e2 np2)) (.ins upd_same en (rg.up (Ex.new np2)))
end
/-! ### targets -/
section
variable {K : PySem.W.Frag} {ρ ρ' ρ2 : DSt} {d x y z : Dat} {ds es xs : List Dat}
theorem dg_name {i : Nat} : DenG K (gName i) d ρ (ρ.set i (some d)) [i] := fun σ G H v Q i1 r e k => k _ (by rw [List.length_set]) (fun j hj => List.getElem?_set_ne (by simpa using fun q => hj (by simp [q]))) G H (Fr.refl i1) (e.set r i)
theorem dgs_nil : DenGs K gNil [] ρ ρ [] := fun σ G H vs Q i1 r e k => by
  cases r
  exact ⟨rfl, k σ rfl (fun _ _ => rfl) G H (Fr.refl i1) e⟩
theorem dgs_cons {t : TG} {u : TGs} {js ks : List Nat} (h : DenG K t d ρ ρ' js) (h2 : DenGs K u ds ρ' ρ2 ks) : DenGs K (gCons t u) (d :: ds) ρ ρ2 (js ++ ks) := fun σ G H vs Q i1 r e k => by
  cases r with
  | cons a b =>
    exact ⟨_, _, rfl, h σ G H _ _ i1 a e fun σ1 l1 o1 G1 H1 f1 e1 => h2 σ1 G1 H1 _ Q f1.i (b.up f1.g) e1 fun σ2 l2 o2 G2 H2 f2 e2 => k σ2 (l2.trans l1) (fun i hi => (o2 i fun q => hi (List.mem_append_right _ q)).trans (o1 i fun q => hi (List.mem_append_left _ q))) G2 H2 (f1.trans f2) e2⟩
theorem dg_tup {n : Nat} {t : TGs} {js : List Nat} (h : DenGs K t ds ρ ρ' js) (hn : ds.length = n) : DenG K (gTup K n t) (.tup ds) ρ ρ' js := fun σ G H v Q i1 r e k => by
  cases r with
  | tup a b => exact ⟨_, _, rfl, Evl.ex_t i1 a, by rw [b.len, hn], h σ G H _ Q i1 b e k⟩
end
/-! ### statements that change no object -/
inductive Out where
  | nx (ρ : DSt)
  | rt (d : Dat)
def Out.run (K : PySem.W.Frag) (o : Out) (D : Ends) (G H : Hp) : Prop := match o with
  | .nx ρ => ∀ σ G' H', Fr G H G' H' → EnvD K G' σ ρ → D.nx σ H'
  | .rt d => ∀ v G' H', Fr G H G' H' → Rep K G' v d → D.rt v H'
def DenS (K : PySem.W.Frag) (ts : TS) (ρ : DSt) (o : Out) : Prop := ∀ σ G H (D : Ends), Ex G H → EnvD K G σ ρ → o.run K D G H → ts D σ H
section
variable {K : PySem.W.Frag} {ρ ρ' ρ2 : DSt} {te ta tb tc : TE} {tt : TT} {t u : TS} {d x y z : Dat} {ds es xs : List Dat} {b c : Bool} {o : Out}
theorem Out.run_mono {D : Ends} {G H G' H' : Hp} (h : o.run K D G H) (f : Fr G H G' H') : o.run K D G' H' := by
  cases o with
  | nx ρ => exact fun σ G2 H2 f2 e => h σ G2 H2 (f.trans f2) e
  | rt d => exact fun v G2 H2 f2 r => h v G2 H2 (f.trans f2) r
theorem Out.run_D {D : Ends} {nx : L2.St → Hp → Prop} {G H : Hp} {d : Dat} (h : (Out.rt d).run K D G H) : (Out.rt d).run K { D with nx := nx } G H := h
theorem ds_seq (h : DenS K t ρ (.nx ρ')) (h2 : DenS K u ρ' o) : DenS K (tSeq t u) ρ o := fun σ G H D i e k => h σ G H _ i e fun σ1 G1 H1 f1 e1 => h2 σ1 G1 H1 D f1.i e1 (Out.run_mono k f1)
theorem ds_seqR (h : DenS K t ρ (.rt d)) : DenS K (tSeq t u) ρ (.rt d) := fun σ G H D i e k => h σ G H _ i e k
theorem ds_next : DenS K tNext ρ (.nx ρ) := fun σ G H D i e k => k σ G H (Fr.refl i) e
theorem ds_ret (h : Den K te ρ d) : DenS K (tRet te) ρ (.rt d) := fun σ G H D i e k => h σ G H _ i e k
theorem ds_asg {g : TG} {js : List Nat} (h : Den K te ρ d) (hg : DenG K g d ρ ρ' js) : DenS K (tAsg te g) ρ (.nx ρ') := fun σ G H D i e k =>
  h σ G H _ i e fun v G1 H1 f1 r1 => hg σ G1 H1 v _ f1.i r1 (e.up f1.g) fun σ1 _ _ G2 H2 f2 e2 => k σ1 G2 H2 (f1.trans f2) e2
theorem ds_set {j : Nat} (h : Den K te ρ d) : DenS K (tAsg te (gName j)) ρ (.nx (ρ.set j (some d))) := ds_asg h dg_name
theorem ds_if (h : DenT K tt ρ b) (h1 : b = true → DenS K t ρ o) (h2 : b = false → DenS K u ρ o) : DenS K (tIfS tt t u) ρ o := fun σ G H D i e k => h σ G H _ i e fun G1 H1 f => by
  cases b with
  | true =>
    show t D σ H1
    exact h1 rfl σ G1 H1 D f.i (e.up f.g) (Out.run_mono k f)
  | false =>
    show u D σ H1
    exact h2 rfl σ G1 H1 D f.i (e.up f.g) (Out.run_mono k f)
/-- an if that isn't taken -/
theorem ds_no (h : DenT K tt ρ false) : DenS K (tIfS tt t tNext) ρ (.nx ρ) := ds_if h (fun q => nomatch q) fun _ => ds_next
theorem ds_drop (h : Den K te ρ d) : DenS K (tDrop te) ρ (.nx ρ) := fun σ G H D i e k => h σ G H _ i e fun v G1 H1 f1 r1 => k σ G1 H1 f1 (e.up f1.g)
theorem ds_par {i j : Nat} {t : TA} (h : DenA K t ρ [x, y]) : DenS K (tPar i j t) ρ (.nx ((ρ.set i (some x)).set j (some y))) := fun σ G H D i1 e k => h σ G H _ i1 e fun vs G1 H1 f1 r1 => by
  cases r1 with
  | cons a r =>
    cases r with
    | cons b r =>
      cases r
      exact ⟨_, _, rfl, k _ G1 H1 f1 (((e.up f1.g).set a i).set b j)⟩
theorem ds_aug {i : Nat} {f : Int → Int → Int} {a c : Int} (hx : ρ[i]? = some (some (.int a))) (h : Den K te ρ (.int c)) : DenS K (tAug i te (ipI f)) ρ (.nx (ρ.set i (some (.int (f a c))))) := fun σ G H D i1 e k => by
  obtain ⟨v, e1, r⟩ := e.at_ _ _ hx
  obtain rfl := rep_s r
  refine ⟨_, e1, h σ G H _ i1 e fun w G1 H1 f1 r1 => ?_⟩
  obtain rfl := rep_s r1
  exact ⟨a, c, rfl, rfl, k _ G1 H1 f1 ((e.up f1.g).set (.s _) i)⟩
end
end Dn
set_option Elab.async false
set_option linter.all false
set_option maxRecDepth 100000
set_option maxHeartbeats 4000000
/-! Dn2: the operators, subscripts, slices, calls of built-ins, by data. -/
namespace Dn
open PySem PySem.Spec
open PyProof.Rows L2
open Evl (Ex fresh_back)
variable {K : PySem.W.Frag} {G H G' H' : Hp} {ρ ρ' : DSt} {te ta tb tc : TE} {d x y z : Dat} {ds es xs : List Dat} {r r' : R2} {b c : Bool}

/-! ### data without objects of classes and dicts, as the model's own data -/
mutual
inductive Py : Dat → PyData → Prop
  | non : Py (.s .non) .none
  | bl (b : Bool) : Py (.s (.bl b)) (.bool b)
  | int (i : Int) : Py (.s (.int i)) (.int i)
  | str (x : Str) : Py (.s (.str x)) (.str x)
  | lst {ds : List Dat} {ps : List PyData} : PyAll ds ps → Py (.lst ds) (.list ps)
  | tup {ds : List Dat} {ps : List PyData} : PyAll ds ps → Py (.tup ds) (.tuple ps)
inductive PyAll : List Dat → List PyData → Prop
  | nil : PyAll [] []
  | cons {d : Dat} {ds : List Dat} {p : PyData} {ps : List PyData} : Py d p → PyAll ds ps → PyAll (d :: ds) (p :: ps)
end
theorem PyAll.map {α : Type} {e : α → Dat} {f : α → PyData} (h : ∀ a, Py (e a) (f a)) : ∀ xs : List α, PyAll (xs.map e) (xs.map f)
  | [] => .nil
  | a :: xs => .cons (h a) (PyAll.map h xs)
theorem PyAll.mapM {α : Type} {e : α → Dat} {f : α → PyData} : ∀ xs : List α, (∀ a ∈ xs, Py (e a) (f a)) → PyAll (xs.map e) (xs.map f)
  | [], _ => .nil
  | a :: xs, h => .cons (h a List.mem_cons_self) (PyAll.mapM xs fun b hb => h b (List.mem_cons_of_mem _ hb))
mutual
theorem Rep.dp (i : Ex G H) : ∀ (p : PyData) (d : Dat) (v : V), Rep K G v d → Py d p → Dp K H v p
  | .none, _, _, r, h => by
    cases h
    rw [rep_s r]
    exact .non
  | .bool b, _, _, r, h => by
    cases h
    rw [rep_s r]
    exact .bl b
  | .int b, _, _, r, h => by
    cases h
    rw [rep_s r]
    exact .int b
  | .str b, _, _, r, h => by
    cases h
    rw [rep_s r]
    exact .str b
  | .list ps, _, _, r, h => by
    cases h with
    | lst h =>
      cases r with
      | lst a b => exact .lst (Evl.sq_of (i _ _ a)) (RepAll.dp i ps _ _ b h)
  | .tuple ps, _, _, r, h => by
    cases h with
    | tup h =>
      cases r with
      | tup a b => exact .tup (Evl.ex_t i a) (RepAll.dp i ps _ _ b h)
  | .dict _, _, _, _, h => by cases h
theorem RepAll.dp (i : Ex G H) : ∀ (ps : List PyData) (ds : List Dat) (vs : List V), RepAll K G vs ds → PyAll ds ps → DpAll K H vs ps
  | [], _, _, r, h => by
    cases h
    cases r
    exact .nil
  | p :: ps, _, _, r, h => by
    cases h with
    | cons a b =>
      cases r with
      | cons ra rb => exact .cons (Rep.dp i p _ _ ra a) (RepAll.dp i ps _ _ rb b)
end
/-! ### two-place operators -/
theorem rd_1 (h : RD K r x y z) : RD K (fun x y H Q => r x y H Q ∨ r' x y H Q) x y z := fun G H Q vx vy i rx ry k => .inl (h G H Q vx vy i rx ry k)
theorem rd_2 (h : RD K r' x y z) : RD K (fun x y H Q => r x y H Q ∨ r' x y H Q) x y z := fun G H Q vx vy i rx ry k => .inr (h G H Q vx vy i rx ry k)
theorem rd_I0 {g : Int → Int → V} {i j : Int} : RD K (rI0 g) (.int i) (.int j) (.s (g i j)) := fun G H Q vx vy e rx ry k => ⟨i, j, rep_s rx, rep_s ry, k _ G H (Fr.refl e) (.s _)⟩
theorem rd_I {C : Int → Int → Prop} {g : Int → Int → V} {i j : Int} (h : C i j) : RD K (rI C g) (.int i) (.int j) (.s (g i j)) := fun G H Q vx vy e rx ry k => ⟨i, j, rep_s rx, rep_s ry, h, k _ G H (Fr.refl e) (.s _)⟩
theorem rd_eq {v w : V} (h : scal v w = true) : RD K rEq (.s v) (.s w) (.bl (decide (v = w))) := fun G H Q vx vy e rx ry k => by
  obtain rfl := rep_s rx
  obtain rfl := rep_s ry
  exact ⟨h, k _ G H (Fr.refl e) (.s _)⟩
theorem rd_ne {v w : V} (h : scal v w = true) : RD K rNe (.s v) (.s w) (.bl (!decide (v = w))) := fun G H Q vx vy e rx ry k => by
  obtain rfl := rep_s rx
  obtain rfl := rep_s ry
  exact ⟨h, k _ G H (Fr.refl e) (.s _)⟩
theorem rd_eqD {p q : PyData} (hp : Py x p) (hq : Py y q) (sp : SeqAt.shaped p = true) (sq : SeqAt.shaped q = true) : RD K (rEqD K) x y (.bl (PyData.eqv p q)) := fun G H Q vx vy e rx ry k =>
  ⟨p, q, Rep.dp e p x _ rx hp, Rep.dp e q y _ ry hq, sp, sq, k _ G H (Fr.refl e) (.s _)⟩
theorem rd_neD {p q : PyData} (hp : Py x p) (hq : Py y q) (sp : SeqAt.shaped p = true) (sq : SeqAt.shaped q = true) : RD K (rNeD K) x y (.bl (!PyData.eqv p q)) := fun G H Q vx vy e rx ry k =>
  ⟨p, q, Rep.dp e p x _ rx hp, Rep.dp e q y _ ry hq, sp, sq, k _ G H (Fr.refl e) (.s _)⟩
theorem rd_inT {neg : Bool} {p : PyData} {ps : List PyData} (hp : Py x p) (hq : Py y (.tuple ps)) (sp : SeqAt.shaped p = true) (sq : SeqAt.shaped (.tuple ps) = true) :
    RD K (Ru.rInT K neg) x y (.bl (if neg then !(ps.any fun z => PyData.eqv z p) else ps.any fun z => PyData.eqv z p)) := fun G H Q vx vy e rx ry k =>
  ⟨p, ps, Rep.dp e p x _ rx hp, Rep.dp e (.tuple ps) y _ ry hq, sp, sq, k _ G H (Fr.refl e) (.s _)⟩
/-- one sign in a text -/
def rInSign : R2 := fun x y H Q => ∃ (c : Nat) (z : Str), x = .str ⟨#[c]⟩ ∧ y = .str z ∧ Q (.bl (decide (c ∈ z.cps.toList))) H
def rNotInSign : R2 := fun x y H Q => ∃ (c : Nat) (z : Str), x = .str ⟨#[c]⟩ ∧ y = .str z ∧ Q (.bl (!decide (c ∈ z.cps.toList))) H
theorem rd_inSign {c : Nat} {z : Str} : RD K rInSign (.str ⟨#[c]⟩) (.str z) (.bl (decide (c ∈ z.cps.toList))) := fun G H Q vx vy e rx ry k => ⟨c, z, rep_s rx, rep_s ry, k _ G H (Fr.refl e) (.s _)⟩
theorem rd_notInSign {c : Nat} {z : Str} : RD K rNotInSign (.str ⟨#[c]⟩) (.str z) (.bl (!decide (c ∈ z.cps.toList))) := fun G H Q vx vy e rx ry k => ⟨c, z, rep_s rx, rep_s ry, k _ G H (Fr.refl e) (.s _)⟩
def rLtS : R2 := fun x y H Q => ∃ i j, x = .str i ∧ y = .str j ∧ Q (.bl (decide (i.cps.toList < j.cps.toList))) H
theorem rd_ltS {i j : Str} : RD K rLtS (.str i) (.str j) (.bl (decide (i.cps.toList < j.cps.toList))) := fun G H Q vx vy e rx ry k => ⟨i, j, rep_s rx, rep_s ry, k _ G H (Fr.refl e) (.s _)⟩
def rAddS : R2 := fun x y H Q => ∃ i j, x = .str i ∧ y = .str j ∧ i.length + j.length ≤ sizeLine ∧ Q (.str (i ++ j)) H
theorem rd_addS {i j : Str} (h : i.length + j.length ≤ 100000) : RD K rAddS (.str i) (.str j) (.str (i ++ j)) := fun G H Q vx vy e rx ry k => ⟨i, j, rep_s rx, rep_s ry, Evl.sz_of h, k _ G H (Fr.refl e) (.s _)⟩
theorem rd_cat (h : ds.length + es.length ≤ 100000) : RD K (rCatA K) (.tup ds) (.tup es) (.tup (ds ++ es)) := fun G H Q vx vy e rx ry k => by
  cases rx with
  | tup a ra =>
    cases ry with
    | tup b rb =>
      refine ⟨_, _, _, _, rfl, rfl, Evl.ex_t e a, Evl.ex_t e b, Evl.sz_of (by rw [ra.len, rb.len]; exact h), fun q => ?_, fun _ q => ?_, fun _ _ p hp => ?_⟩
      · subst q
        cases ra
        exact k _ G H (Fr.refl e) (.tup b rb)
      · subst q
        cases rb
        rw [List.append_nil]  at k
        exact k _ G H (Fr.refl e) (.tup a ra)
      · exact k _ _ _ (Fr.new e hp) (.tup (Evl.st_of upd_same) ((ra.app rb).up (Fr.new e hp).g))
theorem rdl_cat (h : ds.length + es.length ≤ 100000) : ∀ G H (Q : VK) vx vy, Ex G H → Rep K G vx (.lst ds) → Rep K G vy (.lst es) → (∀ p vs G' H', Fr G H G' H' → G' p = none → H p = none → H' p = some (.lst vs) → RepAll K G' vs (ds ++ es) → Q (.ref p) H') → rCat vx vy H Q :=
  fun G H Q vx vy e rx ry k => by
  cases rx with
  | lst a ra =>
    cases ry with
    | lst b rb =>
      refine ⟨_, _, _, _, rfl, rfl, e _ _ a, e _ _ b, Evl.sz_of (by rw [ra.len, rb.len]; exact h), fun p hp => ?_⟩
      have g0 : G p = none := fresh_back e hp
      exact k p _ G _ ⟨Ex.refl G, Ex.new hp, e.trans (Ex.new hp), fun _ a b => absurd a b⟩ g0 hp upd_same (ra.app rb)
theorem dl_cat {ta tb : TE} (ha : Den K ta ρ (.lst ds)) (hb : Den K tb ρ (.lst es)) (h : ds.length + es.length ≤ 100000) : DenL K (tOp rCat ta tb) ρ (ds ++ es) := fun σ G H Q i e k =>
  ha σ G H _ i e fun v G1 H1 f1 r1 => hb σ G1 H1 _ f1.i (e.up f1.g) fun w G2 H2 f2 r2 => rdl_cat h G2 H2 Q v w f2.i (r1.up f2.g) r2 fun p vs G3 H3 f3 g0 h0 e1 r3 => k p vs G3 H3 ((f1.trans f2).trans f3) g0 (fresh_back (f1.trans f2).h h0) e1 r3
/-! ### subscripts -/
theorem atI_rep {vs : List V} {i : Int} (r : RepAll K G vs ds) (h : atI ds i = some d) : ∃ v, atI vs i = some v ∧ Rep K G v d := by
  unfold atI at h ⊢
  rw [r.len]
  cases q : ixN ds.length i with
  | none =>
    rw [q] at h
    cases h
  | some j =>
    rw [q] at h
    exact r.get h
theorem rd_ixT {i : Int} (h : atI ds i = some d) : RD K (rIxT K) (.tup ds) (.int i) d := fun G H Q vx vy e rx ry k => by
  obtain rfl := rep_s ry
  cases rx with
  | tup a ra =>
    obtain ⟨v, hv, rv⟩ := atI_rep ra h
    exact ⟨_, _, _, v, rfl, rfl, Evl.ex_t e a, hv, k v G H (Fr.refl e) rv⟩
theorem rd_ixL {i : Int} (h : atI ds i = some d) : RD K (rIxL K) (.lst ds) (.int i) d := fun G H Q vx vy e rx ry k => by
  obtain rfl := rep_s ry
  cases rx with
  | lst a ra =>
    obtain ⟨v, hv, rv⟩ := atI_rep ra h
    exact ⟨_, _, _, v, rfl, rfl, Evl.sq_of (e _ _ a), hv, k v G H (Fr.refl e) rv⟩
theorem rd_ixS {z : Str} {i : Int} {c : Nat} (hz : z.length ≤ 100000) (h : atI z.cps.toList i = some c) : RD K rIxS (.str z) (.int i) (.str ⟨#[c]⟩) := fun G H Q vx vy e rx ry k =>
  ⟨z, i, c, rep_s rx, rep_s ry, Evl.sz_of hz, h, k _ G H (Fr.refl e) (.s _)⟩
theorem rd_ixUT {i : Int} (h : atI ds i = some d) : RD K (rIx K) (.tup ds) (.int i) d := fun G H Q vx vy e rx ry k => .inr (.inl (rd_ixT h G H Q vx vy e rx ry k))
theorem rd_ixUL {i : Int} (h : atI ds i = some d) : RD K (rIx K) (.lst ds) (.int i) d := fun G H Q vx vy e rx ry k => .inl (rd_ixL h G H Q vx vy e rx ry k)
theorem rd_ixUS {z : Str} {i : Int} {c : Nat} (hz : z.length ≤ 100000) (h : atI z.cps.toList i = some c) : RD K (rIx K) (.str z) (.int i) (.str ⟨#[c]⟩) := fun G H Q vx vy e rx ry k => .inr (.inr (rd_ixS hz h G H Q vx vy e rx ry k))
/-! ### slices -/
def DenP (K : PySem.W.Frag) (to : TO) (ρ : DSt) (o : Option Int) : Prop := ∀ σ G H (Q : Option Int → Hp → Prop), Ex G H → EnvD K G σ ρ → (∀ G' H', Fr G H G' H' → Q o H') → to σ H Q
theorem dp_no : DenP K tNoPart ρ none := fun σ G H Q i e k => k G H (Fr.refl i)
theorem dp_some {i : Int} (h : Den K te ρ (.int i)) : DenP K (tPart te) ρ (some i) := fun σ G H Q i e k => h σ G H _ i e fun v G1 H1 f r => ⟨_, rep_s r, k G1 H1 f⟩
def cutD (xs : List Dat) (lo hi : Option Int) : List Dat := (xs.drop (HT.sIx xs.length 0 lo)).take (HT.sIx xs.length xs.length hi - HT.sIx xs.length 0 lo)
theorem RepAll.cut {vs : List V} (r : RepAll K G vs ds) (lo hi : Option Int) : RepAll K G (cutV vs lo hi) (cutD ds lo hi) := by
  unfold cutV cutD
  rw [r.len]
  exact (r.drop _).take _
theorem cutD_whole {lo hi : Option Int} (h : HT.sIx ds.length 0 lo = 0 ∧ HT.sIx ds.length ds.length hi = ds.length) : cutD ds lo hi = ds := by
  unfold cutD
  rw [h.1, h.2]
  simp
theorem den_slT {tl th : TO} {lo hi : Option Int} (ha : Den K te ρ (.tup ds)) (hl : DenP K tl ρ lo) (hh : DenP K th ρ hi) : Den K (tSl (rSlA K) te tl th) ρ (.tup (cutD ds lo hi)) := fun σ G H Q i e k =>
  ha σ G H _ i e fun v G1 H1 f1 r1 => hl σ G1 H1 _ f1.i (e.up f1.g) fun G2 H2 f2 => hh σ G2 H2 _ f2.i (e.up (f1.trans f2).g) fun G3 H3 f3 => by
    cases r1 with
    | tup a ra =>
      have f := (f1.trans f2).trans f3
      have a3 := Evl.ex_t (f2.trans f3).g a
      have r3 := ra.up (f2.trans f3).g
      refine ⟨_, _, rfl, Evl.ex_t f3.i a3, fun q => ?_, fun _ p hp => ?_⟩
      · rw [ra.len] at q
        rw [cutD_whole q] at k
        exact k _ G3 H3 f (.tup a3 r3)
      · exact k _ _ _ (f.trans (Fr.new f3.i hp)) (.tup (Evl.st_of upd_same) ((r3.cut lo hi).up (Fr.new f3.i hp).g))
theorem dl_slL {tl th : TO} {lo hi : Option Int} (ha : Den K te ρ (.lst ds)) (hl : DenP K tl ρ lo) (hh : DenP K th ρ hi) : DenL K (tSl (rSlL K) te tl th) ρ (cutD ds lo hi) := fun σ G H Q i e k =>
  ha σ G H _ i e fun v G1 H1 f1 r1 => hl σ G1 H1 _ f1.i (e.up f1.g) fun G2 H2 f2 => hh σ G2 H2 _ f2.i (e.up (f1.trans f2).g) fun G3 H3 f3 => by
    cases r1 with
    | lst a ra =>
      have f := (f1.trans f2).trans f3
      have a3 := (f2.trans f3).g _ _ a
      have r3 := ra.up (f2.trans f3).g
      refine ⟨_, _, rfl, Evl.sq_of (f3.i _ _ a3), fun p hp => ?_⟩
      exact k p _ G3 _ ⟨f.g, f.h.trans (Ex.new hp), f.i.trans (Ex.new hp), f.n⟩ (fresh_back f3.i hp) (fresh_back f.h hp) upd_same (r3.cut lo hi)
theorem den_slS {tl th : TO} {lo hi : Option Int} {w : Str} (ha : Den K te ρ (.str w)) (hl : DenP K tl ρ lo) (hh : DenP K th ρ hi) (hz : w.length ≤ 100000) : Den K (tSl rSlS te tl th) ρ (.str (cutS w lo hi)) := fun σ G H Q i e k =>
  ha σ G H _ i e fun v G1 H1 f1 r1 => hl σ G1 H1 _ f1.i (e.up f1.g) fun G2 H2 f2 => hh σ G2 H2 _ f2.i (e.up (f1.trans f2).g) fun G3 H3 f3 =>
    ⟨w, rep_s r1, Evl.sz_of hz, k _ G3 H3 ((f1.trans f2).trans f3) (.s _)⟩
/-! ### built-ins -/
def rLenS (K : PySem.W.Frag) : List V → Hp → VK → Prop := fun xs H Q => ∃ p ys, xs = [.ref p] ∧ (SqL K H p ys ∨ SqT K H p ys) ∧ Q (.int ys.length) H
def rLenZ : List V → Hp → VK → Prop := fun xs H Q => ∃ z : Str, xs = [.str z] ∧ z.length ≤ sizeLine ∧ Q (.int z.length) H
/-- len of a list, a tuple, a text -/
def rLenU (K : PySem.W.Frag) : List V → Hp → VK → Prop := fun xs H Q => rLenS K xs H Q ∨ rLenZ xs H Q
theorem call_lenU {X : Cx} : CallR X (.builtin "len") (rLenU X.K) := CallR.or call_len_seq call_len_str
theorem repAll_1 {vs : List V} (h : RepAll K G vs [d]) : ∃ v, vs = [v] ∧ Rep K G v d := by
  cases h with
  | cons a t =>
    cases t
    exact ⟨_, rfl, a⟩
theorem rc_lenT : RC K (rLenU K) [.tup ds] (.int ds.length) := fun G H Q vs e r k => by
  obtain ⟨v, rfl, q⟩ := repAll_1 r
  cases q with
  | tup a ra => exact .inl ⟨_, _, rfl, .inr (Evl.ex_t e a), by rw [ra.len]; exact k _ G H (Fr.refl e) (.s _)⟩
theorem rc_lenL : RC K (rLenU K) [.lst ds] (.int ds.length) := fun G H Q vs e r k => by
  obtain ⟨v, rfl, q⟩ := repAll_1 r
  cases q with
  | lst a ra => exact .inl ⟨_, _, rfl, .inl (Evl.sq_of (e _ _ a)), by rw [ra.len]; exact k _ G H (Fr.refl e) (.s _)⟩
theorem rc_lenS {z : Str} (h : z.length ≤ 100000) : RC K (rLenU K) [.str z] (.int z.length) := fun G H Q vs e r k => by
  obtain ⟨v, rfl, q⟩ := repAll_1 r
  obtain rfl := rep_s q
  exact .inr ⟨z, rfl, Evl.sz_of h, k _ G H (Fr.refl e) (.s _)⟩
def rListOf (K : PySem.W.Frag) : List V → Hp → VK → Prop := fun xs H Q => ∃ p ys, xs = [.ref p] ∧ (SqL K H p ys ∨ SqT K H p ys) ∧ ∀ l, H l = none → Q (.ref l) (upd H l (.lst ys))
theorem rcl_ofT : RCL K (rListOf K) [.tup ds] ds := fun G H Q vs e r k => by
  obtain ⟨v, rfl, q⟩ := repAll_1 r
  cases q with
  | tup a ra => exact ⟨_, _, rfl, .inr (Evl.ex_t e a), fun l hl => k l _ G _ ⟨Ex.refl G, Ex.new hl, e.trans (Ex.new hl), fun _ a b => absurd a b⟩ (fresh_back e hl) hl upd_same ra⟩
theorem rcl_ofL : RCL K (rListOf K) [.lst ds] ds := fun G H Q vs e r k => by
  obtain ⟨v, rfl, q⟩ := repAll_1 r
  cases q with
  | lst a ra => exact ⟨_, _, rfl, .inl (Evl.sq_of (e _ _ a)), fun l hl => k l _ G _ ⟨Ex.refl G, Ex.new hl, e.trans (Ex.new hl), fun _ a b => absurd a b⟩ (fresh_back e hl) hl upd_same ra⟩
def rTupOf (K : PySem.W.Frag) : List V → Hp → VK → Prop := fun xs H Q => ∃ p ys, xs = [.ref p] ∧ ((SqL K H p ys ∧ ∀ l, H l = none → Q (.ref l) (upd H l (.tup ys))) ∨ (SqT K H p ys ∧ Q (.ref p) H))
theorem rc_tupL : RC K (rTupOf K) [.lst ds] (.tup ds) := fun G H Q vs e r k => by
  obtain ⟨v, rfl, q⟩ := repAll_1 r
  cases q with
  | lst a ra => exact ⟨_, _, rfl, .inl ⟨Evl.sq_of (e _ _ a), fun l hl => by
      exact k _ _ _ (Fr.new e hl) (.tup (Evl.st_of upd_same) (ra.up (Fr.new e hl).g))⟩⟩
theorem rc_tupT : RC K (rTupOf K) [.tup ds] (.tup ds) := fun G H Q vs e r k => by
  obtain ⟨v, rfl, q⟩ := repAll_1 r
  cases q with
  | tup a ra => exact ⟨_, _, rfl, .inr ⟨Evl.ex_t e a, k _ G H (Fr.refl e) (.tup a ra)⟩⟩
theorem rc_all {bs : List Bool} : RC K (rAll K) [.lst (bs.map fun b => .bl b)] (.bl (bs.all id)) := fun G H Q vs e r k => by
  obtain ⟨v, rfl, q⟩ := repAll_1 r
  cases q with
  | lst a ra =>
    have z := repAll_s (ws := bs.map V.bl) (by rw [List.map_map]; exact ra)
    subst z
    exact ⟨_, bs, rfl, Evl.sq_of (e _ _ a), k _ G H (Fr.refl e) (.s _)⟩
theorem rc_any {bs : List Bool} : RC K (rAny K) [.lst (bs.map fun b => .bl b)] (.bl (bs.any id)) := fun G H Q vs e r k => by
  obtain ⟨v, rfl, q⟩ := repAll_1 r
  cases q with
  | lst a ra =>
    have z := repAll_s (ws := bs.map V.bl) (by rw [List.map_map]; exact ra)
    subst z
    exact ⟨_, bs, rfl, Evl.sq_of (e _ _ a), k _ G H (Fr.refl e) (.s _)⟩
/-- the type of data -/
theorem rep_tyT {v : V} (i : Ex G H) (r : Rep K G v (.tup ds)) : TyX K H v (.type "tuple") := by
  cases r with
  | tup a ra =>
    rcases a with (a | ⟨o, a⟩) | ⟨o, its, n, a, b, _⟩
    · exact .base (.tup (i _ _ a))
    · exact .fTuple (i _ _ a)
    · exact .kTuple a b
/-- isinstance(x, T), T a built-in type: the type's name -/
def tyN : Dat → Option String
  | .s (.int _) => some "int"
  | .s (.bl _) => some "bool"
  | .s (.str _) => some "str"
  | .s .non => some "NoneType"
  | .tup _ => some "tuple"
  | .lst _ => some "list"
  | .dct _ _ => some "dict"
  | _ => none
theorem rep_ty {v : V} {n : String} (i : Ex G H) (r : Rep K G v d) (h : tyN d = some n) : TyX K H v (.type n) := by
  cases d with
  | s w =>
    obtain rfl := rep_s r
    cases v <;> simp [tyN] at h <;> subst h
    · exact .base .non
    · exact .base (.bl _)
    · exact .base (.int _)
    · exact .base (.str _)
  | tup ds =>
    simp [tyN] at h
    subst h
    exact rep_tyT i r
  | lst ds =>
    simp [tyN] at h
    subst h
    cases r with
    | lst a _ => exact .base (.lst (i _ _ a))
  | dct ks ds =>
    simp [tyN] at h
    subst h
    cases r with
    | dct a _ _ => exact .base (.dK (i _ _ a))
  | ins C ns ds => simp [tyN] at h
theorem rc_isi {n m : String} (h : tyN d = some n) (hb : kitB n m = some b) : RC K (rIsi K) [d, .s (.ty m)] (.bl b) := fun G H Q vs e r k => by
  cases r with
  | cons a r =>
    obtain ⟨w, rfl, q⟩ := repAll_1 r
    obtain rfl := rep_s q
    exact ⟨_, _, _, _, b, rfl, .ty m, rep_ty e a h, kit_ty hb, k _ G H (Fr.refl e) (.s _)⟩
/-! ### a < b < c -/
theorem den_chain {r1 r2 : R2} (ha : Den K ta ρ x) (hb : Den K tb ρ y) (h1 : RD K r1 x y (.bl b)) (h2 : b = true → ∃ zc, Den K tc ρ zc ∧ RD K r2 y zc (.bl c)) : Den K (tChain r1 r2 ta tb tc) ρ (.bl (b && c)) := fun σ G H Q i e k =>
  ha σ G H _ i e fun v G1 H1 f1 q1 => hb σ G1 H1 _ f1.i (e.up f1.g) fun w G2 H2 f2 q2 => h1 G2 H2 _ v w f2.i (q1.up f2.g) q2 fun u G3 H3 f3 q3 => ⟨b, rep_s q3, by
    have f := (f1.trans f2).trans f3
    cases b with
    | false =>
      show Q (.bl false) H3
      exact k _ G3 H3 f (.s _)
    | true =>
      show tc σ H3 _
      obtain ⟨zc, hc, h2⟩ := h2 rfl
      exact hc σ G3 H3 _ f3.i (e.up f.g) fun w' G4 H4 f4 q4 => h2 G4 H4 Q w w' f4.i (q2.up (f3.trans f4).g) q4 fun u G5 H5 f5 q5 => k u G5 H5 ((f.trans f4).trans f5) q5⟩
/-! ### dicts of keys -/
def keyD : Key → Dat
  | .inl i => .int i
  | .inr x => .str x
theorem keyD_s (k : Key) : keyD k = .s (kV k) := by
  cases k <;> rfl
theorem valV_zip {kvs : List (Key × V)} {ks : List Key} {k : Key} (e : kvs.map (·.1) = ks) : (valV kvs k).isSome = ks.any (fun j => decide (j = k)) := by
  subst e
  rw [← valV_any, List.any_map]
  rfl
theorem den_din {ks : List Key} {k : Key} (ha : Den K ta ρ (keyD k)) (hb : Den K tb ρ (.dct ks ds)) : Den K (tDIn ta tb) ρ (.bl (ks.any fun j => decide (j = k))) := fun σ G H Q i e q =>
  ha σ G H _ i e fun v G1 H1 f1 r1 => hb σ G1 H1 _ f1.i (e.up f1.g) fun w G2 H2 f2 r2 => by
    rw [keyD_s] at r1
    obtain rfl := rep_s r1
    cases r2 with
    | dct a b rb =>
      refine ⟨_, _, rfl, DGet.k (k := k) (f2.i _ _ a), ?_⟩
      rw [valV_zip b]
      exact q _ G2 H2 (f1.trans f2) (.s _)
/-! ### f-strings -/
def DenJ (K : PySem.W.Frag) (ts : List TE) (ρ : DSt) (ys : List Str) : Prop := Paired (fun t y => Den K t ρ (.str y)) ts ys
theorem dj_nil : DenJ K [] ρ [] := .nil
theorem dj_cons {t : TE} {ts : List TE} {y : Str} {ys : List Str} (h : Den K t ρ (.str y)) (r : DenJ K ts ρ ys) : DenJ K (t :: ts) ρ (y :: ys) := .cons h r
theorem den_fmt {y : Str} (h : Den K te ρ (.str y)) (hz : y.length ≤ 100000) : Den K (tFmt te) ρ (.str y) := fun σ G H Q i e k => h σ G H _ i e fun v G1 H1 f1 r1 => .inl ⟨y, rep_s r1, Evl.sz_of hz, k _ G1 H1 f1 (.s _)⟩
theorem den_tjs : ∀ {ts : List TE} {ys : List Str} (acc : Str), DenJ K ts ρ ys → acc.length + (ys.map (·.length)).sum ≤ 100000 → ∀ σ G H (Q : Str → Hp → Prop), Ex G H → EnvD K G σ ρ → (∀ G' H', Fr G H G' H' → Q (ys.foldl (· ++ ·) acc) H') → tJs ts acc σ H Q
  | [], _, acc, .nil, _, σ, G, H, Q, i, e, k => k G H (Fr.refl i)
  | t :: ts, y :: ys, acc, .cons h r, hz, σ, G, H, Q, i, e, k => by
    have el : (acc ++ y).length = acc.length + y.length := by
      show (acc.cps ++ y.cps).size = _
      rw [Array.size_append]
      rfl
    rw [List.map_cons, List.sum_cons] at hz
    exact h σ G H _ i e fun v G1 H1 f1 r1 => ⟨y, rep_s r1, Evl.sz_of (by rw [el]; omega), den_tjs (acc ++ y) r (by rw [el]; omega) σ G1 H1 Q f1.i (e.up f1.g) fun G2 H2 f2 => k G2 H2 (f1.trans f2)⟩
theorem den_joined {ts : List TE} {ys : List Str} (h : DenJ K ts ρ ys) (hz : (ys.map (·.length)).sum ≤ 100000) : Den K (fun σ H Q => tJs ts Str.empty σ H fun out H1 => Q (.str out) H1) ρ (.str (ys.foldl (· ++ ·) Str.empty)) := fun σ G H Q i e k =>
  den_tjs Str.empty h (by show 0 + _ ≤ _; omega) σ G H _ i e fun G1 H1 f1 => k _ G1 H1 f1 (.s _)
end Dn
set_option Elab.async false
set_option linter.all false
set_option maxRecDepth 100000
set_option maxHeartbeats 4000000
/-! Dn3: what a comprehension walks, and comprehensions of lists, dicts and sets, by data. -/
namespace Dn
open PySem PySem.Spec
open PyProof.Rows L2
open Evl (Ex fresh_back)
variable {K : PySem.W.Frag} {G H G' H' : Hp} {ρ ρ' : DSt} {te ta tb tc tk tv : TE} {tt : TT} {g : TG} {ti : TI} {d x y z : Dat} {ds es xs : List Dat} {b c : Bool}
/-! ### walked things -/
def DenI (K : PySem.W.Frag) (ti : TI) (ρ : DSt) (ds : List Dat) : Prop := ∀ σ G H (R : It → Hp → Prop), Ex G H → EnvD K G σ ρ →
  (∀ J (Gd : Hp → Prop) Y G' H', Fr G H G' H' → Walk J ds.length Gd Y → (∀ H2, Ex G' H2 → Gd H2) → (∀ i H2 v H3 G2, i < ds.length → Ex G' G2 → Ex G2 H2 → Y i H2 v H3 → ∃ G3 d, ds[i]? = some d ∧ Fr G2 H2 G3 H3 ∧ Rep K G3 v d) → R J H') → ti σ H R
theorem DenI.is (h : DenI K ti ρ ds) (e : ds = es) : DenI K ti ρ es := e ▸ h
theorem di_list (h : Den K te ρ (.lst ds)) : DenI K (iList K te) ρ ds := fun σ G H R i e k => h σ G H _ i e fun v G1 H1 f1 r1 => by
  cases r1 with
  | lst a ra =>
    refine ⟨_, rfl, ⟨_, Evl.sq_of (f1.i _ _ a)⟩, k _ _ _ G1 H1 f1 (by rw [← ra.len]; exact walk_list) (fun H2 e2 => Evl.sq_of (e2 _ _ a)) fun i H2 v H3 G2 hi e1 e2 y => ?_⟩
    obtain ⟨rfl, y⟩ := y
    obtain ⟨d, hd, rd⟩ := ra.get' y
    exact ⟨G2, d, hd, Fr.refl e2, rd.up e1⟩
theorem di_tup (h : Den K te ρ (.tup ds)) : DenI K (iTup K te) ρ ds := fun σ G H R i e k => h σ G H _ i e fun v G1 H1 f1 r1 => by
  cases r1 with
  | tup a ra =>
    refine ⟨_, rfl, ⟨_, Evl.ex_t f1.i a⟩, k _ _ _ G1 H1 f1 (by rw [← ra.len]; exact walk_tup) (fun H2 e2 => Evl.ex_t e2 a) fun i H2 v H3 G2 hi e1 e2 y => ?_⟩
    obtain ⟨rfl, y⟩ := y
    obtain ⟨d, hd, rd⟩ := ra.get' y
    exact ⟨G2, d, hd, Fr.refl e2, rd.up e1⟩
/-- a list or a tuple -/
def iOr (a b : TI) : TI := fun σ H R => a σ H R ∨ b σ H R
theorem pi_or {X : Cx} {tg it : Expr} {a b : TI} (h : PI X tg it a) (h2 : PI X tg it b) : PI X tg it (iOr a b) := ⟨fun pins s σ H R I q => by
  rcases q with q | q
  · exact h.run pins s σ H R I q
  · exact h2.run pins s σ H R I q⟩
theorem pi_seq {X : Cx} {tg l : Expr} {tl : TE} (h : PE X l tl) : PI X tg l (iOr (iList X.K tl) (iTup X.K tl)) := pi_or (pi_list h) (pi_tup h)
theorem di_1 {a b : TI} (h : DenI K a ρ ds) : DenI K (iOr a b) ρ ds := fun σ G H R i e k => .inl (h σ G H R i e k)
theorem di_2 {a b : TI} (h : DenI K b ρ ds) : DenI K (iOr a b) ρ ds := fun σ G H R i e k => .inr (h σ G H R i e k)
theorem di_rng1 {t : TA} {n : Int} (h : DenA K t ρ [.int n]) (hn : n ≤ 100000) (h0 : -100000 ≤ n) : DenI K (iRng1 t) ρ ((List.range n.toNat).map fun i => .int (i : Nat)) := fun σ G H R i e k => h σ G H _ i e fun vs G1 H1 f1 r1 => by
  obtain ⟨v, rfl, q⟩ := repAll_1 r1
  obtain rfl := rep_s q
  refine ⟨n, rfl, by omega, by omega, k _ (fun _ => True) _ G1 H1 f1 (by rw [List.length_map, List.length_range]; exact walk_range) (fun _ _ => trivial) fun i H2 v H3 G2 hi e1 e2 y => ?_⟩
  obtain ⟨rfl, rfl⟩ := y
  rw [List.length_map, List.length_range] at hi
  refine ⟨G2, .int (i : Nat), by simp [hi], Fr.refl e2, ?_⟩
  show Rep K G2 (.int (0 + (i : Int))) _
  rw [Int.zero_add]
  exact .s _
theorem di_rng2 {t : TA} {lo n : Int} (h : DenA K t ρ [.int lo, .int n]) (h0 : -100000 ≤ lo ∧ lo ≤ 100000 ∧ -100000 ≤ n ∧ n ≤ 100000) : DenI K (iRng2 t) ρ ((List.range (n - lo).toNat).map fun i => .int (lo + (i : Nat))) := fun σ G H R i e k => h σ G H _ i e fun vs G1 H1 f1 r1 => by
  cases r1 with
  | cons a r =>
    obtain ⟨v, rfl, q⟩ := repAll_1 r
    obtain rfl := rep_s q
    obtain rfl := rep_s a
    refine ⟨lo, n, rfl, by omega, k _ (fun _ => True) _ G1 H1 f1 (by rw [List.length_map, List.length_range]; exact walk_range) (fun _ _ => trivial) fun i H2 v H3 G2 hi e1 e2 y => ?_⟩
    obtain ⟨rfl, rfl⟩ := y
    rw [List.length_map, List.length_range] at hi
    exact ⟨G2, .int (lo + (i : Nat)), by simp [hi], Fr.refl e2, .s _⟩
/-- the pair that a turn makes -/
theorem pair_rep {H2 H3 G2 : Hp} {v : V} {f g : Nat → Option V} {i : Nat} {x y : Dat} (e2 : Ex G2 H2) (yy : YPair f g i H2 v H3) (hx : ∀ v, f i = some v → Rep K G2 v x) (hy : ∀ v, g i = some v → Rep K G2 v y) : ∃ G3, Fr G2 H2 G3 H3 ∧ Rep K G3 v (.tup [x, y]) := by
  obtain ⟨T, a, b, rfl, hT, rfl, e1, e3⟩ := yy
  exact ⟨_, Fr.new e2 hT, .tup (Evl.st_of upd_same) (.cons ((hx _ e1).up (Fr.new e2 hT).g) (.cons ((hy _ e3).up (Fr.new e2 hT).g) .nil))⟩
def enumD (xs : List Dat) : List Dat := xs.zipIdx.map fun p => .tup [.int (p.2 : Nat), p.1]
theorem enumD_get {i : Nat} {d : Dat} (h : ds[i]? = some d) : (enumD ds)[i]? = some (.tup [.int (i : Nat), d]) := by
  unfold enumD
  rw [List.getElem?_map, List.getElem?_zipIdx, h]
  simp
theorem enumD_len : (enumD ds).length = ds.length := by
  unfold enumD
  simp
theorem di_enumL {t : TA} (h : DenA K t ρ [.lst ds]) : DenI K (iEnum K t) ρ (enumD ds) := fun σ G H R i e k => h σ G H _ i e fun vs G1 H1 f1 r1 => by
  obtain ⟨v, rfl, q⟩ := repAll_1 r1
  cases q with
  | lst a ra =>
    refine ⟨_, _, rfl, Evl.sq_of (f1.i _ _ a), k _ _ _ G1 H1 f1 (by rw [enumD_len, ← ra.len]; exact walk_enum) (fun H2 e2 => Evl.sq_of (e2 _ _ a)) fun i H2 v H3 G2 hi e1 e2 y => ?_⟩
    rw [enumD_len] at hi
    have hd := List.getElem?_eq_getElem hi
    obtain ⟨G3, f3, r3⟩ := pair_rep (K := K) (x := .int (i : Nat)) (y := ds[i]) e2 y (fun v q => by cases q; exact .s _) (fun v q => by
      obtain ⟨d, hd', rd⟩ := ra.get' q
      rw [hd] at hd'
      cases hd'
      exact rd.up e1)
    exact ⟨G3, _, enumD_get hd, f3, r3⟩
theorem walk_enumT {a : Addr} {xs : List V} : Walk (Ru.IteT K a) xs.length (fun H => SqT K H a xs) (YPair (fun i => some (.int (i : Nat))) (fun i => xs[i]?)) := by
  refine ⟨fun i _ hi q => ⟨xs, xs[i], q, by simp [hi]⟩, fun _ q => ⟨xs, q, Nat.le_refl _⟩, fun i H v H' _ q y => ?_⟩
  obtain ⟨T, x, h1, h2, h3, h4⟩ := y
  exact ⟨T, .int (i : Nat), x, h1, h2, h3, rfl, h4 xs q⟩
theorem walk_zipT {a b : Addr} {xs ys : List V} {n : Nat} (hn : n = min xs.length ys.length) : Walk (RZ.ItzT K a b) n (fun H => SqT K H a xs ∧ SqT K H b ys) (YPair (fun i => xs[i]?) (fun i => ys[i]?)) := by
  subst hn
  refine ⟨fun i _ hi q => ?_, fun _ q => ⟨xs, ys, q.1, q.2, by omega⟩, fun i H v H' _ q y => ?_⟩
  · have h1 : i < xs.length := by omega
    have h2 : i < ys.length := by omega
    exact ⟨xs, ys, xs[i], ys[i], q.1, q.2, by simp [h1], by simp [h2]⟩
  · obtain ⟨T, x, z, h1, h2, h3, h4, h5⟩ := y
    exact ⟨T, x, z, h1, h2, h3, h4 xs q.1, h5 ys q.2⟩
theorem di_enumT {t : TA} (h : DenA K t ρ [.tup ds]) : DenI K (Ru.iEnumT K t) ρ (enumD ds) := fun σ G H R i e k => h σ G H _ i e fun vs G1 H1 f1 r1 => by
  obtain ⟨v, rfl, q⟩ := repAll_1 r1
  cases q with
  | tup a ra =>
    refine ⟨_, _, rfl, Evl.ex_t f1.i a, k _ _ _ G1 H1 f1 (by rw [enumD_len, ← ra.len]; exact walk_enumT) (fun H2 e2 => Evl.ex_t e2 a) fun i H2 v H3 G2 hi e1 e2 y => ?_⟩
    rw [enumD_len] at hi
    have hd := List.getElem?_eq_getElem hi
    obtain ⟨G3, f3, r3⟩ := pair_rep (K := K) (x := .int (i : Nat)) (y := ds[i]) e2 y (fun v q => by cases q; exact .s _) (fun v q => by
      obtain ⟨d, hd', rd⟩ := ra.get' q
      rw [hd] at hd'
      cases hd'
      exact rd.up e1)
    exact ⟨G3, _, enumD_get hd, f3, r3⟩
def zipD (xs ys : List Dat) : List Dat := (xs.zip ys).map fun p => .tup [p.1, p.2]
theorem zipD_len : (zipD ds es).length = min ds.length es.length := by
  unfold zipD
  simp
theorem zipD_get {i : Nat} {d e : Dat} (h : ds[i]? = some d) (h2 : es[i]? = some e) : (zipD ds es)[i]? = some (.tup [d, e]) := by
  unfold zipD
  rw [List.getElem?_map, (List.getElem?_zip_eq_some (z := (d, e))).mpr ⟨h, h2⟩]
  rfl
theorem di_zipL {t : TA} (h : DenA K t ρ [.lst ds, .lst es]) : DenI K (RZ.iZipA K t) ρ (zipD ds es) := fun σ G H R i e k => h σ G H _ i e fun vs G1 H1 f1 r1 => by
  cases r1 with
  | cons q1 q =>
    obtain ⟨v, rfl, q2⟩ := repAll_1 q
    clear q
    cases q1 with
    | @lst p as _ a ra =>
      cases q2 with
      | @lst q bs _ a' ra' =>
        refine ⟨_, _, _, _, rfl, .inl ⟨Evl.sq_of (f1.i _ _ a), Evl.sq_of (f1.i _ _ a'), k (Itz K p q) (fun H => SqL K H p as ∧ SqL K H q bs) _ G1 H1 f1 (by rw [zipD_len]; exact walk_zip (xs := as) (ys := bs) (by rw [ra.len, ra'.len])) (fun H2 e2 => ⟨Evl.sq_of (e2 _ _ a), Evl.sq_of (e2 _ _ a')⟩) fun i H2 v H3 G2 hi e1 e2 y => ?_⟩⟩
        rw [zipD_len] at hi
        have hd := List.getElem?_eq_getElem (show i < ds.length by omega)
        have he := List.getElem?_eq_getElem (show i < es.length by omega)
        obtain ⟨G3, f3, r3⟩ := pair_rep (K := K) e2 y (fun v q => by
          obtain ⟨d, hd', rd⟩ := ra.get' q
          rw [hd] at hd'
          cases hd'
          exact rd.up e1) (fun v q => by
          obtain ⟨d, hd', rd⟩ := ra'.get' q
          rw [he] at hd'
          cases hd'
          exact rd.up e1)
        exact ⟨G3, _, zipD_get hd he, f3, r3⟩
theorem di_zipT {t : TA} (h : DenA K t ρ [.tup ds, .tup es]) : DenI K (RZ.iZipA K t) ρ (zipD ds es) := fun σ G H R i e k => h σ G H _ i e fun vs G1 H1 f1 r1 => by
  cases r1 with
  | cons q1 q =>
    obtain ⟨v, rfl, q2⟩ := repAll_1 q
    clear q
    cases q1 with
    | @tup p as _ a ra =>
      cases q2 with
      | @tup q bs _ a' ra' =>
        refine ⟨_, _, _, _, rfl, .inr ⟨Evl.ex_t f1.i a, Evl.ex_t f1.i a', k (RZ.ItzT K p q) (fun H => SqT K H p as ∧ SqT K H q bs) _ G1 H1 f1 (by rw [zipD_len]; exact walk_zipT (xs := as) (ys := bs) (by rw [ra.len, ra'.len])) (fun H2 e2 => ⟨Evl.ex_t e2 a, Evl.ex_t e2 a'⟩) fun i H2 v H3 G2 hi e1 e2 y => ?_⟩⟩
        rw [zipD_len] at hi
        have hd := List.getElem?_eq_getElem (show i < ds.length by omega)
        have he := List.getElem?_eq_getElem (show i < es.length by omega)
        obtain ⟨G3, f3, r3⟩ := pair_rep (K := K) e2 y (fun v q => by
          obtain ⟨d, hd', rd⟩ := ra.get' q
          rw [hd] at hd'
          cases hd'
          exact rd.up e1) (fun v q => by
          obtain ⟨d, hd', rd⟩ := ra'.get' q
          rw [he] at hd'
          cases hd'
          exact rd.up e1)
        exact ⟨G3, _, zipD_get hd he, f3, r3⟩
/-- a text's signs -/
def signsD (z : Str) : List Dat := z.cps.toList.map fun c => .str ⟨#[c]⟩
theorem di_str {w : Str} (h : Den K te ρ (.str w)) : DenI K (iStr te) ρ (signsD w) := fun σ G H R i e k => h σ G H _ i e fun v G1 H1 f1 r1 => by
  obtain rfl := rep_s r1
  refine ⟨w, rfl, k _ (fun _ => True) _ G1 H1 f1 (by unfold signsD; rw [List.length_map, Array.length_toList]; exact walk_str) (fun _ _ => trivial) fun i H2 v H3 G2 hi e1 e2 y => ?_⟩
  obtain ⟨rfl, c, hc, rfl⟩ := y
  refine ⟨G2, _, ?_, Fr.refl e2, .s _⟩
  unfold signsD
  rw [List.getElem?_map, Array.getElem?_toList, hc]
  rfl
/-! ### slots wiped twice -/
theorem wipe_get {σ : L2.St} {i : Nat} : ∀ {vs : List Nat}, i ∈ vs → i < σ.length → (wipe σ vs)[i]? = some none
  | v :: vs, h, hl => by
    show ((wipe σ vs).set v none)[i]? = some none
    by_cases q : v = i
    · subst q
      rw [List.getElem?_set_self (by rw [wipe_length]; exact hl)]
    · rw [List.getElem?_set_ne q]
      exact wipe_get ((List.mem_cons.mp h).resolve_left fun z => q z.symm) hl
theorem wipe_eq {σ τ : L2.St} {vs : List Nat} (hl : τ.length = σ.length) (h : ∀ i, i ∉ vs → τ[i]? = σ[i]?) : wipe τ vs = wipe σ vs := by
  refine List.ext_getElem? fun i => ?_
  by_cases q : i ∈ vs
  · by_cases l : i < σ.length
    · rw [wipe_get q l, wipe_get q (by omega)]
    · rw [List.getElem?_eq_none (by rw [wipe_length]; omega), List.getElem?_eq_none (by rw [wipe_length]; omega)]
  · rw [wipe_out q, wipe_out q, h i q]
theorem wipe_twice {σ τ : L2.St} {vs js : List Nat} (hj : ∀ j ∈ js, j ∈ vs) (hl : τ.length = (wipe σ vs).length) (h : ∀ i, i ∉ js → τ[i]? = (wipe σ vs)[i]?) : wipe τ vs = wipe σ vs := by
  refine wipe_eq (by rw [hl, wipe_length]) fun i q => ?_
  rw [h i fun z => q (hj i z), wipe_out q]
/-! ### a growing object outside of G -/
theorem Fr.out {p : Addr} (f : Fr G H G' H') (g0 : G p = none) (h : H p ≠ none) : G' p = none := by
  cases q : G' p with
  | none => rfl
  | some o => exact absurd (f.n p g0 (by rw [q]; intro z; cases z)) h
theorem Fr.put (f : Fr G H G' H') {p : Addr} {o : HO} (h0 : H p = none) (g0 : G' p = none) : Fr G H G' (upd H' p o) := ⟨f.g, Evl.Ex.mut f.h h0, Evl.Ex.mut f.i g0, f.n⟩
/-- the frame of all three comprehensions: o0 the empty one, Acc what stands at D behind i turns -/
theorem comp_gen {body : L2.St → Hp → Addr → (Hp → Prop) → Prop} {vs js : List Nat} (o0 : Addr → HO) (Acc : Nat → Hp → Addr → HO → Prop) (hi : DenI K ti ρ ds) (a0 : ∀ G D, Acc 0 G D (o0 D)) (am : ∀ i G G' D o, Ex G G' → Acc i G D o → Acc i G' D o)
    (hj : ∀ j ∈ js, j ∈ vs) (step : ∀ i d, ds[i]? = some d → ∃ ρ' b, DenG K g d (wipeD ρ vs) ρ' js ∧ DenT K tt ρ' b ∧ (b = false → ∀ G D o, Acc i G D o → Acc (i + 1) G D o) ∧
      (b = true → ∀ σ G H D o (Nx : Hp → Prop), Ex G H → EnvD K G σ ρ' → G D = none → H D = some o → Acc i G D o → (∀ G4 H4 o', Fr G H G4 H4 → G4 D = none → H4 D = some o → Acc (i + 1) G4 D o' → Nx (upd H4 D o')) → body σ H D Nx)) :
    ∀ σ G H (Q : VK), Ex G H → EnvD K G σ ρ → (∀ D o G' H', Fr G H G' H' → G' D = none → H D = none → H' D = some o → Acc ds.length G' D o → Q (.ref D) H') →
    ti σ H fun J H1 => ∀ D, H1 D = none → ∃ W : Nat → Nat → Hp → Prop, (∃ m, W 0 m (upd H1 D (o0 D))) ∧ ∀ i m H, W i m H →
      (J.stop i H ∧ Q (.ref D) H) ∨ (J.go i H ∧ ∃ Nx : Hp → Prop, (∀ H', Nx H' → ∃ m', m' < m ∧ W (i + 1) m' H') ∧ ∀ x H', J.yld i H x H' → g x (wipe σ vs) H' fun σ2 H2 => wipe σ2 vs = wipe σ vs ∧ tt σ2 H2 fun b H3 =>
        if b = true then body σ2 H3 D Nx else Nx H3) := fun σ G H Q i0 e0 k => hi σ G H _ i0 e0 fun J Gd Y G1 H1 f1 w hgd hy D hD => by
  let Pv : Nat → Hp → Prop := fun i H' => ∃ G' o, Fr G1 H1 G' H' ∧ G' D = none ∧ H' D = some o ∧ Acc i G' D o
  refine ⟨fun i m H => m = ds.length - i ∧ i ≤ ds.length ∧ Pv i H, ⟨ds.length, by simp, Nat.zero_le _, ⟨G1, o0 D, ⟨Ex.refl G1, Ex.new hD, f1.i.trans (Ex.new hD), fun _ a b => absurd a b⟩, fresh_back f1.i hD, upd_same, a0 G1 D⟩⟩, ?_⟩
  rintro i m H2 ⟨rfl, hi, G2, o, f2, g2, h2, ac⟩
  by_cases hlt : i < ds.length
  · refine .inr ⟨w.goes i H2 hlt (hgd H2 (f2.g.trans f2.i)), Pv (i + 1), fun H' p' => ⟨ds.length - (i + 1), by omega, rfl, hlt, p'⟩, fun x H3 yy => ?_⟩
    obtain ⟨G3, d, hd, f3, r3⟩ := hy i H2 x H3 G2 hlt f2.g f2.i (w.yields i H2 x H3 hlt (hgd H2 (f2.g.trans f2.i)) yy)
    obtain ⟨ρ', b, hg, ht, hno, hyes⟩ := step i d hd
    have e3 : EnvD K G3 (wipe σ vs) (wipeD ρ vs) := (e0.up (((f1.trans f2).trans f3).g)).wipe vs
    have g3 : G3 D = none := f3.out g2 (by rw [h2]; intro z; cases z)
    have h3 : H3 D = some o := f3.h _ _ h2
    refine hg _ G3 H3 x _ f3.i r3 e3 fun σ' hl ho G4 H4 f4 e4 => ⟨wipe_twice hj hl ho, ?_⟩
    have g4 : G4 D = none := f4.out g3 (by rw [h3]; intro z; cases z)
    have h4 : H4 D = some o := f4.h _ _ h3
    refine ht σ' G4 H4 _ f4.i e4 fun G5 H5 f5 => ?_
    have g5 : G5 D = none := f5.out g4 (by rw [h4]; intro z; cases z)
    have h5 : H5 D = some o := f5.h _ _ h4
    have f25 := ((f2.trans f3).trans f4).trans f5
    have ac5 : Acc i G5 D o := am i G2 G5 D o ((f3.trans f4).trans f5).g ac
    cases b with
    | false => exact ⟨G5, o, f25, g5, h5, hno rfl G5 D o ac5⟩
    | true =>
      show body σ' H5 D (Pv (i + 1))
      exact hyes rfl σ' G5 H5 D o _ f5.i (e4.up f5.g) g5 h5 ac5 fun G6 H6 o' f6 g6 h6 ac6 => ⟨G6, o', (f25.trans f6).put hD g6, g6, upd_same, ac6⟩
  · have e : i = ds.length := by omega
    subst e
    exact .inl ⟨w.stops H2 (hgd H2 (f2.g.trans f2.i)), k D o G2 H2 (f1.trans f2) g2 (fresh_back f1.h hD) h2 ac⟩
/-! ### [e for x in xs if t] -/
theorem filter_take {α : Type} {p : α → Bool} {xs : List α} {i : Nat} {a : α} (h : xs[i]? = some a) : (xs.take (i + 1)).filter p = (xs.take i).filter p ++ (if p a = true then [a] else []) := by
  rw [List.take_add_one, h, List.filter_append]
  cases hp : p a <;> simp [hp]
theorem dl_lc {α : Type} (xs : List α) (e : α → Dat) (kp : α → Bool) (f : α → Dat) (ρf : α → DSt) {vs js : List Nat} (hi : DenI K ti ρ (xs.map e)) (hz : xs.length ≤ 40000) (hg : ∀ a ∈ xs, DenG K g (e a) (wipeD ρ vs) (ρf a) js)
    (ht : ∀ a ∈ xs, DenT K tt (ρf a) (kp a)) (he : ∀ a ∈ xs, kp a = true → Den K te (ρf a) (f a)) (hj : js.all (fun j => vs.contains j) = true := by rfl) : DenL K (tLc ti g tt te vs) ρ ((xs.filter kp).map f) := fun σ G H Q i e0 k => by
  refine comp_gen (body := fun σ2 H3 D Nx => te σ2 H3 fun y H4 => ∃ acc, H4 D = some (.lst acc) ∧ acc.length < sizeLine ∧ Nx (upd H4 D (.lst (acc ++ [y])))) (js := js) (fun _ => .lst []) (fun i G D o => ∃ ws, o = .lst ws ∧ RepAll K G ws (((xs.take i).filter kp).map f)) hi
    (fun G D => ⟨[], rfl, .nil⟩) (fun i G G' D o e ⟨ws, h, r⟩ => ⟨ws, h, r.up e⟩) (fun j hj' => by simpa using List.all_eq_true.mp hj j hj') (fun i d hd => ?_) σ G H Q i e0 fun D o G' H' f' g' h' ho ⟨ws, ew, r⟩ => ?_
  · rw [List.getElem?_map] at hd
    cases ha : xs[i]? with
    | none =>
      rw [ha] at hd
      cases hd
    | some a =>
      rw [ha] at hd
      cases hd
      have mem : a ∈ xs := List.mem_of_getElem? ha
      have lt : i < xs.length := (List.getElem?_eq_some_iff.mp ha).1
      refine ⟨ρf a, kp a, hg a mem, ht a mem, fun hb G D o ⟨ws, ew, r⟩ => ⟨ws, ew, ?_⟩, fun hb σ2 G2 H2 D o Nx i2 e2 g2 h2 ⟨ws, ew, r⟩ nx => ?_⟩
      · rw [filter_take ha, hb]
        simpa using r
      · refine he a mem hb σ2 G2 H2 _ i2 e2 fun y G3 H3 f3 r3 => ?_
        subst ew
        have g3 : G3 D = none := f3.out g2 (by rw [h2]; intro z; cases z)
        refine ⟨ws, f3.h _ _ h2, Evl.sz_lt ?_, nx G3 H3 _ f3 g3 (f3.h _ _ h2) ⟨_, rfl, ?_⟩⟩
        · have := List.length_filter_le kp (xs.take i)
          have h3 := r.len
          rw [List.length_map] at h3
          rw [List.length_take] at this
          omega
        · rw [filter_take ha, hb, if_pos rfl, List.map_append]
          exact (r.up f3.g).app (.cons r3 .nil)
  · subst ew
    rw [List.length_map, List.take_length] at r
    exact k D ws G' H' f' g' h' ho r
/-- all are kept -/
theorem dl_lcA {α : Type} (xs : List α) (e : α → Dat) (f : α → Dat) (ρf : α → DSt) {vs js : List Nat} (hi : DenI K ti ρ (xs.map e)) (hz : xs.length ≤ 40000) (hg : ∀ a ∈ xs, DenG K g (e a) (wipeD ρ vs) (ρf a) js)
    (ht : ∀ a ∈ xs, DenT K tt (ρf a) true) (he : ∀ a ∈ xs, Den K te (ρf a) (f a)) (hj : js.all (fun j => vs.contains j) = true := by rfl) : DenL K (tLc ti g tt te vs) ρ (xs.map f) := by
  have h := dl_lc xs e (fun _ => true) f ρf hi hz hg ht (fun a h _ => he a h) hj
  rw [List.filter_eq_self.mpr fun _ _ => rfl] at h
  exact h
/-! ### {k: v for x in xs}, the keys unlike -/
theorem valV_none {kvs : List (Key × V)} {k : Key} (h : k ∉ kvs.map (·.1)) : valV kvs k = none := by
  unfold valV
  rw [List.find?_eq_none.mpr]
  · rfl
  · intro p hp
    simp
    intro q
    exact h (List.mem_map.mpr ⟨p, hp, q⟩)
theorem den_dc {α : Type} (xs : List α) (e : α → Dat) (kf : α → Key) (f : α → Dat) (ρf : α → DSt) {vs js : List Nat} (hi : DenI K ti ρ (xs.map e)) (hz : xs.length ≤ 40000) (hd : (xs.map kf).Nodup) (hg : ∀ a ∈ xs, DenG K g (e a) (wipeD ρ vs) (ρf a) js)
    (ht : ∀ a ∈ xs, DenT K tt (ρf a) true) (hk : ∀ a ∈ xs, Den K tk (ρf a) (keyD (kf a))) (he : ∀ a ∈ xs, Den K tv (ρf a) (f a)) (hj : js.all (fun j => vs.contains j) = true := by rfl) : Den K (tDc ti g tt tk tv vs) ρ (.dct (xs.map kf) (xs.map f)) := fun σ G H Q i e0 k => by
  refine comp_gen (body := fun σ2 H3 D Nx => tk σ2 H3 fun y H4 => tv σ2 H4 fun z H5 => ∃ kvs k, y = kV k ∧ H5 D = some (.dK kvs) ∧ kvs.length < sizeLine ∧ Nx (upd H5 D (.dK (putK kvs k z)))) (js := js) (fun _ => .dK [])
    (fun i G D o => ∃ kvs : List (Key × V), o = .dK kvs ∧ kvs.map (·.1) = (xs.take i).map kf ∧ RepAll K G (kvs.map fun p : Key × V => p.2) ((xs.take i).map f)) hi
    (fun G D => ⟨[], rfl, rfl, .nil⟩) (fun i G G' D o e ⟨ws, h, h2, r⟩ => ⟨ws, h, h2, r.up e⟩) (fun j hj' => by simpa using List.all_eq_true.mp hj j hj') (fun i d hd' => ?_) σ G H Q i e0 fun D o G' H' f' g' h' ho ⟨ws, ew, ek, r⟩ => ?_
  · rw [List.getElem?_map] at hd'
    cases ha : xs[i]? with
    | none =>
      rw [ha] at hd'
      cases hd'
    | some a =>
      rw [ha] at hd'
      cases hd'
      have mem : a ∈ xs := List.mem_of_getElem? ha
      have lt : i < xs.length := (List.getElem?_eq_some_iff.mp ha).1
      refine ⟨ρf a, true, hg a mem, ht a mem, fun hb => (nomatch hb), fun hb σ2 G2 H2 D o Nx i2 e2 g2 h2 ⟨ws, ew, ek, r⟩ nx => ?_⟩
      subst ew
      refine hk a mem σ2 G2 H2 _ i2 e2 fun y G3 H3 f3 r3 => he a mem σ2 G3 H3 _ f3.i (e2.up f3.g) fun z G4 H4 f4 r4 => ?_
      have f34 := f3.trans f4
      have h4 := f34.h _ _ h2
      have tk1 : xs.take (i + 1) = xs.take i ++ [a] := by
        rw [List.take_add_one, ha]
        rfl
      have nk : kf a ∉ ws.map (·.1) := by
        rw [ek]
        intro hm
        have nd : ((xs.take (i + 1)).map kf).Nodup := by
          rw [List.map_take]
          exact hd.sublist (List.take_sublist _ _)
        rw [tk1, List.map_append, List.nodup_append] at nd
        exact nd.2.2 _ hm _ (by simp) rfl
      refine ⟨ws, kf a, ?_, h4, Evl.sz_lt ?_, nx G4 H4 _ f34 (f34.out g2 (by rw [h2]; intro z; cases z)) h4 ⟨_, rfl, ?_, ?_⟩⟩
      · rw [keyD_s] at r3
        exact rep_s r3
      · have := congrArg List.length ek
        rw [List.length_map, List.length_map, List.length_take] at this
        omega
      · rw [putK_new z (valV_none nk), List.map_append, ek, tk1, List.map_append]
        rfl
      · rw [putK_new z (valV_none nk), List.map_append, tk1, List.map_append]
        exact (r.up f34.g).app (.cons r4 .nil)
  · subst ew
    rw [List.length_map, List.take_length] at r ek
    exact k _ _ H' (f'.take h' ho g') (.dct upd_same ek (r.up (Ex.new g')))
/-! ### len(set(xs)), len({e for x in xs}), none twice -/
theorem den_len_set {P : Program} {w : World} {t : TA} {ks : List Key} (h : DenA K t ρ [.tup (ks.map keyD)] ∨ DenA K t ρ [.lst (ks.map keyD)]) (nd : ks.Nodup) (hz : ks.length < 4000) :
    Den K (tCB (Ru.rLenK P w) (tCons (tCB (Ru.rSetOfK K P w) t) tNil)) ρ (.int ks.length) := by
  have ek : ks.map keyD = (ks.map kV).map Dat.s := by
    rw [List.map_map]
    exact List.map_congr_left fun k _ => keyD_s k
  have fin : ∀ (vs : List V) (G H G1 H1 : Hp) (Q : VK), Fr G H G1 H1 → (∃ p, vs = [.ref p] ∧ (SqL K H1 p (ks.map kV) ∨ SqT K H1 p (ks.map kV))) → (∀ v G' H', Fr G H G' H' → Rep K G' v (.int ks.length) → Q v H') →
      Ru.rSetOfK K P w vs H1 fun v H2 => Ru.rLenK P w [v] H2 Q := fun vs G H G1 H1 Q f1 ⟨p, e, sq⟩ k => ⟨p, ks, e, sq, nd, hz, fun D hD => ⟨D, _, _, rfl, upd_same, by omega, k _ G1 _ ⟨f1.g, f1.h.trans (Ex.new hD), f1.i.trans (Ex.new hD), f1.n⟩ (.s _)⟩⟩
  rcases h with h | h
  · exact fun σ G H Q i e k => h σ G H _ i e fun vs G1 H1 f1 r1 => fin vs G H G1 H1 Q f1 (by
      obtain ⟨v, rfl, q⟩ := repAll_1 r1
      cases q with
      | tup a ra =>
        rw [ek] at ra
        rw [repAll_s ra] at a
        exact ⟨_, rfl, .inr (Evl.ex_t f1.i a)⟩) k
  · exact fun σ G H Q i e k => h σ G H _ i e fun vs G1 H1 f1 r1 => fin vs G H G1 H1 Q f1 (by
      obtain ⟨v, rfl, q⟩ := repAll_1 r1
      cases q with
      | lst a ra =>
        rw [ek] at ra
        rw [repAll_s ra] at a
        exact ⟨_, rfl, .inl (Evl.sq_of (f1.i _ _ a))⟩) k
theorem den_len_sc {α : Type} {P : Program} {w : World} (xs : List α) (e : α → Dat) (kf : α → Key) (ρf : α → DSt) {vs js : List Nat} (hi : DenI K ti ρ (xs.map e)) (hz : xs.length < 4000) (hd : (xs.map kf).Nodup) (hg : ∀ a ∈ xs, DenG K g (e a) (wipeD ρ vs) (ρf a) js)
    (ht : ∀ a ∈ xs, DenT K tt (ρf a) true) (he : ∀ a ∈ xs, Den K te (ρf a) (keyD (kf a))) (hj : js.all (fun j => vs.contains j) = true := by rfl) : Den K (tCB (Ru.rLenK P w) (tCons (Ru.tScK P w ti g tt te vs) tNil)) ρ (.int xs.length) := fun σ G H Q i e0 k => by
  refine comp_gen (body := fun σ2 H3 D Nx => te σ2 H3 fun y H4 => ∃ (c : Key) (S : Key → Bool) (n : Nat), y = kV c ∧ H4 D = some (SetK P w D S n) ∧ n + 1 < scanBound ∧ Nx (upd H4 D (SetK P w D (fun j => S j || decide (j = c)) (if S c = true then n else n + 1)))) (js := js) (fun D => SetK P w D (fun _ => false) 0)
    (fun i G D o => ∃ S : Key → Bool, o = SetK P w D S i ∧ ∀ k, S k = true ↔ k ∈ (xs.take i).map kf) hi
    (fun G D => ⟨fun _ => false, rfl, fun k => by simp⟩) (fun i G G' D o e h => h) (fun j hj' => by simpa using List.all_eq_true.mp hj j hj') (fun i d hd' => ?_) σ G H (fun v H2 => Ru.rLenK P w [v] H2 Q) i e0 fun D o G' H' f' g' h' ho ⟨S, eS, hS⟩ => ?_
  · rw [List.getElem?_map] at hd'
    cases ha : xs[i]? with
    | none =>
      rw [ha] at hd'
      cases hd'
    | some a =>
      rw [ha] at hd'
      cases hd'
      have mem : a ∈ xs := List.mem_of_getElem? ha
      have lt : i < xs.length := (List.getElem?_eq_some_iff.mp ha).1
      refine ⟨ρf a, true, hg a mem, ht a mem, fun hb => (nomatch hb), fun hb σ2 G2 H2 D o Nx i2 e2 g2 h2 ⟨S, eS, hS⟩ nx => ?_⟩
      subst eS
      refine he a mem σ2 G2 H2 _ i2 e2 fun y G3 H3 f3 r3 => ?_
      have h3 := f3.h _ _ h2
      have tk1 : xs.take (i + 1) = xs.take i ++ [a] := by
        rw [List.take_add_one, ha]
        rfl
      have nk : kf a ∉ (xs.take i).map kf := by
        intro hm
        have nd : ((xs.take (i + 1)).map kf).Nodup := by
          rw [List.map_take]
          exact hd.sublist (List.take_sublist _ _)
        rw [tk1, List.map_append, List.nodup_append] at nd
        exact nd.2.2 _ hm _ (by simp) rfl
      have sf : S (kf a) = false := by
        cases q : S (kf a) with
        | false => rfl
        | true => exact absurd ((hS _).mp q) nk
      refine ⟨kf a, S, i, ?_, h3, by unfold scanBound; omega, nx G3 H3 _ f3 (f3.out g2 (by rw [h2]; intro z; cases z)) h3 ⟨_, by rw [sf]; rfl, fun k => ?_⟩⟩
      · rw [keyD_s] at r3
        exact rep_s r3
      · rw [tk1, List.map_append, List.mem_append, ← hS k]
        simp
  · subst eS
    rw [List.length_map] at ho
    exact ⟨D, S, xs.length, rfl, ho, by omega, k _ G' H' f' (.s _)⟩
end Dn
set_option Elab.async false
set_option linter.all false
set_option maxRecDepth 100000
set_option maxHeartbeats 4000000
/-! Dn4: whole defs by data: pure ones, makers of instances. -/
namespace Dn
open PySem PySem.Spec
open PyProof.Rows L2
open Evl (Ex fresh_back)
section
variable {P : Program} {w : World} {K : PySem.W.Frag} {mg : PySem.Str → Option Value} {base : Heap}
theorem pure_ok {x qual : PySem.Str} {st : Stmt} {f : Addr} {fd : FuncData} {N ps : List PySem.Str} {k : Nat} {Fp : List Dat → Dat → Prop} (F : Fun K x qual st f fd) (S : FnScope N ps (defScope st)) (hl : ∀ ds d, Fp ds d → ds.length = ps.length)
    (hb : ∀ (cdv : Value) (A : Around) (outer : List PySem.Env) (s : Shared) (H : Hp) (E : XK), Room k (A.deeper (envOfC qual (defScope st) s.heap.objs.size f cdv)) →
      ∃ t, PSs (cxOf CX0 P w K mg base N qual (defScope st) f cdv A outer s H E).nox (defBody st) t ∧ ∀ ds d, Fp ds d → DenS K t (ds.map some ++ List.replicate (N.length - ds.length) none) (.rt d)) : FnOk P w K mg base CX0 (k + 1) f fd ps (spF K Fp) := by
  refine F.ok S (fun vs H Q E h => ?_) (fun cdv A outer s H vs Q E hr h => ?_)
  · obtain ⟨G, ds, d, e, r, hf, _⟩ := h
    rw [r.len, hl ds d hf]
  · obtain ⟨G, ds, d, e, r, hf, k⟩ := h
    obtain ⟨t, ht, hd⟩ := hb cdv A outer s H E hr
    exact ⟨t, ht, hd ds d hf _ G H _ e (envD_start N r) k⟩
end
/-- a field, K named -/
theorem pe_fldK {X : Cx} {K : PySem.W.Frag} (hK : X.K = K) {e : Expr} {f : PySem.Str} {pos : Pos} {ta : TE} (h : PE X e ta) (hb : attributeBase e f X.env (eval e X.env) = eval e X.env) : PE X (.Attribute e f pos) (tFld K ta f) := by
  subst hK
  exact pe_fld h hb
theorem hu65 {A : Around} {k : Nat} (hr : Room k A) : A.units + 65 < cLine := by
  have := hr.un
  omega
/-- what is never come to -/
def tNevE : TE := fun _ _ _ => False
theorem pe_nev {X : Cx} {e : Expr} : PE X e tNevE := ⟨fun _ _ _ _ _ _ h => h.elim⟩
theorem ati {α : Type} {xs : List α} {v : α} (j : Nat) (h : xs[j]? = some v) {i : Int} (e : i = (j : Int) := by rfl) : atI xs i = some v := by
  subst e
  exact atI_nat h
/-! ### an instance that is being made: H knows it, G not -/
structure FrX (p : Addr) (G H G' H' : Hp) : Prop where
  g : Ex G G'
  h : ∀ a o, a ≠ p → H a = some o → H' a = some o
  i : Ex G' H'
  n : ∀ a, G a = none → G' a ≠ none → H a = none
section
variable {K : PySem.W.Frag} {p C : Addr} {G H G' H' G2 H2 : Hp} {ρ : DSt} {te : TE} {d : Dat} {ns ns' ns2 : List PySem.Str} {fs fs' fs2 : List Dat} {t u : TS}
theorem FrX.refl (i : Ex G H) : FrX p G H G H := ⟨Ex.refl G, fun _ _ _ h => h, i, fun _ a b => absurd a b⟩
theorem FrX.of (f : Fr G H G' H') : FrX p G H G' H' := ⟨f.g, fun a o _ h => f.h a o h, f.i, f.n⟩
theorem FrX.trans (a : FrX p G H G' H') (b : FrX p G' H' G2 H2) (hp : H' p ≠ none) (g0 : G' p = none) : FrX p G H G2 H2 := ⟨a.g.trans b.g, fun x o q h => b.h x o q (a.h x o q h), b.i, fun x h0 h2 => by
  by_cases e : G' x = none
  · have z := b.n x e h2
    cases q : H x with
    | none => rfl
    | some o =>
      by_cases xp : x = p
      · subst xp
        exact absurd z hp
      · rw [a.h x o xp q] at z
        cases z
  · exact a.n x h0 e⟩
def IniS (K : PySem.W.Frag) (C : Addr) (t : TS) (ρ : DSt) (ns : List PySem.Str) (fs : List Dat) (ns' : List PySem.Str) (fs' : List Dat) : Prop :=
  ∀ (σ : L2.St) (G H : Hp) (D : Ends) (p dx : Addr) (gs : List (PySem.Str × V)), Ex G H → G p = none → EnvD K G σ ρ → σ[0]? = some (some (.ref p)) → H p = some (.ins C dx gs) → gs.map (·.1) = ns → RepAll K G (gs.map (·.2)) fs →
    (∀ (G' H' : Hp) (gs' : List (PySem.Str × V)), FrX p G H G' H' → G' p = none → H' p = some (.ins C dx gs') → gs'.map (·.1) = ns' → RepAll K G' (gs'.map (·.2)) fs' → D.nx σ H') → t D σ H
theorem putF_new {f : PySem.Str} {v : V} : ∀ {gs : List (PySem.Str × V)}, (gs.map (·.1)).contains f = false → putF f v gs = gs ++ [(f, v)]
  | [], _ => rfl
  | (g, x) :: r, h => by
    simp only [List.map_cons, List.contains_cons, Bool.or_eq_false_iff] at h
    have e : ¬ g = f := fun q => by
      have := h.1
      rw [q] at this
      simp at this
    show (if g = f then (g, v) :: r else (g, x) :: putF f v r) = _
    rw [if_neg e, putF_new h.2]
    rfl
theorem ini_fld {f : PySem.Str} (c : Cls K C) (n : NoAttr K C f) (h : Den K te ρ d) (hf : ns.contains f = false) (hz : ns.length < 900) : IniS K C (sFld K (tVar 0) te f) ρ ns fs (ns ++ [f]) (fs ++ [d]) := fun σ G H D p dx gs i g0 e s0 hp en rg k =>
  h σ G H _ i e fun v G1 H1 f1 r1 => by
    have h1 := f1.h _ _ hp
    have g1 := f1.out g0 (by rw [hp]; intro z; cases z)
    refine ⟨.ref p, s0, p, C, dx, gs, rfl, h1, c, n, by have := congrArg List.length en; rw [List.length_map] at this; omega, ?_⟩
    have ef : putF f v gs = gs ++ [(f, v)] := putF_new (by rw [en]; exact hf)
    refine k G1 _ (putF f v gs) ⟨f1.g, fun a o q z => ?_, Evl.Ex.mut f1.i g1, f1.n⟩ g1 upd_same (by rw [ef, List.map_append, en]; rfl) (by rw [ef, List.map_append]; exact (rg.up f1.g).app (.cons r1 .nil))
    rw [upd_ne q]
    exact f1.h a o z
theorem ini_seq (h : IniS K C t ρ ns fs ns' fs') (h2 : IniS K C u ρ ns' fs' ns2 fs2) : IniS K C (tSeq t u) ρ ns fs ns2 fs2 := fun σ G H D p dx gs i g0 e s0 hp en rg k =>
  h σ G H _ p dx gs i g0 e s0 hp en rg fun G1 H1 gs1 f1 g1 h1 en1 rg1 => h2 σ G1 H1 D p dx gs1 f1.i g1 (e.up f1.g) s0 h1 en1 rg1 fun G2 H2 gs2 f2 g2 h2 en2 rg2 =>
    k G2 H2 gs2 (f1.trans f2 (by rw [h1]; intro z; cases z) g1) g2 h2 en2 rg2
theorem ini_drop (h : Den K te ρ d) : IniS K C (tDrop te) ρ ns fs ns fs := fun σ G H D p dx gs i g0 e s0 hp en rg k => h σ G H _ i e fun v G1 H1 f1 r1 =>
  k G1 H1 gs (FrX.of f1) (f1.out g0 (by rw [hp]; intro z; cases z)) (f1.h _ _ hp) en (rg.up f1.g)
end
section
variable {P : Program} {w : World} {K : PySem.W.Frag} {mg : PySem.Str → Option Value} {base : Heap}
theorem init_ok {x qual : PySem.Str} {st : Stmt} {f C : Addr} {fd : FuncData} {N ps : List PySem.Str} {k : Nat} {ns : List PySem.Str} {Fp : List Dat → List Dat → Prop} (F : Fun K x qual st f fd) (S : FnScope N ps (defScope st)) (hl : ∀ ds d, Fp ds d → ds.length + 1 = ps.length)
    (hb : ∀ (cdv : Value) (A : Around) (outer : List PySem.Env) (s : Shared) (H : Hp) (E : XK), Room k (A.deeper (envOfC qual (defScope st) s.heap.objs.size f cdv)) →
      ∃ t, PSs (cxOf CX0 P w K mg base N qual (defScope st) f cdv A outer s H E).nox (defBody st) t ∧ ∀ ds fs, Fp ds fs → IniS K C t (none :: (ds.map some ++ List.replicate (N.length - (ds.length + 1)) none)) [] [] ns fs) : FnOk P w K mg base CX0 (k + 1) f fd ps (spI K C ns Fp) := by
  refine F.ok S (fun vs H Q E h => ?_) (fun cdv A outer s H vs Q E hr h => ?_)
  · obtain ⟨G, p, dx, us, ds, fs, rfl, e, hp, g0, gd, ne, r, hf, _⟩ := h
    rw [List.length_cons, r.len, hl ds fs hf]
  · obtain ⟨G, p, dx, us, ds, fs, rfl, e, hp, g0, gd, ne, r, hf, k⟩ := h
    obtain ⟨t, ht, hd⟩ := hb cdv A outer s H E hr
    refine ⟨t, ht, hd ds fs hf (L2.start N (.ref p :: us)) G H _ p dx [] e g0 ?_ rfl hp rfl .nil fun G' H' gs' f' g' h' en rg => k G' H' gs' f'.g f'.h f'.i f'.n h' en rg⟩
    have q := envD_start N (ds := .s (.ref p) :: ds) (.cons (.s _) r)
    refine ⟨by rw [q.len]; simp, fun i d z => q.at_ i d ?_⟩
    cases i with
    | zero => simp at z
    | succ i => simpa using z
end
/-- every argument given, some by their names -/
theorem kbn_all {K : PySem.W.Frag} {fd : FuncData} {ps ks : List PySem.Str} {n : Nat} (h : ∀ us ws : List Value, us.length = n → ws.length = ks.length → bindArgs fd ⟨us, ks.zip ws⟩ = pure (ps.zip (us ++ ws))) : KBn K fd ps n ks (fun us ws => us ++ ws) (fun vs zs => vs ++ zs) :=
  ⟨fun s us ws X l1 l2 => .of_eq (h us ws l1 l2), fun r1 r2 => r1.append r2⟩
section
variable {K : PySem.W.Frag} {ρ : DSt} {xs ys fs : List Dat} {ns : List PySem.Str} {C : Addr} {E : XK}
theorem den_makeN {n m : Nat} {FI : List Dat → List Dat → Prop} {t tk : TA} (ha : DenA K t ρ xs) (hb : DenA K tk ρ ys) (hn : xs.length = n) (hm : ys.length = m) (hf : FI (xs ++ ys) fs) : Den K (tMakeN C n m (spI K C ns FI) (fun vs zs => vs ++ zs) E t tk) ρ (.ins C ns fs) := fun σ G H Q i e k =>
  ha σ G H _ i e fun vs Ga Ha fa ra => hb σ Ga Ha _ fa.i (e.up fa.g) fun zs G1 H1 fb rb => ⟨by rw [ra.len, hn], by rw [rb.len, hm], fun p dx np ndx ne => by
    have f1 := fa.trans fb
    have np1 : G1 p = none := fresh_back f1.i np
    have nd1 : G1 dx = none := fresh_back f1.i ndx
    have i1 : Ex G1 (upd (upd H1 dx (.own p)) p (.ins C dx [])) := fun a o q => by
      rw [upd_ne (ne_of_none q np1), upd_ne (ne_of_none q nd1)]
      exact f1.i a o q
    refine ⟨G1, p, dx, vs ++ zs, xs ++ ys, fs, rfl, i1, upd_same, np1, nd1, ne, (ra.up fb.g).app rb, hf, fun G2 H2 gs g12 h12 i2 n2 e2 en rg => ⟨rfl, ?_⟩⟩
    have np2 : G2 p = none := by
      cases q : G2 p with
      | none => rfl
      | some o =>
        have := n2 p np1 (by rw [q]; intro z; cases z)
        rw [upd_same] at this
        cases this
    have hh : Ex H1 H2 := fun a o q => h12 a o (ne_of_none q np) (by
      rw [upd_ne (ne_of_none q np), upd_ne (ne_of_none q ndx)]
      exact q)
    have f2 : Fr G1 H1 G2 H2 := ⟨g12, hh, i2, fun a a1 a2 => by
      have := n2 a a1 a2
      by_cases q : a = p
      · subst q
        exact np
      · rw [upd_ne q] at this
        by_cases q2 : a = dx
        · subst q2
          exact ndx
        · rw [upd_ne q2] at this
          exact this⟩
    exact k _ _ _ (f1.trans (f2.take np e2 np2)) (.ins upd_same en (rg.up (Ex.new np2)))⟩
end
end Dn
set_option Elab.async false
set_option linter.all false
set_option maxRecDepth 100000
set_option maxHeartbeats 4000000
/-! Dn5: new lists within a new list; loops over data; what is forgotten. -/
namespace Dn
open PySem PySem.Spec
open PyProof.Rows L2
open Evl (Ex fresh_back)
variable {K : PySem.W.Frag} {G H G' H' : Hp} {ρ ρ' : DSt} {te ta tb tc tk tv : TE} {tt : TT} {g : TG} {ti : TI} {d x y z : Dat} {ds es xs : List Dat} {b c : Bool}
/-- the frame again, where what has come of i turns is told of the whole heap, too -/
theorem comp_genH {body : L2.St → Hp → Addr → (Hp → Prop) → Prop} {vs js : List Nat} (o0 : Addr → HO) (Acc : Nat → Hp → Hp → Addr → HO → Prop) (hi : DenI K ti ρ ds) (am : ∀ i G H G' H' D o, Fr G H G' H' → G D = none → H D = some o → Acc i G H D o → Acc i G' H' D o)
    (hj : ∀ j ∈ js, j ∈ vs) (step : ∀ i d, ds[i]? = some d → ∃ ρ' b, DenG K g d (wipeD ρ vs) ρ' js ∧ DenT K tt ρ' b ∧ (b = false → ∀ G H D o, Acc i G H D o → Acc (i + 1) G H D o) ∧
      (b = true → ∀ σ G H D o (Nx : Hp → Prop), Ex G H → EnvD K G σ ρ' → G D = none → H D = some o → Acc i G H D o → (∀ G4 H4 o', Fr G H G4 H4 → G4 D = none → H4 D = some o → Acc (i + 1) G4 (upd H4 D o') D o' → Nx (upd H4 D o')) → body σ H D Nx)) :
    ∀ σ G H (Q : VK), Ex G H → EnvD K G σ ρ → (∀ G1 H1 D, Fr G H G1 H1 → H1 D = none → Acc 0 G1 (upd H1 D (o0 D)) D (o0 D)) → (∀ D o G' H', Fr G H G' H' → G' D = none → H D = none → H' D = some o → Acc ds.length G' H' D o → Q (.ref D) H') →
    ti σ H fun J H1 => ∀ D, H1 D = none → ∃ W : Nat → Nat → Hp → Prop, (∃ m, W 0 m (upd H1 D (o0 D))) ∧ ∀ i m H, W i m H →
      (J.stop i H ∧ Q (.ref D) H) ∨ (J.go i H ∧ ∃ Nx : Hp → Prop, (∀ H', Nx H' → ∃ m', m' < m ∧ W (i + 1) m' H') ∧ ∀ x H', J.yld i H x H' → g x (wipe σ vs) H' fun σ2 H2 => wipe σ2 vs = wipe σ vs ∧ tt σ2 H2 fun b H3 =>
        if b = true then body σ2 H3 D Nx else Nx H3) := fun σ G H Q i0 e0 a0 k => hi σ G H _ i0 e0 fun J Gd Y G1 H1 f1 w hgd hy D hD => by
  let Pv : Nat → Hp → Prop := fun i H' => ∃ G' o, Fr G1 H1 G' H' ∧ G' D = none ∧ H' D = some o ∧ Acc i G' H' D o
  refine ⟨fun i m H => m = ds.length - i ∧ i ≤ ds.length ∧ Pv i H, ⟨ds.length, by simp, Nat.zero_le _, ⟨G1, o0 D, ⟨Ex.refl G1, Ex.new hD, f1.i.trans (Ex.new hD), fun _ a b => absurd a b⟩, fresh_back f1.i hD, upd_same, a0 G1 H1 D f1 hD⟩⟩, ?_⟩
  rintro i m H2 ⟨rfl, hi, G2, o, f2, g2, h2, ac⟩
  by_cases hlt : i < ds.length
  · refine .inr ⟨w.goes i H2 hlt (hgd H2 (f2.g.trans f2.i)), Pv (i + 1), fun H' p' => ⟨ds.length - (i + 1), by omega, rfl, hlt, p'⟩, fun x H3 yy => ?_⟩
    obtain ⟨G3, d, hd, f3, r3⟩ := hy i H2 x H3 G2 hlt f2.g f2.i (w.yields i H2 x H3 hlt (hgd H2 (f2.g.trans f2.i)) yy)
    obtain ⟨ρ', b, hg, ht, hno, hyes⟩ := step i d hd
    have e3 : EnvD K G3 (wipe σ vs) (wipeD ρ vs) := (e0.up (((f1.trans f2).trans f3).g)).wipe vs
    have g3 : G3 D = none := f3.out g2 (by rw [h2]; intro z; cases z)
    have h3 : H3 D = some o := f3.h _ _ h2
    refine hg _ G3 H3 x _ f3.i r3 e3 fun σ' hl ho G4 H4 f4 e4 => ⟨wipe_twice hj hl ho, ?_⟩
    have g4 : G4 D = none := f4.out g3 (by rw [h3]; intro z; cases z)
    have h4 : H4 D = some o := f4.h _ _ h3
    refine ht σ' G4 H4 _ f4.i e4 fun G5 H5 f5 => ?_
    have g5 : G5 D = none := f5.out g4 (by rw [h4]; intro z; cases z)
    have h5 : H5 D = some o := f5.h _ _ h4
    have f25 := ((f2.trans f3).trans f4).trans f5
    have ac5 : Acc i G5 H5 D o := am i G2 H2 G5 H5 D o ((f3.trans f4).trans f5) g2 h2 ac
    cases b with
    | false => exact ⟨G5, o, f25, g5, h5, hno rfl G5 H5 D o ac5⟩
    | true =>
      show body σ' H5 D (Pv (i + 1))
      exact hyes rfl σ' G5 H5 D o _ f5.i (e4.up f5.g) g5 h5 ac5 fun G6 H6 o' f6 g6 h6 ac6 => ⟨G6, o', (f25.trans f6).put hD g6, g6, upd_same, ac6⟩
  · have e : i = ds.length := by omega
    subst e
    exact .inl ⟨w.stops H2 (hgd H2 (f2.g.trans f2.i)), k D o G2 H2 (f1.trans f2) g2 (fresh_back f1.h hD) h2 ac⟩

/-- [[] for x in xs]: new lists, none of them in G -/
theorem lc_fresh {α : Type} (xs : List α) (e : α → Dat) (ρf : α → DSt) {vs js : List Nat} (hi : DenI K ti ρ (xs.map e)) (hz : xs.length ≤ 40000) (hg : ∀ a ∈ xs, DenG K g (e a) (wipeD ρ vs) (ρf a) js)
    (ht : ∀ a ∈ xs, DenT K tt (ρf a) true) (hj : js.all (fun j => vs.contains j) = true := by rfl) : ∀ σ G H (Q : VK), Ex G H → EnvD K G σ ρ →
    (∀ (D : Addr) (ls : List Addr) (G' H' : Hp), Fr G H G' H' → G' D = none → H D = none → H' D = some (.lst (ls.map V.ref)) → ls.length = xs.length → (∀ l ∈ ls, G' l = none ∧ H l = none ∧ H' l = some (.lst [])) → ls.Nodup → D ∉ ls → Q (.ref D) H') →
    tLc ti g tt (tLst tNil) vs σ H Q := fun σ G H Q i e0 k => by
  refine comp_genH (body := fun σ2 H3 D Nx => tLst tNil σ2 H3 fun y H4 => ∃ acc, H4 D = some (.lst acc) ∧ acc.length < sizeLine ∧ Nx (upd H4 D (.lst (acc ++ [y])))) (js := js) (fun _ => .lst [])
    (fun i G2 H2 D o => ∃ ls : List Addr, o = .lst (ls.map V.ref) ∧ ls.length = i ∧ (∀ l ∈ ls, G2 l = none ∧ H l = none ∧ H2 l = some (.lst [])) ∧ ls.Nodup ∧ D ∉ ls ∧ H D = none ∧ Ex H H2) hi
    (fun i G H G' H' D o f g0 h0 ⟨ls, eo, el, al, nd, nm, hD, ex⟩ => ⟨ls, eo, el, fun l hl => ⟨f.out (al l hl).1 (by rw [(al l hl).2.2]; intro z; cases z), (al l hl).2.1, f.h _ _ (al l hl).2.2⟩, nd, nm, hD, ex.trans f.h⟩)
    (fun j hj' => by simpa using List.all_eq_true.mp hj j hj') (fun i d hd => ?_) σ G H Q i e0 (fun G1 H1 D f1 hD => ⟨[], rfl, rfl, fun l hl => (nomatch hl), .nil, fun q => (nomatch q), fresh_back f1.h hD, Evl.Ex.mut f1.h (fresh_back f1.h hD)⟩) fun D o G' H' f' g' h' ho ⟨ls, eo, el, al, nd, nm, hD, ex⟩ => ?_
  · rw [List.getElem?_map] at hd
    cases ha : xs[i]? with
    | none =>
      rw [ha] at hd
      cases hd
    | some a =>
      rw [ha] at hd
      cases hd
      have mem : a ∈ xs := List.mem_of_getElem? ha
      have lt : i < xs.length := (List.getElem?_eq_some_iff.mp ha).1
      refine ⟨ρf a, true, hg a mem, ht a mem, fun hb => (nomatch hb), fun hb σ2 G2 H2 D o Nx i2 e2 g2 h2 ⟨ls, eo, el, al, nd, nm, hD0, ex⟩ nx => ?_⟩
      refine ⟨Nat.zero_le _, fun p hp => ?_⟩
      subst eo
      have pD : p ≠ D := fun q => by
        rw [q, h2] at hp
        cases hp
      have h0 : H p = none := fresh_back ex hp
      have gp : G2 p = none := fresh_back i2 hp
      have hD2 : upd H2 p (.lst []) D = some (.lst (ls.map V.ref)) := by
        rw [upd_ne pD.symm]
        exact h2
      refine ⟨ls.map V.ref, hD2, Evl.sz_lt (by rw [List.length_map]; omega), nx G2 _ _ ⟨Ex.refl G2, Ex.new hp, i2.trans (Ex.new hp), fun _ a b => absurd a b⟩ g2 hD2 ⟨ls ++ [p], by simp, by simp [el], fun l hl => ?_, ?_, ?_, hD0, Evl.Ex.mut (ex.trans (Ex.new hp)) hD0⟩⟩
      · rcases List.mem_append.mp hl with hl | hl
        · obtain ⟨a1, a2, a3⟩ := al l hl
          refine ⟨a1, a2, ?_⟩
          have lD : l ≠ D := fun q => nm (q ▸ hl)
          have lp : l ≠ p := fun q => by
            rw [q, hp] at a3
            cases a3
          rw [upd_ne lD, upd_ne lp]
          exact a3
        · simp at hl
          subst hl
          exact ⟨gp, h0, by rw [upd_ne pD, upd_same]⟩
      · rw [List.nodup_append]
        refine ⟨nd, by simp, fun a ha b hb q => ?_⟩
        simp at hb
        subst hb
        subst q
        rw [(al a ha).2.2] at hp
        cases hp
      · intro q
        rcases List.mem_append.mp q with q | q
        · exact nm q
        · simp at q
          exact pD q.symm
  · subst eo
    rw [List.length_map] at el
    exact k D ls G' H' f' g' h' ho el al nd nm
/-! ### slots that are forgotten, or not told of -/
theorem EnvD.forget {σ : L2.St} (h : EnvD K G σ ρ) (i : Nat) : EnvD K G σ (ρ.set i none) := by
  refine ⟨by rw [List.length_set, h.len], fun j d q => ?_⟩
  by_cases z : i = j
  · subst z
    rw [List.getElem?_set_self'] at q
    cases hq : ρ[i]? with
    | none =>
      rw [hq] at q
      cases q
    | some x =>
      rw [hq] at q
      simp at q
  · rw [List.getElem?_set_ne z] at q
    exact h.at_ j d q
theorem EnvD.dark {σ : L2.St} (h : EnvD K G σ ρ) (i : Nat) (x : Option V) (q : ρ[i]? = some none) : EnvD K G (σ.set i x) ρ := by
  refine ⟨by rw [List.length_set, h.len], fun j d e => ?_⟩
  have z : i ≠ j := by
    intro z
    subst z
    rw [q] at e
    cases e
  rw [List.getElem?_set_ne z]
  exact h.at_ j d e
/-- G as it was ahead of what was taken in for a while -/
theorem Fr.back {G0 : Hp} (e : Ex G0 G) (f : Fr G H G' H') : Fr G0 H G0 H' := ⟨Ex.refl G0, f.h, e.trans (f.g.trans f.i), fun _ a b => absurd a b⟩
theorem seq_asg {te : TE} {g : TG} {u : TS} {σ : L2.St} {D : Ends} (h : te σ H fun x H1 => g x σ H1 fun σ' H' => u D σ' H') : tSeq (tAsg te g) u D σ H := h
theorem seq_any {t u : TS} {σ : L2.St} {D : Ends} (h : t { D with nx := fun σ' H' => u D σ' H' } σ H) : tSeq t u D σ H := h
theorem gname_run {i : Nat} {v : V} {σ : L2.St} {H : Hp} {Q : L2.St → Hp → Prop} (h : Q (σ.set i (some v)) H) : gName i v σ H Q := h
theorem dput_run {td ty tv : TE} {σ : L2.St} {H : Hp} {D : Ends} (h : tv σ H fun v H1 => td σ H1 fun x H2 => ty σ H2 fun y H3 => ∃ a H4, x = .ref a ∧ DPut H3 a y v H4 ∧ D.nx σ H4) : sDPut td ty tv D σ H := h
/-! ### a for over data -/
theorem for_den {tb : TS} {σ : L2.St} {D : Ends} (hi : DenI K ti ρ ds) (i0 : Ex G H) (e0 : EnvD K G σ ρ) (Pv : Nat → L2.St → Hp → Hp → Prop) (h0 : ∀ G1 H1, Fr G H G1 H1 → Pv 0 σ G1 H1) (hx : ∀ i σ2 G2 H2, Pv i σ2 G2 H2 → Ex G2 H2)
    (hs : ∀ i d σ2 G2 H2 v G3 H3, ds[i]? = some d → Pv i σ2 G2 H2 → Fr G2 H2 G3 H3 → Rep K G3 v d → g v σ2 H3 fun σ4 H4 => tb { D with nx := fun σ' H' => ∃ G', Ex G2 G' ∧ Pv (i + 1) σ' G' H', ct := fun σ' H' => ∃ G', Ex G2 G' ∧ Pv (i + 1) σ' G' H', bk := D.nx } σ4 H4)
    (hd : ∀ σ2 G2 H2, Pv ds.length σ2 G2 H2 → D.nx σ2 H2) : tFor ti g tb D σ H := hi σ G H _ i0 e0 fun J Gd Y G1 H1 f1 w hgd hy => by
  refine ⟨fun i m σ2 H2 => m = ds.length - i ∧ i ≤ ds.length ∧ ∃ G2, Ex G1 G2 ∧ Pv i σ2 G2 H2, ⟨ds.length, by simp, Nat.zero_le _, G1, Ex.refl G1, h0 G1 H1 f1⟩, ?_⟩
  rintro i m σ2 H2 ⟨rfl, hi', G2, e12, p⟩
  have i2 := hx i σ2 G2 H2 p
  by_cases hlt : i < ds.length
  · refine .inr ⟨w.goes i H2 hlt (hgd H2 (e12.trans i2)), fun σ' H' => ∃ G', Ex G2 G' ∧ Pv (i + 1) σ' G' H', fun σ' H' ⟨G', e', p'⟩ => ⟨ds.length - (i + 1), by omega, rfl, hlt, G', e12.trans e', p'⟩, fun x H3 yy => ?_⟩
    obtain ⟨G3, d, hd', f3, r3⟩ := hy i H2 x H3 G2 hlt e12 i2 (w.yields i H2 x H3 hlt (hgd H2 (e12.trans i2)) yy)
    exact hs i d σ2 G2 H2 x G3 H3 hd' p f3 r3
  · have e : i = ds.length := by omega
    subst e
    exact .inl ⟨w.stops H2 (hgd H2 (e12.trans i2)), hd σ2 G2 H2 p⟩
end Dn
set_option Elab.async false
set_option linter.all false
set_option maxRecDepth 100000
set_option maxHeartbeats 4000000
/-! Dn6: data that may be compared. -/
namespace Dn
open PySem PySem.Spec
open PyProof.Rows L2
open Evl (Ex fresh_back)
theorem lay_all : ∀ {xs : List PyData}, (∀ x ∈ xs, x.canLay0 = true) → PyData.canLayAll0 xs = true
  | [], _ => rfl
  | x :: xs, h => by
    simp only [PyData.canLayAll0, Bool.and_eq_true]
    exact ⟨h x List.mem_cons_self, lay_all fun y hy => h y (List.mem_cons_of_mem _ hy)⟩
theorem depth_all {k : Nat} : ∀ {xs : List PyData}, (∀ x ∈ xs, x.depth ≤ k) → PyData.depthAll xs ≤ k
  | [], _ => by simp [PyData.depthAll]
  | x :: xs, h => by
    simp only [PyData.depthAll]
    exact Nat.max_le.mpr ⟨h x List.mem_cons_self, depth_all fun y hy => h y (List.mem_cons_of_mem _ hy)⟩
def Lay (k : Nat) (d : PyData) : Prop := d.canLay0 = true ∧ d.depth ≤ k
theorem Lay.non {k : Nat} : Lay k .none := ⟨rfl, by simp [PyData.depth]⟩
theorem Lay.bl {k : Nat} (b : Bool) : Lay k (.bool b) := ⟨rfl, by simp [PyData.depth]⟩
theorem Lay.int {k : Nat} (i : Int) : Lay k (.int i) := ⟨rfl, by simp [PyData.depth]⟩
theorem Lay.str {k : Nat} {x : PySem.Str} (h : PyData.strOk x = true) : Lay k (.str x) := ⟨h, by simp [PyData.depth]⟩
theorem Lay.lst {k : Nat} {xs : List PyData} (h : ∀ x ∈ xs, Lay k x) : Lay (k + 1) (.list xs) := ⟨by simp only [PyData.canLay0]; exact lay_all fun x hx => (h x hx).1, by
  have := depth_all (k := k) fun x hx => (h x hx).2
  simp only [PyData.depth]
  omega⟩
theorem Lay.tup {k : Nat} {xs : List PyData} (h : ∀ x ∈ xs, Lay k x) : Lay (k + 1) (.tuple xs) := ⟨by simp only [PyData.canLay0]; exact lay_all fun x hx => (h x hx).1, by
  have := depth_all (k := k) fun x hx => (h x hx).2
  simp only [PyData.depth]
  omega⟩
theorem Lay.shaped {k : Nat} {d : PyData} (h : Lay k d) (hk : k ≤ 64 := by decide) : SeqAt.shaped d = true := by
  unfold SeqAt.shaped
  rw [h.1, Bool.true_and]
  exact decide_eq_true (Nat.le_trans h.2 hk)
theorem lay_map {α : Type} {k : Nat} {f : α → PyData} {xs : List α} (h : ∀ a ∈ xs, Lay k (f a)) : ∀ x ∈ xs.map f, Lay k x := fun x hx => by
  obtain ⟨a, ha, rfl⟩ := List.mem_map.mp hx
  exact h a ha
/-- a list against the empty one -/
theorem eqv_nil (xs : List PyData) : PyData.eqv (.list xs) (.list []) = xs.isEmpty := by
  cases xs <;> simp [PyData.eqv, PyData.eqvAll]
variable {K : PySem.W.Frag} {G : Hp} {ρ : DSt} {σ : L2.St}
theorem EnvD.tell (h : EnvD K G σ ρ) {i : Nat} {v : V} {d : Dat} (e : σ[i]? = some (some v)) (r : Rep K G v d) : EnvD K G σ (ρ.set i (some d)) := by
  have q := h.set r i
  have z : σ.set i (some v) = σ := by
    refine List.ext_getElem? fun j => ?_
    rw [List.getElem?_set]
    by_cases y : i = j
    · subst y
      have hl := (List.getElem?_eq_some_iff.mp e).1
      rw [if_pos rfl, if_pos hl]
      exact e.symm
    · rw [if_neg y]
  rw [z] at q
  exact q
end Dn
set_option Elab.async false
set_option linter.all false
/-! Km: no idle round: the numbers that remain, counted down. -/
namespace Kahn
/-- who comes to x, of the first n -/
def cont (W : Nat → List Nat) (n x : Nat) : List Nat := (List.range n).flatMap fun i => ((W i).filter (· == x)).map fun _ => i
theorem cont_succ (W : Nat → List Nat) (n x : Nat) : cont W (n + 1) x = cont W n x ++ ((W n).filter (· == x)).map fun _ => n := by
  unfold cont
  rw [List.range_succ, List.flatMap_append]
  simp
theorem cont_lt {W : Nat → List Nat} {n x i : Nat} (h : i ∈ cont W n x) : i < n := by
  unfold cont at h
  obtain ⟨j, hj, hi⟩ := List.mem_flatMap.mp h
  obtain ⟨_, _, rfl⟩ := List.mem_map.mp hi
  exact List.mem_range.mp hj
theorem count_same (xs : List Nat) (i : Nat) : (xs.map fun _ => i).count i = xs.length := by
  induction xs with
  | nil => rfl
  | cons a xs ih => rw [List.map_cons, List.count_cons_self, ih, List.length_cons]
theorem count_other (xs : List Nat) {i j : Nat} (h : i ≠ j) : (xs.map fun _ => j).count i = 0 := by
  induction xs with
  | nil => rfl
  | cons a xs ih => rw [List.map_cons, List.count_cons_of_ne (fun q => h q.symm), ih]
theorem cont_count (W : Nat → List Nat) (x i : Nat) : ∀ n, (cont W n x).count i = if i < n then (W i).count x else 0
  | 0 => rfl
  | n + 1 => by
    rw [cont_succ, List.count_append, cont_count W x i n]
    by_cases e : i = n
    · subst e
      rw [if_neg (Nat.lt_irrefl _), if_pos (Nat.lt_succ_self _), count_same, Nat.zero_add, List.count, List.countP_eq_length_filter]
    · rw [count_other _ e]
      by_cases h : i < n
      · rw [if_pos h, if_pos (by omega)]
        omega
      · rw [if_neg h, if_neg (by omega)]
/-- how many goals are not yet there -/
def leftN (W : Nat → List Nat) (P : List Nat) (i : Nat) : Nat := (W i).countP fun g => !P.contains g
theorem left_nil (W : Nat → List Nat) (i : Nat) : leftN W [] i = (W i).length := by
  unfold leftN
  rw [List.countP_eq_length]
  intro a _
  rfl
theorem left_cons_aux (P : List Nat) (x : Nat) (hx : x ∉ P) : ∀ ws : List Nat, ws.countP (fun g => !(x :: P).contains g) + ws.count x = ws.countP fun g => !P.contains g
  | [] => rfl
  | a :: ws => by
    have ih := left_cons_aux P x hx ws
    rw [List.countP_cons, List.countP_cons, List.count_cons]
    by_cases e : a = x
    · subst e
      have h1 : (!(a :: P).contains a) = false := by simp
      have h2 : (!P.contains a) = true := by simpa using hx
      rw [h1, h2]
      simp only [beq_self_eq_true, if_true]
      simp
      simp at ih
      omega
    · have h1 : (!(x :: P).contains a) = (!P.contains a) := by
        simp [e]
      rw [h1]
      have h3 : (a == x) = false := by simpa using e
      rw [h3]
      simp only [Bool.false_eq_true, if_false]
      omega
theorem left_cons (W : Nat → List Nat) (P : List Nat) (x i : Nat) (hx : x ∉ P) : leftN W (x :: P) i + (W i).count x = leftN W P i := left_cons_aux P x hx (W i)
/-- the state: what is left, who is done (E, to be looked at; P, looked at) -/
structure Inv (W : Nat → List Nat) (n : Nat) (left : Nat → Nat) (E P : List Nat) : Prop where
  nd : (E ++ P).Nodup
  lt : ∀ z ∈ E ++ P, z < n
  lf : ∀ i, i < n → left i = leftN W P i
  zr : ∀ i, i < n → (left i = 0 ↔ i ∈ E ++ P)
theorem inv_start (W : Nat → List Nat) (n : Nat) : Inv W n (fun i => (W i).length) ((List.range n).filter fun i => (W i).length == 0) [] := by
  refine ⟨by rw [List.append_nil]; exact List.nodup_range.filter _, fun z hz => ?_, fun i _ => (left_nil W i).symm, fun i hi => ?_⟩
  · rw [List.append_nil] at hz
    exact List.mem_range.mp (List.mem_filter.mp hz).1
  · rw [List.append_nil, List.mem_filter]
    simp [hi]
theorem inv_len {W : Nat → List Nat} {n : Nat} {left : Nat → Nat} {E P : List Nat} (I : Inv W n left E P) : E.length + P.length ≤ n := by
  have h := I.nd.length_le_of_subset (l₂ := List.range n) fun z hz => List.mem_range.mpr (I.lt z hz)
  rwa [List.length_append, List.length_range] at h
/-- within the walk over those that come to x: t of them done -/
structure Inn (W : Nat → List Nat) (n : Nat) (P : List Nat) (x : Nat) (t : List Nat) (left : Nat → Nat) (E : List Nat) : Prop where
  nd : (E ++ x :: P).Nodup
  lt : ∀ z ∈ E ++ x :: P, z < n
  lf : ∀ i, i < n → left i + t.count i = leftN W P i
  zr : ∀ i, i < n → (left i = 0 ↔ i ∈ E ++ x :: P)
theorem inn_start {W : Nat → List Nat} {n : Nat} {left : Nat → Nat} {E P : List Nat} {x : Nat} (I : Inv W n left (E ++ [x]) P) : Inn W n P x [] left E := by
  have e : (E ++ [x]) ++ P = E ++ x :: P := by simp
  exact ⟨e ▸ I.nd, fun z hz => I.lt z (e ▸ hz), fun i hi => I.lf i hi, fun i hi => e ▸ I.zr i hi⟩
def put (left : Nat → Nat) (m v : Nat) : Nat → Nat := fun i => if i = m then v else left i
theorem inn_le {W : Nat → List Nat} {n x m : Nat} {P t r : List Nat} {left : Nat → Nat} {E : List Nat} (I : Inn W n P x t left E) (e : cont W n x = t ++ m :: r) : m < n ∧ 1 ≤ left m := by
  have hm : m < n := cont_lt (W := W) (x := x) (by rw [e]; simp)
  refine ⟨hm, ?_⟩
  have hx : x ∉ P := fun q => (List.nodup_cons.mp (List.nodup_append.mp I.nd).2.1).1 q
  have h1 := cont_count W x m n
  rw [if_pos hm, e, List.count_append, List.count_cons_self] at h1
  have h2 := left_cons W P x m hx
  have h3 := I.lf m hm
  omega
theorem inn_step {W : Nat → List Nat} {n x m : Nat} {P t r : List Nat} {left : Nat → Nat} {E : List Nat} (I : Inn W n P x t left E) (e : cont W n x = t ++ m :: r) :
    Inn W n P x (t ++ [m]) (put left m (left m - 1)) (if left m - 1 = 0 then E ++ [m] else E) := by
  obtain ⟨hm, hl⟩ := inn_le I e
  have hno : m ∉ E ++ x :: P := fun q => by
    have := (I.zr m hm).mpr q
    omega
  have hlf : ∀ i, i < n → put left m (left m - 1) i + (t ++ [m]).count i = leftN W P i := fun i hi => by
    have h := I.lf i hi
    unfold put
    rw [List.count_append]
    by_cases q : i = m
    · subst q
      rw [if_pos rfl]
      simp
      omega
    · rw [if_neg q, List.count_cons_of_ne (fun z => q z.symm)]
      simpa using h
  by_cases hz : left m - 1 = 0
  · rw [if_pos hz]
    have e1 : E ++ [m] ++ x :: P = E ++ m :: (x :: P) := by simp
    refine ⟨?_, fun z hz' => ?_, hlf, fun i hi => ?_⟩
    · rw [e1]
      have p : (E ++ m :: (x :: P)).Perm (m :: (E ++ x :: P)) := List.perm_middle
      exact p.nodup_iff.mpr (List.nodup_cons.mpr ⟨hno, I.nd⟩)
    · rw [e1] at hz'
      have : z = m ∨ z ∈ E ++ x :: P := by
        simp at hz' ⊢
        rcases hz' with a | a | a | a <;> simp [a]
      rcases this with rfl | q
      · exact hm
      · exact I.lt z q
    · have h := I.zr i hi
      unfold put
      by_cases q : i = m
      · subst q
        rw [if_pos rfl]
        simp [hz]
      · rw [if_neg q, h]
        simp [q]
  · rw [if_neg hz]
    refine ⟨I.nd, I.lt, hlf, fun i hi => ?_⟩
    have h := I.zr i hi
    unfold put
    by_cases q : i = m
    · subst q
      rw [if_pos rfl]
      exact ⟨fun z => absurd z hz, fun z => absurd z hno⟩
    · rw [if_neg q]
      exact h
theorem inn_end {W : Nat → List Nat} {n x : Nat} {P : List Nat} {left : Nat → Nat} {E : List Nat} (I : Inn W n P x (cont W n x) left E) : Inv W n left E (x :: P) := by
  refine ⟨I.nd, I.lt, fun i hi => ?_, I.zr⟩
  have hx : x ∉ P := fun q => (List.nodup_cons.mp (List.nodup_append.mp I.nd).2.1).1 q
  have h1 := cont_count W x i n
  rw [if_pos hi] at h1
  have h2 := left_cons W P x i hx
  have h3 := I.lf i hi
  omega
/-- where every goal is ranked lower, all are looked at in the end -/
theorem inv_end {W : Nat → List Nat} {n : Nat} {left : Nat → Nat} {P : List Nat} (I : Inv W n left [] P) (r : Nat → Nat) (hr : ∀ i, i < n → ∀ g ∈ W i, g < n ∧ r g < r i) : P.length = n := by
  have all : ∀ k i, r i < k → i < n → i ∈ P := by
    intro k
    induction k with
    | zero => intro i h _; omega
    | succ k ih =>
      intro i h hi
      have h0 : left i = 0 := by
        rw [I.lf i hi]
        unfold leftN
        rw [List.countP_eq_zero]
        intro g hg
        have q := hr i hi g hg
        have := ih g (by omega) q.1
        simp [this]
      simpa using (I.zr i hi).mp h0
  have h1 := List.nodup_range.length_le_of_subset (l₁ := List.range n) (l₂ := P) fun i hi => all _ i (Nat.lt_succ_self _) (List.mem_range.mp hi)
  have h2 := inv_len I
  rw [List.length_range] at h1
  simp at h2
  omega
end Kahn
set_option Elab.async false
set_option linter.all false
set_option maxRecDepth 100000
set_option maxHeartbeats 4000000
/-! Kx: the text by places and the facts that the top leaves. -/
namespace K56
open PySem L2
def top (i : Nat) : Stmt := PySem.Challenge.pw_onetrace_k56_links_refused.main.body.getD i (.Pass ⟨0, 0, 0, 0⟩)
abbrev s_is_whole : Stmt := (top 15)
abbrev s_is_prime : Stmt := (top 16)
abbrev s_is_number : Stmt := (top 17)
abbrev s_is_name : Stmt := (top 18)
abbrev s_is_place : Stmt := (top 19)
abbrev s_is_form : Stmt := (top 22)
abbrev s_places_in : Stmt := (top 23)
abbrev s_Ground___init__ : Stmt := (inClass (top 31) 0)
abbrev s_Ground_is_goal : Stmt := (inClass (top 31) 1)
abbrev s_Ground_is_sink : Stmt := (inClass (top 31) 2)
abbrev s_Ground_is_over : Stmt := (inClass (top 31) 3)
abbrev s_Ground_are_over : Stmt := (inClass (top 31) 4)
abbrev s_Ground_are_sinks : Stmt := (inClass (top 31) 5)
abbrev s_rises : Stmt := (top 32)
abbrev s_are_tuples : Stmt := (top 33)
abbrev s_is_serve : Stmt := (top 34)
abbrev s_is_move : Stmt := (top 35)
abbrev s_is_out : Stmt := (top 38)
abbrev s_is_ask : Stmt := (top 39)
abbrev s_is_done : Stmt := (top 40)
abbrev s_is_step : Stmt := (top 43)
abbrev s_goals_of : Stmt := (top 44)
abbrev s_has_idle_round : Stmt := (top 45)
abbrev s_need_flow : Stmt := (top 46)
abbrev s_Flow___init__ : Stmt := (inClass (top 47) 0)
abbrev s_Flow_places : Stmt := (inClass (top 47) 1)
abbrev s_Flow_steps : Stmt := (inClass (top 47) 2)
abbrev s_Flow_prime : Stmt := (inClass (top 47) 3)
abbrev s_Flow_deeds : Stmt := (inClass (top 47) 4)
abbrev s_Flow___len__ : Stmt := (inClass (top 47) 6)
abbrev s_asks_of : Stmt := (top 53)
abbrev s_called_so : Stmt := (top 54)
abbrev s_form_called : Stmt := (top 55)
abbrev s_Copy___init__ : Stmt := (inClass (top 56) 0)
abbrev s_Copy_number_of : Stmt := (inClass (top 56) 1)
abbrev s_Copy_renamed : Stmt := (inClass (top 56) 2)
abbrev s_Copy_form : Stmt := (inClass (top 56) 3)
abbrev s_Copy_begun : Stmt := (inClass (top 56) 4)
abbrev s_Copy_ended : Stmt := (inClass (top 56) 5)
abbrev s_Copy_led : Stmt := (inClass (top 56) 6)
abbrev s_copies_of : Stmt := (top 57)
abbrev s_need_linked : Stmt := (top 58)
abbrev s_linked : Stmt := (top 59)
abbrev s__law_begun : Stmt := (top 61)
abbrev s__law_draw : Stmt := (top 62)
abbrev s__law_pick : Stmt := (top 63)
abbrev s__law_asker : Stmt := (top 64)
abbrev s__law_server : Stmt := (top 65)
abbrev s__law_places_of : Stmt := (top 66)
abbrev s__law_how_refused : Stmt := (top 67)
abbrev s__law_how_due : Stmt := (top 68)
abbrev s__law_long_ones : Stmt := (top 69)
abbrev s_law : Stmt := (top 70)
structure Ad where
  f_is_whole : Addr
  d_is_whole : FuncData
  f_is_prime : Addr
  d_is_prime : FuncData
  f_is_number : Addr
  d_is_number : FuncData
  f_is_name : Addr
  d_is_name : FuncData
  f_is_place : Addr
  d_is_place : FuncData
  f_is_form : Addr
  d_is_form : FuncData
  f_places_in : Addr
  d_places_in : FuncData
  f_Ground___init__ : Addr
  d_Ground___init__ : FuncData
  f_Ground_is_goal : Addr
  d_Ground_is_goal : FuncData
  f_Ground_is_sink : Addr
  d_Ground_is_sink : FuncData
  f_Ground_is_over : Addr
  d_Ground_is_over : FuncData
  f_Ground_are_over : Addr
  d_Ground_are_over : FuncData
  f_Ground_are_sinks : Addr
  d_Ground_are_sinks : FuncData
  f_rises : Addr
  d_rises : FuncData
  f_are_tuples : Addr
  d_are_tuples : FuncData
  f_is_serve : Addr
  d_is_serve : FuncData
  f_is_move : Addr
  d_is_move : FuncData
  f_is_out : Addr
  d_is_out : FuncData
  f_is_ask : Addr
  d_is_ask : FuncData
  f_is_done : Addr
  d_is_done : FuncData
  f_is_step : Addr
  d_is_step : FuncData
  f_goals_of : Addr
  d_goals_of : FuncData
  f_has_idle_round : Addr
  d_has_idle_round : FuncData
  f_need_flow : Addr
  d_need_flow : FuncData
  f_Flow___init__ : Addr
  d_Flow___init__ : FuncData
  f_Flow_places : Addr
  d_Flow_places : FuncData
  f_Flow_steps : Addr
  d_Flow_steps : FuncData
  f_Flow_prime : Addr
  d_Flow_prime : FuncData
  f_Flow_deeds : Addr
  d_Flow_deeds : FuncData
  f_Flow___len__ : Addr
  d_Flow___len__ : FuncData
  f_asks_of : Addr
  d_asks_of : FuncData
  f_called_so : Addr
  d_called_so : FuncData
  f_form_called : Addr
  d_form_called : FuncData
  f_Copy___init__ : Addr
  d_Copy___init__ : FuncData
  f_Copy_number_of : Addr
  d_Copy_number_of : FuncData
  f_Copy_renamed : Addr
  d_Copy_renamed : FuncData
  f_Copy_form : Addr
  d_Copy_form : FuncData
  f_Copy_begun : Addr
  d_Copy_begun : FuncData
  f_Copy_ended : Addr
  d_Copy_ended : FuncData
  f_Copy_led : Addr
  d_Copy_led : FuncData
  f_copies_of : Addr
  d_copies_of : FuncData
  f_need_linked : Addr
  d_need_linked : FuncData
  f_linked : Addr
  d_linked : FuncData
  f__law_begun : Addr
  d__law_begun : FuncData
  f__law_draw : Addr
  d__law_draw : FuncData
  f__law_pick : Addr
  d__law_pick : FuncData
  f__law_asker : Addr
  d__law_asker : FuncData
  f__law_server : Addr
  d__law_server : FuncData
  f__law_places_of : Addr
  d__law_places_of : FuncData
  f__law_how_refused : Addr
  d__law_how_refused : FuncData
  f__law_how_due : Addr
  d__law_how_due : FuncData
  f__law_long_ones : Addr
  d__law_long_ones : FuncData
  f_law : Addr
  d_law : FuncData
  C_Ground : Addr
  C_Flow : Addr
  C_Copy : Addr
  t_PRIME : Tok
  t_MOST_PRIME : Tok
  t_MOST_NAME : Tok
  t_MOST_PLACE : Tok
  t_LETTERS : Tok
  t_FIGURES : Tok
  t_MOST_PLACES_flows : Tok
  t_MOST_STEPS_flows : Tok
  t_MOST_WAYS : Tok
  t_MOST_COMING : Tok
  t_NOWHERE : Tok
  r_BREAKS : Addr
  t_MOVE : Tok
  t_MOST_PLACES_linking : Tok
  t_MOST_SIGNS : Tok
  t_MOST_STEPS_linking : Tok
  C_TraceError : Addr
  C_NoFlow : Addr
  C_NoUnit : Addr
  C_NoLetter : Addr
  C_TooLong : Addr
  C_TooMany : Addr
  C_NoPair : Addr
  r_SORTS : Addr
  p_serve : Addr
  p_move : Addr
  p_out : Addr
  p_ask : Addr
  p_done : Addr
structure Tx (K : PySem.W.Frag) (w : World) (mg : PySem.Str → Option Value) (A : Ad) : Prop where
  F_is_whole : Fun K "is_whole" "is_whole" s_is_whole A.f_is_whole A.d_is_whole
  b_is_whole : Binds K A.d_is_whole ["thing"] []
  g_is_whole : mg "is_whole" = some (.ref A.f_is_whole)
  F_is_prime : Fun K "is_prime" "is_prime" s_is_prime A.f_is_prime A.d_is_prime
  b_is_prime : Binds K A.d_is_prime ["thing"] []
  g_is_prime : mg "is_prime" = some (.ref A.f_is_prime)
  F_is_number : Fun K "is_number" "is_number" s_is_number A.f_is_number A.d_is_number
  b_is_number : Binds K A.d_is_number ["thing", "p"] []
  g_is_number : mg "is_number" = some (.ref A.f_is_number)
  F_is_name : Fun K "is_name" "is_name" s_is_name A.f_is_name A.d_is_name
  b_is_name : Binds K A.d_is_name ["thing"] []
  g_is_name : mg "is_name" = some (.ref A.f_is_name)
  F_is_place : Fun K "is_place" "is_place" s_is_place A.f_is_place A.d_is_place
  b_is_place : Binds K A.d_is_place ["thing"] []
  g_is_place : mg "is_place" = some (.ref A.f_is_place)
  F_is_form : Fun K "is_form" "is_form" s_is_form A.f_is_form A.d_is_form
  b_is_form : Binds K A.d_is_form ["thing", "p"] []
  g_is_form : mg "is_form" = some (.ref A.f_is_form)
  F_places_in : Fun K "places_in" "places_in" s_places_in A.f_places_in A.d_places_in
  b_places_in : Binds K A.d_places_in ["form"] []
  g_places_in : mg "places_in" = some (.ref A.f_places_in)
  F_Ground___init__ : Fun K "__init__" "Ground.__init__" s_Ground___init__ A.f_Ground___init__ A.d_Ground___init__
  b_Ground___init__ : Binds K A.d_Ground___init__ ["self", "there", "many", "base"] []
  F_Ground_is_goal : Fun K "is_goal" "Ground.is_goal" s_Ground_is_goal A.f_Ground_is_goal A.d_Ground_is_goal
  b_Ground_is_goal : Binds K A.d_Ground_is_goal ["self", "thing"] []
  m_Ground_is_goal : Meth K A.C_Ground "is_goal" A.f_Ground_is_goal
  F_Ground_is_sink : Fun K "is_sink" "Ground.is_sink" s_Ground_is_sink A.f_Ground_is_sink A.d_Ground_is_sink
  b_Ground_is_sink : Binds K A.d_Ground_is_sink ["self", "thing"] []
  m_Ground_is_sink : Meth K A.C_Ground "is_sink" A.f_Ground_is_sink
  F_Ground_is_over : Fun K "is_over" "Ground.is_over" s_Ground_is_over A.f_Ground_is_over A.d_Ground_is_over
  b_Ground_is_over : Binds K A.d_Ground_is_over ["self", "thing"] []
  m_Ground_is_over : Meth K A.C_Ground "is_over" A.f_Ground_is_over
  F_Ground_are_over : Fun K "are_over" "Ground.are_over" s_Ground_are_over A.f_Ground_are_over A.d_Ground_are_over
  b_Ground_are_over : Binds K A.d_Ground_are_over ["self", "thing"] []
  m_Ground_are_over : Meth K A.C_Ground "are_over" A.f_Ground_are_over
  F_Ground_are_sinks : Fun K "are_sinks" "Ground.are_sinks" s_Ground_are_sinks A.f_Ground_are_sinks A.d_Ground_are_sinks
  b_Ground_are_sinks : Binds K A.d_Ground_are_sinks ["self", "thing"] []
  m_Ground_are_sinks : Meth K A.C_Ground "are_sinks" A.f_Ground_are_sinks
  F_rises : Fun K "rises" "rises" s_rises A.f_rises A.d_rises
  b_rises : Binds K A.d_rises ["words"] []
  g_rises : mg "rises" = some (.ref A.f_rises)
  F_are_tuples : Fun K "are_tuples" "are_tuples" s_are_tuples A.f_are_tuples A.d_are_tuples
  b_are_tuples : Binds K A.d_are_tuples ["thing", "least", "most", "size"] []
  g_are_tuples : mg "are_tuples" = some (.ref A.f_are_tuples)
  F_is_serve : Fun K "is_serve" "is_serve" s_is_serve A.f_is_serve A.d_is_serve
  b_is_serve : Binds K A.d_is_serve ["step", "ground"] []
  g_is_serve : mg "is_serve" = some (.ref A.f_is_serve)
  F_is_move : Fun K "is_move" "is_move" s_is_move A.f_is_move A.d_is_move
  b_is_move : Binds K A.d_is_move ["step", "ground"] []
  g_is_move : mg "is_move" = some (.ref A.f_is_move)
  F_is_out : Fun K "is_out" "is_out" s_is_out A.f_is_out A.d_is_out
  b_is_out : Binds K A.d_is_out ["step", "ground"] []
  g_is_out : mg "is_out" = some (.ref A.f_is_out)
  F_is_ask : Fun K "is_ask" "is_ask" s_is_ask A.f_is_ask A.d_is_ask
  b_is_ask : Binds K A.d_is_ask ["step", "ground"] []
  g_is_ask : mg "is_ask" = some (.ref A.f_is_ask)
  F_is_done : Fun K "is_done" "is_done" s_is_done A.f_is_done A.d_is_done
  b_is_done : Binds K A.d_is_done ["step", "ground"] []
  g_is_done : mg "is_done" = some (.ref A.f_is_done)
  F_is_step : Fun K "is_step" "is_step" s_is_step A.f_is_step A.d_is_step
  b_is_step : Binds K A.d_is_step ["step", "ground"] []
  g_is_step : mg "is_step" = some (.ref A.f_is_step)
  F_goals_of : Fun K "goals_of" "goals_of" s_goals_of A.f_goals_of A.d_goals_of
  b_goals_of : Binds K A.d_goals_of ["step"] []
  g_goals_of : mg "goals_of" = some (.ref A.f_goals_of)
  F_has_idle_round : Fun K "has_idle_round" "has_idle_round" s_has_idle_round A.f_has_idle_round A.d_has_idle_round
  b_has_idle_round : Binds K A.d_has_idle_round ["steps"] []
  g_has_idle_round : mg "has_idle_round" = some (.ref A.f_has_idle_round)
  F_need_flow : Fun K "need_flow" "need_flow" s_need_flow A.f_need_flow A.d_need_flow
  b_need_flow : Binds K A.d_need_flow ["places", "steps", "base"] []
  g_need_flow : mg "need_flow" = some (.ref A.f_need_flow)
  F_Flow___init__ : Fun K "__init__" "Flow.__init__" s_Flow___init__ A.f_Flow___init__ A.d_Flow___init__
  b_Flow___init__ : KBn K A.d_Flow___init__ ["self", "places", "steps", "prime"] 3 ["prime"] (fun us ws => us ++ ws) (fun vs zs => vs ++ zs)
  F_Flow_places : Fun K "places" "Flow.places" s_Flow_places A.f_Flow_places A.d_Flow_places
  b_Flow_places : Binds K A.d_Flow_places ["self"] []
  m_Flow_places : Meth K A.C_Flow "places" A.f_Flow_places
  F_Flow_steps : Fun K "steps" "Flow.steps" s_Flow_steps A.f_Flow_steps A.d_Flow_steps
  b_Flow_steps : Binds K A.d_Flow_steps ["self"] []
  m_Flow_steps : Meth K A.C_Flow "steps" A.f_Flow_steps
  F_Flow_prime : Fun K "prime" "Flow.prime" s_Flow_prime A.f_Flow_prime A.d_Flow_prime
  b_Flow_prime : Binds K A.d_Flow_prime ["self"] []
  m_Flow_prime : Meth K A.C_Flow "prime" A.f_Flow_prime
  F_Flow_deeds : Fun K "deeds" "Flow.deeds" s_Flow_deeds A.f_Flow_deeds A.d_Flow_deeds
  b_Flow_deeds : Binds K A.d_Flow_deeds ["self"] []
  m_Flow_deeds : Meth K A.C_Flow "deeds" A.f_Flow_deeds
  F_Flow___len__ : Fun K "__len__" "Flow.__len__" s_Flow___len__ A.f_Flow___len__ A.d_Flow___len__
  b_Flow___len__ : Binds K A.d_Flow___len__ ["self"] []
  m_Flow___len__ : Meth K A.C_Flow "__len__" A.f_Flow___len__
  F_asks_of : Fun K "asks_of" "asks_of" s_asks_of A.f_asks_of A.d_asks_of
  b_asks_of : Binds K A.d_asks_of ["flow", "unit"] []
  g_asks_of : mg "asks_of" = some (.ref A.f_asks_of)
  F_called_so : Fun K "called_so" "called_so" s_called_so A.f_called_so A.d_called_so
  b_called_so : Binds K A.d_called_so ["unit", "place"] []
  g_called_so : mg "called_so" = some (.ref A.f_called_so)
  F_form_called : Fun K "form_called" "form_called" s_form_called A.f_form_called A.d_form_called
  b_form_called : Binds K A.d_form_called ["unit", "form"] []
  g_form_called : mg "form_called" = some (.ref A.f_form_called)
  F_Copy___init__ : Fun K "__init__" "Copy.__init__" s_Copy___init__ A.f_Copy___init__ A.d_Copy___init__
  b_Copy___init__ : Binds K A.d_Copy___init__ ["self", "unit", "ask", "ahead"] []
  F_Copy_number_of : Fun K "number_of" "Copy.number_of" s_Copy_number_of A.f_Copy_number_of A.d_Copy_number_of
  b_Copy_number_of : Binds K A.d_Copy_number_of ["self", "at"] []
  m_Copy_number_of : Meth K A.C_Copy "number_of" A.f_Copy_number_of
  F_Copy_renamed : Fun K "renamed" "Copy.renamed" s_Copy_renamed A.f_Copy_renamed A.d_Copy_renamed
  b_Copy_renamed : Binds K A.d_Copy_renamed ["self", "place"] []
  m_Copy_renamed : Meth K A.C_Copy "renamed" A.f_Copy_renamed
  F_Copy_form : Fun K "form" "Copy.form" s_Copy_form A.f_Copy_form A.d_Copy_form
  b_Copy_form : Binds K A.d_Copy_form ["self", "form"] []
  m_Copy_form : Meth K A.C_Copy "form" A.f_Copy_form
  F_Copy_begun : Fun K "begun" "Copy.begun" s_Copy_begun A.f_Copy_begun A.d_Copy_begun
  b_Copy_begun : Binds K A.d_Copy_begun ["self", "ways"] []
  m_Copy_begun : Meth K A.C_Copy "begun" A.f_Copy_begun
  F_Copy_ended : Fun K "ended" "Copy.ended" s_Copy_ended A.f_Copy_ended A.d_Copy_ended
  b_Copy_ended : Binds K A.d_Copy_ended ["self", "step"] []
  m_Copy_ended : Meth K A.C_Copy "ended" A.f_Copy_ended
  F_Copy_led : Fun K "led" "Copy.led" s_Copy_led A.f_Copy_led A.d_Copy_led
  b_Copy_led : Binds K A.d_Copy_led ["self", "step"] []
  m_Copy_led : Meth K A.C_Copy "led" A.f_Copy_led
  F_copies_of : Fun K "copies_of" "copies_of" s_copies_of A.f_copies_of A.d_copies_of
  b_copies_of : Binds K A.d_copies_of ["flow", "unit", "other"] []
  g_copies_of : mg "copies_of" = some (.ref A.f_copies_of)
  F_need_linked : Fun K "need_linked" "need_linked" s_need_linked A.f_need_linked A.d_need_linked
  b_need_linked : Binds K A.d_need_linked ["flow", "unit", "other"] []
  g_need_linked : mg "need_linked" = some (.ref A.f_need_linked)
  F_linked : Fun K "linked" "linked" s_linked A.f_linked A.d_linked
  b_linked : Binds K A.d_linked ["flow", "unit", "other"] []
  g_linked : mg "linked" = some (.ref A.f_linked)
  F__law_begun : Fun K "_law_begun" "_law_begun" s__law_begun A.f__law_begun A.d__law_begun
  b__law_begun : Binds K A.d__law_begun ["script"] []
  g__law_begun : mg "_law_begun" = some (.ref A.f__law_begun)
  F__law_draw : Fun K "_law_draw" "_law_draw" s__law_draw A.f__law_draw A.d__law_draw
  b__law_draw : Binds K A.d__law_draw ["draws", "many"] []
  g__law_draw : mg "_law_draw" = some (.ref A.f__law_draw)
  F__law_pick : Fun K "_law_pick" "_law_pick" s__law_pick A.f__law_pick A.d__law_pick
  b__law_pick : Binds K A.d__law_pick ["draws", "some"] []
  g__law_pick : mg "_law_pick" = some (.ref A.f__law_pick)
  F__law_asker : Fun K "_law_asker" "_law_asker" s__law_asker A.f__law_asker A.d__law_asker
  b__law_asker : Binds K A.d__law_asker ["draws", "p", "sites", "asks"] []
  g__law_asker : mg "_law_asker" = some (.ref A.f__law_asker)
  F__law_server : Fun K "_law_server" "_law_server" s__law_server A.f__law_server A.d__law_server
  b__law_server : Binds K A.d__law_server ["p", "sites", "deeds", "longer"] []
  g__law_server : mg "_law_server" = some (.ref A.f__law_server)
  F__law_places_of : Fun K "_law_places_of" "_law_places_of" s__law_places_of A.f__law_places_of A.d__law_places_of
  b__law_places_of : Binds K A.d__law_places_of ["draws", "many", "sign"] []
  g__law_places_of : mg "_law_places_of" = some (.ref A.f__law_places_of)
  F__law_how_refused : Fun K "_law_how_refused" "_law_how_refused" s__law_how_refused A.f__law_how_refused A.d__law_how_refused
  b__law_how_refused : Binds K A.d__law_how_refused ["near", "label", "far"] []
  g__law_how_refused : mg "_law_how_refused" = some (.ref A.f__law_how_refused)
  F__law_how_due : Fun K "_law_how_due" "_law_how_due" s__law_how_due A.f__law_how_due A.d__law_how_due
  b__law_how_due : Binds K A.d__law_how_due ["near", "label", "far"] []
  g__law_how_due : mg "_law_how_due" = some (.ref A.f__law_how_due)
  F__law_long_ones : Fun K "_law_long_ones" "_law_long_ones" s__law_long_ones A.f__law_long_ones A.d__law_long_ones
  b__law_long_ones : Binds K A.d__law_long_ones ["draws"] []
  g__law_long_ones : mg "_law_long_ones" = some (.ref A.f__law_long_ones)
  F_law : Fun K "law" "law" s_law A.f_law A.d_law
  b_law : Binds K A.d_law ["script"] []
  g_law : mg "law" = some (.ref A.f_law)
  c_Ground : Cls K A.C_Ground
  g_Ground : mg "Ground" = some (.ref A.C_Ground)
  M_Ground : Mk K A.C_Ground A.f_Ground___init__
  a_Ground_there : NoAttr K A.C_Ground "there"
  a_Ground_many : NoAttr K A.C_Ground "many"
  a_Ground_base : NoAttr K A.C_Ground "base"
  c_Flow : Cls K A.C_Flow
  g_Flow : mg "Flow" = some (.ref A.C_Flow)
  M_Flow : Mk K A.C_Flow A.f_Flow___init__
  a_Flow_sites : NoAttr K A.C_Flow "sites"
  a_Flow_rows : NoAttr K A.C_Flow "rows"
  a_Flow_base : NoAttr K A.C_Flow "base"
  c_Copy : Cls K A.C_Copy
  g_Copy : mg "Copy" = some (.ref A.C_Copy)
  M_Copy : Mk K A.C_Copy A.f_Copy___init__
  a_Copy_label : NoAttr K A.C_Copy "label"
  a_Copy_asking : NoAttr K A.C_Copy "asking"
  a_Copy_ahead : NoAttr K A.C_Copy "ahead"
  n_len : mg "len" = none
  n_all : mg "all" = none
  n_any : mg "any" = none
  n_tuple : mg "tuple" = none
  n_list : mg "list" = none
  n_set : mg "set" = none
  n_isinstance : mg "isinstance" = none
  n_int : mg "int" = none
  n_bool : mg "bool" = none
  n_str : mg "str" = none
  n_sorted : mg "sorted" = none
  n_abs : mg "abs" = none
  n_range : mg "range" = none
  n_enumerate : mg "enumerate" = none
  n_zip : mg "zip" = none
  n_ValueError : mg "ValueError" = none
  g_PRIME : mg "PRIME" = some (.int 97 A.t_PRIME)
  g_MOST_PRIME : mg "MOST_PRIME" = some (.int 997 A.t_MOST_PRIME)
  g_MOST_NAME : mg "MOST_NAME" = some (.int 8 A.t_MOST_NAME)
  g_MOST_PLACE : mg "MOST_PLACE" = some (.int 40 A.t_MOST_PLACE)
  g_LETTERS : mg "LETTERS" = some (.str "abcdefghijklmnopqrstuvwxyz" A.t_LETTERS)
  g_FIGURES : mg "FIGURES" = some (.str "0123456789" A.t_FIGURES)
  g_MOST_PLACES_flows : mg "MOST_PLACES_flows" = some (.int 100 A.t_MOST_PLACES_flows)
  g_MOST_STEPS_flows : mg "MOST_STEPS_flows" = some (.int 10000 A.t_MOST_STEPS_flows)
  g_MOST_WAYS : mg "MOST_WAYS" = some (.int 6 A.t_MOST_WAYS)
  g_MOST_COMING : mg "MOST_COMING" = some (.int 3 A.t_MOST_COMING)
  g_NOWHERE : mg "NOWHERE" = some (.str "" A.t_NOWHERE)
  g_BREAKS : mg "BREAKS" = some (.ref A.r_BREAKS)
  q_BREAKS : ∀ H : Hp, SqT K H A.r_BREAKS [.str "serve", .str "pick", .str "take"]
  g_MOVE : mg "MOVE" = some (.str "move" A.t_MOVE)
  g_MOST_PLACES_linking : mg "MOST_PLACES_linking" = some (.int 100 A.t_MOST_PLACES_linking)
  g_MOST_SIGNS : mg "MOST_SIGNS" = some (.int 40 A.t_MOST_SIGNS)
  g_MOST_STEPS_linking : mg "MOST_STEPS_linking" = some (.int 10000 A.t_MOST_STEPS_linking)
  g_TraceError : mg "TraceError" = some (.ref A.C_TraceError)
  g_NoFlow : mg "NoFlow" = some (.ref A.C_NoFlow)
  g_NoUnit : mg "NoUnit" = some (.ref A.C_NoUnit)
  g_NoLetter : mg "NoLetter" = some (.ref A.C_NoLetter)
  g_TooLong : mg "TooLong" = some (.ref A.C_TooLong)
  g_TooMany : mg "TooMany" = some (.ref A.C_TooMany)
  g_NoPair : mg "NoPair" = some (.ref A.C_NoPair)
  x_NoPair : PySem.W.excIn K A.C_NoPair [.type "ValueError", .type "Exception", .type "BaseException", .type "object"] "ValueError.__new__" = true
  kp_NoPair : PySem.W.keepIn K (.ref A.C_NoPair) = true
  sb_NoPair : PySem.W.subIn K (.ref A.C_NoPair) (.type "BaseException") = some true
  ty_NoPair : PySem.W.typeIn K (.ref A.C_NoPair) = some (.type "type")
  ex_NoPair : PySem.W.exmOne K (.ref A.C_NoPair) (.ref A.C_TraceError) = some true
  ec_NoPair : ExcC K A.C_NoPair
  kv_NoPair : PySem.W.kitOne K (.ref A.C_NoPair) (.type "ValueError") = some true
  ko_NoPair : PySem.W.kitAny K (.ref A.C_NoPair) [.ref A.C_NoFlow, .ref A.C_NoLetter, .ref A.C_NoUnit, .ref A.C_TooLong] = some false
  kt_NoPair_NoPair : PySem.W.kitOne K (.ref A.C_NoPair) (.ref A.C_NoPair) = some true
  kt_NoPair_TooMany : PySem.W.kitOne K (.ref A.C_NoPair) (.ref A.C_TooMany) = some false
  x_TooMany : PySem.W.excIn K A.C_TooMany [.type "ValueError", .type "Exception", .type "BaseException", .type "object"] "ValueError.__new__" = true
  kp_TooMany : PySem.W.keepIn K (.ref A.C_TooMany) = true
  sb_TooMany : PySem.W.subIn K (.ref A.C_TooMany) (.type "BaseException") = some true
  ty_TooMany : PySem.W.typeIn K (.ref A.C_TooMany) = some (.type "type")
  ex_TooMany : PySem.W.exmOne K (.ref A.C_TooMany) (.ref A.C_TraceError) = some true
  ec_TooMany : ExcC K A.C_TooMany
  kv_TooMany : PySem.W.kitOne K (.ref A.C_TooMany) (.type "ValueError") = some true
  ko_TooMany : PySem.W.kitAny K (.ref A.C_TooMany) [.ref A.C_NoFlow, .ref A.C_NoLetter, .ref A.C_NoUnit, .ref A.C_TooLong] = some false
  kt_TooMany_NoPair : PySem.W.kitOne K (.ref A.C_TooMany) (.ref A.C_NoPair) = some false
  kt_TooMany_TooMany : PySem.W.kitOne K (.ref A.C_TooMany) (.ref A.C_TooMany) = some true
  g_SORTS : mg "SORTS" = some (.ref A.r_SORTS)
  kd_SORTS : ∃ es n, KDict K w A.r_SORTS es n
  ns_serve : PySem.W.nsIn K A.r_SORTS "serve" = some (some (.ref A.p_serve))
  pt_serve : ∀ H : Hp, SqT K H A.p_serve [.int 2, .ref A.f_is_serve]
  ns_move : PySem.W.nsIn K A.r_SORTS "move" = some (some (.ref A.p_move))
  pt_move : ∀ H : Hp, SqT K H A.p_move [.int 3, .ref A.f_is_move]
  ns_out : PySem.W.nsIn K A.r_SORTS "out" = some (some (.ref A.p_out))
  pt_out : ∀ H : Hp, SqT K H A.p_out [.int 3, .ref A.f_is_out]
  ns_ask : PySem.W.nsIn K A.r_SORTS "ask" = some (some (.ref A.p_ask))
  pt_ask : ∀ H : Hp, SqT K H A.p_ask [.int 7, .ref A.f_is_ask]
  ns_done : PySem.W.nsIn K A.r_SORTS "done" = some (some (.ref A.p_done))
  pt_done : ∀ H : Hp, SqT K H A.p_done [.int 2, .ref A.f_is_done]
end K56
set_option Elab.async false
set_option linter.all false
set_option maxRecDepth 100000
set_option maxHeartbeats 4000000
/-! Ka: numbers, names, places, forms. -/
namespace K56
open PySem L2 Dn
section
variable {K : PySem.W.Frag} {ρ : DSt} {te : TE} {d : Dat} {b : Bool}
theorem isi {n m : String} (h : Den K te ρ d) (ht : tyN d = some n) (hb : kitB n m = some b) : Den K (tCB (rIsi K) (tCons te (tCons (tC (.ty m)) tNil))) ρ (.bl b) := den_cb (da_cons h (da_cons den_c da_nil)) (rc_isi ht hb)
theorem lenT {ds : List Dat} (h : Den K te ρ (.tup ds)) : Den K (tCB (rLenU K) (tCons te tNil)) ρ (.int ds.length) := den_cb (da_cons h da_nil) rc_lenT
theorem lenL {ds : List Dat} (h : Den K te ρ (.lst ds)) : Den K (tCB (rLenU K) (tCons te tNil)) ρ (.int ds.length) := den_cb (da_cons h da_nil) rc_lenL
theorem lenS {z : Str} (h : Den K te ρ (.str z)) (hz : z.length ≤ 100000) : Den K (tCB (rLenU K) (tCons te tNil)) ρ (.int z.length) := den_cb (da_cons h da_nil) (rc_lenS hz)
theorem isY {n m : String} (h : Den K te ρ d) (ht : tyN d = some n) (hb : kitB n m = some true) : Den K (tCB (rIsi K) (tCons te (tCons (tC (.ty m)) tNil))) ρ (.bl true) := isi h ht hb
theorem isN {n m : String} (h : Den K te ρ d) (ht : tyN d = some n) (hb : kitB n m = some false) : Den K (tCB (rIsi K) (tCons te (tCons (tC (.ty m)) tNil))) ρ (.bl false) := isi h ht hb
theorem dts_one {t : TT} (h : DenT K t ρ b) : DenT K t ρ b := h
theorem dts_nil : DenT K tYes ρ true := fun σ G H Q i e k => k G H (Fr.refl i)
/-- a ≤ b ≤ c of whole numbers, true -/
theorem le2 {ta tb tc : TE} {i j k : Int} (ha : Den K ta ρ (.int i)) (hb : Den K tb ρ (.int j)) (hc : Den K tc ρ (.int k)) (h1 : i ≤ j) (h2 : j ≤ k) :
    Den K (tChain (rI0 fun i j => .bl (decide (i ≤ j))) (rI0 fun i j => .bl (decide (i ≤ j))) ta tb tc) ρ (.bl true) :=
  (den_chain ha hb (b := decide (i ≤ j)) (c := decide (j ≤ k)) rd_I0 fun _ => ⟨_, hc, rd_I0⟩).is (by simp [h1, h2])
theorem leLt {ta tb tc : TE} {i j k : Int} (ha : Den K ta ρ (.int i)) (hb : Den K tb ρ (.int j)) (hc : Den K tc ρ (.int k)) (h1 : i ≤ j) (h2 : j < k) :
    Den K (tChain (rI0 fun i j => .bl (decide (i ≤ j))) (rI0 fun i j => .bl (decide (i < j))) ta tb tc) ρ (.bl true) :=
  (den_chain ha hb (b := decide (i ≤ j)) (c := decide (j < k)) rd_I0 fun _ => ⟨_, hc, rd_I0⟩).is (by simp [h1, h2])
theorem ltLt {ta tb tc : TE} {i j k : Int} (ha : Den K ta ρ (.int i)) (hb : Den K tb ρ (.int j)) (hc : Den K tc ρ (.int k)) (h1 : i < j) (h2 : j < k) :
    Den K (tChain (rI0 fun i j => .bl (decide (i < j))) (rI0 fun i j => .bl (decide (i < j))) ta tb tc) ρ (.bl true) :=
  (den_chain ha hb (b := decide (i < j)) (c := decide (j < k)) rd_I0 fun _ => ⟨_, hc, rd_I0⟩).is (by simp [h1, h2])
/-- all of a list of truths -/
theorem allT {ds : List Dat} {bs : List Bool} (h : DenL K te ρ ds) (e : ds = bs.map fun b => .bl b) : Den K (tCB (rAll K) (tCons te tNil)) ρ (.bl (bs.all id)) := den_cb (da_cons (e ▸ h.den) da_nil) rc_all
end
/-! ### the plain meaning -/
def letterS : Str := "abcdefghijklmnopqrstuvwxyz"
def figureS : Str := "0123456789"
def letterC (c : Nat) : Bool := decide (c ∈ letterS.cps.toList)
def placeC (c : Nat) : Bool := decide (c ∈ letterS.cps.toList) || (decide (c ∈ figureS.cps.toList) || decide ((⟨#[c]⟩ : Str) = "."))
def nameOk (s : Str) : Prop := 1 ≤ s.length ∧ s.length ≤ 8 ∧ s.cps.toList.all letterC = true
def placeOk (s : Str) : Prop := s.length ≤ 40 ∧ (∃ c, s.cps.toList[0]? = some c ∧ letterC c = true) ∧ s.cps.toList.all placeC = true
def F_is_whole : List Dat → Dat → Prop := fun ds d => ∃ i : Int, ds = [.int i] ∧ d = .bl true
def F_is_number : List Dat → Dat → Prop := fun ds d => ∃ i p : Int, ds = [.int i, .int p] ∧ 0 ≤ i ∧ i < p ∧ d = .bl true
def primeL : List Int := [2, 5, 97, 997]
def F_is_prime : List Dat → Dat → Prop := fun ds d => ∃ p : Int, ds = [.int p] ∧ p ∈ primeL ∧ d = .bl true
def F_is_name : List Dat → Dat → Prop := fun ds d => ∃ s : Str, ds = [.str s] ∧ nameOk s ∧ d = .bl true
def F_is_place : List Dat → Dat → Prop := fun ds d => ∃ s : Str, ds = [.str s] ∧ placeOk s ∧ d = .bl true
/-- a form of a number alone -/
def formD (n : Int) : Dat := .tup [.int n, .tup []]
def F_is_form : List Dat → Dat → Prop := fun ds d => ∃ n p : Int, ds = [formD n, .int p] ∧ 0 ≤ n ∧ n < p ∧ d = .bl true
def F_places_in : List Dat → Dat → Prop := fun ds d => ∃ n : Int, ds = [formD n] ∧ d = .tup []
theorem sc_is_whole : FnScope ["thing"] ["thing"] (defScope s_is_whole) := ⟨rfl, rfl, rfl, by decide +kernel, rfl, by decide +kernel, by decide +kernel⟩
theorem sc_is_number : FnScope ["thing", "p"] ["thing", "p"] (defScope s_is_number) := ⟨rfl, rfl, rfl, by decide +kernel, rfl, by decide +kernel, by decide +kernel⟩
theorem sc_is_prime : FnScope ["thing", "least"] ["thing"] (defScope s_is_prime) := ⟨rfl, rfl, rfl, by decide +kernel, rfl, by decide +kernel, by decide +kernel⟩
theorem sc_is_name : FnScope ["thing", "sign"] ["thing"] (defScope s_is_name) := ⟨rfl, rfl, rfl, by decide +kernel, rfl, by decide +kernel, by decide +kernel⟩
theorem sc_is_place : FnScope ["thing", "sign"] ["thing"] (defScope s_is_place) := ⟨rfl, rfl, rfl, by decide +kernel, rfl, by decide +kernel, by decide +kernel⟩
theorem sc_is_form : FnScope ["thing", "p", "n", "terms", "term", "one", "other"] ["thing", "p"] (defScope s_is_form) := ⟨rfl, rfl, rfl, by decide +kernel, rfl, by decide +kernel, by decide +kernel⟩
theorem sc_places_in : FnScope ["form", "place", "times"] ["form"] (defScope s_places_in) := ⟨rfl, rfl, rfl, by decide +kernel, rfl, by decide +kernel, by decide +kernel⟩
section
variable {P : Program} {w : World} {K : PySem.W.Frag} {mg : Str → Option Value} {base : Heap} {A : Ad}
theorem ok_is_whole (T : Tx K w mg A) : FnOk P w K mg base CX0 1 A.f_is_whole A.d_is_whole ["thing"] (spF K F_is_whole) := by
  refine pure_ok T.F_is_whole sc_is_whole (fun ds d h => by obtain ⟨i, rfl, _⟩ := h; rfl) (fun cdv Ar outer s H E hr => ⟨_, (pss_one (ps_ret (pe_and (pe_callB (r := rIsi K) call_isi (by rfl) T.n_isinstance (by decide +kernel) (pa_cons (pv 0) (pa_cons (pe_bltn (v := .ty "int") (by rfl) T.n_int (by decide +kernel) rfl) pa_nil))) (pe_one (pe_not (pe_callB (r := rIsi K) call_isi (by rfl) T.n_isinstance (by decide +kernel) (pa_cons (pv 0) (pa_cons (pe_bltn (v := .ty "bool") (by rfl) T.n_bool (by decide +kernel) rfl) pa_nil)))))))), fun ds d h => ?_⟩)
  obtain ⟨i, rfl, rfl⟩ := h
  exact ds_ret ((den_and (isY (den_var rfl) rfl (by decide +kernel)) fun _ => den_not (isN (den_var rfl) rfl (by decide +kernel))).is rfl)
theorem ok_is_number (T : Tx K w mg A) : FnOk P w K mg base CX0 2 A.f_is_number A.d_is_number ["thing", "p"] (spF K F_is_number) := by
  refine pure_ok T.F_is_number sc_is_number (fun ds d h => by obtain ⟨i, p, rfl, _⟩ := h; rfl) (fun cdv Ar outer s H E hr => ⟨_, (pss_one (ps_ret (pe_and (pe_call (ok_is_whole T) (hr.mono (by decide)) rfl T.g_is_whole T.F_is_whole.kp T.b_is_whole .nil pass0 (pa_cons (pv 0) pa_nil)) (pe_one (pe_chain op_le op_lt pe_int (pv 0) (pv 1)))))), fun ds d h => ?_⟩)
  obtain ⟨i, p, rfl, h0, h1, rfl⟩ := h
  exact ds_ret ((den_and (den_call (da_cons (den_var rfl) da_nil) ⟨i, rfl, rfl⟩) fun _ => leLt den_c (den_var rfl) (den_var rfl) h0 h1).is rfl)
theorem ok_is_name (T : Tx K w mg A) : FnOk P w K mg base CX0 1 A.f_is_name A.d_is_name ["thing"] (spF K F_is_name) := by
  refine pure_ok T.F_is_name sc_is_name (fun ds d h => by obtain ⟨i, rfl, _⟩ := h; rfl) (fun cdv Ar outer s H E hr => ⟨_, (pss_cons (ps_if (PW.pt (pw_or (pt_not (pt_val (pe_callB (r := rIsi K) call_isi (by rfl) T.n_isinstance (by decide +kernel) (pa_cons (pv 0) (pa_cons (pe_bltn (v := .ty "str") (by rfl) T.n_str (by decide +kernel) rfl) pa_nil))))) (pw_or1 (pt_not (pt_chain op_le op_le pe_int (pe_callB (r := Dn.rLenU K) Dn.call_lenU (by rfl) T.n_len (by decide +kernel) (pa_cons (pv 0) pa_nil)) (pe_glob (v := .int 8) rfl T.g_MOST_NAME ⟨_, rfl⟩)))))) (pss_one (ps_ret pe_bl)) pss_nil)
  (pss_one (ps_ret (pe_callB (r := rAll K) (cr_all rfl) (by rfl) T.n_all (by decide +kernel) (pa_cons (pe_lc (own := [("sign", 1)]) (g := (gName 1)) (by rfl) sc_is_name.nd (pi_str (pv 0)) (blkOk_by (N := ["thing", "sign"]) (sc := defScope s_is_name) (by decide +kernel))
    (fun _ _ _ _ _ => (pg_name (i := 1) sc_is_name.nd rfl (Or.inl rfl))) (fun _ _ _ _ _ => pts_nil) (fun _ _ _ _ _ => (pe_cmpR op_in_sign (pv 1) (pe_glob (v := .str "abcdefghijklmnopqrstuvwxyz") rfl T.g_LETTERS ⟨_, rfl⟩) rfl))) pa_nil))))), fun ds d h => ?_⟩)
  obtain ⟨s, rfl, ⟨h1, h8, ha⟩, rfl⟩ := h
  refine ds_seq (ds_no ((dt_or (b := false) ((dt_not (dt_val (isY (den_var rfl) rfl (by decide +kernel)))).is rfl) fun _ => (dt_not (dt_test (le2 den_c (lenS (den_var rfl) (by omega)) den_c (by omega) (by omega)))).is rfl).is rfl)) (ds_ret ?_)
  refine (allT (bs := s.cps.toList.map letterC) (dl_lcA s.cps.toList (fun c => .str ⟨#[c]⟩) (fun c => .bl (letterC c)) (fun c => [some (.str s), some (.str ⟨#[c]⟩)]) (di_str (den_var rfl)) ?_ (fun c _ => dg_name) (fun c _ => dts_nil) (fun c _ => den_op (den_var rfl) den_c rd_inSign)) (by rw [List.map_map]; rfl)).is ?_
  · show s.cps.toList.length ≤ 40000
    have : s.cps.toList.length = s.length := by simp [Str.length]
    omega
  · rw [List.all_map]
    simpa using ha
theorem ok_is_prime (T : Tx K w mg A) : FnOk P w K mg base CX0 2 A.f_is_prime A.d_is_prime ["thing"] (spF K F_is_prime) := by
  refine pure_ok T.F_is_prime sc_is_prime (fun ds d h => by obtain ⟨i, rfl, _⟩ := h; rfl) (fun cdv Ar outer s H E hr => ⟨_, (pss_cons (ps_if (PW.pt (pw_or (pt_not (pt_val (pe_call (ok_is_whole T) (hr.mono (by decide)) rfl T.g_is_whole T.F_is_whole.kp T.b_is_whole .nil pass0 (pa_cons (pv 0) pa_nil)))) (pw_or1 (pt_not (pt_chain op_le op_le pe_int (pv 0) (pe_glob (v := .int 997) rfl T.g_MOST_PRIME ⟨_, rfl⟩)))))) (pss_one (ps_ret pe_bl)) pss_nil)
  (pss_one (ps_ret (pe_callB (r := rAll K) (cr_all rfl) (by rfl) T.n_all (by decide +kernel) (pa_cons (pe_lc (own := [("least", 1)]) (g := (gName 1)) (by rfl) sc_is_prime.nd (pi_range2 rfl T.n_range (pa_cons pe_int (pa_cons (pv 0) pa_nil))) (blkOk_by (N := ["thing", "least"]) (sc := defScope s_is_prime) (by decide +kernel))
    (fun _ _ _ _ _ => (pg_name (i := 1) sc_is_prime.nd rfl (Or.inl rfl))) (fun _ _ _ _ _ => pts_one (pt_cmpR op_le (pe_op op_mul (pv 1) (pv 1)) (pv 0) (nomark _))) (fun _ _ _ _ _ => (pe_cmpR op_ne (pe_op op_mod (pv 0) (pv 1)) pe_int (nomark _)))) pa_nil))))), fun ds d h => ?_⟩)
  obtain ⟨p, rfl, hp, rfl⟩ := h
  have hb : 2 ≤ p ∧ p ≤ 997 := by
    simp only [primeL, List.mem_cons, List.not_mem_nil, or_false] at hp
    omega
  refine ds_seq (ds_no ((dt_or (b := false) ((dt_not (dt_val (den_call (da_cons (den_var rfl) da_nil) ⟨p, rfl, rfl⟩))).is rfl) fun _ => (dt_not (dt_test (le2 den_c (den_var rfl) den_c hb.1 hb.2))).is rfl).is rfl)) (ds_ret ?_)
  refine (allT (bs := ((List.range (p - 2).toNat).filter fun i => decide (((2 : Int) + (i : Nat)) * (2 + (i : Nat)) ≤ p)).map fun i => !decide (V.int (p % (2 + (i : Nat))) = V.int 0))
    (dl_lc (List.range (p - 2).toNat) (fun i => .int (2 + (i : Nat))) (fun i => decide (((2 : Int) + (i : Nat)) * (2 + (i : Nat)) ≤ p)) (fun i => .bl (!decide (V.int (p % (2 + (i : Nat))) = V.int 0))) (fun i => [some (.int p), some (.int (2 + (i : Nat)))])
      (di_rng2 (da_cons den_c (da_cons (den_var rfl) da_nil)) (by omega)) (by rw [List.length_range]; omega) (fun c _ => dg_name) (fun c hc => dts_one (dt_test (den_op (den_op (den_var rfl) (den_var rfl) (rd_I (.inl (by have := List.mem_range.mp hc; constructor <;> omega)))) (den_var rfl) rd_I0)))
      (fun c hc _ => den_op (den_op (den_var rfl) (den_var rfl) (rd_I (by show (0 : Int) < 2 + (c : Nat); omega))) den_c (rd_ne rfl))) (by rw [List.map_map]; rfl)).is ?_
  simp only [primeL, List.mem_cons, List.not_mem_nil, or_false] at hp
  rcases hp with rfl | rfl | rfl | rfl
  · exact congrArg Dat.bl (by decide +kernel)
  · exact congrArg Dat.bl (by decide +kernel)
  · exact congrArg Dat.bl (by decide +kernel)
  · exact congrArg Dat.bl (by decide +kernel)
theorem ok_is_place (T : Tx K w mg A) : FnOk P w K mg base CX0 1 A.f_is_place A.d_is_place ["thing"] (spF K F_is_place) := by
  refine pure_ok T.F_is_place sc_is_place (fun ds d h => by obtain ⟨i, rfl, _⟩ := h; rfl) (fun cdv Ar outer s H E hr => ⟨_, (pss_cons (ps_if (PW.pt (pw_or (pt_not (pt_val (pe_callB (r := rIsi K) call_isi (by rfl) T.n_isinstance (by decide +kernel) (pa_cons (pv 0) (pa_cons (pe_bltn (v := .ty "str") (by rfl) T.n_str (by decide +kernel) rfl) pa_nil))))) (pw_or (pt_not (pt_chain op_le op_le pe_int (pe_callB (r := Dn.rLenU K) Dn.call_lenU (by rfl) T.n_len (by decide +kernel) (pa_cons (pv 0) pa_nil)) (pe_glob (v := .int 40) rfl T.g_MOST_PLACE ⟨_, rfl⟩))) (pw_or1 (pt_cmpR op_notIn_sign (pe_ix (r := rIx K) ix_seq (pv 0) pe_int (fun _ _ => rfl)) (pe_glob (v := .str "abcdefghijklmnopqrstuvwxyz") rfl T.g_LETTERS ⟨_, rfl⟩) rfl))))) (pss_one (ps_ret pe_bl)) pss_nil)
  (pss_one (ps_ret (pe_callB (r := rAll K) (cr_all rfl) (by rfl) T.n_all (by decide +kernel) (pa_cons (pe_lc (own := [("sign", 1)]) (g := (gName 1)) (by rfl) sc_is_place.nd (pi_str (pv 0)) (blkOk_by (N := ["thing", "sign"]) (sc := defScope s_is_place) (by decide +kernel))
    (fun _ _ _ _ _ => (pg_name (i := 1) sc_is_place.nd rfl (Or.inl rfl))) (fun _ _ _ _ _ => pts_nil) (fun _ _ _ _ _ => (pe_or (pe_cmpR op_in_sign (pv 1) (pe_glob (v := .str "abcdefghijklmnopqrstuvwxyz") rfl T.g_LETTERS ⟨_, rfl⟩) rfl) (pe_or (pe_cmpR op_in_sign (pv 1) (pe_glob (v := .str "0123456789") rfl T.g_FIGURES ⟨_, rfl⟩) rfl) (pe_one (pe_cmpR op_eq (pv 1) pe_str (nomark _))))))) pa_nil))))), fun ds d h => ?_⟩)
  obtain ⟨s, rfl, ⟨h40, ⟨c0, hc0, hl0⟩, ha⟩, rfl⟩ := h
  have sl : s.cps.toList.length = s.length := by simp [Str.length]
  have h1 : 1 ≤ s.length := by
    have := (List.getElem?_eq_some_iff.mp hc0).1
    omega
  refine ds_seq (ds_no ((dt_or (b := false) ((dt_not (dt_val (isY (den_var rfl) rfl (by decide +kernel)))).is rfl) fun _ => (dt_or (b := false) ((dt_not (dt_test (le2 den_c (lenS (den_var rfl) (by omega)) den_c (by omega) (by omega)))).is rfl) fun _ =>
    (dt_test ((den_op (den_op (den_var rfl) den_c (rd_ixUS (c := c0) (by omega) ?_)) den_c rd_notInSign).is ?_))).is rfl).is rfl)) (ds_ret ?_)
  · exact ati 0 hc0
  · exact congrArg Dat.bl (show (!letterC c0) = false by rw [hl0]; rfl)
  refine (allT (bs := s.cps.toList.map placeC) (dl_lcA s.cps.toList (fun c => .str ⟨#[c]⟩) (fun c => .bl (placeC c)) (fun c => [some (.str s), some (.str ⟨#[c]⟩)]) (di_str (den_var rfl)) ?_ (fun c _ => dg_name) (fun c _ => dts_nil)
    (fun c _ => (den_or (b := decide (c ∈ letterS.cps.toList)) (den_op (den_var rfl) den_c rd_inSign) fun _ => den_or (b := decide (c ∈ figureS.cps.toList)) (den_op (den_var rfl) den_c rd_inSign) fun _ => den_op (den_var rfl) den_c (rd_eq rfl)).is ?_)) (by rw [List.map_map]; rfl)).is ?_
  · rw [sl]
    omega
  · simp [placeC]
  · rw [List.all_map]
    simpa using ha
theorem ok_is_form (T : Tx K w mg A) : FnOk P w K mg base CX0 3 A.f_is_form A.d_is_form ["thing", "p"] (spF K F_is_form) := by
  refine pure_ok T.F_is_form sc_is_form (fun ds d h => by obtain ⟨i, p, rfl, _⟩ := h; rfl) (fun cdv Ar outer s H E hr => ⟨_, (pss_cons (ps_if (PW.pt (pw_or (pt_not (pt_val (pe_callB (r := rIsi K) call_isi (by rfl) T.n_isinstance (by decide +kernel) (pa_cons (pv 0) (pa_cons (pe_bltn (v := .ty "tuple") (by rfl) T.n_tuple (by decide +kernel) rfl) pa_nil))))) (pw_or (pt_cmpR op_ne (pe_callB (r := Dn.rLenU K) Dn.call_lenU (by rfl) T.n_len (by decide +kernel) (pa_cons (pv 0) pa_nil)) pe_int (nomark _)) (pw_or1 (pt_not (pt_val (pe_call (ok_is_number T) (hr.mono (by decide)) rfl T.g_is_number T.F_is_number.kp T.b_is_number .nil pass0 (pa_cons (pe_ix (r := rIx K) ix_seq (pv 0) pe_int (fun _ _ => rfl)) (pa_cons (pv 1) pa_nil))))))))) (pss_one (ps_ret pe_bl)) pss_nil)
  (pss_cons (ps_asg (pv 0) (pg_tup rfl (pgs_cons (pg_name (i := 2) sc_is_form.nd rfl (Or.inl rfl)) (pgs_cons (pg_name (i := 3) sc_is_form.nd rfl (Or.inl rfl)) pgs_nil))))
  (pss_cons (ps_if (PW.pt (pw_or (pt_not (pt_val (pe_callB (r := rIsi K) call_isi (by rfl) T.n_isinstance (by decide +kernel) (pa_cons (pv 3) (pa_cons (pe_bltn (v := .ty "tuple") (by rfl) T.n_tuple (by decide +kernel) rfl) pa_nil))))) (pw_or1 (pt_not (pt_val (pe_callB (r := rAll K) (cr_all rfl) (by rfl) T.n_all (by decide +kernel) (pa_cons (pe_lc (own := [("term", 4)]) (g := (gName 4)) (by rfl) sc_is_form.nd (Dn.pi_seq (pv 3)) (blkOk_by (N := ["thing", "p", "n", "terms", "term", "one", "other"]) (sc := defScope s_is_form) (by decide +kernel))
    (fun _ _ _ _ _ => (pg_name (i := 4) sc_is_form.nd rfl (Or.inl rfl))) (fun _ _ _ _ _ => pts_nil) (fun _ _ _ _ _ => Dn.pe_nev)) pa_nil))))))) (pss_one (ps_ret pe_bl)) pss_nil)
  (pss_one (ps_ret (pe_callB (r := rAll K) (cr_all rfl) (by rfl) T.n_all (by decide +kernel) (pa_cons (pe_lc (own := [("one", 5), ("other", 6)]) (g := (gTup K 2 (gCons (gName 5) (gCons (gName 6) gNil)))) (by rfl) sc_is_form.nd (RZ.pi_zipA rfl T.n_zip (pa_cons (pv 3) (pa_cons (pe_slice (r := rSlA K) sl_tupA (pv 3) (po_some pe_int) po_none) pa_nil))) (blkOk_by (N := ["thing", "p", "n", "terms", "term", "one", "other"]) (sc := defScope s_is_form) (by decide +kernel))
    (fun _ _ _ _ _ => (pg_tup rfl (pgs_cons (pg_name (i := 5) sc_is_form.nd rfl (Or.inl rfl)) (pgs_cons (pg_name (i := 6) sc_is_form.nd rfl (Or.inl rfl)) pgs_nil)))) (fun _ _ _ _ _ => pts_nil) (fun _ _ _ _ _ => Dn.pe_nev)) pa_nil))))))), fun ds d h => ?_⟩)
  obtain ⟨n, p, rfl, h0, h1, rfl⟩ := h
  refine ds_seq (ds_no ((dt_or (b := false) ((dt_not (dt_val (isY (den_var rfl) rfl (by decide +kernel)))).is rfl) fun _ => dt_or (b := false) ((dt_test (den_op (lenT (den_var rfl)) den_c (rd_ne rfl))).is rfl) fun _ => ((dt_not (dt_val (den_call (da_cons (den_op (den_var rfl) den_c (rd_ixUT (ati 0 rfl))) (da_cons (den_var rfl) da_nil)) ⟨n, p, rfl, h0, h1, rfl⟩))).is rfl)).is rfl)) ?_
  refine ds_seq (ds_asg (den_var rfl) (dg_tup (dgs_cons dg_name (dgs_cons dg_name dgs_nil)) rfl)) ?_
  refine ds_seq (ds_no ((dt_or (b := false) ((dt_not (dt_val (isY (den_var rfl) rfl (by decide +kernel)))).is rfl) fun _ => ((dt_not (dt_val (allT (bs := []) (dl_lcA (α := Dat) [] id id (fun _ => []) (js := []) (di_2 (di_tup (den_var rfl))) (by decide) (fun a h => nomatch h) (fun a h => nomatch h) (fun a h => nomatch h)) rfl))).is rfl)).is rfl)) ?_
  exact ds_ret (allT (bs := []) (dl_lcA (α := Dat) [] id id (fun _ => []) (js := []) ((di_zipT (da_cons (den_var rfl) (da_cons (den_slT (den_var rfl) (dp_some den_c) dp_no) da_nil))).is rfl) (by decide) (fun a h => nomatch h) (fun a h => nomatch h) (fun a h => nomatch h)) rfl)
theorem ok_places_in (T : Tx K w mg A) : FnOk P w K mg base CX0 1 A.f_places_in A.d_places_in ["form"] (spF K F_places_in) := by
  refine pure_ok T.F_places_in sc_places_in (fun ds d h => by obtain ⟨i, rfl, _⟩ := h; rfl) (fun cdv Ar outer s H E hr => ⟨_, (pss_one (ps_ret (pe_callTy (r := Dn.rTupOf K) call_tuple_of (by rfl) T.n_tuple (by decide +kernel) (pa_cons (pe_lc (own := [("place", 1), ("times", 2)]) (g := (gTup K 2 (gCons (gName 1) (gCons (gName 2) gNil)))) (by rfl) sc_places_in.nd (Dn.pi_seq (pe_ix (r := rIx K) ix_seq (pv 0) pe_int (fun _ _ => rfl))) (blkOk_by (N := ["form", "place", "times"]) (sc := defScope s_places_in) (by decide +kernel))
    (fun _ _ _ _ _ => (pg_tup rfl (pgs_cons (pg_name (i := 1) sc_places_in.nd rfl (Or.inl rfl)) (pgs_cons (pg_name (i := 2) sc_places_in.nd rfl (Or.inl rfl)) pgs_nil)))) (fun _ _ _ _ _ => pts_nil) (fun _ _ _ _ _ => Dn.pe_nev)) pa_nil)))), fun ds d h => ?_⟩)
  obtain ⟨n, rfl, rfl⟩ := h
  exact ds_ret (den_cb (da_cons (dl_lcA (α := Dat) [] id id (fun _ => []) (js := []) (di_2 (di_tup (den_op (den_var rfl) den_c (rd_ixUT (ati 1 rfl))))) (by decide) (fun a h => nomatch h) (fun a h => nomatch h) (fun a h => nomatch h)).den da_nil) rc_tupL)
end
end K56
set_option Elab.async false
set_option linter.all false
set_option maxRecDepth 100000
set_option maxHeartbeats 4000000
/-! Kb: the ground; rows of words and tuples. -/
namespace K56
open PySem L2 Dn
def siteK (sites : List Str) : List Key := sites.map Sum.inr
def thereD (sites : List Str) : Dat := .dct (siteK sites) (sites.map fun _ => .bl true)
def groundD (C : Addr) (sites : List Str) (many base : Int) : Dat := .ins C ["there", "many", "base"] [thereD sites, .int many, .int base]
def F_Ground___init__ : List Dat → List Dat → Prop := fun ds fs => ∃ a b c, ds = [a, b, c] ∧ fs = [a, b, c]
def F_Ground_is_goal (C : Addr) : List Dat → Dat → Prop := fun ds d => ∃ sites many base g, ds = [groundD C sites many base, .int g] ∧ 0 < g ∧ g < many ∧ d = .bl true
def F_Ground_is_sink (C : Addr) : List Dat → Dat → Prop := fun ds d => ∃ (sites : List Str) (many base : Int) (s : Str), ds = [groundD C sites many base, .str s] ∧ (s = "" ∨ s ∈ sites) ∧ d = .bl true
def F_Ground_is_over (C : Addr) : List Dat → Dat → Prop := fun ds d => ∃ sites many base n, ds = [groundD C sites many base, formD n] ∧ 0 ≤ n ∧ n < base ∧ d = .bl true
def F_Ground_are_over (C : Addr) : List Dat → Dat → Prop := fun ds d => ∃ (sites : List Str) (many base : Int) (ns : List Int), ds = [groundD C sites many base, .tup (ns.map formD)] ∧ ns.length ≤ 3 ∧ (∀ n ∈ ns, 0 ≤ n ∧ n < base) ∧ d = .bl true
def nosD (k : Nat) : Dat := .tup (List.replicate k (.str ""))
def F_Ground_are_sinks (C : Addr) : List Dat → Dat → Prop := fun ds d => ∃ (sites : List Str) (many base : Int) (k : Nat), ds = [groundD C sites many base, nosD k] ∧ k ≤ 3 ∧ d = .bl true
def ltS (a b : Str) : Bool := decide (a.cps.toList < b.cps.toList)
def risesB : List Str → Bool
  | [] => true
  | [_] => true
  | a :: b :: r => ltS a b && risesB (b :: r)
def F_rises : List Dat → Dat → Prop := fun ds d => ∃ ws : List Str, ds = [.lst (ws.map fun s => .str s)] ∧ (∀ s ∈ ws, nameOk s) ∧ risesB ws = true ∧ ws.length ≤ 1000 ∧ d = .bl true
def F_are_tuples : List Dat → Dat → Prop := fun ds d => ∃ (rows : List (List Dat)) (lo hi : Int) (size : Nat), ds = [.tup (rows.map fun r => .tup r), .int lo, .int hi, .int size] ∧ (∀ r ∈ rows, r.length = size) ∧ lo ≤ rows.length ∧ rows.length ≤ hi ∧ rows.length ≤ 40000 ∧ d = .bl true
theorem sc_Ground___init__ : FnScope ["self", "there", "many", "base"] ["self", "there", "many", "base"] (defScope s_Ground___init__) := ⟨rfl, rfl, rfl, by decide +kernel, rfl, by decide +kernel, by decide +kernel⟩
theorem sc_Ground_is_goal : FnScope ["self", "thing"] ["self", "thing"] (defScope s_Ground_is_goal) := ⟨rfl, rfl, rfl, by decide +kernel, rfl, by decide +kernel, by decide +kernel⟩
theorem sc_Ground_is_sink : FnScope ["self", "thing"] ["self", "thing"] (defScope s_Ground_is_sink) := ⟨rfl, rfl, rfl, by decide +kernel, rfl, by decide +kernel, by decide +kernel⟩
theorem sc_Ground_is_over : FnScope ["self", "thing", "place"] ["self", "thing"] (defScope s_Ground_is_over) := ⟨rfl, rfl, rfl, by decide +kernel, rfl, by decide +kernel, by decide +kernel⟩
theorem sc_Ground_are_over : FnScope ["self", "thing", "one"] ["self", "thing"] (defScope s_Ground_are_over) := ⟨rfl, rfl, rfl, by decide +kernel, rfl, by decide +kernel, by decide +kernel⟩
theorem sc_Ground_are_sinks : FnScope ["self", "thing", "some", "one"] ["self", "thing"] (defScope s_Ground_are_sinks) := ⟨rfl, rfl, rfl, by decide +kernel, rfl, by decide +kernel, by decide +kernel⟩
theorem sc_rises : FnScope ["words", "word", "one", "other"] ["words"] (defScope s_rises) := ⟨rfl, rfl, rfl, by decide +kernel, rfl, by decide +kernel, by decide +kernel⟩
theorem sc_are_tuples : FnScope ["thing", "least", "most", "size", "one"] ["thing", "least", "most", "size"] (defScope s_are_tuples) := ⟨rfl, rfl, rfl, by decide +kernel, rfl, by decide +kernel, by decide +kernel⟩
section
variable {P : Program} {w : World} {K : PySem.W.Frag} {mg : Str → Option Value} {base : Heap} {A : Ad}
theorem ok_Ground___init__ (T : Tx K w mg A) : FnOk P w K mg base CX0 1 A.f_Ground___init__ A.d_Ground___init__ ["self", "there", "many", "base"] (spI K A.C_Ground ["there", "many", "base"] F_Ground___init__) := by
  refine init_ok T.F_Ground___init__ sc_Ground___init__ (fun ds d h => by obtain ⟨a, b, c, rfl, _⟩ := h; rfl) (fun cdv Ar outer s H E hr => ⟨_, (pss_cons (ps_fld (pv 0) (pv 1) rfl)
  (pss_cons (ps_fld (pv 0) (pv 2) rfl)
  (pss_one (ps_fld (pv 0) (pv 3) rfl)))), fun ds d h => ?_⟩)
  obtain ⟨a, b, c, rfl, rfl⟩ := h
  exact ini_seq (ini_fld T.c_Ground T.a_Ground_there (den_var rfl) rfl (by decide)) (ini_seq (ini_fld T.c_Ground T.a_Ground_many (den_var rfl) (by decide) (by decide)) (ini_fld T.c_Ground T.a_Ground_base (den_var rfl) (by decide) (by decide)))
theorem ok_Ground_is_goal (T : Tx K w mg A) : FnOk P w K mg base CX0 1 A.f_Ground_is_goal A.d_Ground_is_goal ["self", "thing"] (spF K (F_Ground_is_goal A.C_Ground)) := by
  refine pure_ok T.F_Ground_is_goal sc_Ground_is_goal (fun ds d h => by obtain ⟨_, _, _, _, rfl, _⟩ := h; rfl) (fun cdv Ar outer s H E hr => ⟨_, (pss_one (ps_ret (pe_and (pe_callB (r := rIsi K) call_isi (by rfl) T.n_isinstance (by decide +kernel) (pa_cons (pv 1) (pa_cons (pe_bltn (v := .ty "int") (by rfl) T.n_int (by decide +kernel) rfl) pa_nil))) (pe_and (pe_not (pe_callB (r := rIsi K) call_isi (by rfl) T.n_isinstance (by decide +kernel) (pa_cons (pv 1) (pa_cons (pe_bltn (v := .ty "bool") (by rfl) T.n_bool (by decide +kernel) rfl) pa_nil)))) (pe_one (pe_chain op_lt op_lt pe_int (pv 1) (Dn.pe_fldK (K := K) rfl (pv 0) rfl))))))), fun ds d h => ?_⟩)
  obtain ⟨sites, many, base, g, rfl, h0, h1, rfl⟩ := h
  exact ds_ret ((den_and (isY (den_var rfl) rfl (by decide +kernel)) fun _ => den_and (den_not (isN (den_var rfl) rfl (by decide +kernel))) fun _ => ltLt den_c (den_var rfl) (den_fld (den_var rfl) T.c_Ground T.a_Ground_many rfl) h0 h1).is rfl)
theorem ok_Ground_is_sink (T : Tx K w mg A) : FnOk P w K mg base CX0 1 A.f_Ground_is_sink A.d_Ground_is_sink ["self", "thing"] (spF K (F_Ground_is_sink A.C_Ground)) := by
  refine pure_ok T.F_Ground_is_sink sc_Ground_is_sink (fun ds d h => by obtain ⟨_, _, _, _, rfl, _⟩ := h; rfl) (fun cdv Ar outer s H E hr => ⟨_, (pss_one (ps_ret (pe_and (pe_callB (r := rIsi K) call_isi (by rfl) T.n_isinstance (by decide +kernel) (pa_cons (pv 1) (pa_cons (pe_bltn (v := .ty "str") (by rfl) T.n_str (by decide +kernel) rfl) pa_nil))) (pe_one (pe_or (pe_cmpR op_eq (pv 1) (pe_glob (v := .str "") rfl T.g_NOWHERE ⟨_, rfl⟩) (nomark _)) (pe_one (pe_cmp (pc_din (hu_of hr) (pv 1) (Dn.pe_fldK (K := K) rfl (pv 0) rfl)) rfl))))))), fun ds d h => ?_⟩)
  obtain ⟨sites, many, base, z, rfl, h0, rfl⟩ := h
  refine ds_ret ((den_and (isY (den_var rfl) rfl (by decide +kernel)) fun _ => den_or (den_op (den_var rfl) den_c (rd_eq rfl)) fun _ => den_din (k := Sum.inr z) (den_var rfl) (den_fld (den_var rfl) T.c_Ground T.a_Ground_there rfl)).is ?_)
  rcases h0 with h0 | h0
  · subst h0
    rfl
  · have e : (siteK sites).any (fun j => decide (j = Sum.inr z)) = true := List.any_eq_true.mpr ⟨Sum.inr z, List.mem_map.mpr ⟨z, h0, rfl⟩, by simp⟩
    rw [e]
    simp
theorem ok_Ground_is_over (T : Tx K w mg A) : FnOk P w K mg base CX0 4 A.f_Ground_is_over A.d_Ground_is_over ["self", "thing"] (spF K (F_Ground_is_over A.C_Ground)) := by
  refine pure_ok T.F_Ground_is_over sc_Ground_is_over (fun ds d h => by obtain ⟨_, _, _, _, rfl, _⟩ := h; rfl) (fun cdv Ar outer s H E hr => ⟨_, (pss_one (ps_ret (pe_and (pe_call (ok_is_form T) (hr.mono (by decide)) rfl T.g_is_form T.F_is_form.kp T.b_is_form .nil pass0 (pa_cons (pv 1) (pa_cons (Dn.pe_fldK (K := K) rfl (pv 0) rfl) pa_nil))) (pe_one (pe_callB (r := rAll K) (cr_all rfl) (by rfl) T.n_all (by decide +kernel) (pa_cons (pe_lc (own := [("place", 2)]) (g := (gName 2)) (by rfl) sc_Ground_is_over.nd (Dn.pi_seq (pe_call (ok_places_in T) (hr.mono (by decide)) rfl T.g_places_in T.F_places_in.kp T.b_places_in .nil pass0 (pa_cons (pv 1) pa_nil))) (blkOk_by (N := ["self", "thing", "place"]) (sc := defScope s_Ground_is_over) (by decide +kernel))
    (fun _ _ _ _ _ => (pg_name (i := 2) sc_Ground_is_over.nd rfl (Or.inl rfl))) (fun _ _ _ _ _ => pts_nil) (fun _ _ _ _ _ => Dn.pe_nev)) pa_nil)))))), fun ds d h => ?_⟩)
  obtain ⟨sites, many, base, n, rfl, h0, h1, rfl⟩ := h
  exact ds_ret ((den_and (den_call (da_cons (den_var rfl) (da_cons (den_fld (den_var rfl) T.c_Ground T.a_Ground_base rfl) da_nil)) ⟨n, base, rfl, h0, h1, rfl⟩) fun _ =>
    allT (bs := []) (dl_lcA (α := Dat) [] id id (fun _ => []) (js := []) (di_2 (di_tup (den_call (da_cons (den_var rfl) da_nil) ⟨n, rfl, rfl⟩))) (by decide) (fun a h => nomatch h) (fun a h => nomatch h) (fun a h => nomatch h)) rfl).is rfl)
theorem ok_Ground_are_over (T : Tx K w mg A) : FnOk P w K mg base CX0 5 A.f_Ground_are_over A.d_Ground_are_over ["self", "thing"] (spF K (F_Ground_are_over A.C_Ground)) := by
  refine pure_ok T.F_Ground_are_over sc_Ground_are_over (fun ds d h => by obtain ⟨_, _, _, _, rfl, _⟩ := h; rfl) (fun cdv Ar outer s H E hr => ⟨_, (pss_one (ps_ret (pe_and (pe_callB (r := rIsi K) call_isi (by rfl) T.n_isinstance (by decide +kernel) (pa_cons (pv 1) (pa_cons (pe_bltn (v := .ty "tuple") (by rfl) T.n_tuple (by decide +kernel) rfl) pa_nil))) (pe_and (pe_cmpR op_le (pe_callB (r := Dn.rLenU K) Dn.call_lenU (by rfl) T.n_len (by decide +kernel) (pa_cons (pv 1) pa_nil)) (pe_glob (v := .int 3) rfl T.g_MOST_COMING ⟨_, rfl⟩) (nomark _)) (pe_one (pe_callB (r := rAll K) (cr_all rfl) (by rfl) T.n_all (by decide +kernel) (pa_cons (pe_lc (own := [("one", 2)]) (g := (gName 2)) (by rfl) sc_Ground_are_over.nd (Dn.pi_seq (pv 1)) (blkOk_by (N := ["self", "thing", "one"]) (sc := defScope s_Ground_are_over) (by decide +kernel))
    (fun _ _ _ _ _ => (pg_name (i := 2) sc_Ground_are_over.nd rfl (Or.inl rfl))) (fun _ _ _ _ _ => pts_nil) (fun _ _ _ _ _ => (pe_meth (pv 0) T.c_Ground T.m_Ground_is_over (ok_Ground_is_over T) (hr.mono (by decide)) T.b_Ground_is_over .nil pass0 (pa_cons (pv 2) pa_nil)))) pa_nil))))))), fun ds d h => ?_⟩)
  obtain ⟨sites, many, base, ns, rfl, h3, hn, rfl⟩ := h
  refine ds_ret ((den_and (isY (den_var rfl) rfl (by decide +kernel)) fun _ => den_and (den_op (lenT (den_var rfl)) den_c rd_I0) fun _ =>
    allT (bs := ns.map fun _ => true) (dl_lcA ns formD (fun _ => .bl true) (fun n => [some (groundD A.C_Ground sites many base), some (.tup (ns.map formD)), some (formD n)]) (di_2 (di_tup (den_var rfl))) (by omega) (fun n _ => dg_name) (fun n _ => dts_nil)
      (fun n hm => den_meth (den_var rfl) rfl (da_cons (den_var rfl) da_nil) ⟨sites, many, base, n, rfl, (hn n hm).1, (hn n hm).2, rfl⟩)) (by rw [List.map_map]; rfl)).is ?_)
  simp
  omega
theorem ok_Ground_are_sinks (T : Tx K w mg A) : FnOk P w K mg base CX0 2 A.f_Ground_are_sinks A.d_Ground_are_sinks ["self", "thing"] (spF K (F_Ground_are_sinks A.C_Ground)) := by
  refine pure_ok T.F_Ground_are_sinks sc_Ground_are_sinks (fun ds d h => by obtain ⟨_, _, _, _, rfl, _⟩ := h; rfl) (fun cdv Ar outer s H E hr => ⟨_, (pss_cons (ps_if (PW.pt (pw_or (pt_not (pt_val (pe_callB (r := rIsi K) call_isi (by rfl) T.n_isinstance (by decide +kernel) (pa_cons (pv 1) (pa_cons (pe_bltn (v := .ty "tuple") (by rfl) T.n_tuple (by decide +kernel) rfl) pa_nil))))) (pw_or (pt_cmpR op_gt (pe_callB (r := Dn.rLenU K) Dn.call_lenU (by rfl) T.n_len (by decide +kernel) (pa_cons (pv 1) pa_nil)) (pe_glob (v := .int 3) rfl T.g_MOST_COMING ⟨_, rfl⟩) (nomark _)) (pw_or1 (pt_not (pt_val (pe_callB (r := rAll K) (cr_all rfl) (by rfl) T.n_all (by decide +kernel) (pa_cons (pe_lc (own := [("one", 3)]) (g := (gName 3)) (by rfl) sc_Ground_are_sinks.nd (Dn.pi_seq (pv 1)) (blkOk_by (N := ["self", "thing", "some", "one"]) (sc := defScope s_Ground_are_sinks) (by decide +kernel))
    (fun _ _ _ _ _ => (pg_name (i := 3) sc_Ground_are_sinks.nd rfl (Or.inl rfl))) (fun _ _ _ _ _ => pts_nil) (fun _ _ _ _ _ => (pe_meth (pv 0) T.c_Ground T.m_Ground_is_sink (ok_Ground_is_sink T) (hr.mono (by decide)) T.b_Ground_is_sink .nil pass0 (pa_cons (pv 3) pa_nil)))) pa_nil)))))))) (pss_one (ps_ret pe_bl)) pss_nil)
  (pss_cons (ps_setLc (i := 2) (own := [("one", 3)]) (g := (gName 3)) (by rfl) sc_Ground_are_sinks.nd rfl rfl (sw_true rfl rfl rfl (by decide +kernel)) (Dn.pi_seq (pv 1)) (blkOk_by (N := ["self", "thing", "some", "one"]) (sc := defScope s_Ground_are_sinks) (by decide +kernel))
    (fun _ _ _ _ _ => (pg_name (i := 3) sc_Ground_are_sinks.nd rfl (Or.inl rfl))) (fun _ _ _ _ _ => pts_one (pt_cmpR op_ne (pv 3) (pe_glob (v := .str "") rfl T.g_NOWHERE ⟨_, rfl⟩) (nomark _))) (fun _ _ _ _ _ => (pv 3)))
  (pss_one (ps_ret (pe_cmpR op_eq (pe_callB Ru.call_lenK (by rfl) T.n_len (by decide +kernel) (pa_cons (pe_callTy (Ru.cr_setOfK rfl) (by rfl) T.n_set (by decide +kernel) (pa_cons (pv 2) pa_nil)) pa_nil)) (pe_callB (r := Dn.rLenU K) Dn.call_lenU (by rfl) T.n_len (by decide +kernel) (pa_cons (pv 2) pa_nil)) (nomark _)))))), fun ds d h => ?_⟩)
  obtain ⟨sites, many, base, k, rfl, h3, rfl⟩ := h
  have er : List.replicate k (Dat.str "") = (List.replicate k (() : Unit)).map fun _ => Dat.str "" := by simp
  refine ds_seq (ds_no ((dt_or (b := false) ((dt_not (dt_val (isY (den_var rfl) rfl (by decide +kernel)))).is rfl) fun _ => dt_or (b := false) ((dt_test (den_op (lenT (den_var rfl)) den_c rd_I0)).is ?_) fun _ => ((dt_not (dt_val (allT (bs := List.replicate k true)
    (dl_lcA (List.replicate k (() : Unit)) (fun _ => .str "") (fun _ => .bl true) (fun _ => [some (groundD A.C_Ground sites many base), some (nosD k), none, some (.str "")]) ((di_2 (di_tup (den_var rfl))).is er) (by simp; omega) (fun n _ => dg_name) (fun n _ => dts_nil)
      (fun n hm => den_meth (den_var rfl) rfl (da_cons (den_var rfl) da_nil) ⟨sites, many, base, "", rfl, .inl rfl, rfl⟩)) (by simp)))).is ?_)).is rfl)) ?_
  · have : (List.replicate k (Dat.str "")).length = k := by simp
    simp
    omega
  · simp
  refine ds_seq (ds_set (dl_lc (List.replicate k (() : Unit)) (fun _ => .str "") (fun _ => false) (fun _ => .str "") (fun _ => [some (groundD A.C_Ground sites many base), some (nosD k), none, some (.str "")]) ((di_2 (di_tup (den_var rfl))).is er) (by simp; omega) (fun n _ => dg_name)
    (fun n _ => dts_one ((dt_test (den_op (den_var rfl) den_c (rd_ne rfl))).is rfl)) (fun n _ q => nomatch q)).den) ?_
  have e0 : ((List.replicate k (() : Unit)).filter fun _ => false).map (fun _ => Dat.str "") = [] := by simp
  rw [e0]
  exact ds_ret ((den_op (den_len_set (ks := []) (.inr (da_cons (den_var rfl) da_nil)) .nil (by decide)) (lenL (den_var rfl)) (rd_eq rfl)).is rfl)
end
end K56
set_option Elab.async false
set_option linter.all false
set_option maxRecDepth 100000
set_option maxHeartbeats 4000000
/-! Kc: rising words, rows of tuples, steps of each sort. -/
namespace K56
open PySem L2 Dn
theorem cutD_from (xs : List Dat) (k : Nat) : cutD xs (some (k : Int)) none = xs.drop k := by
  unfold cutD
  rw [HT.sIx_nat, HT.sIx_none]
  by_cases h : k ≤ xs.length
  · rw [Nat.min_eq_left h, List.take_of_length_le (by rw [List.length_drop]; omega)]
  · rw [Nat.min_eq_right (by omega), List.drop_of_length_le (Nat.le_refl _), List.drop_of_length_le (by omega)]
    simp
theorem risesB_all : ∀ ws : List Str, risesB ws = (ws.zip (ws.drop 1)).all fun p => ltS p.1 p.2
  | [] => rfl
  | [_] => rfl
  | a :: b :: r => by
    have ih := risesB_all (b :: r)
    show (ltS a b && risesB (b :: r)) = _
    rw [ih]
    rfl
theorem zipD_map {α β : Type} (e : α → Dat) (f : β → Dat) (xs : List α) (ys : List β) : zipD (xs.map e) (ys.map f) = (xs.zip ys).map fun p => .tup [e p.1, f p.2] := by
  unfold zipD
  rw [List.zip_map, List.map_map]
  rfl
section
variable {P : Program} {w : World} {K : PySem.W.Frag} {mg : Str → Option Value} {base : Heap} {A : Ad}
theorem ok_rises (T : Tx K w mg A) : FnOk P w K mg base CX0 2 A.f_rises A.d_rises ["words"] (spF K F_rises) := by
  refine pure_ok T.F_rises sc_rises (fun ds d h => by obtain ⟨_, rfl, _⟩ := h; rfl) (fun cdv Ar outer s H E hr => ⟨_, (pss_cons (ps_if (pt_not (pt_val (pe_callB (r := rAll K) (cr_all rfl) (by rfl) T.n_all (by decide +kernel) (pa_cons (pe_lc (own := [("word", 1)]) (g := (gName 1)) (by rfl) sc_rises.nd (Dn.pi_seq (pv 0)) (blkOk_by (N := ["words", "word", "one", "other"]) (sc := defScope s_rises) (by decide +kernel))
    (fun _ _ _ _ _ => (pg_name (i := 1) sc_rises.nd rfl (Or.inl rfl))) (fun _ _ _ _ _ => pts_nil) (fun _ _ _ _ _ => (pe_call (ok_is_name T) (hr.mono (by decide)) rfl T.g_is_name T.F_is_name.kp T.b_is_name .nil pass0 (pa_cons (pv 1) pa_nil)))) pa_nil)))) (pss_one (ps_ret pe_bl)) pss_nil)
  (pss_one (ps_ret (pe_callB (r := rAll K) (cr_all rfl) (by rfl) T.n_all (by decide +kernel) (pa_cons (pe_lc (own := [("one", 2), ("other", 3)]) (g := (gTup K 2 (gCons (gName 2) (gCons (gName 3) gNil)))) (by rfl) sc_rises.nd (RZ.pi_zipA rfl T.n_zip (pa_cons (pv 0) (pa_cons (pe_slice (r := rSlL K) sl_list (pv 0) (po_some pe_int) po_none) pa_nil))) (blkOk_by (N := ["words", "word", "one", "other"]) (sc := defScope s_rises) (by decide +kernel))
    (fun _ _ _ _ _ => (pg_tup rfl (pgs_cons (pg_name (i := 2) sc_rises.nd rfl (Or.inl rfl)) (pgs_cons (pg_name (i := 3) sc_rises.nd rfl (Or.inl rfl)) pgs_nil)))) (fun _ _ _ _ _ => pts_nil) (fun _ _ _ _ _ => (pe_cmpR op_lt_str (pv 2) (pv 3) (nomark _)))) pa_nil))))), fun ds d h => ?_⟩)
  obtain ⟨ws, rfl, hn, hrs, hz, rfl⟩ := h
  refine ds_seq (ds_no ((DenT.is (dt_not (dt_val (allT (bs := ws.map fun _ => true) (dl_lcA ws (fun s => .str s) (fun _ => .bl true) (fun s => [some (.lst (ws.map fun s => .str s)), some (.str s), none, none]) (di_1 (di_list (den_var rfl))) (by omega) (fun n _ => dg_name) (fun n _ => dts_nil)
    (fun s hm => den_call (da_cons (den_var rfl) da_nil) ⟨s, rfl, hn s hm, rfl⟩)) (by rw [List.map_map]; rfl)))) (by simp)))) (ds_ret ?_)
  refine (Den.is (allT (bs := (ws.zip (ws.drop 1)).map fun p => ltS p.1 p.2) (dl_lcA (ws.zip (ws.drop 1)) (fun p => .tup [.str p.1, .str p.2]) (fun p => .bl (ltS p.1 p.2)) (fun p => [some (.lst (ws.map fun s => .str s)), none, some (.str p.1), some (.str p.2)])
    ((DenI.is (di_zipL (da_cons (den_var rfl) (da_cons (dl_slL (den_var rfl) (dp_some den_c) dp_no).den da_nil))) ?_)) ?_ (fun p _ => dg_tup (dgs_cons dg_name (dgs_cons dg_name dgs_nil)) rfl) (fun n _ => dts_nil) (fun p hm => den_op (den_var rfl) (den_var rfl) rd_ltS)) (by rw [List.map_map]; rfl)) ?_)
  · rw [show cutD (ws.map fun s => Dat.str s) (some 1) none = (ws.drop 1).map (fun s => Dat.str s) by
      rw [List.map_drop]
      exact cutD_from _ 1]
    exact zipD_map _ _ _ _
  · rw [List.length_zip]
    omega
  · rw [List.all_map]
    exact congrArg Dat.bl ((risesB_all ws).symm.trans hrs)
theorem ok_are_tuples (T : Tx K w mg A) : FnOk P w K mg base CX0 1 A.f_are_tuples A.d_are_tuples ["thing", "least", "most", "size"] (spF K F_are_tuples) := by
  refine pure_ok T.F_are_tuples sc_are_tuples (fun ds d h => by obtain ⟨_, _, _, _, rfl, _⟩ := h; rfl) (fun cdv Ar outer s H E hr => ⟨_, (pss_cons (ps_if (PW.pt (pw_or (pt_not (pt_val (pe_callB (r := rIsi K) call_isi (by rfl) T.n_isinstance (by decide +kernel) (pa_cons (pv 0) (pa_cons (pe_bltn (v := .ty "tuple") (by rfl) T.n_tuple (by decide +kernel) rfl) pa_nil))))) (pw_or1 (pt_not (pt_chain op_le op_le (pv 1) (pe_callB (r := Dn.rLenU K) Dn.call_lenU (by rfl) T.n_len (by decide +kernel) (pa_cons (pv 0) pa_nil)) (pv 2)))))) (pss_one (ps_ret pe_bl)) pss_nil)
  (pss_one (ps_ret (pe_callB (r := rAll K) (cr_all rfl) (by rfl) T.n_all (by decide +kernel) (pa_cons (pe_lc (own := [("one", 4)]) (g := (gName 4)) (by rfl) sc_are_tuples.nd (Dn.pi_seq (pv 0)) (blkOk_by (N := ["thing", "least", "most", "size", "one"]) (sc := defScope s_are_tuples) (by decide +kernel))
    (fun _ _ _ _ _ => (pg_name (i := 4) sc_are_tuples.nd rfl (Or.inl rfl))) (fun _ _ _ _ _ => pts_nil) (fun _ _ _ _ _ => (pe_and (pe_callB (r := rIsi K) call_isi (by rfl) T.n_isinstance (by decide +kernel) (pa_cons (pv 4) (pa_cons (pe_bltn (v := .ty "tuple") (by rfl) T.n_tuple (by decide +kernel) rfl) pa_nil))) (pe_one (pe_cmpR op_eq (pe_callB (r := Dn.rLenU K) Dn.call_lenU (by rfl) T.n_len (by decide +kernel) (pa_cons (pv 4) pa_nil)) (pv 3) (nomark _)))))) pa_nil))))), fun ds d h => ?_⟩)
  obtain ⟨rows, lo, hi, size, rfl, hs, h1, h2, hz, rfl⟩ := h
  refine ds_seq (ds_no ((DenT.is (dt_or (b := false) ((DenT.is (dt_not (dt_val (isY (den_var rfl) rfl (by decide +kernel)))) rfl)) fun _ => ((DenT.is (dt_not (dt_test (le2 (den_var rfl) (lenT (den_var rfl)) (den_var rfl) (by simpa using h1) (by simpa using h2)))) rfl))) rfl))) (ds_ret ?_)
  refine (Den.is (allT (bs := rows.map fun _ => true) (dl_lcA rows (fun r => .tup r) (fun _ => .bl true) (fun r => [some (.tup (rows.map fun r => .tup r)), some (.int lo), some (.int hi), some (.int size), some (.tup r)]) (di_2 (di_tup (den_var rfl))) (by omega) (fun n _ => dg_name) (fun n _ => dts_nil)
    (fun r hm => (Den.is (den_and (isY (den_var rfl) rfl (by decide +kernel)) fun _ => den_op (lenT (den_var rfl)) (den_var rfl) (rd_eq rfl)) ?_))) (by rw [List.map_map]; rfl)) ?_)
  · have := hs r hm
    simp [this]
  · simp
end
/-! ### steps -/
inductive Step where
  | serve (ways : List (Str × Nat × Int))
  | move (pairs : List (Str × Int)) (goal : Int)
  | out (n goal : Int)
  | ask (unit deed : Str) (forms : List Int) (place : Str) (goal other : Int)
  | done (n : Int)
def wayD (p : Str × Nat × Int) : Dat := .tup [.str p.1, nosD p.2.1, .int p.2.2]
def pairD (p : Str × Int) : Dat := .tup [.str p.1, formD p.2]
def stepL : Step → List Dat
  | .serve ways => [.str "serve", .tup (ways.map wayD)]
  | .move pairs goal => [.str "move", .tup (pairs.map pairD), .int goal]
  | .out n goal => [.str "out", formD n, .int goal]
  | .ask unit deed forms place goal other => [.str "ask", .str unit, .str deed, .tup (forms.map formD), .str place, .int goal, .int other]
  | .done n => [.str "done", formD n]
def stepD (s : Step) : Dat := .tup (stepL s)
def numOk (base n : Int) : Prop := 0 ≤ n ∧ n < base
def goalOk (many g : Int) : Prop := 0 < g ∧ g < many
def sinkOk (sites : List Str) (s : Str) : Prop := s = "" ∨ s ∈ sites
def stepOk (sites : List Str) (many base : Int) : Step → Prop
  | .serve ways => 1 ≤ ways.length ∧ ways.length ≤ 6 ∧ (∀ p ∈ ways, nameOk p.1 ∧ p.2.1 ≤ 3 ∧ goalOk many p.2.2) ∧ risesB (ways.map (·.1)) = true
  | .move pairs goal => pairs.length ≤ 100 ∧ (∀ p ∈ pairs, p.1 ∈ sites ∧ p.1 ≠ "" ∧ numOk base p.2) ∧ (pairs.map (·.1)).Nodup ∧ goalOk many goal
  | .out n goal => numOk base n ∧ goalOk many goal
  | .ask unit deed forms place goal other => nameOk unit ∧ nameOk deed ∧ forms.length ≤ 3 ∧ (∀ n ∈ forms, numOk base n) ∧ sinkOk sites place ∧ goalOk many goal ∧ goalOk many other
  | .done n => numOk base n
def F_is_serve (C : Addr) : List Dat → Dat → Prop := fun ds d => ∃ sites many base ways, ds = [stepD (.serve ways), groundD C sites many base] ∧ stepOk sites many base (.serve ways) ∧ d = .bl true
def F_is_move (C : Addr) : List Dat → Dat → Prop := fun ds d => ∃ sites many base pairs goal, ds = [stepD (.move pairs goal), groundD C sites many base] ∧ stepOk sites many base (.move pairs goal) ∧ d = .bl true
def F_is_out (C : Addr) : List Dat → Dat → Prop := fun ds d => ∃ sites many base n goal, ds = [stepD (.out n goal), groundD C sites many base] ∧ stepOk sites many base (.out n goal) ∧ d = .bl true
def F_is_ask (C : Addr) : List Dat → Dat → Prop := fun ds d => ∃ sites many base u e f p g o, ds = [stepD (.ask u e f p g o), groundD C sites many base] ∧ stepOk sites many base (.ask u e f p g o) ∧ d = .bl true
def F_is_done (C : Addr) : List Dat → Dat → Prop := fun ds d => ∃ sites many base n, ds = [stepD (.done n), groundD C sites many base] ∧ stepOk sites many base (.done n) ∧ d = .bl true
def F_is_step (C : Addr) : List Dat → Dat → Prop := fun ds d => ∃ sites many base s, ds = [stepD s, groundD C sites many base] ∧ stepOk sites many base s ∧ d = .bl true
theorem sc_is_serve : FnScope ["step", "ground", "word", "ways", "deed", "params", "goal"] ["step", "ground"] (defScope s_is_serve) := ⟨rfl, rfl, rfl, by decide +kernel, rfl, by decide +kernel, by decide +kernel⟩
theorem sc_is_move : FnScope ["step", "ground", "word", "pairs", "goal", "place", "form"] ["step", "ground"] (defScope s_is_move) := ⟨rfl, rfl, rfl, by decide +kernel, rfl, by decide +kernel, by decide +kernel⟩
theorem sc_is_out : FnScope ["step", "ground", "word", "form", "goal"] ["step", "ground"] (defScope s_is_out) := ⟨rfl, rfl, rfl, by decide +kernel, rfl, by decide +kernel, by decide +kernel⟩
theorem sc_is_ask : FnScope ["step", "ground", "word", "unit", "deed", "forms", "place", "goal", "other"] ["step", "ground"] (defScope s_is_ask) := ⟨rfl, rfl, rfl, by decide +kernel, rfl, by decide +kernel, by decide +kernel⟩
theorem sc_is_done : FnScope ["step", "ground", "word", "form"] ["step", "ground"] (defScope s_is_done) := ⟨rfl, rfl, rfl, by decide +kernel, rfl, by decide +kernel, by decide +kernel⟩
section
variable {P : Program} {w : World} {K : PySem.W.Frag} {mg : Str → Option Value} {base : Heap} {A : Ad}
theorem ok_is_out (T : Tx K w mg A) : FnOk P w K mg base CX0 5 A.f_is_out A.d_is_out ["step", "ground"] (spF K (F_is_out A.C_Ground)) := by
  refine pure_ok T.F_is_out sc_is_out (fun ds d h => by obtain ⟨_, _, _, _, _, rfl, _⟩ := h; rfl) (fun cdv Ar outer s H E hr => ⟨_, (pss_cons (ps_asg (pv 0) (pg_tup rfl (pgs_cons (pg_name (i := 2) sc_is_out.nd rfl (Or.inl rfl)) (pgs_cons (pg_name (i := 3) sc_is_out.nd rfl (Or.inl rfl)) (pgs_cons (pg_name (i := 4) sc_is_out.nd rfl (Or.inl rfl)) pgs_nil)))))
  (pss_one (ps_ret (pe_and (pe_meth (pv 1) T.c_Ground T.m_Ground_is_over (ok_Ground_is_over T) (hr.mono (by decide)) T.b_Ground_is_over .nil pass0 (pa_cons (pv 3) pa_nil)) (pe_one (pe_meth (pv 1) T.c_Ground T.m_Ground_is_goal (ok_Ground_is_goal T) (hr.mono (by decide)) T.b_Ground_is_goal .nil pass0 (pa_cons (pv 4) pa_nil))))))), fun ds d h => ?_⟩)
  obtain ⟨sites, many, base, n, goal, rfl, ⟨hn, hg⟩, rfl⟩ := h
  exact ds_seq (ds_asg (den_var rfl) (dg_tup (dgs_cons dg_name (dgs_cons dg_name (dgs_cons dg_name dgs_nil))) rfl)) (ds_ret ((Den.is (den_and (den_meth (den_var rfl) rfl (da_cons (den_var rfl) da_nil) ⟨sites, many, base, n, rfl, hn.1, hn.2, rfl⟩) fun _ =>
    den_meth (den_var rfl) rfl (da_cons (den_var rfl) da_nil) ⟨sites, many, base, goal, rfl, hg.1, hg.2, rfl⟩) rfl)))
theorem ok_is_done (T : Tx K w mg A) : FnOk P w K mg base CX0 5 A.f_is_done A.d_is_done ["step", "ground"] (spF K (F_is_done A.C_Ground)) := by
  refine pure_ok T.F_is_done sc_is_done (fun ds d h => by obtain ⟨_, _, _, _, rfl, _⟩ := h; rfl) (fun cdv Ar outer s H E hr => ⟨_, (pss_cons (ps_asg (pv 0) (pg_tup rfl (pgs_cons (pg_name (i := 2) sc_is_done.nd rfl (Or.inl rfl)) (pgs_cons (pg_name (i := 3) sc_is_done.nd rfl (Or.inl rfl)) pgs_nil))))
  (pss_one (ps_ret (pe_meth (pv 1) T.c_Ground T.m_Ground_is_over (ok_Ground_is_over T) (hr.mono (by decide)) T.b_Ground_is_over .nil pass0 (pa_cons (pv 3) pa_nil))))), fun ds d h => ?_⟩)
  obtain ⟨sites, many, base, n, rfl, hn, rfl⟩ := h
  exact ds_seq (ds_asg (den_var rfl) (dg_tup (dgs_cons dg_name (dgs_cons dg_name dgs_nil)) rfl)) (ds_ret (den_meth (den_var rfl) rfl (da_cons (den_var rfl) da_nil) ⟨sites, many, base, n, rfl, hn.1, hn.2, rfl⟩))
theorem ok_is_ask (T : Tx K w mg A) : FnOk P w K mg base CX0 6 A.f_is_ask A.d_is_ask ["step", "ground"] (spF K (F_is_ask A.C_Ground)) := by
  refine pure_ok T.F_is_ask sc_is_ask (fun ds d h => by obtain ⟨_, _, _, _, _, _, _, _, _, rfl, _⟩ := h; rfl) (fun cdv Ar outer s H E hr => ⟨_, (pss_cons (ps_asg (pv 0) (pg_tup rfl (pgs_cons (pg_name (i := 2) sc_is_ask.nd rfl (Or.inl rfl)) (pgs_cons (pg_name (i := 3) sc_is_ask.nd rfl (Or.inl rfl)) (pgs_cons (pg_name (i := 4) sc_is_ask.nd rfl (Or.inl rfl)) (pgs_cons (pg_name (i := 5) sc_is_ask.nd rfl (Or.inl rfl)) (pgs_cons (pg_name (i := 6) sc_is_ask.nd rfl (Or.inl rfl)) (pgs_cons (pg_name (i := 7) sc_is_ask.nd rfl (Or.inl rfl)) (pgs_cons (pg_name (i := 8) sc_is_ask.nd rfl (Or.inl rfl)) pgs_nil)))))))))
  (pss_cons (ps_if (PW.pt (pw_or (pt_not (pt_val (pe_call (ok_is_name T) (hr.mono (by decide)) rfl T.g_is_name T.F_is_name.kp T.b_is_name .nil pass0 (pa_cons (pv 3) pa_nil)))) (pw_or (pt_not (pt_val (pe_call (ok_is_name T) (hr.mono (by decide)) rfl T.g_is_name T.F_is_name.kp T.b_is_name .nil pass0 (pa_cons (pv 4) pa_nil)))) (pw_or1 (pt_not (pt_val (pe_meth (pv 1) T.c_Ground T.m_Ground_are_over (ok_Ground_are_over T) (hr.mono (by decide)) T.b_Ground_are_over .nil pass0 (pa_cons (pv 5) pa_nil)))))))) (pss_one (ps_ret pe_bl)) pss_nil)
  (pss_one (ps_ret (pe_and (pe_meth (pv 1) T.c_Ground T.m_Ground_is_sink (ok_Ground_is_sink T) (hr.mono (by decide)) T.b_Ground_is_sink .nil pass0 (pa_cons (pv 6) pa_nil)) (pe_and (pe_meth (pv 1) T.c_Ground T.m_Ground_is_goal (ok_Ground_is_goal T) (hr.mono (by decide)) T.b_Ground_is_goal .nil pass0 (pa_cons (pv 7) pa_nil)) (pe_one (pe_meth (pv 1) T.c_Ground T.m_Ground_is_goal (ok_Ground_is_goal T) (hr.mono (by decide)) T.b_Ground_is_goal .nil pass0 (pa_cons (pv 8) pa_nil))))))))), fun ds d h => ?_⟩)
  obtain ⟨sites, many, base, u, e, f, p, g, o, rfl, ⟨hu, he, h3, hf, hp, hg, ho⟩, rfl⟩ := h
  refine ds_seq (ds_asg (den_var rfl) (dg_tup (dgs_cons dg_name (dgs_cons dg_name (dgs_cons dg_name (dgs_cons dg_name (dgs_cons dg_name (dgs_cons dg_name (dgs_cons dg_name dgs_nil))))))) rfl)) ?_
  refine ds_seq (ds_no ((DenT.is (dt_or (b := false) ((DenT.is (dt_not (dt_val (den_call (da_cons (den_var rfl) da_nil) ⟨u, rfl, hu, rfl⟩))) rfl)) fun _ => dt_or (b := false) ((DenT.is (dt_not (dt_val (den_call (da_cons (den_var rfl) da_nil) ⟨e, rfl, he, rfl⟩))) rfl)) fun _ =>
    ((DenT.is (dt_not (dt_val (den_meth (den_var rfl) rfl (da_cons (den_var rfl) da_nil) ⟨sites, many, base, f, rfl, h3, hf, rfl⟩))) rfl))) rfl))) ?_
  exact ds_ret ((Den.is (den_and (den_meth (den_var rfl) rfl (da_cons (den_var rfl) da_nil) ⟨sites, many, base, p, rfl, hp, rfl⟩) fun _ => den_and (den_meth (den_var rfl) rfl (da_cons (den_var rfl) da_nil) ⟨sites, many, base, g, rfl, hg.1, hg.2, rfl⟩) fun _ =>
    den_meth (den_var rfl) rfl (da_cons (den_var rfl) da_nil) ⟨sites, many, base, o, rfl, ho.1, ho.2, rfl⟩) rfl))
theorem ok_is_serve (T : Tx K w mg A) : FnOk P w K mg base CX0 3 A.f_is_serve A.d_is_serve ["step", "ground"] (spF K (F_is_serve A.C_Ground)) := by
  refine pure_ok T.F_is_serve sc_is_serve (fun ds d h => by obtain ⟨_, _, _, _, rfl, _⟩ := h; rfl) (fun cdv Ar outer s H E hr => ⟨_, (pss_cons (ps_asg (pv 0) (pg_tup rfl (pgs_cons (pg_name (i := 2) sc_is_serve.nd rfl (Or.inl rfl)) (pgs_cons (pg_name (i := 3) sc_is_serve.nd rfl (Or.inl rfl)) pgs_nil))))
  (pss_cons (ps_if (PW.pt (pw_or (pt_not (pt_val (pe_call (ok_are_tuples T) (hr.mono (by decide)) rfl T.g_are_tuples T.F_are_tuples.kp T.b_are_tuples .nil pass0 (pa_cons (pv 3) (pa_cons pe_int (pa_cons (pe_glob (v := .int 6) rfl T.g_MOST_WAYS ⟨_, rfl⟩) (pa_cons pe_int pa_nil))))))) (pw_or1 (pt_not (pt_val (pe_call (ok_rises T) (hr.mono (by decide)) rfl T.g_rises T.F_rises.kp T.b_rises .nil pass0 (pa_cons (pe_lc (own := [("deed", 4), ("params", 5), ("goal", 6)]) (g := (gTup K 3 (gCons (gName 4) (gCons (gName 5) (gCons (gName 6) gNil))))) (by rfl) sc_is_serve.nd (Dn.pi_seq (pv 3)) (blkOk_by (N := ["step", "ground", "word", "ways", "deed", "params", "goal"]) (sc := defScope s_is_serve) (by decide +kernel))
    (fun _ _ _ _ _ => (pg_tup rfl (pgs_cons (pg_name (i := 4) sc_is_serve.nd rfl (Or.inl rfl)) (pgs_cons (pg_name (i := 5) sc_is_serve.nd rfl (Or.inl rfl)) (pgs_cons (pg_name (i := 6) sc_is_serve.nd rfl (Or.inl rfl)) pgs_nil))))) (fun _ _ _ _ _ => pts_nil) (fun _ _ _ _ _ => (pv 4))) pa_nil))))))) (pss_one (ps_ret pe_bl)) pss_nil)
  (pss_one (ps_ret (pe_callB (r := rAll K) (cr_all rfl) (by rfl) T.n_all (by decide +kernel) (pa_cons (pe_lc (own := [("deed", 4), ("params", 5), ("goal", 6)]) (g := (gTup K 3 (gCons (gName 4) (gCons (gName 5) (gCons (gName 6) gNil))))) (by rfl) sc_is_serve.nd (Dn.pi_seq (pv 3)) (blkOk_by (N := ["step", "ground", "word", "ways", "deed", "params", "goal"]) (sc := defScope s_is_serve) (by decide +kernel))
    (fun _ _ _ _ _ => (pg_tup rfl (pgs_cons (pg_name (i := 4) sc_is_serve.nd rfl (Or.inl rfl)) (pgs_cons (pg_name (i := 5) sc_is_serve.nd rfl (Or.inl rfl)) (pgs_cons (pg_name (i := 6) sc_is_serve.nd rfl (Or.inl rfl)) pgs_nil))))) (fun _ _ _ _ _ => pts_nil) (fun _ _ _ _ _ => (pe_and (pe_meth (pv 1) T.c_Ground T.m_Ground_are_sinks (ok_Ground_are_sinks T) (hr.mono (by decide)) T.b_Ground_are_sinks .nil pass0 (pa_cons (pv 5) pa_nil)) (pe_one (pe_meth (pv 1) T.c_Ground T.m_Ground_is_goal (ok_Ground_is_goal T) (hr.mono (by decide)) T.b_Ground_is_goal .nil pass0 (pa_cons (pv 6) pa_nil)))))) pa_nil)))))), fun ds d h => ?_⟩)
  obtain ⟨sites, many, base, ways, rfl, ⟨h1, h6, hw, hrs⟩, rfl⟩ := h
  refine ds_seq (ds_asg (den_var rfl) (dg_tup (dgs_cons dg_name (dgs_cons dg_name dgs_nil)) rfl)) ?_
  refine ds_seq (ds_no ((DenT.is (dt_or (b := false) ((DenT.is (dt_not (dt_val (den_call (da_cons (den_var rfl) (da_cons den_c (da_cons den_c (da_cons den_c da_nil)))) ⟨ways.map fun p => [.str p.1, nosD p.2.1, .int p.2.2], 1, 6, 3, ?_, ?_, ?_, ?_, ?_, rfl⟩))) rfl)) fun _ =>
    ((DenT.is (dt_not (dt_val (den_call (da_cons (dl_lcA ways wayD (fun p => .str p.1) (fun p => [some (stepD (.serve ways)), some (groundD A.C_Ground sites many base), some (.str "serve"), some (.tup (ways.map wayD)), some (.str p.1), some (nosD p.2.1), some (.int p.2.2)])
      (di_2 (di_tup (den_var rfl))) (by omega) (fun p _ => dg_tup (dgs_cons dg_name (dgs_cons dg_name (dgs_cons dg_name dgs_nil))) rfl) (fun n _ => dts_nil) (fun p hm => den_var rfl)).den da_nil) ⟨ways.map (·.1), ?_, ?_, hrs, ?_, rfl⟩))) rfl))) rfl))) (ds_ret ?_)
  · rw [List.map_map]
    rfl
  · intro r hr
    obtain ⟨p, _, rfl⟩ := List.mem_map.mp hr
    rfl
  · simp
    omega
  · simp
    omega
  · simp
    omega
  · rw [List.map_map]
    rfl
  · intro z hz
    obtain ⟨p, hp, rfl⟩ := List.mem_map.mp hz
    exact (hw p hp).1
  · simp
    omega
  refine (Den.is (allT (bs := ways.map fun _ => true) (dl_lcA ways wayD (fun _ => .bl true) (fun p => [some (stepD (.serve ways)), some (groundD A.C_Ground sites many base), some (.str "serve"), some (.tup (ways.map wayD)), some (.str p.1), some (nosD p.2.1), some (.int p.2.2)])
      (di_2 (di_tup (den_var rfl))) (by omega) (fun p _ => dg_tup (dgs_cons dg_name (dgs_cons dg_name (dgs_cons dg_name dgs_nil))) rfl) (fun n _ => dts_nil) (fun p hm => (Den.is (den_and (den_meth (den_var rfl) rfl (da_cons (den_var rfl) da_nil) ⟨sites, many, base, p.2.1, rfl, (hw p hm).2.1, rfl⟩) fun _ =>
        den_meth (den_var rfl) rfl (da_cons (den_var rfl) da_nil) ⟨sites, many, base, p.2.2, rfl, (hw p hm).2.2.1, (hw p hm).2.2.2, rfl⟩) rfl))) (by rw [List.map_map]; rfl)) (by simp))
theorem ok_is_move (T : Tx K w mg A) : FnOk P w K mg base CX0 5 A.f_is_move A.d_is_move ["step", "ground"] (spF K (F_is_move A.C_Ground)) := by
  refine pure_ok T.F_is_move sc_is_move (fun ds d h => by obtain ⟨_, _, _, _, _, rfl, _⟩ := h; rfl) (fun cdv Ar outer s H E hr => ⟨_, (pss_cons (ps_asg (pv 0) (pg_tup rfl (pgs_cons (pg_name (i := 2) sc_is_move.nd rfl (Or.inl rfl)) (pgs_cons (pg_name (i := 3) sc_is_move.nd rfl (Or.inl rfl)) (pgs_cons (pg_name (i := 4) sc_is_move.nd rfl (Or.inl rfl)) pgs_nil)))))
  (pss_cons (ps_if (PW.pt (pw_or (pt_not (pt_val (pe_call (ok_are_tuples T) (hr.mono (by decide)) rfl T.g_are_tuples T.F_are_tuples.kp T.b_are_tuples .nil pass0 (pa_cons (pv 3) (pa_cons pe_int (pa_cons (pe_glob (v := .int 100) rfl T.g_MOST_PLACES_flows ⟨_, rfl⟩) (pa_cons pe_int pa_nil))))))) (pw_or1 (pt_not (pt_val (pe_meth (pv 1) T.c_Ground T.m_Ground_is_goal (ok_Ground_is_goal T) (hr.mono (by decide)) T.b_Ground_is_goal .nil pass0 (pa_cons (pv 4) pa_nil))))))) (pss_one (ps_ret pe_bl)) pss_nil)
  (pss_cons (ps_if (pt_not (pt_val (pe_callB (r := rAll K) (cr_all rfl) (by rfl) T.n_all (by decide +kernel) (pa_cons (pe_lc (own := [("place", 5), ("form", 6)]) (g := (gTup K 2 (gCons (gName 5) (gCons (gName 6) gNil)))) (by rfl) sc_is_move.nd (Dn.pi_seq (pv 3)) (blkOk_by (N := ["step", "ground", "word", "pairs", "goal", "place", "form"]) (sc := defScope s_is_move) (by decide +kernel))
    (fun _ _ _ _ _ => (pg_tup rfl (pgs_cons (pg_name (i := 5) sc_is_move.nd rfl (Or.inl rfl)) (pgs_cons (pg_name (i := 6) sc_is_move.nd rfl (Or.inl rfl)) pgs_nil)))) (fun _ _ _ _ _ => pts_nil) (fun _ _ _ _ _ => (pe_and (pe_meth (pv 1) T.c_Ground T.m_Ground_is_sink (ok_Ground_is_sink T) (hr.mono (by decide)) T.b_Ground_is_sink .nil pass0 (pa_cons (pv 5) pa_nil)) (pe_and (pe_cmpR op_ne (pv 5) (pe_glob (v := .str "") rfl T.g_NOWHERE ⟨_, rfl⟩) (nomark _)) (pe_one (pe_meth (pv 1) T.c_Ground T.m_Ground_is_over (ok_Ground_is_over T) (hr.mono (by decide)) T.b_Ground_is_over .nil pass0 (pa_cons (pv 6) pa_nil))))))) pa_nil)))) (pss_one (ps_ret pe_bl)) pss_nil)
  (pss_one (ps_ret (pe_cmpR op_eq (pe_callB Ru.call_lenK (by rfl) T.n_len (by decide +kernel) (pa_cons (Ru.pe_scK (own := [("place", 5), ("form", 6)]) (g := (gTup K 2 (gCons (gName 5) (gCons (gName 6) gNil)))) (by rfl) sc_is_move.nd (Dn.pi_seq (pv 3)) (blkOk_by (N := ["step", "ground", "word", "pairs", "goal", "place", "form"]) (sc := defScope s_is_move) (by decide +kernel))
    (fun _ _ _ _ _ => (pg_tup rfl (pgs_cons (pg_name (i := 5) sc_is_move.nd rfl (Or.inl rfl)) (pgs_cons (pg_name (i := 6) sc_is_move.nd rfl (Or.inl rfl)) pgs_nil)))) (fun _ _ _ _ _ => pts_nil) (fun _ _ _ _ _ => (pv 5))) pa_nil)) (pe_callB (r := Dn.rLenU K) Dn.call_lenU (by rfl) T.n_len (by decide +kernel) (pa_cons (pv 3) pa_nil)) (nomark _))))))), fun ds d h => ?_⟩)
  obtain ⟨sites, many, base, pairs, goal, rfl, ⟨h6, hw, hnd, hg⟩, rfl⟩ := h
  refine ds_seq (ds_asg (den_var rfl) (dg_tup (dgs_cons dg_name (dgs_cons dg_name (dgs_cons dg_name dgs_nil))) rfl)) ?_
  refine ds_seq (ds_no ((DenT.is (dt_or (b := false) ((DenT.is (dt_not (dt_val (den_call (da_cons (den_var rfl) (da_cons den_c (da_cons den_c (da_cons den_c da_nil)))) ⟨pairs.map fun p => [.str p.1, formD p.2], 0, 100, 2, ?_, ?_, ?_, ?_, ?_, rfl⟩))) rfl)) fun _ =>
    ((DenT.is (dt_not (dt_val (den_meth (den_var rfl) rfl (da_cons (den_var rfl) da_nil) ⟨sites, many, base, goal, rfl, hg.1, hg.2, rfl⟩))) rfl))) rfl))) ?_
  · rw [List.map_map]
    rfl
  · intro r hr
    obtain ⟨p, _, rfl⟩ := List.mem_map.mp hr
    rfl
  · simp
  · simp
    omega
  · simp
    omega
  refine ds_seq (ds_no ((DenT.is (dt_not (dt_val (allT (bs := pairs.map fun _ => true) (dl_lcA pairs pairD (fun _ => .bl true) (fun p => [some (stepD (.move pairs goal)), some (groundD A.C_Ground sites many base), some (.str "move"), some (.tup (pairs.map pairD)), some (.int goal), some (.str p.1), some (formD p.2)])
      (di_2 (di_tup (den_var rfl))) (by omega) (fun p _ => dg_tup (dgs_cons dg_name (dgs_cons dg_name dgs_nil)) rfl) (fun n _ => dts_nil) (fun p hm => (Den.is (den_and (den_meth (den_var rfl) rfl (da_cons (den_var rfl) da_nil) ⟨sites, many, base, p.1, rfl, .inr (hw p hm).1, rfl⟩) fun _ =>
        den_and (den_op (den_var rfl) den_c (rd_ne rfl)) fun _ => den_meth (den_var rfl) rfl (da_cons (den_var rfl) da_nil) ⟨sites, many, base, p.2, rfl, (hw p hm).2.2.1, (hw p hm).2.2.2, rfl⟩) ?_))) (by rw [List.map_map]; rfl)))) (by simp)))) (ds_ret ?_)
  · have : (V.str p.1 = V.str "") = False := by
      simp
      exact (hw p hm).2.1
    simp [this]
  refine (Den.is (den_op (den_len_sc pairs pairD (fun p => Sum.inr p.1) (fun p => [some (stepD (.move pairs goal)), some (groundD A.C_Ground sites many base), some (.str "move"), some (.tup (pairs.map pairD)), some (.int goal), some (.str p.1), some (formD p.2)])
    (di_2 (di_tup (den_var rfl))) (by omega) ?_ (fun p _ => dg_tup (dgs_cons dg_name (dgs_cons dg_name dgs_nil)) rfl) (fun n _ => dts_nil) (fun p hm => den_var rfl)) (lenT (den_var rfl)) (rd_eq rfl)) ?_)
  · rw [show pairs.map (fun p => (Sum.inr p.1 : Key)) = (pairs.map (·.1)).map Sum.inr by rw [List.map_map]; rfl]
    exact List.Pairwise.map _ (fun a b h q => h (by simpa using q)) hnd
  · simp
end
end K56
set_option Elab.async false
set_option linter.all false
set_option maxRecDepth 100000
set_option maxHeartbeats 4000000
/-! Kd: a step's sort looked up; where a step leads. -/
namespace K56
open PySem L2 Dn
open Evl (Ex fresh_back)
section
variable {K : PySem.W.Frag} {ρ ρ' : DSt} {te ta tb : TE} {d x y z : Dat} {ds xs : List Dat} {b : Bool}
/-- a call of a def that a slot holds -/
theorem den_callA {i : Nat} {S : Addr → Option Sp} {t : TA} {f : Addr} {F : List Dat → Dat → Prop} (hx : ρ[i]? = some (some (.s (.ref f)))) (hS : S f = some (spF K F)) (ha : DenA K t ρ xs) (hf : F xs d) : Den K (tCallA i S t) ρ d := fun σ G H Q i1 e k => by
  obtain ⟨v, e1, r⟩ := e.at_ _ _ hx
  obtain rfl := rep_s r
  exact ⟨f, _, e1, hS, ha σ G H _ i1 e fun vs G1 H1 f1 r1 => ⟨G1, xs, d, f1.i, r1, hf, fun v G2 H2 f2 r2 => k v G2 H2 (f1.trans f2) r2⟩⟩
theorem rd_notin_kd {dd : Addr} {z : Str} {r : Option Value} (h : PySem.W.nsIn K dd z = some r) : RD K (fun x y H Q => ∃ (z : Str) (r : Option Value), x = .str z ∧ y = .ref dd ∧ PySem.W.nsIn K dd z = some r ∧ Q (.bl (!r.isSome)) H) (.str z) (.s (.ref dd)) (.bl (!r.isSome)) :=
  fun G H Q vx vy e rx ry k => ⟨z, r, rep_s rx, rep_s ry, h, k _ G H (Fr.refl e) (.s _)⟩
theorem rd_ix_kd {w : World} {p a : Addr} {z : Str} (h : KDct K w p z (.ref a)) (hr : ∀ H : Hp, SqT K H a [.int i, .ref f]) : RD K (rIxD K w) (.s (.ref p)) (.str z) (.tup [.int i, .s (.ref f)]) :=
  fun G H Q vx vy e rx ry k => ⟨p, z, _, rep_s rx, rep_s ry, h, k _ G H (Fr.refl e) (.tup (hr G) (.cons (.s _) (.cons (.s _) .nil)))⟩
/-- a star among the targets -/
theorem dg_star {i n : Nat} {t : TGs} {js : List Nat} (h : DenGs K t (ds.take i ++ .lst ((ds.drop i).take (ds.length + 1 - n)) :: (ds.drop i).drop (ds.length + 1 - n)) ρ ρ' js) (hn : n ≤ ds.length + 1) : DenG K (Ru.gStar K i n t) (.tup ds) ρ ρ' js := fun σ G H v Q i1 r e k => by
  cases r with
  | @tup _ xs _ a ra =>
    refine ⟨_, _, rfl, Evl.ex_t i1 a, by rw [ra.len]; exact hn, fun l hl => ?_⟩
    rw [ra.len]
    have f := Fr.new (o := .lst ((xs.drop i).take (ds.length + 1 - n))) i1 hl
    refine h σ _ _ _ Q f.i (((ra.up f.g).take i).app (.cons (.lst upd_same (((ra.up f.g).drop i).take _)) (((ra.up f.g).drop i).drop _))) (e.up f.g) fun σ' hl' ho G' H' f' e' => k σ' hl' ho G' H' (f.trans f') e'
end
section
variable {P : Program} {w : World} {K : PySem.W.Frag} {mg : Str → Option Value} {base : Heap} {A : Ad}
/-- defs of unlike names stand at unlike places -/
theorem fun_ne {x x' q q' : Str} {st st' : Stmt} {f f' : Addr} {fd fd' : FuncData} (F : Fun K x q st f fd) (F' : Fun K x' q' st' f' fd') (h : x ≠ x') : f ≠ f' := by
  intro e
  subst e
  obtain ⟨_, _, _, _, _, _, _, _, _, rfl, l, _⟩ := F.ex
  obtain ⟨_, _, _, _, _, _, _, _, _, rfl, l', _⟩ := F'.ex
  rw [l] at l'
  have e := Option.some.inj l'
  simp only [Obj.mk.injEq, Data.func.injEq] at e
  exact h (congrArg FuncData.name e.2.2.1)
def sorts (K : PySem.W.Frag) (A : Ad) (f : Addr) : Option Sp :=
  if f = A.f_is_serve then some (spF K (F_is_serve A.C_Ground)) else if f = A.f_is_move then some (spF K (F_is_move A.C_Ground)) else if f = A.f_is_out then some (spF K (F_is_out A.C_Ground)) else
  if f = A.f_is_ask then some (spF K (F_is_ask A.C_Ground)) else if f = A.f_is_done then some (spF K (F_is_done A.C_Ground)) else none
theorem held_sorts (T : Tx K w mg A) : ∀ f sp, sorts K A f = some sp → Held P w K mg base 6 f sp := by
  intro f sp h
  unfold sorts at h
  split at h
  · rename_i e
    cases h
    subst e
    exact ⟨_, _, (ok_is_serve T).mono (by decide), T.F_is_serve.kp, T.b_is_serve⟩
  split at h
  · rename_i e
    cases h
    subst e
    exact ⟨_, _, (ok_is_move T).mono (by decide), T.F_is_move.kp, T.b_is_move⟩
  split at h
  · rename_i e
    cases h
    subst e
    exact ⟨_, _, (ok_is_out T).mono (by decide), T.F_is_out.kp, T.b_is_out⟩
  split at h
  · rename_i e
    cases h
    subst e
    exact ⟨_, _, (ok_is_ask T).mono (by decide), T.F_is_ask.kp, T.b_is_ask⟩
  split at h
  · rename_i e
    cases h
    subst e
    exact ⟨_, _, (ok_is_done T).mono (by decide), T.F_is_done.kp, T.b_is_done⟩
  cases h
theorem sorts_serve (T : Tx K w mg A) : sorts K A A.f_is_serve = some (spF K (F_is_serve A.C_Ground)) := if_pos rfl
theorem sorts_move (T : Tx K w mg A) : sorts K A A.f_is_move = some (spF K (F_is_move A.C_Ground)) := by
  unfold sorts
  rw [if_neg (fun_ne T.F_is_move T.F_is_serve (by decide +kernel)), if_pos rfl]
theorem sorts_out (T : Tx K w mg A) : sorts K A A.f_is_out = some (spF K (F_is_out A.C_Ground)) := by
  unfold sorts
  rw [if_neg (fun_ne T.F_is_out T.F_is_serve (by decide +kernel)), if_neg (fun_ne T.F_is_out T.F_is_move (by decide +kernel)), if_pos rfl]
theorem sorts_ask (T : Tx K w mg A) : sorts K A A.f_is_ask = some (spF K (F_is_ask A.C_Ground)) := by
  unfold sorts
  rw [if_neg (fun_ne T.F_is_ask T.F_is_serve (by decide +kernel)), if_neg (fun_ne T.F_is_ask T.F_is_move (by decide +kernel)), if_neg (fun_ne T.F_is_ask T.F_is_out (by decide +kernel)), if_pos rfl]
theorem sorts_done (T : Tx K w mg A) : sorts K A A.f_is_done = some (spF K (F_is_done A.C_Ground)) := by
  unfold sorts
  rw [if_neg (fun_ne T.F_is_done T.F_is_serve (by decide +kernel)), if_neg (fun_ne T.F_is_done T.F_is_move (by decide +kernel)), if_neg (fun_ne T.F_is_done T.F_is_out (by decide +kernel)), if_neg (fun_ne T.F_is_done T.F_is_ask (by decide +kernel)), if_pos rfl]
end
theorem sc_is_step : FnScope ["step", "ground", "size", "check"] ["step", "ground"] (defScope s_is_step) := ⟨rfl, rfl, rfl, by decide +kernel, rfl, by decide +kernel, by decide +kernel⟩
theorem sc_goals_of : FnScope ["step", "word", "rest", "way"] ["step"] (defScope s_goals_of) := ⟨rfl, rfl, rfl, by decide +kernel, rfl, by decide +kernel, by decide +kernel⟩
/-- where a step leads that is no break -/
def goalsOf : Step → List Int
  | .serve _ => []
  | .move _ g => [g]
  | .out _ g => [g]
  | .ask _ _ _ _ g o => [g, o]
  | .done _ => [0]
def F_goals_of : List Dat → Dat → Prop := fun ds d => ∃ s : Step, ds = [stepD s] ∧ (∀ w, s ≠ .serve w) ∧ d = .lst ((goalsOf s).map fun g => .int g)
/-- a step's sort, its size, its test -/
def sortOf : Step → Str
  | .serve _ => "serve"
  | .move _ _ => "move"
  | .out _ _ => "out"
  | .ask _ _ _ _ _ _ => "ask"
  | .done _ => "done"
def testOf (A : Ad) : Step → Addr
  | .serve _ => A.f_is_serve
  | .move _ _ => A.f_is_move
  | .out _ _ => A.f_is_out
  | .ask _ _ _ _ _ _ => A.f_is_ask
  | .done _ => A.f_is_done
def tupOf (A : Ad) : Step → Addr
  | .serve _ => A.p_serve
  | .move _ _ => A.p_move
  | .out _ _ => A.p_out
  | .ask _ _ _ _ _ _ => A.p_ask
  | .done _ => A.p_done
section
variable {P : Program} {w : World} {K : PySem.W.Frag} {mg : Str → Option Value} {base : Heap} {A : Ad}
theorem sort_ns (T : Tx K w mg A) : ∀ s : Step, PySem.W.nsIn K A.r_SORTS (sortOf s) = some (some (.ref (tupOf A s)))
  | .serve _ => T.ns_serve
  | .move _ _ => T.ns_move
  | .out _ _ => T.ns_out
  | .ask _ _ _ _ _ _ => T.ns_ask
  | .done _ => T.ns_done
theorem sort_pt (T : Tx K w mg A) (H : Hp) : ∀ s : Step, SqT K H (tupOf A s) [.int ((stepL s).length : Nat), .ref (testOf A s)]
  | .serve _ => T.pt_serve H
  | .move _ _ => T.pt_move H
  | .out _ _ => T.pt_out H
  | .ask _ _ _ _ _ _ => T.pt_ask H
  | .done _ => T.pt_done H
theorem sort_call (T : Tx K w mg A) {sites : List Str} {many base : Int} : ∀ s : Step, stepOk sites many base s → ∃ F, sorts K A (testOf A s) = some (spF K F) ∧ F [stepD s, groundD A.C_Ground sites many base] (.bl true)
  | .serve ways, h => ⟨_, sorts_serve T, sites, many, base, ways, rfl, h, rfl⟩
  | .move a b, h => ⟨_, sorts_move T, sites, many, base, a, b, rfl, h, rfl⟩
  | .out a b, h => ⟨_, sorts_out T, sites, many, base, a, b, rfl, h, rfl⟩
  | .ask a b c d e f, h => ⟨_, sorts_ask T, sites, many, base, a, b, c, d, e, f, rfl, h, rfl⟩
  | .done a, h => ⟨_, sorts_done T, sites, many, base, a, rfl, h, rfl⟩
theorem step_0 (s : Step) : (stepL s)[0]? = some (.str (sortOf s)) := by
  cases s <;> rfl
theorem step_len (s : Step) : 2 ≤ (stepL s).length := by
  cases s <;> simp [stepL]
theorem ok_is_step (T : Tx K w mg A) : FnOk P w K mg base CX0 7 A.f_is_step A.d_is_step ["step", "ground"] (spF K (F_is_step A.C_Ground)) := by
  obtain ⟨es, n, D⟩ := T.kd_SORTS
  refine pure_ok T.F_is_step sc_is_step (fun ds d h => by obtain ⟨_, _, _, _, rfl, _⟩ := h; rfl) (fun cdv Ar outer s H E hr => ⟨_, (pss_cons (ps_if (PW.pt (pw_or (pt_not (pt_val (pe_callB (r := rIsi K) call_isi (by rfl) T.n_isinstance (by decide +kernel) (pa_cons (pv 0) (pa_cons (pe_bltn (v := .ty "tuple") (by rfl) T.n_tuple (by decide +kernel) rfl) pa_nil))))) (pw_or (pt_cmpR op_eq (pe_callB (r := Dn.rLenU K) Dn.call_lenU (by rfl) T.n_len (by decide +kernel) (pa_cons (pv 0) pa_nil)) pe_int (nomark _)) (pw_or (pt_not (pt_val (pe_callB (r := rIsi K) call_isi (by rfl) T.n_isinstance (by decide +kernel) (pa_cons (pe_ix (r := rIx K) ix_seq (pv 0) pe_int (fun _ _ => rfl)) (pa_cons (pe_bltn (v := .ty "str") (by rfl) T.n_str (by decide +kernel) rfl) pa_nil))))) (pw_or1 (pt_cmpR (op_notIn_kd D) (pe_ix (r := rIx K) ix_seq (pv 0) pe_int (fun _ _ => rfl)) (pe_glob (v := .ref _) rfl T.g_SORTS rfl) rfl)))))) (pss_one (ps_ret pe_bl)) pss_nil)
  (pss_cons (ps_asg (pe_ix (r := rIxD K w) ix_kdict (pe_glob (v := .ref _) rfl T.g_SORTS rfl) (pe_ix (r := rIx K) ix_seq (pv 0) pe_int (fun _ _ => rfl)) (fun _ _ => rfl)) (pg_tup rfl (pgs_cons (pg_name (i := 2) sc_is_step.nd rfl (Or.inl rfl)) (pgs_cons (pg_name (i := 3) sc_is_step.nd rfl (Or.inl rfl)) pgs_nil))))
  (pss_one (ps_ret (pe_and (pe_cmpR op_eq (pe_callB (r := Dn.rLenU K) Dn.call_lenU (by rfl) T.n_len (by decide +kernel) (pa_cons (pv 0) pa_nil)) (pv 2) (nomark _)) (pe_one (pe_callA (i := 3) (held_sorts T) (hr.mono (by decide)) rfl (Or.inl rfl) (pa_cons (pv 0) (pa_cons (pv 1) pa_nil))))))))), fun ds d h => ?_⟩)
  obtain ⟨sites, many, base, s, rfl, hs, rfl⟩ := h
  obtain ⟨F, hF, hc⟩ := sort_call T s hs
  have i0 : ∀ {te : TE} {ρ : DSt}, Den K te ρ (stepD s) → Den K (tOp (rIx K) te (tC (.int 0))) ρ (.str (sortOf s)) := fun h => den_op h den_c (rd_ixUT (ati 0 (step_0 s)))
  refine ds_seq (ds_no (DenT.is (dt_or (b := false) (DenT.is (dt_not (dt_val (isY (den_var rfl) rfl (by decide +kernel)))) rfl) fun _ => dt_or (b := false) (DenT.is (dt_test (den_op (lenT (den_var rfl)) den_c (rd_eq rfl))) ?_) fun _ =>
    dt_or (b := false) (DenT.is (dt_not (dt_val (isY (i0 (den_var rfl)) rfl (by decide +kernel)))) rfl) fun _ => dt_test (den_op (i0 (den_var rfl)) den_c (rd_notin_kd (sort_ns T s)))) rfl)) ?_
  · have := step_len s
    exact decide_eq_false fun q => by
      injection q with q
      omega
  refine ds_seq (ds_asg (den_op den_c (i0 (den_var rfl)) (rd_ix_kd ⟨es, n, _, D.at_, D.lit, sort_ns T s, rfl⟩ fun H => sort_pt T H s)) (dg_tup (dgs_cons dg_name (dgs_cons dg_name dgs_nil)) rfl)) ?_
  exact ds_ret (Den.is (den_and (den_op (lenT (den_var rfl)) (den_var rfl) (rd_eq rfl)) fun _ => den_callA rfl hF (da_cons (den_var rfl) (da_cons (den_var rfl) da_nil)) hc) (by simp))
theorem ok_goals_of (T : Tx K w mg A) : FnOk P w K mg base CX0 1 A.f_goals_of A.d_goals_of ["step"] (spF K F_goals_of) := by
  refine pure_ok T.F_goals_of sc_goals_of (fun ds d h => by obtain ⟨_, rfl, _⟩ := h; rfl) (fun cdv Ar outer s H E hr => ⟨_, (pss_cons (ps_asg (pv 0) (Ru.pg_star (i := 1) (n := 2) rfl (pgs_cons (pg_name (i := 1) sc_goals_of.nd rfl (Or.inl rfl)) (Ru.pgs_starred (pg_name (i := 2) sc_goals_of.nd rfl (Or.inl rfl)) pgs_nil))))
  (pss_cons (ps_if (PW.pt (pw_or (pt_cmpR op_eq (pv 1) pe_str (nomark _)) (pw_or1 (pt_cmpR op_eq (pv 1) pe_str (nomark _))))) pss_never pss_nil)
  (pss_cons (ps_if (pt_cmpR op_eq (pv 1) pe_str (nomark _)) (pss_one (ps_ret (pe_slice (r := rSlL K) sl_list (pv 2) (po_some pe_int) po_none))) pss_nil)
  (pss_one (ps_ret (pe_ifExp (pt_cmpR (r := Ru.rInT K false) (Ru.op_inT (Dn.hu65 hr)) (pv 1) (pe_tup (pa_cons pe_str (pa_cons pe_str pa_nil))) rfl) (pe_lst (pa_cons pe_int pa_nil)) (pe_lst (pa_cons (pe_ix (r := rIx K) ix_seq (pv 2) pe_int (fun _ _ => rfl)) pa_nil)))))))), fun ds d h => ?_⟩)
  obtain ⟨s, rfl, hs, rfl⟩ := h
  cases s with
  | serve ways => exact absurd rfl (hs ways)
  | move a g =>
    refine ds_seq (ds_asg (den_var rfl) (dg_star (dgs_cons dg_name (dgs_cons dg_name dgs_nil)) (by simp [stepL]))) ?_
    refine ds_seq (ds_no (DenT.is (dt_or (b := false) (DenT.is (dt_test (den_op (den_var rfl) den_c (rd_eq rfl))) rfl) fun _ => (DenT.is (dt_test (den_op (den_var rfl) den_c (rd_eq rfl))) rfl)) rfl)) ?_
    refine ds_seq (ds_no (DenT.is (dt_test (den_op (den_var rfl) den_c (rd_eq rfl))) rfl)) ?_
    exact ds_ret (den_if (b := false) (DenT.is (dt_test (den_op (den_var rfl) (den_tup (da_cons den_c (da_cons den_c da_nil)) (by decide)) (rd_inT (.str _) (.tup (.cons (.str _) (.cons (.str _) .nil))) (by decide +kernel) (by decide +kernel)))) rfl) (fun q => nomatch q) fun q => den_lst (da_cons (den_op (den_var rfl) den_c (rd_ixUL (ati 1 rfl))) da_nil) (by show 1 ≤ 100000; decide))
  | out n g =>
    refine ds_seq (ds_asg (den_var rfl) (dg_star (dgs_cons dg_name (dgs_cons dg_name dgs_nil)) (by simp [stepL]))) ?_
    refine ds_seq (ds_no (DenT.is (dt_or (b := false) (DenT.is (dt_test (den_op (den_var rfl) den_c (rd_eq rfl))) rfl) fun _ => (DenT.is (dt_test (den_op (den_var rfl) den_c (rd_eq rfl))) rfl)) rfl)) ?_
    refine ds_seq (ds_no (DenT.is (dt_test (den_op (den_var rfl) den_c (rd_eq rfl))) rfl)) ?_
    exact ds_ret (den_if (b := false) (DenT.is (dt_test (den_op (den_var rfl) (den_tup (da_cons den_c (da_cons den_c da_nil)) (by decide)) (rd_inT (.str _) (.tup (.cons (.str _) (.cons (.str _) .nil))) (by decide +kernel) (by decide +kernel)))) rfl) (fun q => nomatch q) fun q => den_lst (da_cons (den_op (den_var rfl) den_c (rd_ixUL (ati 1 rfl))) da_nil) (by show 1 ≤ 100000; decide))
  | done n =>
    refine ds_seq (ds_asg (den_var rfl) (dg_star (dgs_cons dg_name (dgs_cons dg_name dgs_nil)) (by simp [stepL]))) ?_
    refine ds_seq (ds_no (DenT.is (dt_or (b := false) (DenT.is (dt_test (den_op (den_var rfl) den_c (rd_eq rfl))) rfl) fun _ => (DenT.is (dt_test (den_op (den_var rfl) den_c (rd_eq rfl))) rfl)) rfl)) ?_
    refine ds_seq (ds_no (DenT.is (dt_test (den_op (den_var rfl) den_c (rd_eq rfl))) rfl)) ?_
    exact ds_ret (den_if (b := true) (DenT.is (dt_test (den_op (den_var rfl) (den_tup (da_cons den_c (da_cons den_c da_nil)) (by decide)) (rd_inT (.str _) (.tup (.cons (.str _) (.cons (.str _) .nil))) (by decide +kernel) (by decide +kernel)))) rfl) (fun q => den_lst (da_cons den_c da_nil) (by show 1 ≤ 100000; decide)) fun q => nomatch q)
  | ask u e f p g o =>
    refine ds_seq (ds_asg (den_var rfl) (dg_star (dgs_cons dg_name (dgs_cons dg_name dgs_nil)) (by simp [stepL]))) ?_
    refine ds_seq (ds_no (DenT.is (dt_or (b := false) (DenT.is (dt_test (den_op (den_var rfl) den_c (rd_eq rfl))) rfl) fun _ => (DenT.is (dt_test (den_op (den_var rfl) den_c (rd_eq rfl))) rfl)) rfl)) ?_
    refine ds_seqR (ds_if (b := true) (DenT.is (dt_test (den_op (den_var rfl) den_c (rd_eq rfl))) rfl) (fun _ => ds_ret (Den.is (dl_slL (den_var rfl) (dp_some den_c) dp_no).den ?_)) fun q => nomatch q)
    exact congrArg Dat.lst ((cutD_from _ 4).trans rfl)
end
end K56
set_option Elab.async false
set_option linter.all false
set_option maxRecDepth 100000
set_option maxHeartbeats 4000000
/-! Ke: no idle round. -/
namespace K56
open PySem L2 Dn
open Evl (Ex fresh_back)
theorem sc_has_idle_round : FnScope ["steps", "ways", "comers", "number", "goals", "goal", "left", "ended", "count", "step", "many"] ["steps"] (defScope s_has_idle_round) := ⟨rfl, rfl, rfl, by decide +kernel, rfl, by decide +kernel, by decide +kernel⟩
def natsD (xs : List Nat) : List Dat := xs.map fun i => .int (i : Nat)
def natsV (xs : List Nat) : List V := xs.map fun i => .int (i : Nat)
theorem nats_rep {K : PySem.W.Frag} {G : Hp} : ∀ xs : List Nat, RepAll K G (natsV xs) (natsD xs)
  | [] => .nil
  | _ :: xs => .cons (.s _) (nats_rep xs)
theorem nats_vals {K : PySem.W.Frag} {G : Hp} {vs : List V} {xs : List Nat} (h : RepAll K G vs (natsD xs)) : vs = natsV xs := repAll_s (ws := natsV xs) (by unfold natsV; rw [List.map_map]; exact h)
def intsD (xs : List Int) : List Dat := xs.map fun i => .int i
/-- the lists of those who come to a step: at ls, not in G, new since H0 -/
structure CS (ls : List Addr) (H0 : Hp) (cnt : Nat → List Nat) (G H : Hp) : Prop where
  at_ : ∀ (j : Nat) (l : Addr), ls[j]? = some l → G l = none ∧ H0 l = none ∧ H l = some (.lst (natsV (cnt j)))
theorem CS.up {ls : List Addr} {H0 G H G' H' : Hp} {cnt : Nat → List Nat} (c : CS ls H0 cnt G H) (f : Fr G H G' H') : CS ls H0 cnt G' H' := ⟨fun j l h => by
  obtain ⟨a, b, e⟩ := c.at_ j l h
  exact ⟨f.out a (by rw [e]; intro z; cases z), b, f.h _ _ e⟩⟩
theorem CS.is {ls : List Addr} {H0 G H : Hp} {cnt cnt' : Nat → List Nat} (c : CS ls H0 cnt G H) (e : ∀ j, cnt j = cnt' j) : CS ls H0 cnt' G H := ⟨fun j l h => by
  rw [← e j]
  exact c.at_ j l h⟩
theorem CS.app {ls : List Addr} {H0 G H : Hp} {cnt : Nat → List Nat} {j i : Nat} {l : Addr} (c : CS ls H0 cnt G H) (h : ls[j]? = some l) (nd : ls.Nodup) : CS ls H0 (fun k => if k = j then cnt k ++ [i] else cnt k) G (upd H l (.lst (natsV (cnt j) ++ [.int (i : Nat)]))) := ⟨fun k m hm => by
  obtain ⟨a, b, e⟩ := c.at_ k m hm
  refine ⟨a, b, ?_⟩
  by_cases q : k = j
  · subst q
    rw [h] at hm
    cases hm
    rw [upd_same, if_pos rfl]
    simp [natsV]
  · have ne : m ≠ l := by
      intro z
      subst z
      exact q (nd_ix nd hm h)
    rw [upd_ne ne, if_neg q]
    exact e⟩
/-- an object that G knows not, one of those that came since H0, is changed -/
theorem CS.other {ls : List Addr} {H0 G H : Hp} {cnt : Nat → List Nat} {p : Addr} {o : HO} (c : CS ls H0 cnt G H) (h : p ∉ ls) : CS ls H0 cnt G (upd H p o) := ⟨fun j l hl => by
  obtain ⟨a, b, e⟩ := c.at_ j l hl
  exact ⟨a, b, by rw [upd_ne (fun q : l = p => h (q ▸ List.mem_of_getElem? hl))]; exact e⟩⟩
def comersT (ls : List Addr) : Dat := .lst (ls.map fun l => .s (.ref l))
theorem comers_rep {K : PySem.W.Frag} {G : Hp} : ∀ ls : List Addr, RepAll K G (ls.map V.ref) (ls.map fun l => .s (.ref l))
  | [] => .nil
  | _ :: ls => .cons (.s _) (comers_rep ls)
section
variable {K : PySem.W.Frag} {G0 H0 : Hp}
theorem comer_at {ls : List Addr} {ta tb : TE} {ρ : DSt} {j : Nat} {l : Addr} (ha : Den K ta ρ (comersT ls)) (hb : Den K tb ρ (.int (j : Nat))) (hl : ls[j]? = some l) : Den K (tOp (rIx K) ta tb) ρ (.s (.ref l)) :=
  den_op ha hb (rd_ixUL (atI_nat (by rw [List.getElem?_map, hl]; rfl)))
/-- for goal in goals: comers[goal].append(number) -/
theorem goal_loop {a b : Dat} {ls : List Addr} {gs : List Nat} {i : Nat} {cnt : Nat → List Nat} {σ : L2.St} {G H : Hp} {D : Ends} (hgs : ∀ g ∈ gs, g < ls.length) (nd : ls.Nodup)
    (e : EnvD K G σ [some a, some b, some (comersT ls), some (.int (i : Nat)), some (.lst (natsD gs)), none, none, none, none, none, none]) (f : Fr G0 H0 G H) (c : CS ls H0 cnt G H) (hz : ∀ j, (cnt j).length + gs.length ≤ 90000)
    (k : ∀ σ' G' H', Ex G G' → EnvD K G' σ' [some a, some b, some (comersT ls), none, none, none, none, none, none, none, none] → Fr G0 H0 G' H' → CS ls H0 (fun j => cnt j ++ (gs.filter (· == j)).map fun _ => i) G' H' → D.nx σ' H') :
    tFor (iOr (iList K (tVar 4)) (iTup K (tVar 4))) (gName 5) (tDrop (tBM K "list" rAppend (tOp (rIx K) (tVar 2) (tVar 5)) (tCons (tVar 3) tNil))) D σ H := by
  refine for_den (di_1 (di_list (den_var rfl))) f.i e (fun t σ2 G2 H2 => Ex G G2 ∧ EnvD K G2 σ2 [some a, some b, some (comersT ls), some (.int (i : Nat)), some (.lst (natsD gs)), none, none, none, none, none, none] ∧ Fr G0 H0 G2 H2 ∧
    CS ls H0 (fun j => cnt j ++ ((gs.take t).filter (· == j)).map fun _ => i) G2 H2) (fun G1 H1 f1 => ⟨f1.g, e.up f1.g, f.trans f1, (c.up f1).is fun j => by simp⟩) (fun t σ2 G2 H2 p => p.2.2.1.i) (fun t d σ2 G2 H2 v G3 H3 hd ⟨eg, e2, f2, c2⟩ f3 r3 => ?_) (fun σ2 G2 H2 ⟨eg, e2, f2, c2⟩ => ?_)
  · unfold natsD at hd
    rw [List.getElem?_map] at hd
    cases hg : gs[t]? with
    | none =>
      rw [hg] at hd
      cases hd
    | some g =>
      rw [hg] at hd
      cases hd
      obtain rfl := rep_s r3
      have gm := hgs g (List.mem_of_getElem? hg)
      have hl : ls[g]? = some ls[g] := List.getElem?_eq_getElem gm
      have e3 := (e2.up f3.g).set (.s (.int (g : Nat))) 5
      have c3 := c2.up f3
      refine comer_at (den_var rfl) (den_var rfl) hl _ G3 H3 _ f3.i e3 fun v4 G4 H4 f4 r4 => ?_
      obtain rfl := rep_s r4
      obtain ⟨g4, h04, e4⟩ := (c3.up f4).at_ g _ hl
      refine ⟨.inl ⟨rfl, _, .inl (.inl e4)⟩, da_cons (den_var rfl) da_nil _ G4 H4 _ f4.i (e3.up f4.g) fun vs G5 H5 f5 r5 => ?_⟩
      obtain ⟨w, rfl, rw5⟩ := repAll_1 r5
      obtain rfl := rep_s rw5
      obtain ⟨g5, h05, e5⟩ := ((c3.up f4).up f5).at_ g _ hl
      refine ⟨_, _, _, rfl, rfl, e5, Evl.sz_lt ?_, G5, ((f3.trans f4).trans f5).g, eg.trans ((f3.trans f4).trans f5).g, ((e3.up f4.g).up f5.g).forget 5, (((f2.trans f3).trans f4).trans f5).put h05 g5, ?_⟩
      · have h1 := hz g
        have h2 := List.length_filter_le (fun x => x == g) (gs.take t)
        rw [List.length_take] at h2
        have h3 : t < gs.length := (List.getElem?_eq_some_iff.mp hg).1
        simp [natsV]
        omega
      · refine (CS.app ((c3.up f4).up f5) hl nd).is fun j => ?_
        show (if j = g then _ else _) = _
        rw [filter_take hg]
        by_cases q : j = g
        · subst q
          rw [if_pos rfl]
          simp
        · rw [if_neg q]
          have : (g == j) = false := by simpa using fun z : g = j => q z.symm
          simp [this]
  · have e3 := (e2.forget 3).forget 4
    refine k σ2 G2 H2 eg e3 f2 (c2.is fun j => ?_)
    rw [show (natsD gs).length = gs.length by simp [natsD], List.take_length]
/-- the goals of a step by number -/
def Wf (W : List (List Nat)) (i : Nat) : List Nat := W.getD i []
def waysT (W : List (List Nat)) : Dat := .lst (W.map fun gs => .lst (natsD gs))
theorem enumD_inv {ds : List Dat} {i : Nat} {d : Dat} (h : (enumD ds)[i]? = some d) : ∃ x, ds[i]? = some x ∧ d = .tup [.int (i : Nat), x] := by
  have hl := (List.getElem?_eq_some_iff.mp h).1
  rw [enumD_len] at hl
  have e := List.getElem?_eq_getElem hl
  have := enumD_get e
  rw [this] at h
  cases h
  exact ⟨_, e, rfl⟩
theorem cont_len {W : Nat → List Nat} (h : ∀ i, (W i).length ≤ 2) (x : Nat) : ∀ n, (Kahn.cont W n x).length ≤ 2 * n
  | 0 => Nat.le_refl _
  | n + 1 => by
    rw [Kahn.cont_succ, List.length_append, List.length_map]
    have h1 := cont_len h x n
    have h2 := List.length_filter_le (fun y => y == x) (W n)
    have h3 := h n
    omega
theorem Wf_some {W : List (List Nat)} {i : Nat} {gs : List Nat} (h : W[i]? = some gs) : Wf W i = gs := by
  unfold Wf
  rw [List.getD_eq_getElem?_getD, h]
  rfl
/-- for number, goals in enumerate(ways): .. -/
theorem ways_loop {a : Dat} {ls : List Addr} {W : List (List Nat)} {σ : L2.St} {G H : Hp} {D : Ends} (hW : ∀ gs ∈ W, ∀ g ∈ gs, g < ls.length) (h2 : ∀ gs ∈ W, gs.length ≤ 2) (hz : W.length ≤ 10000) (nd : ls.Nodup)
    (e : EnvD K G σ [some a, some (waysT W), some (comersT ls), none, none, none, none, none, none, none, none]) (f : Fr G0 H0 G H) (c : CS ls H0 (fun _ => []) G H)
    (k : ∀ σ' G' H', Ex G G' → EnvD K G' σ' [some a, some (waysT W), some (comersT ls), none, none, none, none, none, none, none, none] → Fr G0 H0 G' H' → CS ls H0 (Kahn.cont (Wf W) W.length) G' H' → D.nx σ' H') :
    tFor (iEnum K (tCons (tVar 1) tNil)) (gTup K 2 (gCons (gName 3) (gCons (gName 4) gNil))) (tFor (iOr (iList K (tVar 4)) (iTup K (tVar 4))) (gName 5) (tDrop (tBM K "list" rAppend (tOp (rIx K) (tVar 2) (tVar 5)) (tCons (tVar 3) tNil)))) D σ H := by
  have hw2 : ∀ i, (Wf W i).length ≤ 2 := fun i => by
    cases q : W[i]? with
    | none =>
      unfold Wf
      rw [List.getD_eq_getElem?_getD, q]
      exact Nat.zero_le _
    | some gs =>
      rw [Wf_some q]
      exact h2 gs (List.mem_of_getElem? q)
  refine for_den (di_enumL (da_cons (den_var rfl) da_nil)) f.i e (fun t σ2 G2 H2 => Ex G G2 ∧ EnvD K G2 σ2 [some a, some (waysT W), some (comersT ls), none, none, none, none, none, none, none, none] ∧ Fr G0 H0 G2 H2 ∧ CS ls H0 (Kahn.cont (Wf W) t) G2 H2)
    (fun G1 H1 f1 => ⟨f1.g, e.up f1.g, f.trans f1, c.up f1⟩) (fun t σ2 G2 H2 p => p.2.2.1.i) (fun t d σ2 G2 H2 v G3 H3 hd ⟨eg, e2, f2, c2⟩ f3 r3 => ?_) (fun σ2 G2 H2 ⟨eg, e2, f2, c2⟩ => ?_)
  · obtain ⟨x, hx, rfl⟩ := enumD_inv hd
    rw [List.getElem?_map] at hx
    cases hg : W[t]? with
    | none =>
      rw [hg] at hx
      cases hx
    | some gs =>
      rw [hg] at hx
      cases hx
      have mem := List.mem_of_getElem? hg
      have lt : t < W.length := (List.getElem?_eq_some_iff.mp hg).1
      refine dg_tup (dgs_cons dg_name (dgs_cons dg_name dgs_nil)) rfl σ2 G3 H3 v _ f3.i r3 (e2.up f3.g) fun σ4 _ _ G4 H4 f4 e4 => ?_
      refine goal_loop (hW gs mem) nd e4 ((f2.trans f3).trans f4) ((c2.up f3).up f4) (fun j => ?_) fun σ' G' H' e45 e5 f5 c5 => ⟨G', (f3.trans f4).g.trans e45, eg.trans ((f3.trans f4).g.trans e45), e5, f5, c5.is fun j => ?_⟩
      · have h3 := cont_len hw2 j t
        have h4 := h2 gs mem
        omega
      · rw [Kahn.cont_succ, Wf_some hg]
  · have hl : (enumD (W.map fun gs => Dat.lst (natsD gs))).length = W.length := by
      rw [enumD_len, List.length_map]
    rw [hl] at c2
    exact k σ2 G2 H2 eg e2 f2 c2
theorem ixN_nat {n m : Nat} (h : m < n) : ixN n (m : Int) = some m := by
  unfold ixN
  rw [if_pos (by omega), if_pos (by omega)]
  rfl
/-- the counts and those that are done, both outside of G -/
structure LS (ls : List Addr) (p q : Addr) (G0 H0 : Hp) (C : Nat → List Nat) (n : Nat) (left : Nat → Nat) (E : List Nat) (G H : Hp) : Prop where
  fr : Fr G0 H0 G H
  cs : CS ls H0 C G H
  pg : G p = none
  ph : H p = some (.lst (natsV ((List.range n).map left)))
  qg : G q = none
  qh : H q = some (.lst (natsV E))
theorem LS.up {ls : List Addr} {p q : Addr} {C : Nat → List Nat} {n : Nat} {left : Nat → Nat} {E : List Nat} {G H G' H' : Hp} (s : LS ls p q G0 H0 C n left E G H) (f : Fr G H G' H') : LS ls p q G0 H0 C n left E G' H' :=
  ⟨s.fr.trans f, s.cs.up f, f.out s.pg (by rw [s.ph]; intro z; cases z), f.h _ _ s.ph, f.out s.qg (by rw [s.qh]; intro z; cases z), f.h _ _ s.qh⟩
/-- the four lists lie apart -/
structure Apart (ls : List Addr) (p q : Addr) (H0 : Hp) : Prop where
  pq : p ≠ q
  pl : p ∉ ls
  ql : q ∉ ls
  p0 : H0 p = none
  q0 : H0 q = none
theorem LS.putP {ls : List Addr} {p q : Addr} {C : Nat → List Nat} {n : Nat} {left : Nat → Nat} {E : List Nat} {G H : Hp} (a : Apart ls p q H0) (s : LS ls p q G0 H0 C n left E G H) (l' : Nat → Nat) : LS ls p q G0 H0 C n l' E G (upd H p (.lst (natsV ((List.range n).map l')))) :=
  ⟨s.fr.put a.p0 s.pg, s.cs.other a.pl, s.pg, upd_same, s.qg, by rw [upd_ne a.pq.symm]; exact s.qh⟩
theorem LS.putQ {ls : List Addr} {p q : Addr} {C : Nat → List Nat} {n : Nat} {left : Nat → Nat} {E : List Nat} {G H : Hp} (a : Apart ls p q H0) (s : LS ls p q G0 H0 C n left E G H) (E' : List Nat) : LS ls p q G0 H0 C n left E' G (upd H q (.lst (natsV E'))) :=
  ⟨s.fr.put a.q0 s.qg, s.cs.other a.ql, s.pg, by rw [upd_ne a.pq]; exact s.ph, s.qg, upd_same⟩
theorem natsV_at {xs : List Nat} {i x : Nat} (h : xs[i]? = some x) : (natsV xs)[i]? = some (.int (x : Nat)) := by
  unfold natsV
  rw [List.getElem?_map, h]
  rfl
theorem natsV_len (xs : List Nat) : (natsV xs).length = xs.length := by simp [natsV]
theorem range_at {n i : Nat} (f : Nat → Nat) (h : i < n) : ((List.range n).map f)[i]? = some (f i) := by
  rw [List.getElem?_map, List.getElem?_range h]
  rfl
theorem range_set {n m v : Nat} (f : Nat → Nat) : ((List.range n).map f).set m v = (List.range n).map (Kahn.put f m v) := by
  refine List.ext_getElem? fun i => ?_
  rw [List.getElem?_set]
  by_cases h : i < n
  · rw [range_at _ h, range_at _ h]
    unfold Kahn.put
    by_cases q : m = i
    · subst q
      simp [h]
    · rw [if_neg q, if_neg fun z => q z.symm]
  · have h1 : ((List.range n).map f)[i]? = none := List.getElem?_eq_none (by simp; omega)
    have h2 : ((List.range n).map (Kahn.put f m v))[i]? = none := List.getElem?_eq_none (by simp; omega)
    rw [h1, h2]
    simp
    intro z
    omega
/-- the slots within the while -/
def ρW (a b c : Dat) (p q : Addr) (k : Nat) : DSt := [some a, some b, some c, none, none, none, some (.s (.ref p)), some (.s (.ref q)), some (.int (k : Nat)), none, none]
theorem slot_s {ρ : DSt} {G : Hp} {σ : L2.St} {i : Nat} {v : V} (e : EnvD K G σ ρ) (h : ρ[i]? = some (some (.s v))) : σ[i]? = some (some v) := by
  obtain ⟨w, e1, r⟩ := e.at_ _ _ h
  rw [rep_s r] at e1
  exact e1
def tDec (K : PySem.W.Frag) : TS := tAugS (tVar 6) (tVar 3) (tC (.int 1)) (rIxL K) (ipI fun i j => i - j) rSetL
def tZero (K : PySem.W.Frag) : TS := tIfS (tTest (tOp rEq (tOp (rIx K) (tVar 6) (tVar 3)) (tC (.int 0)))) (tDrop (tBM K "list" rAppend (tVar 7) (tCons (tVar 3) tNil))) tNext
/-- left[number] -= 1; if left[number] == 0: ended.append(number) -/
theorem dec_ok {a b c : Dat} {ls : List Addr} {p q : Addr} {C : Nat → List Nat} {n m k : Nat} {left : Nat → Nat} {E : List Nat} {σ : L2.St} {G H : Hp} {D : Ends} (ap : Apart ls p q H0) (s : LS ls p q G0 H0 C n left E G H) (e : EnvD K G σ ((ρW a b c p q k).set 3 (some (.int (m : Nat)))))
    (hm : m < n) (hl : 1 ≤ left m) (hE : E.length ≤ 20000) (hn : n ≤ 20000)
    (kk : ∀ H', LS ls p q G0 H0 C n (Kahn.put left m (left m - 1)) (if left m - 1 = 0 then E ++ [m] else E) G H' → D.nx σ H') : tSeq (tDec K) (tZero K) D σ H := by
  have e6 := slot_s (i := 6) e rfl
  have e3 := slot_s (i := 3) e rfl
  have e7 := slot_s (i := 7) e rfl
  have hm' : m < (natsV ((List.range n).map left)).length := by simp [natsV_len, hm]
  refine ⟨.ref p, e6, .int (m : Nat), e3, p, _, (m : Nat), .int (left m : Nat), rfl, rfl, .inl (.inl s.ph), atI_nat (natsV_at (range_at left hm)), ?_⟩
  refine ⟨_, 1, rfl, rfl, p, _, (m : Nat), m, rfl, rfl, s.ph, ixN_nat hm', ?_⟩
  have es : (natsV ((List.range n).map left)).set m (.int ((left m : Int) - 1)) = natsV ((List.range n).map (Kahn.put left m (left m - 1))) := by
    rw [← range_set left, show ((left m : Int) - 1) = ((left m - 1 : Nat) : Int) by omega]
    unfold natsV
    rw [List.map_set]
  show tZero K D σ (upd H p (.lst ((natsV ((List.range n).map left)).set m (.int ((left m : Int) - 1)))))
  rw [es]
  have s1 := s.putP ap (Kahn.put left m (left m - 1))
  generalize upd H p (.lst (natsV ((List.range n).map (Kahn.put left m (left m - 1))))) = H1 at s1 ⊢
  have hv : Kahn.put left m (left m - 1) m = left m - 1 := if_pos rfl
  refine ⟨.ref p, e6, .int (m : Nat), e3, .inl ⟨p, _, (m : Nat), .int ((left m - 1 : Nat) : Int), rfl, rfl, .inl (.inl s1.ph), ?_, rfl, _, rfl, ?_⟩⟩
  · have := atI_nat (natsV_at (range_at (Kahn.put left m (left m - 1)) hm))
    rw [hv] at this
    exact this
  · by_cases z : left m - 1 = 0
    · dsimp only
      rw [z, if_pos (by decide)]
      rw [if_pos z] at kk
      refine ⟨.ref q, e7, .inl ⟨rfl, _, .inl (.inl s1.qh)⟩, .int (m : Nat), e3, q, _, _, rfl, rfl, s1.qh, Evl.sz_lt (by rw [natsV_len]; omega), ?_⟩
      have e9 : natsV E ++ [V.int (m : Nat)] = natsV (E ++ [m]) := by simp [natsV]
      rw [e9]
      exact kk _ (s1.putQ ap (E ++ [m]))
    · dsimp only
      rw [if_neg (by simpa using z)]
      rw [if_neg z] at kk
      exact kk _ s1
theorem natsD_py : ∀ xs : List Nat, PyAll (natsD xs) (xs.map fun i => .int (i : Nat))
  | [] => .nil
  | _ :: xs => .cons (.int _) (natsD_py xs)
def tPop (K : PySem.W.Frag) : TE := tOp (rIx K) (tVar 2) (tBM0 K "list" rPop (tVar 7))
/-- while ended != []: .. -/
theorem while_ok {a b : Dat} {ls : List Addr} {p q : Addr} {W : Nat → List Nat} {n : Nat} {left : Nat → Nat} {E : List Nat} {σ : L2.St} {G H : Hp} {D : Ends} (ap : Apart ls p q H0) (hls : ls.length = n) (hn : n ≤ 10000) (I : Kahn.Inv W n left E [])
    (s : LS ls p q G0 H0 (Kahn.cont W n) n left E G H) (e : EnvD K G σ (ρW a b (comersT ls) p q 0))
    (k : ∀ σ' G' H' P left', Kahn.Inv W n left' [] P → Ex G G' → Fr G0 H0 G' H' → EnvD K G' σ' (ρW a b (comersT ls) p q P.length) → D.nx σ' H') :
    tWhile (tTest (tOp (rNeD K) (tVar 7) (tLst tNil))) (tSeq (tAug 8 (tC (.int 1)) (ipI fun i j => i + j)) (tFor (iOr (iList K (tPop K)) (iTup K (tPop K))) (gName 3) (tSeq (tDec K) (tZero K)))) D σ H := by
  refine ⟨fun m σ2 H2 => ∃ (G2 : Hp) (P E : List Nat) (left : Nat → Nat), m = n - P.length ∧ Kahn.Inv W n left E P ∧ Ex G G2 ∧ LS ls p q G0 H0 (Kahn.cont W n) n left E G2 H2 ∧ EnvD K G2 σ2 (ρW a b (comersT ls) p q P.length), ⟨n, G, [], E, left, by simp, I, Ex.refl G, s, e⟩, ?_⟩
  rintro m σ2 H2 ⟨G2, P, E, left, rfl, I2, eg, s2, e2⟩
  -- the test: ended taken in for a while
  have iq : Ex (upd G2 q (.lst (natsV E))) H2 := fun x o hx => by
    by_cases z : x = q
    · subst z
      rw [upd_same] at hx
      cases hx
      exact s2.qh
    · rw [upd_ne z] at hx
      exact s2.fr.i x o hx
  have e2q : EnvD K (upd G2 q (.lst (natsV E))) σ2 ((ρW a b (comersT ls) p q P.length).set 7 (some (.lst (natsD E)))) :=
    (e2.up (Ex.new s2.qg)).tell (slot_s e2 rfl) (.lst upd_same (nats_rep E))
  refine dt_test (den_op (den_var rfl) (den_lst da_nil (by decide)) (rd_neD (.lst (natsD_py E)) (.lst .nil) (Lay.shaped (k := 1) (.lst (lay_map fun i _ => .int _))) (Lay.shaped (k := 1) (.lst fun x hx => nomatch hx)))) σ2 _ H2 _ iq e2q fun G3 H3 f3 => ?_
  have fb := Fr.back (G0 := G2) (Ex.new s2.qg) f3
  have s3 := s2.up fb
  rw [eqv_nil]
  have i2l := Kahn.inv_len I2
  rcases List.eq_nil_or_concat E with rfl | ⟨E', x, rfl⟩
  · have e3 := e2.up (Ex.refl G2)
    exact k σ2 G2 H3 P left I2 eg s3.fr e2
  · rw [List.concat_eq_append] at *
    rw [show (!(((E' ++ [x]).map fun i => PyData.int (i : Nat)).isEmpty)) = true by simp, if_pos rfl]
    refine ⟨fun σ' H' => ∃ (G' : Hp) (P' E'' : List Nat) (left' : Nat → Nat), P'.length = P.length + 1 ∧ Kahn.Inv W n left' E'' P' ∧ Ex G G' ∧ LS ls p q G0 H0 (Kahn.cont W n) n left' E'' G' H' ∧ EnvD K G' σ' (ρW a b (comersT ls) p q P'.length), fun σ' H' ⟨G', P', E'', left', h1, h2, h3, h4, h5⟩ => ⟨n - P'.length, ?_, G', P', E'', left', rfl, h2, h3, h4, h5⟩, ?_⟩
    · rw [List.length_append] at i2l
      simp at i2l
      omega
    -- count += 1
    refine ⟨.int (P.length : Nat), slot_s e2 rfl, (P.length : Nat), 1, rfl, rfl, ?_⟩
    show tFor (iOr (iList K (tPop K)) (iTup K (tPop K))) (gName 3) (tSeq (tDec K) (tZero K)) _ (σ2.set 8 (some (.int ((P.length : Int) + 1)))) H3
    have e4 : EnvD K G2 (σ2.set 8 (some (.int ((P.length : Int) + 1)))) (ρW a b (comersT ls) p q (P.length + 1)) := e2.set (.s (.int ((P.length : Int) + 1))) 8
    generalize σ2.set 8 (some (.int ((P.length : Int) + 1))) = σ4 at e4 ⊢
    -- comers[ended.pop()]
    have xl : x < ls.length := by
      rw [hls]
      exact I2.lt x (by simp)
    have hl : ls[x]? = some ls[x] := List.getElem?_eq_getElem xl
    obtain ⟨c, ec, rc⟩ := e4.at_ 2 (comersT ls) rfl
    unfold comersT at rc
    cases rc with
    | @lst ca cs _ hc rcs =>
      have hcs : cs = ls.map V.ref := repAll_s (ws := ls.map V.ref) (by rw [List.map_map]; exact rcs)
      subst hcs
      have dl : (natsV (E' ++ [x])).dropLast = natsV E' := by
        unfold natsV
        rw [List.map_append]
        simp
      refine .inl ⟨.ref ca, ec, .ref q, slot_s e4 rfl, .inl ⟨rfl, _, .inl (.inl s3.qh)⟩, q, _, .int (x : Nat), rfl, rfl, s3.qh, ?_, ?_⟩
      · rw [natsV_len]
        exact natsV_at (by simp)
      rw [dl]
      have s4 := s3.putQ ap E'
      generalize upd H3 q (.lst (natsV E')) = H4 at s4 ⊢
      obtain ⟨g5, h05, e5⟩ := s4.cs.at_ x _ hl
      refine .inl ⟨ca, _, (x : Nat), .ref ls[x], rfl, rfl, .inl (.inl (s4.fr.i _ _ hc)), atI_nat (by rw [List.getElem?_map, hl]; rfl), ls[x], rfl, ⟨_, .inl (.inl e5)⟩, ?_⟩
      refine for_list (K := K) (a := ls[x]) (xs := natsV (Kahn.cont W n x)) (fun t σ' H' => ∃ (E'' : List Nat) (left' : Nat → Nat), Kahn.Inn W n P x ((Kahn.cont W n x).take t) left' E'' ∧ LS ls p q G0 H0 (Kahn.cont W n) n left' E'' G2 H' ∧ EnvD K G2 σ' (ρW a b (comersT ls) p q (P.length + 1)))
        ⟨E', left, by rw [List.take_zero]; exact Kahn.inn_start I2, s4, e4⟩ (fun t σ' H' _ ⟨_, _, _, s', _⟩ => .inl (.inl (s'.cs.at_ x _ hl).2.2)) ?_ ?_
      · rintro t y σ' H' hy ⟨E'', left', I', s', e'⟩
        unfold natsV at hy
        rw [List.getElem?_map] at hy
        cases hm : (Kahn.cont W n x)[t]? with
        | none =>
          rw [hm] at hy
          cases hy
        | some m =>
          rw [hm] at hy
          cases hy
          have lt := (List.getElem?_eq_some_iff.mp hm).1
          have ek : Kahn.cont W n x = (Kahn.cont W n x).take t ++ m :: (Kahn.cont W n x).drop (t + 1) := by
            have h1 := List.take_append_drop t (Kahn.cont W n x)
            rw [List.drop_eq_getElem_cons lt] at h1
            have h2 : (Kahn.cont W n x)[t] = m := (List.getElem?_eq_some_iff.mp hm).2
            rw [h2] at h1
            exact h1.symm
          obtain ⟨hmn, hml⟩ := Kahn.inn_le I' ek
          have In := Kahn.inn_step I' ek
          rw [show (Kahn.cont W n x).take t ++ [m] = (Kahn.cont W n x).take (t + 1) by rw [List.take_add_one, hm]; rfl] at In
          have hE : E''.length ≤ 20000 := by
            have h1 := I'.nd.length_le_of_subset (l₂ := List.range n) fun z hz => List.mem_range.mpr (I'.lt z hz)
            rw [List.length_append, List.length_range] at h1
            omega
          exact dec_ok ap s' (e'.set (.s (.int (m : Nat))) 3) hmn hml hE (by omega) fun H5 s5 => ⟨_, _, In, s5, (e'.set (.s (.int (m : Nat))) 3).forget 3⟩
      · rintro σ' H' ⟨E'', left', I', s', e'⟩
        rw [natsV_len, List.take_length] at I'
        exact ⟨G2, x :: P, E'', left', rfl, Kahn.inn_end I', eg, s', e'⟩
theorem den_kc {ρ : DSt} {r : Addr} {vs : List V} {ds : List Dat} (h : ∀ H : Hp, SqT K H r vs) (hr : ∀ G : Hp, RepAll K G vs ds) : Den K (tC (.ref r)) ρ (.tup ds) := fun σ G H Q i e k => k _ G H (Fr.refl i) (.tup (h G) (hr G))
end
/-- no idle round: each goal of a step that is no break is ranked lower -/
def Ranked (steps : List Step) : Prop := ∃ rank : Nat → Nat, ∀ (i : Nat) (s : Step), steps[i]? = some s → ∀ g ∈ goalsOf s, ∃ j : Nat, g = (j : Int) ∧ j < steps.length ∧ rank j < rank i
def F_has_idle_round : List Dat → Dat → Prop := fun ds d => ∃ steps : List Step, ds = [.tup (steps.map stepD)] ∧ steps.length ≤ 10000 ∧ Ranked steps ∧ d = .bl false
def goalsN (s : Step) : List Nat := (goalsOf s).map Int.toNat
theorem goals_len (s : Step) : (goalsN s).length ≤ 2 := by
  cases s <;> simp [goalsN, goalsOf]
theorem sort_shaped : ∀ s : Step, SeqAt.shaped (.str (sortOf s)) = true
  | .serve _ => show SeqAt.shaped (.str "serve") = true by decide +kernel
  | .move _ _ => show SeqAt.shaped (.str "move") = true by decide +kernel
  | .out _ _ => show SeqAt.shaped (.str "out") = true by decide +kernel
  | .ask _ _ _ _ _ _ => show SeqAt.shaped (.str "ask") = true by decide +kernel
  | .done _ => show SeqAt.shaped (.str "done") = true by decide +kernel
def isServe : Step → Bool
  | .serve _ => true
  | _ => false
theorem left0_eq (W : List (List Nat)) : W.map (·.length) = (List.range W.length).map fun i => (Wf W i).length := by
  refine List.ext_getElem? fun i => ?_
  by_cases h : i < W.length
  · rw [range_at (fun i => (Wf W i).length) h, List.getElem?_map, List.getElem?_eq_getElem h, Wf_some (List.getElem?_eq_getElem h)]
    rfl
  · rw [List.getElem?_eq_none (by simp; omega), List.getElem?_eq_none (by simp; omega)]
theorem enum_range (n : Nat) (f : Nat → Nat) : enumD (natsD ((List.range n).map f)) = (List.range n).map fun i => .tup [.int (i : Nat), .int (f i : Nat)] := by
  refine List.ext_getElem? fun i => ?_
  by_cases h : i < n
  · have h1 : (natsD ((List.range n).map f))[i]? = some (.int (f i : Nat)) := by
      unfold natsD
      rw [List.getElem?_map, range_at f h]
      rfl
    rw [enumD_get h1, List.getElem?_map, List.getElem?_range h]
    rfl
  · rw [List.getElem?_eq_none (by rw [enumD_len]; simp [natsD]; omega), List.getElem?_eq_none (by simp; omega)]
section
variable {P : Program} {w : World} {K : PySem.W.Frag} {mg : Str → Option Value} {base : Heap} {A : Ad}
theorem ok_has_idle_round (T : Tx K w mg A) : FnOk P w K mg base CX0 2 A.f_has_idle_round A.d_has_idle_round ["steps"] (spF K F_has_idle_round) := by
  refine pure_ok T.F_has_idle_round sc_has_idle_round (fun ds d h => by obtain ⟨_, rfl, _⟩ := h; rfl) (fun cdv Ar outer s H E hr => ⟨_, (pss_cons (ps_setLc (i := 1) (own := [("step", 9)]) (g := (gName 9)) (by rfl) sc_has_idle_round.nd rfl rfl (sw_true rfl rfl rfl (by decide +kernel)) (Dn.pi_seq (pv 0)) (blkOk_by (N := ["steps", "ways", "comers", "number", "goals", "goal", "left", "ended", "count", "step", "many"]) (sc := defScope s_has_idle_round) (by decide +kernel))
    (fun _ _ _ _ _ => (pg_name (i := 9) sc_has_idle_round.nd rfl (Or.inl rfl))) (fun _ _ _ _ _ => pts_nil) (fun _ _ _ _ _ => (pe_ifExp (pt_cmpR (r := Ru.rInT K false) (Ru.op_inT (Dn.hu65 hr)) (pe_ix (r := rIx K) ix_seq (pv 9) pe_int (fun _ _ => rfl)) (pe_glob (v := .ref _) rfl T.g_BREAKS rfl) rfl) (pe_lst pa_nil) (pe_call (ok_goals_of T) (hr.mono (by decide)) rfl T.g_goals_of T.F_goals_of.kp T.b_goals_of .nil pass0 (pa_cons (pv 9) pa_nil)))))
  (pss_cons (ps_setLc (i := 2) (own := [("step", 9)]) (g := (gName 9)) (by rfl) sc_has_idle_round.nd rfl rfl (sw_true rfl rfl rfl (by decide +kernel)) (Dn.pi_seq (pv 0)) (blkOk_by (N := ["steps", "ways", "comers", "number", "goals", "goal", "left", "ended", "count", "step", "many"]) (sc := defScope s_has_idle_round) (by decide +kernel))
    (fun _ _ _ _ _ => (pg_name (i := 9) sc_has_idle_round.nd rfl (Or.inl rfl))) (fun _ _ _ _ _ => pts_nil) (fun _ _ _ _ _ => (pe_lst pa_nil)))
  (pss_cons (ps_for PassesOwn.never rfl (pi_enum rfl T.n_enumerate (pa_cons (pv 1) pa_nil)) (pg_tup rfl (pgs_cons (pg_name (i := 3) sc_has_idle_round.nd rfl (Or.inl rfl)) (pgs_cons (pg_name (i := 4) sc_has_idle_round.nd rfl (Or.inl rfl)) pgs_nil)))
  (pss_one (ps_for PassesOwn.never rfl (Dn.pi_seq (pv 4)) (pg_name (i := 5) sc_has_idle_round.nd rfl (Or.inl rfl))
  (pss_one (ps_expr (pe_bm PySem.F.plainAttrs_list PySem.F.slot_list_append PySem.F.type_list_append mt_append (pe_ix (r := rIx K) ix_seq (pv 2) (pv 5) (fun _ _ => rfl)) (pa_cons (pv 3) pa_nil)))))))
  (pss_cons (ps_setLc (i := 6) (own := [("goals", 4)]) (g := (gName 4)) (by rfl) sc_has_idle_round.nd rfl rfl (sw_true rfl rfl rfl (by decide +kernel)) (Dn.pi_seq (pv 1)) (blkOk_by (N := ["steps", "ways", "comers", "number", "goals", "goal", "left", "ended", "count", "step", "many"]) (sc := defScope s_has_idle_round) (by decide +kernel))
    (fun _ _ _ _ _ => (pg_name (i := 4) sc_has_idle_round.nd rfl (Or.inl rfl))) (fun _ _ _ _ _ => pts_nil) (fun _ _ _ _ _ => (pe_callB (r := Dn.rLenU K) Dn.call_lenU (by rfl) T.n_len (by decide +kernel) (pa_cons (pv 4) pa_nil))))
  (pss_cons (ps_setLc (i := 7) (own := [("number", 3), ("many", 10)]) (g := (gTup K 2 (gCons (gName 3) (gCons (gName 10) gNil)))) (by rfl) sc_has_idle_round.nd rfl rfl (sw_true rfl rfl rfl (by decide +kernel)) (pi_enum rfl T.n_enumerate (pa_cons (pv 6) pa_nil)) (blkOk_by (N := ["steps", "ways", "comers", "number", "goals", "goal", "left", "ended", "count", "step", "many"]) (sc := defScope s_has_idle_round) (by decide +kernel))
    (fun _ _ _ _ _ => (pg_tup rfl (pgs_cons (pg_name (i := 3) sc_has_idle_round.nd rfl (Or.inl rfl)) (pgs_cons (pg_name (i := 10) sc_has_idle_round.nd rfl (Or.inl rfl)) pgs_nil)))) (fun _ _ _ _ _ => pts_one (pt_cmpR op_eq (pv 10) pe_int (nomark _))) (fun _ _ _ _ _ => (pv 3)))
  (pss_cons (ps_set (i := 8) sc_has_idle_round.nd rfl (Or.inl rfl) pe_int)
  (pss_cons (ps_while PassesOwn.never (pt_cmpR (r := rNeD K) (op_neD hr.units) (pv 7) (pe_lst pa_nil) (nomark _))
  (pss_cons (ps_aug (i := 8) sc_has_idle_round.nd rfl (Or.inl rfl) pe_int ip_add)
  (pss_one (ps_for PassesOwn.never rfl (Dn.pi_seq (pe_ix (r := rIx K) ix_seq (pv 2) (pe_bm0 PySem.F.plainAttrs_list PySem.F.slot_list_pop PySem.F.type_list_pop mt_pop (pv 7)) (fun _ _ => rfl))) (pg_name (i := 3) sc_has_idle_round.nd rfl (Or.inl rfl))
  (pss_cons (ps_augS (pv 6) (pv 3) Ru.get_list pe_int ip_sub set_list)
  (pss_one (ps_if (pt_cmpR op_eq (pe_ix (r := rIx K) ix_seq (pv 6) (pv 3) (fun _ _ => rfl)) pe_int (nomark _)) (pss_one (ps_expr (pe_bm PySem.F.plainAttrs_list PySem.F.slot_list_append PySem.F.type_list_append mt_append (pv 7) (pa_cons (pv 3) pa_nil)))) pss_nil)))))))
  (pss_one (ps_ret (pe_cmpR op_lt (pv 8) (pe_callB (r := Dn.rLenU K) Dn.call_lenU (by rfl) T.n_len (by decide +kernel) (pa_cons (pv 1) pa_nil)) (nomark _))))))))))), fun ds d h => ?_⟩)
  obtain ⟨steps, rfl, hz, ⟨rank, hrk⟩, rfl⟩ := h
  intro σ G0 H0 D i0 e0 k
  let n := steps.length
  let W : List (List Nat) := steps.map goalsN
  have hn : W.length = n := by simp [W, n]
  have hg : ∀ s ∈ steps, natsD (goalsN s) = (goalsOf s).map fun g => Dat.int g := fun s hs => by
    obtain ⟨i, hi⟩ := List.getElem?_of_mem hs
    unfold natsD goalsN
    rw [List.map_map]
    refine List.map_congr_left fun g hg' => ?_
    obtain ⟨j, rfl, _⟩ := hrk i s hi g hg'
    rfl
  -- ways
  refine ds_set (d := waysT W) (Den.is (dl_lcA steps stepD (fun s => .lst (natsD (goalsN s))) (fun s => [some (.tup (steps.map stepD)), none, none, none, none, none, none, none, none, some (stepD s), none]) (di_2 (di_tup (den_var rfl))) (by omega) (fun s _ => dg_name) (fun s _ => dts_nil) fun s hs => ?_).den ?_) σ G0 H0 _ i0 e0 ?_
  · refine den_if (b := isServe s) (DenT.is (dt_test (den_op (den_op (den_var rfl) den_c (rd_ixUT (ati 0 (step_0 s)))) (den_kc T.q_BREAKS fun G => RepAll.vals _) (rd_inT (.str (sortOf s)) (.tup (.cons (.str _) (.cons (.str _) (.cons (.str _) .nil)))) ?_ (by decide +kernel)))) ?_) (fun q => ?_) fun q => ?_
    · exact sort_shaped s
    · cases s <;> rfl
    · cases s <;> first | exact den_lst da_nil (Nat.zero_le _) | cases q
    · refine Den.is (den_call (da_cons (den_var rfl) da_nil) ⟨s, rfl, fun ways z => ?_, rfl⟩) (congrArg Dat.lst (hg s hs).symm)
      subst z
      cases q
  · unfold waysT
    rw [List.map_map]
    rfl
  intro σ1 G1 H1 f1 e1
  -- comers
  refine seq_asg (lc_fresh steps stepD (fun s => [some (.tup (steps.map stepD)), some (waysT W), none, none, none, none, none, none, none, some (stepD s), none]) (di_2 (di_tup (den_var rfl))) (by omega) (fun s _ => dg_name) (fun s _ => dts_nil) (by rfl) σ1 G1 H1 _ f1.i e1 fun c ls G2 H2 f2 gc hc ec el al nd nm => ?_)
  have f02 : Fr G0 H0 (upd G2 c (.lst (ls.map V.ref))) H2 := f1.trans (f2.take hc ec gc)
  have e2 : EnvD K (upd G2 c (.lst (ls.map V.ref))) (σ1.set 2 (some (.ref c))) [some (.tup (steps.map stepD)), some (waysT W), some (comersT ls), none, none, none, none, none, none, none, none] :=
    ((e1.up f2.g).up (Ex.new gc)).set (.lst upd_same (comers_rep ls)) 2
  have c2 : CS ls H0 (fun _ => []) (upd G2 c (.lst (ls.map V.ref))) H2 := ⟨fun j l hl => by
    obtain ⟨a1, a2, a3⟩ := al l (List.mem_of_getElem? hl)
    exact ⟨by rw [upd_ne (fun q : l = c => nm (q ▸ List.mem_of_getElem? hl))]; exact a1, fresh_back f1.h a2, a3⟩⟩
  -- for number, goals in enumerate(ways)
  refine seq_any (ways_loop (W := W) (fun gs hgs g hg' => ?_) (fun gs hgs => ?_) (by omega) nd e2 f02 c2 fun σ3 G3 H3 e23 e3 f3 c3 => ?_)
  · obtain ⟨s, hs, rfl⟩ := List.mem_map.mp hgs
    obtain ⟨i, hi⟩ := List.getElem?_of_mem hs
    obtain ⟨g', hg2, rfl⟩ := List.mem_map.mp hg'
    obtain ⟨j, rfl, h1, _⟩ := hrk i s hi g' hg2
    rw [el]
    exact h1
  · obtain ⟨s, hs, rfl⟩ := List.mem_map.mp hgs
    exact goals_len s
  -- left
  refine seq_asg (dl_lcA W (fun gs => .lst (natsD gs)) (fun gs => .int (gs.length : Nat)) (fun gs => [some (.tup (steps.map stepD)), some (waysT W), some (comersT ls), none, some (.lst (natsD gs)), none, none, none, none, none, none]) (di_1 (di_list (den_var rfl))) (by omega) (fun s _ => dg_name) (fun s _ => dts_nil) (fun gs _ => ?_) (by rfl) σ3 G3 H3 _ f3.i e3 fun p vs G4 H4 f4 gp hp ep rp => ?_)
  · exact Den.is (lenL (den_var rfl)) (by simp [natsD])
  have ev : vs = natsV ((List.range n).map fun i => (Wf W i).length) := by
    have h1 : W.map (fun gs => Dat.int (gs.length : Nat)) = natsD (W.map (·.length)) := by
      simp [natsD, Function.comp_def]
    rw [h1, left0_eq, hn] at rp
    exact nats_vals rp
  subst ev
  have f04 := f3.trans f4
  have e4 : EnvD K G4 (σ3.set 6 (some (.ref p))) [some (.tup (steps.map stepD)), some (waysT W), some (comersT ls), none, none, none, some (.s (.ref p)), none, none, none, none] := (e3.up f4.g).set (.s (.ref p)) 6
  have c4 := c3.up f4
  -- ended
  have i4p : Ex (upd G4 p (.lst (natsV ((List.range n).map fun i => (Wf W i).length)))) H4 := fun x o hx => by
    by_cases z : x = p
    · subst z
      rw [upd_same] at hx
      cases hx
      exact ep
    · rw [upd_ne z] at hx
      exact f4.i x o hx
  have e4p := (e4.up (Ex.new gp)).tell (slot_s (i := 6) e4 rfl) (d := .lst (natsD ((List.range n).map fun i => (Wf W i).length))) (.lst upd_same (nats_rep _))
  refine seq_asg (dl_lc (List.range n) (fun i => .tup [.int (i : Nat), .int ((Wf W i).length : Nat)]) (fun i => decide (V.int ((Wf W i).length : Nat) = V.int 0)) (fun i => .int (i : Nat)) (fun i => [some (.tup (steps.map stepD)), some (waysT W), some (comersT ls), some (.int (i : Nat)), none, none, some (.lst (natsD ((List.range n).map fun i => (Wf W i).length))), none, none, none, some (.int ((Wf W i).length : Nat))])
    (DenI.is (di_enumL (da_cons (den_var rfl) da_nil)) (enum_range n _)) (by rw [List.length_range]; omega) (fun i _ => dg_tup (dgs_cons dg_name (dgs_cons dg_name dgs_nil)) rfl) (fun i _ => dts_one (dt_test (den_op (den_var rfl) den_c (rd_eq rfl)))) (fun i _ _ => den_var rfl) (by rfl) _ _ H4 _ i4p e4p fun q ws G5 H5 f5 gq hq eq rq => ?_)
  have fb := Fr.back (G0 := G4) (Ex.new gp) f5
  have f05 := f04.trans fb
  have ew : ws = natsV ((List.range n).filter fun i => (Wf W i).length == 0) := by
    have h1 : (List.range n).filter (fun i => decide (V.int ((Wf W i).length : Nat) = V.int 0)) = (List.range n).filter fun i => (Wf W i).length == 0 := by
      refine List.filter_congr fun i _ => ?_
      by_cases z : (Wf W i).length = 0
      · simp [z]
      · have h1 : decide (V.int ((Wf W i).length : Nat) = V.int 0) = false := decide_eq_false fun q => z (by injection q with q; omega)
        have h2 : ((Wf W i).length == 0) = false := beq_eq_false_iff_ne.mpr z
        rw [h1, h2]
    rw [h1] at rq
    exact nats_vals rq
  subst ew
  have e5 : EnvD K G4 ((σ3.set 6 (some (.ref p))).set 7 (some (.ref q))) [some (.tup (steps.map stepD)), some (waysT W), some (comersT ls), none, none, none, some (.s (.ref p)), some (.s (.ref q)), none, none, none] := e4.set (.s (.ref q)) 7
  have hp0 : H0 p = none := fresh_back (f3.h) hp
  have hq0 : H0 q = none := fresh_back f04.h hq
  have pq : p ≠ q := fun z => by
    rw [z, hq] at ep
    cases ep
  have pl : p ∉ ls := fun z => by
    obtain ⟨j, hj⟩ := List.getElem?_of_mem z
    have := (c3.at_ j p hj).2.2
    rw [hp] at this
    cases this
  have ql : q ∉ ls := fun z => by
    obtain ⟨j, hj⟩ := List.getElem?_of_mem z
    have := (c4.at_ j q hj).2.2
    rw [hq] at this
    cases this
  have gq4 : G4 q = none := fresh_back f4.i hq
  have ls5 : LS ls p q G0 H0 (Kahn.cont (Wf W) n) n (fun i => (Wf W i).length) ((List.range n).filter fun i => (Wf W i).length == 0) G4 H5 :=
    ⟨f05, by rw [← hn]; exact c4.up fb, gp, fb.h _ _ ep, gq4, eq⟩
  -- count = 0; while
  have e6 : EnvD K G4 (((σ3.set 6 (some (.ref p))).set 7 (some (.ref q))).set 8 (some (.int 0))) (ρW (.tup (steps.map stepD)) (waysT W) (comersT ls) p q 0) := e5.set (.s (.int 0)) 8
  refine seq_asg (seq_any (while_ok ⟨pq, pl, ql, hp0, hq0⟩ el hz (Kahn.inv_start (Wf W) n) ls5 e6 fun σ7 G7 H7 Pp left' I7 e47 f7 e7 => ?_))
  have hlen := Kahn.inv_end I7 rank fun i hi g hg' => ?_
  · refine ds_ret (d := .bl false) (Den.is (den_op (den_var rfl) (lenL (den_var rfl)) rd_I0) ?_) σ7 G7 H7 _ f7.i e7 fun v G8 H8 f8 r8 => k v G8 H8 (f7.trans f8) r8
    have : ((W.map fun gs => Dat.lst (natsD gs)).length) = n := by rw [List.length_map, hn]
    rw [this, hlen]
    simp [n]
  · have hs : steps[i]? = some steps[i] := List.getElem?_eq_getElem hi
    have hw : W[i]? = some (goalsN steps[i]) := by
      show (steps.map goalsN)[i]? = _
      rw [List.getElem?_map, hs]
      rfl
    rw [Wf_some hw] at hg'
    obtain ⟨g', hg2, rfl⟩ := List.mem_map.mp hg'
    obtain ⟨j, rfl, h1, h2⟩ := hrk i _ hs g' hg2
    exact ⟨h1, h2⟩
end
end K56
set_option Elab.async false
set_option linter.all false
set_option maxRecDepth 100000
set_option maxHeartbeats 4000000
/-! Kf: flows. -/
namespace K56
open PySem L2 Dn
open Evl (Ex fresh_back)
theorem sc_need_flow : FnScope ["places", "steps", "base", "ground", "place", "step", "number"] ["places", "steps", "base"] (defScope s_need_flow) := ⟨rfl, rfl, rfl, by decide +kernel, rfl, by decide +kernel, by decide +kernel⟩
theorem sc_Flow___init__ : FnScope ["self", "places", "steps", "prime"] ["self", "places", "steps", "prime"] (defScope s_Flow___init__) := ⟨rfl, rfl, rfl, by decide +kernel, rfl, by decide +kernel, by decide +kernel⟩
theorem sc_Flow_places : FnScope ["self"] ["self"] (defScope s_Flow_places) := ⟨rfl, rfl, rfl, by decide +kernel, rfl, by decide +kernel, by decide +kernel⟩
theorem sc_Flow_steps : FnScope ["self"] ["self"] (defScope s_Flow_steps) := ⟨rfl, rfl, rfl, by decide +kernel, rfl, by decide +kernel, by decide +kernel⟩
theorem sc_Flow_prime : FnScope ["self"] ["self"] (defScope s_Flow_prime) := ⟨rfl, rfl, rfl, by decide +kernel, rfl, by decide +kernel, by decide +kernel⟩
theorem sc_Flow_deeds : FnScope ["self", "word", "ways", "deed", "params", "goal"] ["self"] (defScope s_Flow_deeds) := ⟨rfl, rfl, rfl, by decide +kernel, rfl, by decide +kernel, by decide +kernel⟩
theorem sc_Flow___len__ : FnScope ["self"] ["self"] (defScope s_Flow___len__) := ⟨rfl, rfl, rfl, by decide +kernel, rfl, by decide +kernel, by decide +kernel⟩
def sitesD (sites : List Str) : Dat := .tup (sites.map fun s => .str s)
def stepsD (steps : List Step) : Dat := .tup (steps.map stepD)
def flowD (C : Addr) (sites : List Str) (steps : List Step) (p : Int) : Dat := .ins C ["sites", "rows", "base"] [sitesD sites, stepsD steps, .int p]
structure FlowOk (sites : List Str) (steps : List Step) (p : Int) : Prop where
  prime : p ∈ primeL
  few : sites.length ≤ 100
  names : ∀ s ∈ sites, placeOk s
  nd : sites.Nodup
  len : steps.length ≤ 10000
  ok : ∀ s ∈ steps, stepOk sites steps.length p s
  first : ∃ ways rest, steps = .serve ways :: rest ∧ ∀ s ∈ rest, isServe s = false
  rk : Ranked steps
def F_need_flow : List Dat → Dat → Prop := fun ds d => ∃ sites steps p, ds = [sitesD sites, stepsD steps, .int p] ∧ FlowOk sites steps p ∧ d = .non
def F_Flow___init__ : List Dat → List Dat → Prop := fun ds fs => ∃ sites steps p, ds = [sitesD sites, stepsD steps, .int p] ∧ FlowOk sites steps p ∧ fs = [sitesD sites, stepsD steps, .int p]
def F_Flow_places (C : Addr) : List Dat → Dat → Prop := fun ds d => ∃ sites steps p, ds = [flowD C sites steps p] ∧ d = sitesD sites
def F_Flow_steps (C : Addr) : List Dat → Dat → Prop := fun ds d => ∃ sites steps p, ds = [flowD C sites steps p] ∧ d = stepsD steps
def F_Flow_prime (C : Addr) : List Dat → Dat → Prop := fun ds d => ∃ sites steps p, ds = [flowD C sites steps p] ∧ d = .int p
def deedsD (ways : List (Str × Nat × Int)) : Dat := .tup (ways.map fun q => .tup [.str q.1, .int (q.2.1 : Nat)])
def F_Flow_deeds (C : Addr) : List Dat → Dat → Prop := fun ds d => ∃ sites ways rest p, ds = [flowD C sites (.serve ways :: rest) p] ∧ ways.length ≤ 1000 ∧ (∀ q ∈ ways, q.2.1 ≤ 1000) ∧ d = deedsD ways
def F_Flow___len__ (C : Addr) : List Dat → Dat → Prop := fun ds d => ∃ sites steps p, ds = [flowD C sites steps p] ∧ d = .int (steps.length : Nat)
theorem enum_map {α : Type} (xs : List α) (e : α → Dat) : enumD (xs.map e) = xs.zipIdx.map fun p => .tup [.int (p.2 : Nat), e p.1] := by
  refine List.ext_getElem? fun i => ?_
  cases h : xs[i]? with
  | none => rw [List.getElem?_eq_none (by rw [enumD_len]; simpa using h), List.getElem?_eq_none (by simpa using h)]
  | some a =>
    rw [enumD_get (d := e a) (by rw [List.getElem?_map, h]; rfl), List.getElem?_map, List.getElem?_zipIdx, h]
    simp
section
variable {P : Program} {w : World} {K : PySem.W.Frag} {mg : Str → Option Value} {base : Heap} {A : Ad}
theorem pure_okN {x qual : Str} {st : Stmt} {f : Addr} {fd : FuncData} {N ps : List Str} {k : Nat} {Fp : List Dat → Dat → Prop} (F : Fun K x qual st f fd) (S : FnScope N ps (defScope st)) (hl : ∀ ds d, Fp ds d → ds.length = ps.length ∧ d = .non)
    (hb : ∀ (cdv : Value) (A : Around) (outer : List PySem.Env) (s : Shared) (H : Hp) (E : XK), Room k (A.deeper (PyProof.Rows.envOfC qual (defScope st) s.heap.objs.size f cdv)) →
      ∃ t, PSs (cxOf CX0 P w K mg base N qual (defScope st) f cdv A outer s H E).nox (defBody st) t ∧ ∀ ds d, Fp ds d → ∃ ρ, DenS K t (ds.map some ++ List.replicate (N.length - ds.length) none) (.nx ρ)) : FnOk P w K mg base CX0 (k + 1) f fd ps (spF K Fp) := by
  refine F.ok S (fun vs H Q E h => ?_) (fun cdv A outer s H vs Q E hr h => ?_)
  · obtain ⟨G, ds, d, e, r, hf, _⟩ := h
    rw [r.len, (hl ds d hf).1]
  · obtain ⟨G, ds, d, e, r, hf, k⟩ := h
    obtain ⟨t, ht, hd⟩ := hb cdv A outer s H E hr
    obtain ⟨ρ, hd⟩ := hd ds d hf
    refine ⟨t, ht, hd _ G H _ e (envD_start N r) fun σ G' H' f' _ => k _ G' H' f' ?_⟩
    rw [(hl ds d hf).2]
    exact .s _
theorem ok_need_flow (T : Tx K w mg A) : FnOk P w K mg base CX0 8 A.f_need_flow A.d_need_flow ["places", "steps", "base"] (spF K F_need_flow) := by
  refine pure_okN T.F_need_flow sc_need_flow (fun ds d h => by obtain ⟨_, _, _, rfl, _, rfl⟩ := h; exact ⟨rfl, rfl⟩) (fun cdv Ar outer s H E hr => ⟨_, (pss_cons (ps_if (PW.pt (pw_or (pt_not (pt_val (pe_call (ok_is_prime T) (hr.mono (by decide)) rfl T.g_is_prime T.F_is_prime.kp T.b_is_prime .nil pass0 (pa_cons (pv 2) pa_nil)))) (pw_or (pt_not (pt_val (pe_callB (r := rIsi K) call_isi (by rfl) T.n_isinstance (by decide +kernel) (pa_cons (pv 0) (pa_cons (pe_bltn (v := .ty "tuple") (by rfl) T.n_tuple (by decide +kernel) rfl) pa_nil))))) (pw_or1 (pt_cmpR op_gt (pe_callB (r := Dn.rLenU K) Dn.call_lenU (by rfl) T.n_len (by decide +kernel) (pa_cons (pv 0) pa_nil)) (pe_glob (v := .int 100) rfl T.g_MOST_PLACES_flows ⟨_, rfl⟩) (nomark _)))))) pss_never pss_nil)
  (pss_cons (ps_if (PW.pt (pw_or (pt_not (pt_val (pe_callB (r := rAll K) (cr_all rfl) (by rfl) T.n_all (by decide +kernel) (pa_cons (pe_lc (own := [("place", 4)]) (g := (gName 4)) (by rfl) sc_need_flow.nd (Dn.pi_seq (pv 0)) (blkOk_by (N := ["places", "steps", "base", "ground", "place", "step", "number"]) (sc := defScope s_need_flow) (by decide +kernel))
    (fun _ _ _ _ _ => (pg_name (i := 4) sc_need_flow.nd rfl (Or.inl rfl))) (fun _ _ _ _ _ => pts_nil) (fun _ _ _ _ _ => (pe_call (ok_is_place T) (hr.mono (by decide)) rfl T.g_is_place T.F_is_place.kp T.b_is_place .nil pass0 (pa_cons (pv 4) pa_nil)))) pa_nil)))) (pw_or1 (pt_cmpR op_lt (pe_callB Ru.call_lenK (by rfl) T.n_len (by decide +kernel) (pa_cons (pe_callTy (Ru.cr_setOfK rfl) (by rfl) T.n_set (by decide +kernel) (pa_cons (pv 0) pa_nil)) pa_nil)) (pe_callB (r := Dn.rLenU K) Dn.call_lenU (by rfl) T.n_len (by decide +kernel) (pa_cons (pv 0) pa_nil)) (nomark _))))) pss_never pss_nil)
  (pss_cons (ps_if (PW.pt (pw_or (pt_not (pt_val (pe_callB (r := rIsi K) call_isi (by rfl) T.n_isinstance (by decide +kernel) (pa_cons (pv 1) (pa_cons (pe_bltn (v := .ty "tuple") (by rfl) T.n_tuple (by decide +kernel) rfl) pa_nil))))) (pw_or1 (pt_not (pt_chain op_le op_le pe_int (pe_callB (r := Dn.rLenU K) Dn.call_lenU (by rfl) T.n_len (by decide +kernel) (pa_cons (pv 1) pa_nil)) (pe_glob (v := .int 10000) rfl T.g_MOST_STEPS_flows ⟨_, rfl⟩)))))) pss_never pss_nil)
  (pss_cons (ps_set (i := 3) sc_need_flow.nd rfl (Or.inr rfl) (pe_make T.M_Ground (ok_Ground___init__ T) (hr.mono (by decide)) rfl T.g_Ground T.b_Ground___init__ .nil pass0 (pa_cons (pe_dc (own := [("place", 4)]) (g := (gName 4)) (by rfl) sc_need_flow.nd (Dn.pi_seq (pv 0)) (blkOk_by (N := ["places", "steps", "base", "ground", "place", "step", "number"]) (sc := defScope s_need_flow) (by decide +kernel))
    (fun _ _ _ _ _ => (pg_name (i := 4) sc_need_flow.nd rfl (Or.inl rfl))) (fun _ _ _ _ _ => pts_nil) (fun _ _ _ _ _ => (pv 4)) (fun _ _ _ _ _ => pe_bl)) (pa_cons (pe_callB (r := Dn.rLenU K) Dn.call_lenU (by rfl) T.n_len (by decide +kernel) (pa_cons (pv 1) pa_nil)) (pa_cons (pv 2) pa_nil)))))
  (pss_cons (ps_if (pt_not (pt_val (pe_callB (r := rAll K) (cr_all rfl) (by rfl) T.n_all (by decide +kernel) (pa_cons (pe_lc (own := [("step", 5)]) (g := (gName 5)) (by rfl) sc_need_flow.nd (Dn.pi_seq (pv 1)) (blkOk_by (N := ["places", "steps", "base", "ground", "place", "step", "number"]) (sc := defScope s_need_flow) (by decide +kernel))
    (fun _ _ _ _ _ => (pg_name (i := 5) sc_need_flow.nd rfl (Or.inl rfl))) (fun _ _ _ _ _ => pts_nil) (fun _ _ _ _ _ => (pe_call (ok_is_step T) (hr.mono (by decide)) rfl T.g_is_step T.F_is_step.kp T.b_is_step .nil pass0 (pa_cons (pv 5) (pa_cons (pv 3) pa_nil))))) pa_nil)))) pss_never pss_nil)
  (pss_cons (ps_if (pt_cmpR (r := rNeD K) (op_neD hr.units) (pe_lc (own := [("number", 6), ("step", 5)]) (g := (gTup K 2 (gCons (gName 6) (gCons (gName 5) gNil)))) (by rfl) sc_need_flow.nd (Ru.pi_enumT rfl T.n_enumerate (pa_cons (pv 1) pa_nil)) (blkOk_by (N := ["places", "steps", "base", "ground", "place", "step", "number"]) (sc := defScope s_need_flow) (by decide +kernel))
    (fun _ _ _ _ _ => (pg_tup rfl (pgs_cons (pg_name (i := 6) sc_need_flow.nd rfl (Or.inl rfl)) (pgs_cons (pg_name (i := 5) sc_need_flow.nd rfl (Or.inl rfl)) pgs_nil)))) (fun _ _ _ _ _ => pts_one (pt_cmpR op_eq (pe_ix (r := rIx K) ix_seq (pv 5) pe_int (fun _ _ => rfl)) pe_str (nomark _))) (fun _ _ _ _ _ => (pv 6))) (pe_lst (pa_cons pe_int pa_nil)) (nomark _)) pss_never pss_nil)
  (pss_one (ps_if (pt_val (pe_call (ok_has_idle_round T) (hr.mono (by decide)) rfl T.g_has_idle_round T.F_has_idle_round.kp T.b_has_idle_round .nil pass0 (pa_cons (pv 1) pa_nil))) pss_never pss_nil)))))))), fun ds d h => ?_⟩)
  obtain ⟨sites, steps, p, rfl, F, rfl⟩ := h
  obtain ⟨ways, rest, hst, hrest⟩ := F.first
  refine ⟨[some (sitesD sites), some (stepsD steps), some (.int p), some (groundD A.C_Ground sites steps.length p), none, none, none], ?_⟩
  refine ds_seq (ds_no (DenT.is (dt_or (b := false) (DenT.is (dt_not (dt_val (den_call (da_cons (den_var rfl) da_nil) ⟨p, rfl, F.prime, rfl⟩))) rfl) fun _ => dt_or (b := false) (DenT.is (dt_not (dt_val (isY (den_var rfl) rfl (by decide +kernel)))) rfl) fun _ =>
    DenT.is (dt_test (den_op (lenT (den_var rfl)) den_c rd_I0)) ?_) rfl)) ?_
  · have := F.few
    simp
    omega
  refine ds_seq (ds_no (DenT.is (dt_or (b := false) (DenT.is (dt_not (dt_val (allT (bs := sites.map fun _ => true) (dl_lcA sites (fun s => .str s) (fun _ => .bl true) (fun s => [some (sitesD sites), some (stepsD steps), some (.int p), none, some (.str s), none, none]) (di_2 (di_tup (den_var rfl))) (by have := F.few; omega) (fun s _ => dg_name) (fun s _ => dts_nil)
    fun s hs => den_call (da_cons (den_var rfl) da_nil) ⟨s, rfl, F.names s hs, rfl⟩) (by rw [List.map_map]; rfl)))) (by simp)) fun _ => DenT.is (dt_test (den_op (den_len_set (ks := siteK sites) (.inl (da_cons (Den.is (den_var rfl) ?_) da_nil)) ?_ ?_) (lenT (den_var rfl)) rd_I0)) ?_) rfl)) ?_
  · unfold sitesD siteK
    rw [List.map_map]
    rfl
  · exact List.Pairwise.map _ (fun a b h q => h (by simpa using q)) F.nd
  · have := F.few
    simp [siteK]
    omega
  · simp [siteK]
  have hl1 : 1 ≤ steps.length := by
    rw [hst]
    simp
  have hl2 := F.len
  refine ds_seq (ds_no (DenT.is (dt_or (b := false) (DenT.is (dt_not (dt_val (isY (den_var rfl) rfl (by decide +kernel)))) rfl) fun _ => DenT.is (dt_not (dt_test (le2 den_c (lenT (den_var rfl)) den_c (by rw [List.length_map]; omega) (by rw [List.length_map]; omega)))) rfl) rfl)) ?_
  have hsl := F.few
  have hnd := F.nd
  refine ds_seq (ds_set (d := groundD A.C_Ground sites steps.length p) (den_make (FI := F_Ground___init__) (da_cons (x := thereD sites) (den_dc sites (fun s => .str s) Sum.inr (fun _ => .bl true) (fun s => [some (sitesD sites), some (stepsD steps), some (.int p), none, some (.str s), none, none]) (di_2 (di_tup (den_var rfl))) (by omega) (List.Pairwise.map _ (fun a b h q => h (by simpa using q)) hnd)
    (fun s _ => dg_name) (fun s _ => dts_nil) (fun s _ => den_var rfl) (fun s _ => den_c)) (da_cons (Den.is (x := .int (steps.length : Nat)) (lenT (den_var rfl)) (by rw [List.length_map])) (da_cons (den_var rfl) da_nil))) ⟨_, _, _, rfl, rfl⟩)) ?_
  refine ds_seq (ds_no (DenT.is (dt_not (dt_val (allT (bs := steps.map fun _ => true) (dl_lcA steps stepD (fun _ => .bl true) (fun s => [some (sitesD sites), some (stepsD steps), some (.int p), some (groundD A.C_Ground sites steps.length p), none, some (stepD s), none]) (di_2 (di_tup (den_var rfl))) (by omega) (fun s _ => dg_name) (fun s _ => dts_nil)
    fun s hs => den_call (da_cons (den_var rfl) (da_cons (den_var rfl) da_nil)) ⟨sites, _, p, s, rfl, F.ok s hs, rfl⟩) (by rw [List.map_map]; rfl)))) (by simp))) ?_
  refine ds_seq (ds_no (DenT.is (dt_test (den_op (Den.is (dl_lc steps.zipIdx (fun q => .tup [.int (q.2 : Nat), stepD q.1]) (fun q => isServe q.1) (fun q => .int (q.2 : Nat)) (fun q => [some (sitesD sites), some (stepsD steps), some (.int p), some (groundD A.C_Ground sites steps.length p), none, some (stepD q.1), some (.int (q.2 : Nat))])
    (DenI.is (di_enumT (da_cons (den_var rfl) da_nil)) (enum_map steps stepD)) (by simpa using Nat.le_trans hl2 (by decide)) (fun q _ => dg_tup (dgs_cons dg_name (dgs_cons dg_name dgs_nil)) rfl) (fun q _ => dts_one (DenT.is (dt_test (den_op (den_op (den_var rfl) den_c (rd_ixUT (ati 0 (step_0 q.1)))) den_c (rd_eq rfl))) ?_)) (fun q _ _ => den_var rfl)).den (x := .lst [.int 0]) ?_)
    (den_lst (da_cons den_c da_nil) (by show 1 ≤ 100000; decide)) (rd_neD (.lst (.cons (.int 0) .nil)) (.lst (.cons (.int 0) .nil)) (by decide +kernel) (by decide +kernel)))) (by decide +kernel))) ?_
  · cases q.1 <;> rfl
  · refine congrArg Dat.lst ?_
    rw [hst, List.zipIdx_cons, List.filter_cons, if_pos (show isServe (Step.serve ways) = true from rfl), List.filter_eq_nil_iff.mpr fun q hq => ?_]
    · rfl
    · have := hrest q.1 (List.fst_mem_of_mem_zipIdx hq)
      rw [this]
      decide
  exact ds_no (dt_val (den_call (da_cons (den_var rfl) da_nil) ⟨steps, rfl, hl2, F.rk, rfl⟩))
theorem ok_Flow___init__ (T : Tx K w mg A) : FnOk P w K mg base CX0 9 A.f_Flow___init__ A.d_Flow___init__ ["self", "places", "steps", "prime"] (spI K A.C_Flow ["sites", "rows", "base"] F_Flow___init__) := by
  refine init_ok T.F_Flow___init__ sc_Flow___init__ (fun ds d h => by obtain ⟨a, b, c, rfl, _⟩ := h; rfl) (fun cdv Ar outer s H E hr => ⟨_, (pss_cons (ps_expr (pe_call (ok_need_flow T) (hr.mono (by decide)) rfl T.g_need_flow T.F_need_flow.kp T.b_need_flow .nil pass0 (pa_cons (pv 1) (pa_cons (pv 2) (pa_cons (pv 3) pa_nil)))))
  (pss_cons (ps_fld (pv 0) (pv 1) rfl)
  (pss_cons (ps_fld (pv 0) (pv 2) rfl)
  (pss_one (ps_fld (pv 0) (pv 3) rfl))))), fun ds d h => ?_⟩)
  obtain ⟨a, b, c, rfl, F, rfl⟩ := h
  exact ini_seq (ini_drop (den_call (da_cons (den_var rfl) (da_cons (den_var rfl) (da_cons (den_var rfl) da_nil))) ⟨a, b, c, rfl, F, rfl⟩))
    (ini_seq (ini_fld T.c_Flow T.a_Flow_sites (den_var rfl) rfl (by decide)) (ini_seq (ini_fld T.c_Flow T.a_Flow_rows (den_var rfl) (by decide) (by decide)) (ini_fld T.c_Flow T.a_Flow_base (den_var rfl) (by decide) (by decide))))
theorem ok_Flow_places (T : Tx K w mg A) : FnOk P w K mg base CX0 1 A.f_Flow_places A.d_Flow_places ["self"] (spF K (F_Flow_places A.C_Flow)) := by
  refine pure_ok T.F_Flow_places sc_Flow_places (fun ds d h => by obtain ⟨_, _, _, rfl, _⟩ := h; rfl) (fun cdv Ar outer s H E hr => ⟨_, (pss_one (ps_ret (Dn.pe_fldK (K := K) rfl (pv 0) rfl))), fun ds d h => ?_⟩)
  obtain ⟨sites, steps, p, rfl, rfl⟩ := h
  exact ds_ret (den_fld (den_var rfl) T.c_Flow T.a_Flow_sites rfl)
theorem ok_Flow_steps (T : Tx K w mg A) : FnOk P w K mg base CX0 1 A.f_Flow_steps A.d_Flow_steps ["self"] (spF K (F_Flow_steps A.C_Flow)) := by
  refine pure_ok T.F_Flow_steps sc_Flow_steps (fun ds d h => by obtain ⟨_, _, _, rfl, _⟩ := h; rfl) (fun cdv Ar outer s H E hr => ⟨_, (pss_one (ps_ret (Dn.pe_fldK (K := K) rfl (pv 0) rfl))), fun ds d h => ?_⟩)
  obtain ⟨sites, steps, p, rfl, rfl⟩ := h
  exact ds_ret (den_fld (den_var rfl) T.c_Flow T.a_Flow_rows rfl)
theorem ok_Flow_prime (T : Tx K w mg A) : FnOk P w K mg base CX0 1 A.f_Flow_prime A.d_Flow_prime ["self"] (spF K (F_Flow_prime A.C_Flow)) := by
  refine pure_ok T.F_Flow_prime sc_Flow_prime (fun ds d h => by obtain ⟨_, _, _, rfl, _⟩ := h; rfl) (fun cdv Ar outer s H E hr => ⟨_, (pss_one (ps_ret (Dn.pe_fldK (K := K) rfl (pv 0) rfl))), fun ds d h => ?_⟩)
  obtain ⟨sites, steps, p, rfl, rfl⟩ := h
  exact ds_ret (den_fld (den_var rfl) T.c_Flow T.a_Flow_base rfl)
theorem ok_Flow___len__ (T : Tx K w mg A) : FnOk P w K mg base CX0 1 A.f_Flow___len__ A.d_Flow___len__ ["self"] (spF K (F_Flow___len__ A.C_Flow)) := by
  refine pure_ok T.F_Flow___len__ sc_Flow___len__ (fun ds d h => by obtain ⟨_, _, _, rfl, _⟩ := h; rfl) (fun cdv Ar outer s H E hr => ⟨_, (pss_one (ps_ret (pe_callB (r := Dn.rLenU K) Dn.call_lenU (by rfl) T.n_len (by decide +kernel) (pa_cons (Dn.pe_fldK (K := K) rfl (pv 0) rfl) pa_nil)))), fun ds d h => ?_⟩)
  obtain ⟨sites, steps, p, rfl, rfl⟩ := h
  exact ds_ret (Den.is (lenT (den_fld (den_var rfl) T.c_Flow T.a_Flow_rows rfl)) (by simp))
theorem ok_Flow_deeds (T : Tx K w mg A) : FnOk P w K mg base CX0 1 A.f_Flow_deeds A.d_Flow_deeds ["self"] (spF K (F_Flow_deeds A.C_Flow)) := by
  refine pure_ok T.F_Flow_deeds sc_Flow_deeds (fun ds d h => by obtain ⟨_, _, _, _, rfl, _⟩ := h; rfl) (fun cdv Ar outer s H E hr => ⟨_, (pss_cons (ps_asg (pe_ix (r := rIx K) ix_seq (Dn.pe_fldK (K := K) rfl (pv 0) rfl) pe_int (fun _ _ => rfl)) (pg_tup rfl (pgs_cons (pg_name (i := 1) sc_Flow_deeds.nd rfl (Or.inl rfl)) (pgs_cons (pg_name (i := 2) sc_Flow_deeds.nd rfl (Or.inl rfl)) pgs_nil))))
  (pss_one (ps_ret (pe_callTy (r := Dn.rTupOf K) call_tuple_of (by rfl) T.n_tuple (by decide +kernel) (pa_cons (pe_lc (own := [("deed", 3), ("params", 4), ("goal", 5)]) (g := (gTup K 3 (gCons (gName 3) (gCons (gName 4) (gCons (gName 5) gNil))))) (by rfl) sc_Flow_deeds.nd (Dn.pi_seq (pv 2)) (blkOk_by (N := ["self", "word", "ways", "deed", "params", "goal"]) (sc := defScope s_Flow_deeds) (by decide +kernel))
    (fun _ _ _ _ _ => (pg_tup rfl (pgs_cons (pg_name (i := 3) sc_Flow_deeds.nd rfl (Or.inl rfl)) (pgs_cons (pg_name (i := 4) sc_Flow_deeds.nd rfl (Or.inl rfl)) (pgs_cons (pg_name (i := 5) sc_Flow_deeds.nd rfl (Or.inl rfl)) pgs_nil))))) (fun _ _ _ _ _ => pts_nil) (fun _ _ _ _ _ => (pe_tup (pa_cons (pv 3) (pa_cons (pe_callB (r := Dn.rLenU K) Dn.call_lenU (by rfl) T.n_len (by decide +kernel) (pa_cons (pv 4) pa_nil)) pa_nil))))) pa_nil))))), fun ds d h => ?_⟩)
  obtain ⟨sites, ways, rest, p, rfl, hw, hq, rfl⟩ := h
  refine ds_seq (ds_asg (den_op (den_fld (den_var rfl) T.c_Flow T.a_Flow_rows rfl) den_c (rd_ixUT (d := stepD (.serve ways)) (ati 0 rfl))) (dg_tup (dgs_cons dg_name (dgs_cons dg_name dgs_nil)) rfl)) (ds_ret ?_)
  exact den_cb (da_cons (dl_lcA ways wayD (fun q => .tup [.str q.1, .int (q.2.1 : Nat)]) (fun q => [some (flowD A.C_Flow sites (.serve ways :: rest) p), some (.str "serve"), some (.tup (ways.map wayD)), some (.str q.1), some (nosD q.2.1), some (.int q.2.2)]) (di_2 (di_tup (den_var rfl))) (by omega)
    (fun q _ => dg_tup (dgs_cons dg_name (dgs_cons dg_name (dgs_cons dg_name dgs_nil))) rfl) (fun q _ => dts_nil) fun q hq' => den_tup (da_cons (den_var rfl) (da_cons (Den.is (lenT (den_var rfl)) (by simp)) da_nil)) (by show 2 ≤ 100000; decide)).den da_nil) rc_tupL
end
end K56
set_option Elab.async false
set_option linter.all false
set_option maxRecDepth 100000
set_option maxHeartbeats 4000000
/-! Kg: asks, names and copies. -/
namespace K56
open PySem L2 Dn
open Evl (Ex fresh_back)
theorem sc_asks_of : FnScope ["flow", "unit", "at", "step"] ["flow", "unit"] (defScope s_asks_of) := ⟨rfl, rfl, rfl, by decide +kernel, rfl, by decide +kernel, by decide +kernel⟩
theorem sc_called_so : FnScope ["unit", "place"] ["unit", "place"] (defScope s_called_so) := ⟨rfl, rfl, rfl, by decide +kernel, rfl, by decide +kernel, by decide +kernel⟩
theorem sc_form_called : FnScope ["unit", "form", "number", "terms", "place", "times"] ["unit", "form"] (defScope s_form_called) := ⟨rfl, rfl, rfl, by decide +kernel, rfl, by decide +kernel, by decide +kernel⟩
theorem sc_Copy___init__ : FnScope ["self", "unit", "ask", "ahead"] ["self", "unit", "ask", "ahead"] (defScope s_Copy___init__) := ⟨rfl, rfl, rfl, by decide +kernel, rfl, by decide +kernel, by decide +kernel⟩
theorem sc_Copy_number_of : FnScope ["self", "at"] ["self", "at"] (defScope s_Copy_number_of) := ⟨rfl, rfl, rfl, by decide +kernel, rfl, by decide +kernel, by decide +kernel⟩
theorem sc_Copy_form : FnScope ["self", "form"] ["self", "form"] (defScope s_Copy_form) := ⟨rfl, rfl, rfl, by decide +kernel, rfl, by decide +kernel, by decide +kernel⟩
theorem sc_Copy_begun : FnScope ["self", "ways", "sort", "unit", "deed", "forms", "place", "to", "other", "params", "entry", "pairs", "word", "some", "begin", "param", "form"] ["self", "ways"] (defScope s_Copy_begun) := ⟨rfl, rfl, rfl, by decide +kernel, rfl, by decide +kernel, by decide +kernel⟩
theorem sc_Copy_ended : FnScope ["self", "step", "sort", "unit", "deed", "forms", "place", "to", "other"] ["self", "step"] (defScope s_Copy_ended) := ⟨rfl, rfl, rfl, by decide +kernel, rfl, by decide +kernel, by decide +kernel⟩
theorem sc_Copy_led : FnScope ["self", "step", "word", "rest", "pairs", "unit", "deed", "forms", "place", "to", "other", "told", "form", "name"] ["self", "step"] (defScope s_Copy_led) := ⟨rfl, rfl, rfl, by decide +kernel, rfl, by decide +kernel, by decide +kernel⟩
def askTo (unit : Str) : Step → Bool
  | .ask u _ _ _ _ _ => decide (V.str u = V.str unit)
  | _ => false
def asksOf (unit : Str) (steps : List Step) : List Nat := (steps.zipIdx.filter fun q => askTo unit q.1).map (·.2)
def F_asks_of (C : Addr) : List Dat → Dat → Prop := fun ds d => ∃ sites steps p unit, ds = [flowD C sites steps p, .str unit] ∧ steps.length ≤ 10000 ∧ d = .lst (natsD (asksOf unit steps))
def calledS (u s : Str) : Str := if s = "" then "" else [u, ".", s].foldl (· ++ ·) Str.empty
def F_called_so : List Dat → Dat → Prop := fun ds d => ∃ u s : Str, ds = [.str u, .str s] ∧ u.length + s.length ≤ 1000 ∧ d = .str (calledS u s)
def F_form_called : List Dat → Dat → Prop := fun ds d => ∃ (u : Str) (n : Int), ds = [.str u, formD n] ∧ d = formD n
def copyD (C : Addr) (unit : Str) (ask : Step) (ahead : Int) : Dat := .ins C ["label", "asking", "ahead"] [.str unit, stepD ask, .int ahead]
def F_Copy___init__ : List Dat → List Dat → Prop := fun ds fs => ∃ a b c, ds = [a, b, c] ∧ fs = [a, b, c]
def F_Copy_number_of (C : Addr) : List Dat → Dat → Prop := fun ds d => ∃ unit ask ahead n, ds = [copyD C unit ask ahead, .int n] ∧ d = .int (ahead + n - 1)
def F_Copy_form (C : Addr) : List Dat → Dat → Prop := fun ds d => ∃ unit ask ahead n, ds = [copyD C unit ask ahead, formD n] ∧ d = formD n
/-- the first way that a deed has -/
def wayOf (deed : Str) (ways : List (Str × Nat × Int)) : Option (Str × Nat × Int) := ways.find? fun q => decide (V.str q.1 = V.str deed)
def F_Copy_begun (C : Addr) : List Dat → Dat → Prop := fun ds d => ∃ unit u e f p g o ahead ways w, ds = [copyD C unit (.ask u e f p g o) ahead, .tup (ways.map wayD)] ∧ ways.length ≤ 1000 ∧ wayOf e ways = some w ∧ w.2.1 ≤ 1000 ∧ f.length ≤ 1000 ∧ d = stepD (.move [] (ahead + w.2.2 - 1))
def F_Copy_ended (C : Addr) : List Dat → Dat → Prop := fun ds d => ∃ unit u e f p g o ahead n, ds = [copyD C unit (.ask u e f p g o) ahead, stepD (.done n)] ∧ d = stepD (.move (if p = "" then [] else [(p, n)]) g)
/-- a step of the other flow, as a copy tells it -/
def ledS (p : Str) (g ahead : Int) : Step → Step
  | .out n h => .out n (ahead + h - 1)
  | .done n => .move (if p = "" then [] else [(p, n)]) g
  | s => s
def plainS : Step → Bool
  | .out _ _ => true
  | .done _ => true
  | _ => false
def F_Copy_led (C : Addr) : List Dat → Dat → Prop := fun ds d => ∃ unit u e f p g o ahead s, ds = [copyD C unit (.ask u e f p g o) ahead, stepD s] ∧ plainS s = true ∧ d = stepD (ledS p g ahead s)
section
variable {P : Program} {w : World} {K : PySem.W.Frag} {mg : Str → Option Value} {base : Heap} {A : Ad}
theorem ok_asks_of (T : Tx K w mg A) : FnOk P w K mg base CX0 2 A.f_asks_of A.d_asks_of ["flow", "unit"] (spF K (F_asks_of A.C_Flow)) := by
  refine pure_ok T.F_asks_of sc_asks_of (fun ds d h => by obtain ⟨_, _, _, _, rfl, _⟩ := h; rfl) (fun cdv Ar outer s H E hr => ⟨_, (pss_one (ps_ret (pe_lc (own := [("at", 2), ("step", 3)]) (g := (gTup K 2 (gCons (gName 2) (gCons (gName 3) gNil)))) (by rfl) sc_asks_of.nd (Ru.pi_enumT rfl T.n_enumerate (pa_cons (pe_meth0 (pv 0) T.c_Flow T.m_Flow_steps (ok_Flow_steps T) (hr.mono (by decide)) T.b_Flow_steps .nil pass0) pa_nil)) (blkOk_by (N := ["flow", "unit", "at", "step"]) (sc := defScope s_asks_of) (by decide +kernel))
    (fun _ _ _ _ _ => (pg_tup rfl (pgs_cons (pg_name (i := 2) sc_asks_of.nd rfl (Or.inl rfl)) (pgs_cons (pg_name (i := 3) sc_asks_of.nd rfl (Or.inl rfl)) pgs_nil)))) (fun _ _ _ _ _ => pts_one (PW.pt (pw_and (pt_cmpR op_eq (pe_ix (r := rIx K) ix_seq (pv 3) pe_int (fun _ _ => rfl)) pe_str (nomark _)) (pw_and1 (pt_cmpR op_eq (pe_ix (r := rIx K) ix_seq (pv 3) pe_int (fun _ _ => rfl)) (pv 1) (nomark _)))))) (fun _ _ _ _ _ => (pv 2))))), fun ds d h => ?_⟩)
  obtain ⟨sites, steps, p, unit, rfl, hz, rfl⟩ := h
  refine ds_ret (Den.is (dl_lc steps.zipIdx (fun q => .tup [.int (q.2 : Nat), stepD q.1]) (fun q => askTo unit q.1) (fun q => .int (q.2 : Nat)) (fun q => [some (flowD A.C_Flow sites steps p), some (.str unit), some (.int (q.2 : Nat)), some (stepD q.1)])
    (DenI.is (di_enumT (da_cons (den_meth (xs := []) (den_var rfl) rfl da_nil ⟨sites, steps, p, rfl, rfl⟩) da_nil)) (enum_map steps stepD)) (by simp; omega) (fun q _ => dg_tup (dgs_cons dg_name (dgs_cons dg_name dgs_nil)) rfl) (fun q _ => dts_one ?_) (fun q _ _ => den_var rfl)).den ?_)
  · cases hq : q.1 with
    | ask u e f p g o => exact DenT.is (dt_and (b := true) (DenT.is (dt_test (den_op (den_op (den_var rfl) den_c (rd_ixUT (ati 0 rfl))) den_c (rd_eq rfl))) rfl) fun _ => dt_test (den_op (den_op (den_var rfl) den_c (rd_ixUT (ati 1 rfl))) (den_var rfl) (rd_eq rfl))) rfl
    | serve ways => exact DenT.is (dt_and (b := false) (c := false) (DenT.is (dt_test (den_op (den_op (den_var rfl) den_c (rd_ixUT (ati 0 rfl))) den_c (rd_eq rfl))) rfl) fun z => nomatch z) rfl
    | move a b => exact DenT.is (dt_and (b := false) (c := false) (DenT.is (dt_test (den_op (den_op (den_var rfl) den_c (rd_ixUT (ati 0 rfl))) den_c (rd_eq rfl))) rfl) fun z => nomatch z) rfl
    | out a b => exact DenT.is (dt_and (b := false) (c := false) (DenT.is (dt_test (den_op (den_op (den_var rfl) den_c (rd_ixUT (ati 0 rfl))) den_c (rd_eq rfl))) rfl) fun z => nomatch z) rfl
    | done a => exact DenT.is (dt_and (b := false) (c := false) (DenT.is (dt_test (den_op (den_op (den_var rfl) den_c (rd_ixUT (ati 0 rfl))) den_c (rd_eq rfl))) rfl) fun z => nomatch z) rfl
  · unfold natsD asksOf
    rw [List.map_map]
    rfl
theorem ok_called_so (T : Tx K w mg A) : FnOk P w K mg base CX0 1 A.f_called_so A.d_called_so ["unit", "place"] (spF K F_called_so) := by
  refine pure_ok T.F_called_so sc_called_so (fun ds d h => by obtain ⟨_, _, rfl, _⟩ := h; rfl) (fun cdv Ar outer s H E hr => ⟨_, (pss_one (ps_ret (pe_ifExp (pt_cmpR op_ne (pv 1) pe_str (nomark _)) (pe_joined (PJ.cons (pe_fmt (pv 0)) (PJ.cons pe_str (PJ.cons (pe_fmt (pv 1)) PJ.nil)))) pe_str))), fun ds d h => ?_⟩)
  obtain ⟨u, z, rfl, hz, rfl⟩ := h
  refine ds_ret (den_if (b := !decide (V.str z = V.str "")) (dt_test (den_op (den_var rfl) den_c (rd_ne rfl))) (fun q => ?_) fun q => ?_)
  · have hne : z ≠ "" := fun e => by simp [e] at q
    refine Den.is (den_joined (dj_cons (den_fmt (den_var rfl) (by omega)) (dj_cons den_c (dj_cons (den_fmt (den_var rfl) (by omega)) dj_nil))) ?_) ?_
    · have : (Str.length ".") = 1 := by decide +kernel
      simp [this]
      omega
    · unfold calledS
      rw [if_neg hne]
  · have he : z = "" := by simpa using q
    refine Den.is den_c ?_
    unfold calledS
    rw [if_pos he]
theorem ok_form_called (T : Tx K w mg A) : FnOk P w K mg base CX0 2 A.f_form_called A.d_form_called ["unit", "form"] (spF K F_form_called) := by
  refine pure_ok T.F_form_called sc_form_called (fun ds d h => by obtain ⟨_, _, rfl, _⟩ := h; rfl) (fun cdv Ar outer s H E hr => ⟨_, (pss_cons (ps_asg (pv 1) (pg_tup rfl (pgs_cons (pg_name (i := 2) sc_form_called.nd rfl (Or.inl rfl)) (pgs_cons (pg_name (i := 3) sc_form_called.nd rfl (Or.inl rfl)) pgs_nil))))
  (pss_one (ps_ret (pe_tup (pa_cons (pv 2) (pa_cons (pe_callTy (r := Dn.rTupOf K) call_tuple_of (by rfl) T.n_tuple (by decide +kernel) (pa_cons (pe_lc (own := [("place", 4), ("times", 5)]) (g := (gTup K 2 (gCons (gName 4) (gCons (gName 5) gNil)))) (by rfl) sc_form_called.nd (Dn.pi_seq (pv 3)) (blkOk_by (N := ["unit", "form", "number", "terms", "place", "times"]) (sc := defScope s_form_called) (by decide +kernel))
    (fun _ _ _ _ _ => (pg_tup rfl (pgs_cons (pg_name (i := 4) sc_form_called.nd rfl (Or.inl rfl)) (pgs_cons (pg_name (i := 5) sc_form_called.nd rfl (Or.inl rfl)) pgs_nil)))) (fun _ _ _ _ _ => pts_nil) (fun _ _ _ _ _ => Dn.pe_nev)) pa_nil)) pa_nil)))))), fun ds d h => ?_⟩)
  obtain ⟨u, n, rfl, rfl⟩ := h
  refine ds_seq (ds_asg (den_var rfl) (dg_tup (dgs_cons dg_name (dgs_cons dg_name dgs_nil)) rfl)) (ds_ret ?_)
  exact den_tup (da_cons (den_var rfl) (da_cons (den_cb (da_cons (dl_lcA (α := Dat) [] id id (fun _ => []) (js := []) (di_2 (di_tup (den_var rfl))) (by decide) (fun a h => nomatch h) (fun a h => nomatch h) (fun a h => nomatch h)).den da_nil) rc_tupL) da_nil)) (by show 2 ≤ 100000; decide)
theorem ok_Copy___init__ (T : Tx K w mg A) : FnOk P w K mg base CX0 1 A.f_Copy___init__ A.d_Copy___init__ ["self", "unit", "ask", "ahead"] (spI K A.C_Copy ["label", "asking", "ahead"] F_Copy___init__) := by
  refine init_ok T.F_Copy___init__ sc_Copy___init__ (fun ds d h => by obtain ⟨a, b, c, rfl, _⟩ := h; rfl) (fun cdv Ar outer s H E hr => ⟨_, (pss_cons (ps_fld (pv 0) (pv 1) rfl)
  (pss_cons (ps_fld (pv 0) (pv 2) rfl)
  (pss_one (ps_fld (pv 0) (pv 3) rfl)))), fun ds d h => ?_⟩)
  obtain ⟨a, b, c, rfl, rfl⟩ := h
  exact ini_seq (ini_fld T.c_Copy T.a_Copy_label (den_var rfl) rfl (by decide)) (ini_seq (ini_fld T.c_Copy T.a_Copy_asking (den_var rfl) (by decide) (by decide)) (ini_fld T.c_Copy T.a_Copy_ahead (den_var rfl) (by decide) (by decide)))
theorem ok_Copy_number_of (T : Tx K w mg A) : FnOk P w K mg base CX0 1 A.f_Copy_number_of A.d_Copy_number_of ["self", "at"] (spF K (F_Copy_number_of A.C_Copy)) := by
  refine pure_ok T.F_Copy_number_of sc_Copy_number_of (fun ds d h => by obtain ⟨_, _, _, _, rfl, _⟩ := h; rfl) (fun cdv Ar outer s H E hr => ⟨_, (pss_one (ps_ret (pe_op op_sub (pe_op op_add (Dn.pe_fldK (K := K) rfl (pv 0) rfl) (pv 1)) pe_int))), fun ds d h => ?_⟩)
  obtain ⟨unit, ask, ahead, n, rfl, rfl⟩ := h
  exact ds_ret (den_op (den_op (den_fld (den_var rfl) T.c_Copy T.a_Copy_ahead rfl) (den_var rfl) rd_I0) den_c rd_I0)
theorem ok_Copy_form (T : Tx K w mg A) : FnOk P w K mg base CX0 3 A.f_Copy_form A.d_Copy_form ["self", "form"] (spF K (F_Copy_form A.C_Copy)) := by
  refine pure_ok T.F_Copy_form sc_Copy_form (fun ds d h => by obtain ⟨_, _, _, _, rfl, _⟩ := h; rfl) (fun cdv Ar outer s H E hr => ⟨_, (pss_one (ps_ret (pe_call (ok_form_called T) (hr.mono (by decide)) rfl T.g_form_called T.F_form_called.kp T.b_form_called .nil pass0 (pa_cons (Dn.pe_fldK (K := K) rfl (pv 0) rfl) (pa_cons (pv 1) pa_nil))))), fun ds d h => ?_⟩)
  obtain ⟨unit, ask, ahead, n, rfl, rfl⟩ := h
  exact ds_ret (den_call (da_cons (den_fld (den_var rfl) T.c_Copy T.a_Copy_label rfl) (da_cons (den_var rfl) da_nil)) ⟨unit, n, rfl, rfl⟩)
theorem ok_Copy_ended (T : Tx K w mg A) : FnOk P w K mg base CX0 4 A.f_Copy_ended A.d_Copy_ended ["self", "step"] (spF K (F_Copy_ended A.C_Copy)) := by
  refine pure_ok T.F_Copy_ended sc_Copy_ended (fun ds d h => by obtain ⟨_, _, _, _, _, _, _, _, _, rfl, _⟩ := h; rfl) (fun cdv Ar outer s H E hr => ⟨_, (pss_cons (ps_asg (Dn.pe_fldK (K := K) rfl (pv 0) rfl) (pg_tup rfl (pgs_cons (pg_name (i := 2) sc_Copy_ended.nd rfl (Or.inl rfl)) (pgs_cons (pg_name (i := 3) sc_Copy_ended.nd rfl (Or.inl rfl)) (pgs_cons (pg_name (i := 4) sc_Copy_ended.nd rfl (Or.inl rfl)) (pgs_cons (pg_name (i := 5) sc_Copy_ended.nd rfl (Or.inl rfl)) (pgs_cons (pg_name (i := 6) sc_Copy_ended.nd rfl (Or.inl rfl)) (pgs_cons (pg_name (i := 7) sc_Copy_ended.nd rfl (Or.inl rfl)) (pgs_cons (pg_name (i := 8) sc_Copy_ended.nd rfl (Or.inl rfl)) pgs_nil)))))))))
  (pss_cons (ps_if (pt_cmpR op_eq (pe_ix (r := rIx K) ix_seq (pv 1) pe_int (fun _ _ => rfl)) pe_str (nomark _)) pss_never pss_nil)
  (pss_one (ps_ret (pe_tup (pa_cons (pe_glob (v := .str "move") rfl T.g_MOVE ⟨_, rfl⟩) (pa_cons (pe_ifExp (pt_cmpR op_ne (pv 6) pe_str (nomark _)) (pe_tup (pa_cons (pe_tup (pa_cons (pv 6) (pa_cons (pe_meth (pv 0) T.c_Copy T.m_Copy_form (ok_Copy_form T) (hr.mono (by decide)) T.b_Copy_form .nil pass0 (pa_cons (pe_ix (r := rIx K) ix_seq (pv 1) pe_int (fun _ _ => rfl)) pa_nil)) pa_nil))) pa_nil)) (pe_tup pa_nil)) (pa_cons (pv 7) pa_nil)))))))), fun ds d h => ?_⟩)
  obtain ⟨unit, u, e, f, p, g, o, ahead, n, rfl, rfl⟩ := h
  refine ds_seq (ds_asg (den_fld (d := stepD (.ask u e f p g o)) (den_var rfl) T.c_Copy T.a_Copy_asking rfl) (dg_tup (dgs_cons dg_name (dgs_cons dg_name (dgs_cons dg_name (dgs_cons dg_name (dgs_cons dg_name (dgs_cons dg_name (dgs_cons dg_name dgs_nil))))))) rfl)) ?_
  refine ds_seq (ds_no (DenT.is (dt_test (den_op (den_op (den_var rfl) den_c (rd_ixUT (ati 0 rfl))) den_c (rd_eq rfl))) rfl)) (ds_ret ?_)
  refine den_tup (xs := [.str "move", .tup ((if p = "" then [] else [(p, n)]).map pairD), .int g]) (da_cons den_c (da_cons (den_if (b := !decide (V.str p = V.str "")) (dt_test (den_op (den_var rfl) den_c (rd_ne rfl))) (fun q => ?_) fun q => ?_) (da_cons (den_var rfl) da_nil))) (by show 3 ≤ 100000; decide)
  · have hne : p ≠ "" := fun e => by simp [e] at q
    rw [if_neg hne]
    exact den_tup (da_cons (den_tup (da_cons (den_var rfl) (da_cons (den_meth (den_var rfl) rfl (da_cons (den_op (den_var rfl) den_c (rd_ixUT (ati 1 rfl))) da_nil) ⟨unit, _, ahead, n, rfl, rfl⟩) da_nil)) (by show 2 ≤ 100000; decide)) da_nil) (by show 1 ≤ 100000; decide)
  · have he : p = "" := by simpa using q
    rw [if_pos he]
    exact den_tup da_nil (Nat.zero_le _)
theorem zip_nos (k : Nat) : ∀ fs : List Dat, zipD (List.replicate k (.str "")) fs = (fs.take k).map fun d => .tup [.str "", d] := by
  induction k with
  | zero =>
    intro fs
    rfl
  | succ k ih =>
    intro fs
    cases fs with
    | nil => rfl
    | cons a fs =>
      have := ih fs
      unfold zipD at this ⊢
      rw [List.replicate_succ, List.zip_cons_cons, List.map_cons, this]
      rfl
theorem find_at0 {α β : Type} (p : α → Bool) (f : α → β) {xs : List α} {a : α} (h : xs.find? p = some a) : ((xs.filter p).map f)[0]? = some (f a) := by
  rw [List.getElem?_map, ← List.head?_eq_getElem?, List.head?_filter, h]
  rfl
theorem ok_Copy_begun (T : Tx K w mg A) : FnOk P w K mg base CX0 2 A.f_Copy_begun A.d_Copy_begun ["self", "ways"] (spF K (F_Copy_begun A.C_Copy)) := by
  refine pure_ok T.F_Copy_begun sc_Copy_begun (fun ds d h => by obtain ⟨_, _, _, _, _, _, _, _, _, _, rfl, _⟩ := h; rfl) (fun cdv Ar outer s H E hr => ⟨_, (pss_cons (ps_asg (Dn.pe_fldK (K := K) rfl (pv 0) rfl) (pg_tup rfl (pgs_cons (pg_name (i := 2) sc_Copy_begun.nd rfl (Or.inl rfl)) (pgs_cons (pg_name (i := 3) sc_Copy_begun.nd rfl (Or.inl rfl)) (pgs_cons (pg_name (i := 4) sc_Copy_begun.nd rfl (Or.inr rfl)) (pgs_cons (pg_name (i := 5) sc_Copy_begun.nd rfl (Or.inl rfl)) (pgs_cons (pg_name (i := 6) sc_Copy_begun.nd rfl (Or.inl rfl)) (pgs_cons (pg_name (i := 7) sc_Copy_begun.nd rfl (Or.inl rfl)) (pgs_cons (pg_name (i := 8) sc_Copy_begun.nd rfl (Or.inl rfl)) pgs_nil)))))))))
  (pss_cons (ps_asg (pe_ix (r := rIx K) ix_seq (pe_lc (own := [("word", 12), ("some", 13), ("begin", 14)]) (g := (gTup K 3 (gCons (gName 12) (gCons (gName 13) (gCons (gName 14) gNil))))) (by rfl) sc_Copy_begun.nd (Dn.pi_seq (pv 1)) (blkOk_by (N := ["self", "ways", "sort", "unit", "deed", "forms", "place", "to", "other", "params", "entry", "pairs", "word", "some", "begin", "param", "form"]) (sc := defScope s_Copy_begun) (by decide +kernel))
    (fun _ _ _ _ _ => (pg_tup rfl (pgs_cons (pg_name (i := 12) sc_Copy_begun.nd rfl (Or.inl rfl)) (pgs_cons (pg_name (i := 13) sc_Copy_begun.nd rfl (Or.inl rfl)) (pgs_cons (pg_name (i := 14) sc_Copy_begun.nd rfl (Or.inl rfl)) pgs_nil))))) (fun _ _ _ _ _ => pts_one (pt_cmpR op_eq (pv 12) (pv 4) (nomark _))) (fun _ _ _ _ _ => (pe_tup (pa_cons (pv 13) (pa_cons (pv 14) pa_nil))))) pe_int (fun _ _ => rfl)) (pg_tup rfl (pgs_cons (pg_name (i := 9) sc_Copy_begun.nd rfl (Or.inl rfl)) (pgs_cons (pg_name (i := 10) sc_Copy_begun.nd rfl (Or.inl rfl)) pgs_nil))))
  (pss_cons (ps_setLc (i := 11) (own := [("param", 15), ("form", 16)]) (g := (gTup K 2 (gCons (gName 15) (gCons (gName 16) gNil)))) (by rfl) sc_Copy_begun.nd rfl rfl (sw_true rfl rfl rfl (by decide +kernel)) (RZ.pi_zipA rfl T.n_zip (pa_cons (pv 9) (pa_cons (pv 5) pa_nil))) (blkOk_by (N := ["self", "ways", "sort", "unit", "deed", "forms", "place", "to", "other", "params", "entry", "pairs", "word", "some", "begin", "param", "form"]) (sc := defScope s_Copy_begun) (by decide +kernel))
    (fun _ _ _ _ _ => (pg_tup rfl (pgs_cons (pg_name (i := 15) sc_Copy_begun.nd rfl (Or.inl rfl)) (pgs_cons (pg_name (i := 16) sc_Copy_begun.nd rfl (Or.inl rfl)) pgs_nil)))) (fun _ _ _ _ _ => pts_one (pt_cmpR op_ne (pv 15) pe_str (nomark _))) (fun _ _ _ _ _ => Dn.pe_nev))
  (pss_one (ps_ret (pe_tup (pa_cons (pe_glob (v := .str "move") rfl T.g_MOVE ⟨_, rfl⟩) (pa_cons (pe_callTy (r := Dn.rTupOf K) call_tuple_of (by rfl) T.n_tuple (by decide +kernel) (pa_cons (pv 11) pa_nil)) (pa_cons (pe_meth (pv 0) T.c_Copy T.m_Copy_number_of (ok_Copy_number_of T) (hr.mono (by decide)) T.b_Copy_number_of .nil pass0 (pa_cons (pv 10) pa_nil)) pa_nil))))))))), fun ds d h => ?_⟩)
  obtain ⟨unit, u, e, f, p, g, o, ahead, ways, w, rfl, hw, hf, hk, hf2, rfl⟩ := h
  let sD := copyD A.C_Copy unit (.ask u e f p g o) ahead
  let wD : Dat := .tup (ways.map wayD)
  let fD : Dat := .tup (f.map formD)
  refine ds_seq (ds_asg (den_fld (d := stepD (.ask u e f p g o)) (den_var rfl) T.c_Copy T.a_Copy_asking rfl) (dg_tup (dgs_cons dg_name (dgs_cons dg_name (dgs_cons dg_name (dgs_cons dg_name (dgs_cons dg_name (dgs_cons dg_name (dgs_cons dg_name dgs_nil))))))) rfl)) ?_
  refine ds_seq (ds_asg (d := .tup [nosD w.2.1, .int w.2.2]) (den_op (dl_lc ways wayD (fun q => decide (V.str q.1 = V.str e)) (fun q => .tup [nosD q.2.1, .int q.2.2]) (fun q => [some sD, some wD, some (.str "ask"), some (.str u), some (.str e), some fD, some (.str p), some (.int g), some (.int o), none, none, none, some (.str q.1), some (nosD q.2.1), some (.int q.2.2), none, none])
    (di_2 (di_tup (den_var rfl))) (by omega) (fun q _ => dg_tup (dgs_cons dg_name (dgs_cons dg_name (dgs_cons dg_name dgs_nil))) rfl) (fun q _ => dts_one (dt_test (den_op (den_var rfl) (den_var rfl) (rd_eq rfl)))) (fun q _ _ => den_tup (da_cons (den_var rfl) (da_cons (den_var rfl) da_nil)) (by show 2 ≤ 100000; decide))).den den_c (rd_ixUL (ati 0 (find_at0 _ _ hf)))) (dg_tup (dgs_cons dg_name (dgs_cons dg_name dgs_nil)) rfl)) ?_
  refine ds_seq (ds_set (d := .lst []) (Den.is (dl_lc ((f.map formD).take w.2.1) (fun d => .tup [.str "", d]) (fun _ => false) (fun d => d) (fun d => [some sD, some wD, some (.str "ask"), some (.str u), some (.str e), some fD, some (.str p), some (.int g), some (.int o), some (nosD w.2.1), some (.int w.2.2), none, none, none, none, some (.str ""), some d])
    (DenI.is (di_zipT (da_cons (den_var rfl) (da_cons (den_var rfl) da_nil))) (zip_nos _ _)) (by rw [List.length_take, List.length_map]; omega) (fun q _ => dg_tup (dgs_cons dg_name (dgs_cons dg_name dgs_nil)) rfl) (fun q _ => dts_one (DenT.is (dt_test (den_op (den_var rfl) den_c (rd_ne rfl))) rfl)) (fun q _ z => nomatch z)).den (by simp))) ?_
  exact ds_ret (den_tup (da_cons den_c (da_cons (den_cb (da_cons (den_var rfl) da_nil) rc_tupL) (da_cons (den_meth (den_var rfl) rfl (da_cons (den_var rfl) da_nil) ⟨unit, _, ahead, w.2.2, rfl, rfl⟩) da_nil))) (by show 3 ≤ 100000; decide))
theorem ok_Copy_led (T : Tx K w mg A) : FnOk P w K mg base CX0 5 A.f_Copy_led A.d_Copy_led ["self", "step"] (spF K (F_Copy_led A.C_Copy)) := by
  refine pure_ok T.F_Copy_led sc_Copy_led (fun ds d h => by obtain ⟨_, _, _, _, _, _, _, _, _, rfl, _⟩ := h; rfl) (fun cdv Ar outer s H E hr => ⟨_, (pss_cons (ps_asg (pv 1) (Ru.pg_star (i := 1) (n := 2) rfl (pgs_cons (pg_name (i := 2) sc_Copy_led.nd rfl (Or.inl rfl)) (Ru.pgs_starred (pg_name (i := 3) sc_Copy_led.nd rfl (Or.inl rfl)) pgs_nil))))
  (pss_cons (ps_if (pt_cmpR (r := Ru.rInT K false) (Ru.op_inT (Dn.hu65 hr)) (pv 2) (pe_tup (pa_cons pe_str (pa_cons pe_str pa_nil))) rfl) (pss_one (ps_ret (pe_meth (pv 0) T.c_Copy T.m_Copy_ended (ok_Copy_ended T) (hr.mono (by decide)) T.b_Copy_ended .nil pass0 (pa_cons (pv 1) pa_nil)))) pss_nil)
  (pss_cons (ps_if (pt_cmpR op_eq (pv 2) (pe_glob (v := .str "move") rfl T.g_MOVE ⟨_, rfl⟩) (nomark _)) pss_never pss_nil)
  (pss_cons (ps_if (pt_cmpR op_eq (pv 2) pe_str (nomark _)) pss_never pss_nil)
  (pss_cons (ps_if (pt_cmpR op_eq (pv 2) pe_str (nomark _)) pss_never pss_nil)
  (pss_cons (ps_if (pt_cmpR op_eq (pv 2) pe_str (nomark _)) (pss_one (ps_ret (pe_tup (pa_cons (pv 2) (pa_cons (pe_meth (pv 0) T.c_Copy T.m_Copy_form (ok_Copy_form T) (hr.mono (by decide)) T.b_Copy_form .nil pass0 (pa_cons (pe_ix (r := rIx K) ix_seq (pv 3) pe_int (fun _ _ => rfl)) pa_nil)) (pa_cons (pe_meth (pv 0) T.c_Copy T.m_Copy_number_of (ok_Copy_number_of T) (hr.mono (by decide)) T.b_Copy_number_of .nil pass0 (pa_cons (pe_ix (r := rIx K) ix_seq (pv 3) pe_int (fun _ _ => rfl)) pa_nil)) pa_nil)))))) pss_nil)
  pss_never)))))), fun ds d h => ?_⟩)
  obtain ⟨unit, u, e, f, p, g, o, ahead, s, rfl, hs, rfl⟩ := h
  cases s with
  | serve ways => cases hs
  | move a b => cases hs
  | ask a b c d e f => cases hs
  | done n =>
    refine ds_seq (ds_asg (den_var rfl) (dg_star (dgs_cons dg_name (dgs_cons dg_name dgs_nil)) (by simp [stepL]))) ?_
    exact ds_seqR (ds_if (b := true) (DenT.is (dt_test (den_op (den_var rfl) (den_tup (da_cons den_c (da_cons den_c da_nil)) (by decide)) (rd_inT (.str _) (.tup (.cons (.str _) (.cons (.str _) .nil))) (by decide +kernel) (by decide +kernel)))) rfl)
      (fun _ => ds_ret (den_meth (den_var rfl) rfl (da_cons (den_var rfl) da_nil) ⟨unit, u, e, f, p, g, o, ahead, n, rfl, rfl⟩)) fun q => nomatch q)
  | out n h =>
    refine ds_seq (ds_asg (den_var rfl) (dg_star (dgs_cons dg_name (dgs_cons dg_name dgs_nil)) (by simp [stepL]))) ?_
    refine ds_seq (ds_no (DenT.is (dt_test (den_op (den_var rfl) (den_tup (da_cons den_c (da_cons den_c da_nil)) (by decide)) (rd_inT (.str _) (.tup (.cons (.str _) (.cons (.str _) .nil))) (by decide +kernel) (by decide +kernel)))) rfl)) ?_
    refine ds_seq (ds_no (DenT.is (dt_test (den_op (den_var rfl) den_c (rd_eq rfl))) rfl)) ?_
    refine ds_seq (ds_no (DenT.is (dt_test (den_op (den_var rfl) den_c (rd_eq rfl))) rfl)) ?_
    refine ds_seq (ds_no (DenT.is (dt_test (den_op (den_var rfl) den_c (rd_eq rfl))) rfl)) ?_
    refine ds_seqR (ds_if (b := true) (DenT.is (dt_test (den_op (den_var rfl) den_c (rd_eq rfl))) rfl) (fun _ => ds_ret ?_) fun q => nomatch q)
    exact den_tup (da_cons (den_var rfl) (da_cons (den_meth (den_var rfl) rfl (da_cons (den_op (den_var rfl) den_c (rd_ixUL (ati 0 rfl))) da_nil) ⟨unit, _, ahead, n, rfl, rfl⟩) (da_cons (den_meth (den_var rfl) rfl (da_cons (den_op (den_var rfl) den_c (rd_ixUL (ati 1 rfl))) da_nil) ⟨unit, _, ahead, h, rfl, rfl⟩) da_nil))) (by show 3 ≤ 100000; decide)
end
end K56
set_option Elab.async false
set_option linter.all false
set_option maxRecDepth 100000
set_option maxHeartbeats 4000000
set_option pp.maxSteps 400
set_option pp.deepTerms false
/-! Kh: what is asked of two flows that are to be linked. -/
namespace K56
open PySem L2 Dn
open Evl (Ex fresh_back)
theorem sc_need_linked : FnScope ["flow", "unit", "other", "asks", "at", "sort", "name", "deed", "forms", "rest", "places", "place"] ["flow", "unit", "other"] (defScope s_need_linked) := ⟨rfl, rfl, rfl, by decide +kernel, rfl, by decide +kernel, by decide +kernel⟩
/-! ### runs of parts within a def that may raise -/
section
variable {K : PySem.W.Frag} {ρ : DSt} {te : TE} {tt : TT} {t u : TS} {d : Dat} {ds : List Dat} {b : Bool}
theorem next_run {σ : L2.St} {H : Hp} {D : Ends} (h : D.nx σ H) : tNext D σ H := h
theorem if_run {σ : L2.St} {G H : Hp} {D : Ends} (h : DenT K tt ρ b) (i : Ex G H) (e : EnvD K G σ ρ) (h1 : b = true → ∀ G1 H1, Fr G H G1 H1 → t D σ H1) (h2 : b = false → ∀ G1 H1, Fr G H G1 H1 → u D σ H1) : tIfS tt t u D σ H := h σ G H _ i e fun G1 H1 f => by
  cases b with
  | true =>
    show t D σ H1
    exact h1 rfl G1 H1 f
  | false =>
    show u D σ H1
    exact h2 rfl G1 H1 f
theorem den_lenI {C : Addr} {ns : List Str} {n : Int} {F : List Dat → Dat → Prop} (h : Den K te ρ (.ins C ns ds)) (hf : F [.ins C ns ds] (.int n)) (h0 : 0 ≤ n ∧ n < 2 ^ 63) : Den K (tCB (Ru.rLenI C (spF K F)) (tCons te tNil)) ρ (.int n) := fun σ G H Q i e k => h σ G H _ i e fun v G1 H1 f1 r1 => by
  cases id r1 with
  | ins a b c => exact ⟨_, _, _, rfl, f1.i _ _ a, G1, _, _, f1.i, .cons r1 .nil, hf, fun v G2 H2 f2 r2 => ⟨n, rep_s r2, h0, k v G2 H2 (f1.trans f2) r2⟩⟩
theorem rd_inFlat {neg : Bool} {s : Str} {xs : List Str} : RD K (rIn K neg) (.str s) (.tup (xs.map fun x => .str x)) (.bl (if neg then !(decide (s ∈ xs)) else decide (s ∈ xs))) := fun G H Q vx vy e rx ry k => by
  obtain rfl := rep_s rx
  cases ry with
  | tup a ra =>
    have z := repAll_s (ws := xs.map V.str) (by rw [List.map_map]; exact ra)
    subst z
    have hv : inV (.str s) (xs.map V.str) = decide (s ∈ xs) := by
      unfold inV
      rw [List.any_map]
      refine (Bool.eq_iff_iff.mpr ?_)
      rw [List.any_eq_true, decide_eq_true_iff]
      constructor
      · rintro ⟨y, hy, q⟩
        have : y = s := by simpa [eqV] using q
        exact this ▸ hy
      · intro hs
        exact ⟨s, hs, by simp [eqV]⟩
    refine ⟨_, _, rfl, .inr (Evl.ex_t e a), rfl, ?_, ?_⟩
    · rw [List.all_map, List.all_eq_true]
      intro x _
      rfl
    · rw [hv]
      exact k _ G H (Fr.refl e) (.s _)
end
/-! ### the plain answer -/
def noDeed (ways : List (Str × Nat × Int)) (e : Str) (k : Nat) : Bool := !(ways.any fun q => decide (q.1 = e) && decide (q.2.1 = k))
def badAsk (ways : List (Str × Nat × Int)) : Step → Bool
  | .ask _ e f _ _ _ => noDeed ways e f.length
  | _ => false
def waysOf : List Step → List (Str × Nat × Int)
  | .serve ways :: _ => ways
  | _ => []
def calledL (unit : Str) (sites : List Str) : List Str := sites.map (calledS unit)
/-- none: linked; true: no pair; false: too many -/
def linkVer (unit : Str) (sN : List Str) (tN : List Step) (p : Int) (sF : List Str) (tF : List Step) (q : Int) : Option Bool :=
  if p ≠ q then some true
  else if (tN.filter (askTo unit)).any (badAsk (waysOf tF)) then some true
  else if (calledL unit sF).any (fun s => decide (s ∈ sN)) then some true
  else if (calledL unit sF).any (fun s => decide (40 < s.length)) || decide (100 < sF.length + sN.length) then some false
  else if 10000 < tN.length + (tN.filter (askTo unit)).length * tF.length then some false
  else none
theorem asksOf_len (unit : Str) (tN : List Step) : (asksOf unit tN).length = (tN.filter (askTo unit)).length := by
  unfold asksOf
  rw [List.length_map]
  have h : ∀ (xs : List Step) (k : Nat), ((xs.zipIdx k).filter fun q => askTo unit q.1).length = (xs.filter (askTo unit)).length := by
    intro xs
    induction xs with
    | nil => intro k; rfl
    | cons a xs ih =>
      intro k
      rw [List.zipIdx_cons, List.filter_cons, List.filter_cons]
      cases h : askTo unit a <;> simp [ih]
  exact h tN 0
theorem asksOf_mem {unit : Str} {tN : List Step} {at_ : Nat} (h : at_ ∈ asksOf unit tN) : ∃ s, tN[at_]? = some s ∧ askTo unit s = true := by
  unfold asksOf at h
  obtain ⟨q, hq, rfl⟩ := List.mem_map.mp h
  obtain ⟨h1, h2⟩ := List.mem_filter.mp hq
  exact ⟨q.1, List.mem_zipIdx_iff_getElem?.mp h1, h2⟩
theorem asksOf_has {unit : Str} {tN : List Step} {s : Step} (h : s ∈ tN) (ha : askTo unit s = true) : ∃ at_, at_ ∈ asksOf unit tN ∧ tN[at_]? = some s := by
  obtain ⟨i, hi⟩ := List.getElem?_of_mem h
  exact ⟨i, List.mem_map.mpr ⟨(s, i), List.mem_filter.mpr ⟨List.mem_zipIdx_iff_getElem?.mpr hi, ha⟩, rfl⟩, hi⟩
theorem letter_small {c : Nat} (h : placeC c = true) : c < 1114112 := by
  have h1 : ∀ x ∈ letterS.cps.toList, x < 1114112 := by decide +kernel
  have h2 : ∀ x ∈ figureS.cps.toList, x < 1114112 := by decide +kernel
  have h3 : ∀ x ∈ (Str.cps ".").toList, x < 1114112 := by decide +kernel
  unfold placeC at h
  rw [Bool.or_eq_true, Bool.or_eq_true] at h
  rcases h with h | h | h
  · exact h1 c (of_decide_eq_true h)
  · exact h2 c (of_decide_eq_true h)
  · have e := of_decide_eq_true h
    refine h3 c ?_
    rw [← e]
    simp
theorem name_place {s : Str} (h : nameOk s) : s.cps.toList.all placeC = true := by
  refine List.all_eq_true.mpr fun c hc => ?_
  have := List.all_eq_true.mp h.2.2 c hc
  unfold placeC
  unfold letterC at this
  rw [this]
  rfl
theorem strOk_of {s : Str} (h : s.cps.toList.all placeC = true) : PyData.strOk s = true := by
  unfold PyData.strOk
  rw [← Array.all_toList]
  refine List.all_eq_true.mpr fun c hc => ?_
  have := letter_small (List.all_eq_true.mp h c hc)
  simpa using this
theorem calledS_len (u s : Str) : (calledS u s).length ≤ u.length + s.length + 1 := by
  unfold calledS
  by_cases h : s = ""
  · rw [if_pos h]
    exact Nat.zero_le _
  · rw [if_neg h]
    show (((Array.mkEmpty 0 ++ u.cps) ++ (Str.cps ".")) ++ s.cps).size ≤ _
    have : (Str.cps ".").size = 1 := by decide +kernel
    simp [Array.size_append, this, Str.length]
    omega
theorem deeds_py (ways : List (Str × Nat × Int)) : Py (deedsD ways) (.tuple (ways.map fun q => .tuple [.str q.1, .int (q.2.1 : Nat)])) := .tup (PyAll.map (fun q => .tup (.cons (.str _) (.cons (.int _) .nil))) ways)
theorem deeds_any (ways : List (Str × Nat × Int)) (e : Str) (k : Nat) : ((ways.map fun q => PyData.tuple [.str q.1, .int (q.2.1 : Nat)]).any fun z => PyData.eqv z (.tuple [.str e, .int (k : Nat)])) = ways.any fun q => decide (q.1 = e) && decide (q.2.1 = k) := by
  rw [List.any_map]
  congr 1
  funext q
  have h1 : (q.1 == e) = decide (q.1 = e) := Bool.eq_iff_iff.mpr (by simp)
  have h2 : (((q.2.1 : Nat) : Int) == ((k : Nat) : Int)) = decide (q.2.1 = k) := Bool.eq_iff_iff.mpr (by simp; omega)
  show PyData.eqv (.tuple [.str q.1, .int (q.2.1 : Nat)]) (.tuple [.str e, .int (k : Nat)]) = _
  simp only [PyData.eqv, PyData.eqvAll, Bool.and_true]
  rw [h1, h2]
structure LinkIn (unit : Str) (sN : List Str) (tN : List Step) (p : Int) (sF : List Str) (tF : List Step) (q : Int) : Prop where
  near : FlowOk sN tN p
  far : FlowOk sF tF q
  unit : nameOk unit
def spNeed (K : PySem.W.Frag) (A : Ad) : Sp := fun vs H Q E => ∃ (G : Hp) (unit : Str) (sN : List Str) (tN : List Step) (p : Int) (sF : List Str) (tF : List Step) (q : Int), Ex G H ∧ RepAll K G vs [flowD A.C_Flow sN tN p, .str unit, flowD A.C_Flow sF tF q] ∧ LinkIn unit sN tN p sF tF q ∧
  (linkVer unit sN tN p sF tF q = none → ∀ G' H', Fr G H G' H' → Q .non H') ∧ (linkVer unit sN tN p sF tF q = some true → ∀ G' H', Fr G H G' H' → E (.ref A.C_NoPair) none H') ∧
  (linkVer unit sN tN p sF tF q = some false → ∀ G' H', Fr G H G' H' → E (.ref A.C_TooMany) none H')
section
variable {P : Program} {w : World} {K : PySem.W.Frag} {mg : Str → Option Value} {base : Heap} {A : Ad}
theorem ok_need_linked (T : Tx K w mg A) : FnOk P w K mg base (L2.CX P w) 3 A.f_need_linked A.d_need_linked ["flow", "unit", "other"] (spNeed K A) := by
  refine T.F_need_linked.okX sc_need_linked (fun vs H Q E h => ?_) (fun cdv Ar outer s H vs Q E hr h => ?_)
  · obtain ⟨G, unit, sN, tN, p, sF, tF, q, _, r, _⟩ := h
    rw [r.len]
    rfl
  obtain ⟨G, unit, sN, tN, p, sF, tF, q, i0, r, L, kok, kpair, kmany⟩ := h
  refine ⟨_, (pss_cons (ps_if (pt_cmpR op_ne (pe_meth0 (pv 0) T.c_Flow T.m_Flow_prime (ok_Flow_prime T) (hr.mono (by decide)) T.b_Flow_prime .nil pass0) (pe_meth0 (pv 2) T.c_Flow T.m_Flow_prime (ok_Flow_prime T) (hr.mono (by decide)) T.b_Flow_prime .nil pass0) (nomark _)) (pss_one (ps_raise rfl (takes_of rfl rfl rfl rfl) (pmk_own PySem.F.excBase_ValueError T.x_NoPair T.g_NoPair T.kp_NoPair (raises_own T.sb_NoPair T.ty_NoPair) rfl))) pss_nil)
  (pss_cons (ps_set (i := 3) sc_need_linked.nd rfl (Or.inl rfl) (pe_call (ok_asks_of T) (hr.mono (by decide)) rfl T.g_asks_of T.F_asks_of.kp T.b_asks_of .nil pass0 (pa_cons (pv 0) (pa_cons (pv 1) pa_nil))))
  (pss_cons (ps_for (passes_of rfl) rfl (Dn.pi_seq (pv 3)) (pg_name (i := 4) sc_need_linked.nd rfl (Or.inl rfl))
  (pss_cons (ps_asg (pe_ix (r := rIx K) ix_seq (pe_meth0 (pv 0) T.c_Flow T.m_Flow_steps (ok_Flow_steps T) (hr.mono (by decide)) T.b_Flow_steps .nil pass0) (pv 4) (fun _ _ => rfl)) (Ru.pg_star (i := 4) (n := 5) rfl (pgs_cons (pg_name (i := 5) sc_need_linked.nd rfl (Or.inl rfl)) (pgs_cons (pg_name (i := 6) sc_need_linked.nd rfl (Or.inl rfl)) (pgs_cons (pg_name (i := 7) sc_need_linked.nd rfl (Or.inl rfl)) (pgs_cons (pg_name (i := 8) sc_need_linked.nd rfl (Or.inl rfl)) (Ru.pgs_starred (pg_name (i := 9) sc_need_linked.nd rfl (Or.inl rfl)) pgs_nil)))))))
  (pss_one (ps_if (pt_cmpR (r := Ru.rInT K true) (Ru.op_notInT (Dn.hu65 hr)) (pe_tup (pa_cons (pv 7) (pa_cons (pe_callB (r := Dn.rLenU K) Dn.call_lenU (by rfl) T.n_len (by decide +kernel) (pa_cons (pv 8) pa_nil)) pa_nil))) (pe_meth0 (pv 2) T.c_Flow T.m_Flow_deeds (ok_Flow_deeds T) (hr.mono (by decide)) T.b_Flow_deeds .nil pass0) rfl) (pss_one (ps_raise rfl (takes_of rfl rfl rfl rfl) (pmk_own PySem.F.excBase_ValueError T.x_NoPair T.g_NoPair T.kp_NoPair (raises_own T.sb_NoPair T.ty_NoPair) rfl))) pss_nil))))
  (pss_cons (ps_setLc (i := 10) (own := [("place", 11)]) (g := (gName 11)) (by rfl) sc_need_linked.nd rfl rfl (sw_true rfl rfl rfl (by decide +kernel)) (Dn.pi_seq (pe_meth0 (pv 2) T.c_Flow T.m_Flow_places (ok_Flow_places T) (hr.mono (by decide)) T.b_Flow_places .nil pass0)) (blkOk_by (N := ["flow", "unit", "other", "asks", "at", "sort", "name", "deed", "forms", "rest", "places", "place"]) (sc := defScope s_need_linked) (by decide +kernel))
    (fun _ _ _ _ _ => (pg_name (i := 11) sc_need_linked.nd rfl (Or.inl rfl))) (fun _ _ _ _ _ => pts_nil) (fun _ _ _ _ _ => (pe_call (ok_called_so T) (hr.mono (by decide)) rfl T.g_called_so T.F_called_so.kp T.b_called_so .nil pass0 (pa_cons (pv 1) (pa_cons (pv 11) pa_nil)))))
  (pss_cons (ps_if (pt_val (pe_callB (r := rAny K) (cr_any rfl) (by rfl) T.n_any (by decide +kernel) (pa_cons (pe_lc (own := [("place", 11)]) (g := (gName 11)) (by rfl) sc_need_linked.nd (Dn.pi_seq (pv 10)) (blkOk_by (N := ["flow", "unit", "other", "asks", "at", "sort", "name", "deed", "forms", "rest", "places", "place"]) (sc := defScope s_need_linked) (by decide +kernel))
    (fun _ _ _ _ _ => (pg_name (i := 11) sc_need_linked.nd rfl (Or.inl rfl))) (fun _ _ _ _ _ => pts_nil) (fun _ _ _ _ _ => (pe_cmpR (r := rIn K false) op_in_seq (pv 11) (pe_meth0 (pv 0) T.c_Flow T.m_Flow_places (ok_Flow_places T) (hr.mono (by decide)) T.b_Flow_places .nil pass0) rfl))) pa_nil))) (pss_one (ps_raise rfl (takes_of rfl rfl rfl rfl) (pmk_own PySem.F.excBase_ValueError T.x_NoPair T.g_NoPair T.kp_NoPair (raises_own T.sb_NoPair T.ty_NoPair) rfl))) pss_nil)
  (pss_cons (ps_if (PW.pt (pw_or (pt_val (pe_callB (r := rAny K) (cr_any rfl) (by rfl) T.n_any (by decide +kernel) (pa_cons (pe_lc (own := [("place", 11)]) (g := (gName 11)) (by rfl) sc_need_linked.nd (Dn.pi_seq (pv 10)) (blkOk_by (N := ["flow", "unit", "other", "asks", "at", "sort", "name", "deed", "forms", "rest", "places", "place"]) (sc := defScope s_need_linked) (by decide +kernel))
    (fun _ _ _ _ _ => (pg_name (i := 11) sc_need_linked.nd rfl (Or.inl rfl))) (fun _ _ _ _ _ => pts_nil) (fun _ _ _ _ _ => (pe_cmpR op_gt (pe_callB (r := Dn.rLenU K) Dn.call_lenU (by rfl) T.n_len (by decide +kernel) (pa_cons (pv 11) pa_nil)) (pe_glob (v := .int 40) rfl T.g_MOST_SIGNS ⟨_, rfl⟩) (nomark _)))) pa_nil))) (pw_or1 (pt_cmpR op_gt (pe_op op_add (pe_callB (r := Dn.rLenU K) Dn.call_lenU (by rfl) T.n_len (by decide +kernel) (pa_cons (pv 10) pa_nil)) (pe_callB (r := Dn.rLenU K) Dn.call_lenU (by rfl) T.n_len (by decide +kernel) (pa_cons (pe_meth0 (pv 0) T.c_Flow T.m_Flow_places (ok_Flow_places T) (hr.mono (by decide)) T.b_Flow_places .nil pass0) pa_nil))) (pe_glob (v := .int 100) rfl T.g_MOST_PLACES_linking ⟨_, rfl⟩) (nomark _))))) (pss_one (ps_raise rfl (takes_of rfl rfl rfl rfl) (pmk_own PySem.F.excBase_ValueError T.x_TooMany T.g_TooMany T.kp_TooMany (raises_own T.sb_TooMany T.ty_TooMany) rfl))) pss_nil)
  (pss_one (ps_if (pt_cmpR op_gt (pe_op op_add (pe_callB (Ru.call_lenI (CX := CX0) T.c_Flow T.m_Flow___len__.at_ T.m_Flow___len__.fn (ok_Flow___len__ T) (hr.mono (by decide)) T.b_Flow___len__) (by rfl) T.n_len (by decide +kernel) (pa_cons (pv 0) pa_nil)) (pe_op op_mul (pe_callB (r := Dn.rLenU K) Dn.call_lenU (by rfl) T.n_len (by decide +kernel) (pa_cons (pv 3) pa_nil)) (pe_callB (Ru.call_lenI (CX := CX0) T.c_Flow T.m_Flow___len__.at_ T.m_Flow___len__.fn (ok_Flow___len__ T) (hr.mono (by decide)) T.b_Flow___len__) (by rfl) T.n_len (by decide +kernel) (pa_cons (pv 2) pa_nil)))) (pe_glob (v := .int 10000) rfl T.g_MOST_STEPS_linking ⟨_, rfl⟩) (nomark _)) (pss_one (ps_raise rfl (takes_of rfl rfl rfl rfl) (pmk_own PySem.F.excBase_ValueError T.x_TooMany T.g_TooMany T.kp_TooMany (raises_own T.sb_TooMany T.ty_TooMany) rfl))) pss_nil)))))))), ?_⟩
  have e0 := envD_start ["flow", "unit", "other", "asks", "at", "sort", "name", "deed", "forms", "rest", "places", "place"] r
  obtain ⟨ways, rest, htF, hrest⟩ := L.far.first
  subst htF
  have hwaysOk := L.far.ok _ List.mem_cons_self
  -- unlike primes
  refine seq_any (if_run (b := !decide (V.int p = V.int q)) (dt_test (den_op (den_meth (xs := []) (den_var rfl) rfl da_nil ⟨_, _, _, rfl, rfl⟩) (den_meth (xs := []) (den_var rfl) rfl da_nil ⟨_, _, _, rfl, rfl⟩) (rd_ne rfl))) i0 e0 (fun hb G1 H1 f1 => ?_) fun hb G1 H1 f1 => ?_)
  · refine kpair ?_ G1 H1 f1
    unfold linkVer
    rw [if_pos (fun z => by simp [z] at hb)]
  have hpq : p = q := by simpa using hb
  have e1 := e0.up f1.g
  -- asks
  refine ds_set (den_call (da_cons (den_var rfl) (da_cons (den_var rfl) da_nil)) ⟨sN, tN, p, unit, rfl, L.near.len, rfl⟩) _ G1 H1 _ f1.i e1 ?_
  intro σ2 G2 H2 f2 e2
  have f02 := f1.trans f2
  let nD := flowD A.C_Flow sN tN p
  let fD := flowD A.C_Flow sF (.serve ways :: rest) q
  let aD : Dat := .lst (natsD (asksOf unit tN))
  have hdeeds : ∀ (ρ : DSt), ρ[2]? = some (some fD) → Den K (tMeth A.C_Flow "deeds" (spF K (F_Flow_deeds A.C_Flow)) [] E0 (tVar 2) tNil) ρ (deedsD ways) := fun ρ h =>
    den_meth (xs := []) (den_var h) rfl da_nil ⟨sF, ways, rest, q, rfl, by have := hwaysOk.2.1; omega, fun x hx => by have := (hwaysOk.2.2.1 x hx).2.1; omega, rfl⟩
  have shD : SeqAt.shaped (.tuple (ways.map fun q => .tuple [.str q.1, .int (q.2.1 : Nat)])) = true := Lay.shaped (k := 2) (.tup (lay_map fun x hx => .tup (k := 0) fun y hy => by
    simp only [List.mem_cons, List.not_mem_nil, or_false] at hy
    rcases hy with rfl | rfl
    · exact .str (strOk_of (name_place (hwaysOk.2.2.1 x hx).1))
    · exact .int _))
  -- for at in asks
  refine seq_any (for_den (di_1 (di_list (den_var rfl))) f2.i e2 (fun t σ' G' H' => Fr G H G' H' ∧ EnvD K G' σ' [some nD, some (.str unit), some fD, some aD, none, none, none, none, none, none, none, none] ∧ ∀ a ∈ (asksOf unit tN).take t, ∀ s, tN[a]? = some s → badAsk ways s = false)
    (fun G3 H3 f3 => ⟨f02.trans f3, e2.up f3.g, fun a ha => by simp at ha⟩) (fun t σ' G' H' h => h.1.i) (fun t d σ' G' H' v G3 H3 hd ⟨f', e', hb'⟩ f3 r3 => ?_) fun σ' G' H' ⟨f', e', hb'⟩ => ?_)
  · unfold natsD at hd
    rw [List.getElem?_map] at hd
    cases ha : (asksOf unit tN)[t]? with
    | none =>
      rw [ha] at hd
      cases hd
    | some a =>
      rw [ha] at hd
      cases hd
      obtain rfl := rep_s r3
      obtain ⟨s, hs, has⟩ := asksOf_mem (List.mem_of_getElem? ha)
      have hsok := L.near.ok s (List.mem_of_getElem? hs)
      have tk1 : (asksOf unit tN).take (t + 1) = (asksOf unit tN).take t ++ [a] := by
        rw [List.take_add_one, ha]
        rfl
      cases s with
      | ask u e f g h o =>
        have e4 := (e'.up f3.g).set (.s (.int (a : Nat))) 4
        refine seq_any (ds_asg (d := stepD (.ask u e f g h o)) (den_op (den_meth (xs := []) (den_var rfl) rfl da_nil ⟨sN, tN, p, rfl, rfl⟩) (den_var rfl) (rd_ixUT (atI_nat (by rw [List.getElem?_map, hs]; rfl)))) (dg_star (dgs_cons dg_name (dgs_cons dg_name (dgs_cons dg_name (dgs_cons dg_name (dgs_cons dg_name dgs_nil))))) (by simp [stepL])) _ G3 H3 _ f3.i e4 fun σ5 G5 H5 f5 e5 => ?_)
        dsimp only
        refine if_run (b := noDeed ways e f.length) (DenT.is (dt_test (den_op (den_tup (da_cons (den_var rfl) (da_cons (Den.is (x := .int (f.length : Nat)) (lenT (den_var rfl)) (by simp)) da_nil)) (by show 2 ≤ 100000; decide)) (hdeeds _ rfl) (rd_inT (.tup (.cons (.str _) (.cons (.int _) .nil))) (deeds_py ways) (Lay.shaped (k := 1) (.tup (k := 0) fun y hy => ?_)) shD))) ?_) f5.i e5 (fun hb G6 H6 f6 => ?_) fun hb G6 H6 f6 => ?_
        · simp only [List.mem_cons, List.not_mem_nil, or_false] at hy
          rcases hy with rfl | rfl
          · exact .str (strOk_of (name_place hsok.2.1))
          · exact .int _
        · rw [if_pos rfl, deeds_any]
          rfl
        · refine kpair ?_ G6 H6 (((f'.trans f3).trans f5).trans f6)
          unfold linkVer
          rw [if_neg (fun z => z hpq), if_pos]
          exact List.any_eq_true.mpr ⟨_, List.mem_filter.mpr ⟨List.mem_of_getElem? hs, has⟩, hb⟩
        · refine ⟨G6, (f3.trans (f5.trans f6)).g, ((f'.trans f3).trans f5).trans f6, ((((((e5.up f6.g).forget 4).forget 5).forget 6).forget 7).forget 8).forget 9, fun a' ha' s' hs' => ?_⟩
          rw [tk1] at ha'
          rcases List.mem_append.mp ha' with z | z
          · exact hb' a' z s' hs'
          · simp at z
            subst z
            rw [hs] at hs'
            cases hs'
            exact hb
      | _ => cases has
  have hnb : (tN.filter (askTo unit)).any (badAsk ways) = false := by
    rw [List.any_eq_false]
    intro s hs
    obtain ⟨h1, h2⟩ := List.mem_filter.mp hs
    obtain ⟨a, ha, ha2⟩ := asksOf_has h1 h2
    rw [show (natsD (asksOf unit tN)).length = (asksOf unit tN).length by simp [natsD], List.take_length] at hb'
    rw [hb' a ha s ha2]
    decide
  have hul := L.unit.2.1
  have hsl : ∀ s ∈ sF, s.length ≤ 40 := fun s hs => (L.far.names s hs).1
  have hfew := L.far.few
  have hfewN := L.near.few
  have hsum : ∀ s ∈ sF, unit.length + s.length ≤ 1000 := fun s hs => by
    have := hsl s hs
    omega
  -- places
  refine ds_set (d := .lst ((calledL unit sF).map fun s => .str s)) (Den.is (dl_lcA sF (fun s => .str s) (fun s => .str (calledS unit s)) (fun s => [some nD, some (.str unit), some fD, some aD, none, none, none, none, none, none, none, some (.str s)]) (di_2 (di_tup (den_meth (xs := []) (den_var rfl) rfl da_nil ⟨sF, _, q, rfl, rfl⟩))) (by omega) (fun s _ => dg_name) (fun s _ => dts_nil)
    fun s hs => den_call (da_cons (den_var rfl) (da_cons (den_var rfl) da_nil)) ⟨unit, s, rfl, hsum s hs, rfl⟩).den (by unfold calledL; rw [List.map_map]; rfl)) _ G' H' _ f'.i e' ?_
  intro σ3 G3 H3 f3 e3
  have f03 := f'.trans f3
  have hcl : (calledL unit sF).length = sF.length := by simp [calledL]
  -- a place twice
  dsimp only
  refine seq_any ?_
  refine if_run (b := (calledL unit sF).any (fun s => decide (s ∈ sN))) ?h f3.i e3 (fun hb G4 H4 f4 => ?_) fun hb G4 H4 f4 => ?_
  case h => exact (dt_val (Den.is (den_cb (da_cons (Den.is (dl_lcA (calledL unit sF) (fun s => .str s) (fun s => .bl (decide (s ∈ sN))) (fun s => [some nD, some (.str unit), some fD, some aD, none, none, none, none, none, none, some (.lst ((calledL unit sF).map fun s => .str s)), some (.str s)]) (di_1 (di_list (den_var rfl))) (by omega) (fun s _ => dg_name) (fun s _ => dts_nil)
    fun s hs => den_op (den_var rfl) (den_meth (xs := []) (den_var rfl) rfl da_nil ⟨sN, tN, p, rfl, rfl⟩) rd_inFlat).den (x := .lst (((calledL unit sF).map fun s => decide (s ∈ sN)).map fun b => .bl b)) (by rw [List.map_map]; rfl)) da_nil) rc_any) (by rw [List.any_map]; rfl)))
  · refine kpair ?_ G4 H4 (f03.trans f4)
    unfold linkVer
    rw [if_neg (fun z => z hpq), if_neg (by rw [show waysOf (.serve ways :: rest) = ways from rfl, hnb]; decide), if_pos hb]
  have f04 := f03.trans f4
  have e4 := e3.up f4.g
  have hlen : ∀ s ∈ calledL unit sF, s.length ≤ 1000 := fun s hs => by
    obtain ⟨x, hx, rfl⟩ := List.mem_map.mp hs
    have h1 := calledS_len unit x
    have h2 := hsl x hx
    omega
  -- too many places, or signs
  refine next_run ?_
  dsimp only
  refine seq_any ?_
  refine if_run (b := (calledL unit sF).any (fun s => decide (40 < s.length)) || decide (100 < sF.length + sN.length)) ?h f4.i e4 (fun hb5 G5 H5 f5 => ?_) fun hb5 G5 H5 f5 => ?_
  case h => exact (DenT.is (dt_or (b := (calledL unit sF).any (fun s => decide (40 < s.length))) (c := decide (100 < sF.length + sN.length)) (dt_val (Den.is (den_cb (da_cons (Den.is (dl_lcA (calledL unit sF) (fun s => .str s) (fun s => .bl (decide (40 < s.length))) (fun s => [some nD, some (.str unit), some fD, some aD, none, none, none, none, none, none, some (.lst ((calledL unit sF).map fun s => .str s)), some (.str s)]) (di_1 (di_list (den_var rfl))) (by omega) (fun s _ => dg_name) (fun s _ => dts_nil)
    fun s hs => Den.is (den_op (lenS (den_var rfl) (by have := hlen s hs; omega)) den_c rd_I0) (congrArg Dat.bl (decide_eq_decide.mpr (by omega)))).den (x := .lst (((calledL unit sF).map fun s => decide (40 < s.length)).map fun b => .bl b)) (by rw [List.map_map]; rfl)) da_nil) rc_any) (by rw [List.any_map]; rfl))) fun _ => dt_test (Den.is (den_op (den_op (lenL (den_var rfl)) (lenT (den_meth (xs := []) (den_var rfl) rfl da_nil ⟨sN, tN, p, rfl, rfl⟩)) rd_I0) den_c rd_I0) (congrArg Dat.bl (decide_eq_decide.mpr (by rw [List.length_map, List.length_map, hcl]; omega))))) rfl)
  · refine kmany ?_ G5 H5 (f04.trans f5)
    unfold linkVer
    rw [if_neg (fun z => z hpq), if_neg (by rw [show waysOf (.serve ways :: rest) = ways from rfl, hnb]; decide), if_neg (by rw [hb]; decide), if_pos hb5]
  have f05 := f04.trans f5
  have hnl := L.near.len
  have hfl := L.far.len
  have hal := asksOf_len unit tN
  have hal2 : (asksOf unit tN).length ≤ 10000 := by
    rw [hal]
    exact Nat.le_trans (List.length_filter_le _ _) hnl
  -- too many steps
  refine next_run ?_
  dsimp only
  refine if_run (b := decide (10000 < tN.length + (tN.filter (askTo unit)).length * (Step.serve ways :: rest).length)) (dt_test (Den.is (den_op (den_op (den_lenI (n := (tN.length : Nat)) (den_var rfl) ⟨sN, tN, p, rfl, rfl⟩ (by omega)) (den_op (lenL (den_var rfl)) (den_lenI (n := ((Step.serve ways :: rest).length : Nat)) (den_var rfl) ⟨sF, _, q, rfl, rfl⟩ (by omega)) (rd_I (.inl ?_))) rd_I0) den_c rd_I0) ?_)) f5.i (e4.up f5.g) (fun hb6 G6 H6 f6 => ?_) fun hb6 G6 H6 f6 => ?_
  · simp only [natsD, List.length_map]
    omega
  · refine congrArg Dat.bl (decide_eq_decide.mpr ?_)
    simp only [natsD, List.length_map]
    rw [hal]
    push_cast
    omega
  · refine kmany ?_ G6 H6 (f05.trans f6)
    unfold linkVer
    rw [if_neg (fun z => z hpq), if_neg (by rw [show waysOf (.serve ways :: rest) = ways from rfl, hnb]; decide), if_neg (by rw [hb]; decide), if_neg (by rw [hb5]; decide), if_pos (of_decide_eq_true hb6)]
  · refine kok ?_ G6 H6 (f05.trans f6)
    unfold linkVer
    rw [if_neg (fun z => z hpq), if_neg (by rw [show waysOf (.serve ways :: rest) = ways from rfl, hnb]; decide), if_neg (by rw [hb]; decide), if_neg (by rw [hb5]; decide), if_neg (of_decide_eq_false hb6)]
end
end K56
set_option Elab.async false
set_option linter.all false
set_option maxRecDepth 100000
set_option maxHeartbeats 4000000
set_option pp.maxSteps 400
set_option pp.deepTerms false
/-! Ki: copies, and two flows linked. -/
namespace K56
open PySem L2 Dn
open Evl (Ex fresh_back)
theorem sc_copies_of : FnScope ["flow", "unit", "other", "found", "ahead", "at"] ["flow", "unit", "other"] (defScope s_copies_of) := ⟨rfl, rfl, rfl, by decide +kernel, rfl, by decide +kernel, by decide +kernel⟩
theorem sc_linked : FnScope ["flow", "unit", "other", "copies", "steps", "at", "copy", "places", "step", "place"] ["flow", "unit", "other"] (defScope s_linked) := ⟨rfl, rfl, rfl, by decide +kernel, rfl, by decide +kernel, by decide +kernel⟩
/-- the asks of a unit, where they stand and what they are -/
def asksS (unit : Str) (tN : List Step) : List (Nat × Step) := (tN.zipIdx.filter fun q => askTo unit q.1).map fun q => (q.2, q.1)
theorem asksS_at (unit : Str) (tN : List Step) : asksOf unit tN = (asksS unit tN).map (·.1) := by
  unfold asksOf asksS
  rw [List.map_map]
  rfl
theorem asksS_mem {unit : Str} {tN : List Step} {q : Nat × Step} (h : q ∈ asksS unit tN) : tN[q.1]? = some q.2 ∧ askTo unit q.2 = true := by
  unfold asksS at h
  obtain ⟨r, hr, rfl⟩ := List.mem_map.mp h
  obtain ⟨h1, h2⟩ := List.mem_filter.mp hr
  exact ⟨List.mem_zipIdx_iff_getElem?.mp h1, h2⟩
theorem asksS_nd (unit : Str) (tN : List Step) : ((asksS unit tN).map (·.1)).Nodup := by
  have h : ∀ (xs : List Step) (k : Nat), (((xs.zipIdx k).filter fun q => askTo unit q.1).map (·.2)).Nodup ∧ ∀ i ∈ ((xs.zipIdx k).filter fun q => askTo unit q.1).map (·.2), k ≤ i := by
    intro xs
    induction xs with
    | nil => intro k; exact ⟨.nil, fun i hi => by simp at hi⟩
    | cons a xs ih =>
      intro k
      obtain ⟨h1, h2⟩ := ih (k + 1)
      rw [List.zipIdx_cons, List.filter_cons]
      split
      · refine ⟨?_, fun i hi => ?_⟩
        · rw [List.map_cons]
          exact List.nodup_cons.mpr ⟨fun z => by have := h2 _ z; omega, h1⟩
        · rw [List.map_cons] at hi
          rcases List.mem_cons.mp hi with rfl | hi
          · exact Nat.le_refl _
          · have := h2 i hi
            omega
      · exact ⟨h1, fun i hi => by have := h2 i hi; omega⟩
  rw [← asksS_at]
  exact (h tN 0).1
def aheadAt (n m t : Nat) : Int := (n : Int) + (t : Int) * ((m : Int) - 1)
theorem ahead_succ (n m t : Nat) : aheadAt n m (t + 1) = aheadAt n m t + ((m : Int) - 1) := by
  unfold aheadAt
  rw [show ((t + 1 : Nat) : Int) = (t : Int) + 1 by omega, Int.add_mul]
  omega
def copiesD (C : Addr) (unit : Str) (tN : List Step) (m : Nat) : List Dat := (asksS unit tN).zipIdx.map fun q => copyD C unit q.1.2 (aheadAt tN.length m q.2)
theorem copies_take (C : Addr) (unit : Str) (tN : List Step) (m t : Nat) {q : Nat × Step} (h : (asksS unit tN)[t]? = some q) : (copiesD C unit tN m).take (t + 1) = (copiesD C unit tN m).take t ++ [copyD C unit q.2 (aheadAt tN.length m t)] := by
  rw [List.take_add_one]
  unfold copiesD
  rw [List.getElem?_map, List.getElem?_zipIdx, h]
  simp
def spCopies (K : PySem.W.Frag) (A : Ad) : Sp := fun vs H Q _ => ∃ (G : Hp) (unit : Str) (sN : List Str) (tN : List Step) (p : Int) (sF : List Str) (tF : List Step) (q : Int), Ex G H ∧ RepAll K G vs [flowD A.C_Flow sN tN p, .str unit, flowD A.C_Flow sF tF q] ∧ tN.length ≤ 10000 ∧ tF.length ≤ 10000 ∧
  ∀ (d : Addr) (kvs : List (Key × V)) (G' H' : Hp), Fr G H G' H' → G' d = none → H d = none → H' d = some (.dK kvs) → kvs.map (·.1) = (asksS unit tN).map (fun q => Sum.inl (q.1 : Int)) → RepAll K G' (kvs.map (·.2)) (copiesD A.C_Copy unit tN tF.length) → Q (.ref d) H'
section
variable {P : Program} {w : World} {K : PySem.W.Frag} {mg : Str → Option Value} {base : Heap} {A : Ad}
theorem ok_copies_of (T : Tx K w mg A) : FnOk P w K mg base CX0 3 A.f_copies_of A.d_copies_of ["flow", "unit", "other"] (spCopies K A) := by
  refine T.F_copies_of.ok sc_copies_of (fun vs H Q E h => ?_) (fun cdv Ar outer s H vs Q E hr h => ?_)
  · obtain ⟨G, unit, sN, tN, p, sF, tF, q, _, r, _⟩ := h
    rw [r.len]
    rfl
  obtain ⟨G, unit, sN, tN, p, sF, tF, q, i0, r, hzN, hzF, k⟩ := h
  refine ⟨_, (pss_cons (ps_par (i := 3) (j := 4) (by rfl) sc_copies_of.nd rfl rfl (by decide) rfl rfl (pa_cons pe_dnewK (pa_cons (pe_callB (Ru.call_lenI (CX := CX0) T.c_Flow T.m_Flow___len__.at_ T.m_Flow___len__.fn (ok_Flow___len__ T) (hr.mono (by decide)) T.b_Flow___len__) (by rfl) T.n_len (by decide +kernel) (pa_cons (pv 0) pa_nil)) pa_nil)) (by rfl))
  (pss_cons (ps_for PassesOwn.never rfl (Dn.pi_seq (pe_call (ok_asks_of T) (hr.mono (by decide)) rfl T.g_asks_of T.F_asks_of.kp T.b_asks_of .nil pass0 (pa_cons (pv 0) (pa_cons (pv 1) pa_nil)))) (pg_name (i := 5) sc_copies_of.nd rfl (Or.inl rfl))
  (pss_cons (ps_dput (hu_of hr) (pv 3) (pv 5) (pe_make T.M_Copy (ok_Copy___init__ T) (hr.mono (by decide)) rfl T.g_Copy T.b_Copy___init__ .nil pass0 (pa_cons (pv 1) (pa_cons (pe_ix (r := rIx K) ix_seq (pe_meth0 (pv 0) T.c_Flow T.m_Flow_steps (ok_Flow_steps T) (hr.mono (by decide)) T.b_Flow_steps .nil pass0) (pv 5) (fun _ _ => rfl)) (pa_cons (pv 4) pa_nil)))) rfl)
  (pss_one (ps_aug (i := 4) sc_copies_of.nd rfl (Or.inl rfl) (pe_op op_sub (pe_callB (Ru.call_lenI (CX := CX0) T.c_Flow T.m_Flow___len__.at_ T.m_Flow___len__.fn (ok_Flow___len__ T) (hr.mono (by decide)) T.b_Flow___len__) (by rfl) T.n_len (by decide +kernel) (pa_cons (pv 2) pa_nil)) pe_int) ip_add))))
  (pss_one (ps_ret (pv 3))))), ?_⟩
  have e0 := envD_start ["flow", "unit", "other", "found", "ahead", "at"] r
  let nD := flowD A.C_Flow sN tN p
  let fD := flowD A.C_Flow sF tF q
  -- found, ahead = ({}, len(flow))
  refine fun d hd => ?_
  have gd : G d = none := fresh_back i0 hd
  refine da_cons (den_lenI (n := (tN.length : Nat)) (den_var rfl) ⟨sN, tN, p, rfl, rfl⟩ (by omega)) da_nil _ G _ _ (i0.trans (Ex.new hd)) e0 fun us G1 H1 f1 r1 => ?_
  obtain ⟨u, rfl, ru⟩ := repAll_1 r1
  obtain rfl := rep_s ru
  refine ⟨_, _, rfl, ?_⟩
  have f01 : Fr G H G1 H1 := ⟨f1.g, (Ex.new hd).trans f1.h, f1.i, fun a a1 a2 => by
    have := f1.n a a1 a2
    by_cases z : a = d
    · subst z
      exact hd
    · rw [upd_ne z] at this
      exact this⟩
  have gd1 : G1 d = none := f1.out gd (by rw [upd_same]; intro z; cases z)
  have hd1 : H1 d = some (.dK []) := f1.h _ _ upd_same
  have e1 : EnvD K G1 (((L2.start ["flow", "unit", "other", "found", "ahead", "at"] vs).set 3 (some (.ref d))).set 4 (some (.int (tN.length : Nat)))) [some nD, some (.str unit), some fD, some (.s (.ref d)), some (.int (tN.length : Nat)), none] :=
    ((e0.up f1.g).set (.s (.ref d)) 3).set (.s (.int (tN.length : Nat))) 4
  -- for at in asks_of(flow, unit)
  dsimp only
  refine seq_any (for_den (di_1 (di_list (den_call (da_cons (den_var rfl) (da_cons (den_var rfl) da_nil)) ⟨sN, tN, p, unit, rfl, hzN, rfl⟩))) f1.i e1 (fun t σ' G' H' => Fr G H G' H' ∧ EnvD K G' σ' [some nD, some (.str unit), some fD, some (.s (.ref d)), some (.int (aheadAt tN.length tF.length t)), none] ∧ G' d = none ∧
    ∃ kvs : List (Key × V), H' d = some (.dK kvs) ∧ kvs.map (·.1) = ((asksS unit tN).take t).map (fun q => Sum.inl (q.1 : Int)) ∧ RepAll K G' (kvs.map (·.2)) ((copiesD A.C_Copy unit tN tF.length).take t))
    (fun G2 H2 f2 => ⟨f01.trans f2, (e1.up f2.g).tell (slot_s (i := 4) (e1.up f2.g) rfl) (by unfold aheadAt; simp; exact .s _), f2.out gd1 (by rw [hd1]; intro z; cases z), [], f2.h _ _ hd1, rfl, .nil⟩) (fun t σ' G' H' h => h.1.i) (fun t x σ' G' H' v G3 H3 hx ⟨f', e', g', kvs, h', ek, rk⟩ f3 r3 => ?_) fun σ' G' H' ⟨f', e', g', kvs, h', ek, rk⟩ => ?_)
  · unfold natsD at hx
    rw [List.getElem?_map, asksS_at, List.getElem?_map] at hx
    cases ha : (asksS unit tN)[t]? with
    | none =>
      rw [ha] at hx
      cases hx
    | some qs =>
      obtain ⟨a, s⟩ := qs
      rw [ha] at hx
      cases hx
      obtain rfl := rep_s r3
      obtain ⟨hs, has⟩ := asksS_mem (List.mem_of_getElem? ha)
      have tk1 : (asksS unit tN).take (t + 1) = (asksS unit tN).take t ++ [(a, s)] := by
        rw [List.take_add_one, ha]
        rfl
      have e4 := (e'.up f3.g).set (.s (.int (a : Nat))) 5
      have hne : d ≠ d → False := fun z => z rfl
      refine gname_run ?_
      dsimp only
      refine seq_any (dput_run (den_make (FI := F_Copy___init__) (da_cons (den_var rfl) (da_cons (den_op (den_meth (xs := []) (den_var rfl) rfl da_nil ⟨sN, tN, p, rfl, rfl⟩) (den_var rfl) (rd_ixUT (d := stepD s) (atI_nat (by rw [List.getElem?_map, hs]; rfl)))) (da_cons (den_var rfl) da_nil))) ⟨_, _, _, rfl, rfl⟩ _ G3 H3 _ f3.i e4 fun c G4 H4 f4 r4 => ?_))
      have e5 := e4.up f4.g
      have f34 := f3.trans f4
      have g4 : G4 d = none := f34.out g' (by rw [h']; intro z; cases z)
      have h4 : H4 d = some (.dK kvs) := f34.h _ _ h'
      have ekl := congrArg List.length ek
      rw [List.length_map, List.length_map, List.length_take] at ekl
      have hlen : (asksS unit tN).length ≤ 10000 := by
        have := asksOf_len unit tN
        rw [asksS_at, List.length_map] at this
        rw [this]
        exact Nat.le_trans (List.length_filter_le _ _) hzN
      have nk : (Sum.inl (a : Int) : Key) ∉ kvs.map (·.1) := by
        rw [ek]
        intro hm
        obtain ⟨⟨a', s'⟩, hq, hi⟩ := List.mem_map.mp hm
        have : a' = a := by
          injection hi with hi
          omega
        subst this
        have nd : (((asksS unit tN).take (t + 1)).map (·.1)).Nodup := by
          rw [List.map_take]
          exact (asksS_nd unit tN).sublist (List.take_sublist _ _)
        rw [tk1, List.map_append, List.nodup_append] at nd
        exact nd.2.2 _ (List.mem_map.mpr ⟨_, hq, rfl⟩) _ (by simp) rfl
      refine ⟨.ref d, slot_s (i := 3) e5 rfl, .int (a : Nat), slot_s (i := 5) e5 rfl, d, _, rfl, DPut.k (k := Sum.inl (a : Int)) h4 (Evl.sz_lt (by omega)), ?_⟩
      have fput := ((f'.trans f3).trans f4).put (o := .dK (putK kvs (Sum.inl (a : Int)) c)) hd g4
      dsimp only
      refine ds_aug (a := aheadAt tN.length tF.length t) (c := (tF.length : Int) - 1) rfl (den_op (den_lenI (n := (tF.length : Nat)) (den_var rfl) ⟨sF, tF, q, rfl, rfl⟩ (by omega)) den_c rd_I0) _ G4 _ _ fput.i e5 ?_
      intro σ6 G6 H6 f6 e6
      have e7 := e6.forget 5
      refine ⟨G6, f34.g.trans f6.g, fput.trans f6, ?_, f6.out g4 (by rw [upd_same]; intro z; cases z), putK kvs (Sum.inl (a : Int)) c, f6.h _ _ upd_same, ?_, ?_⟩
      · have ea : aheadAt tN.length tF.length t + ((tF.length : Int) - 1) = aheadAt tN.length tF.length (t + 1) := (ahead_succ _ _ _).symm
        rw [ea] at e7
        exact e7
      · rw [putK_new c (valV_none nk), List.map_append, ek, tk1, List.map_append]
        rfl
      · rw [putK_new c (valV_none nk), List.map_append, copies_take _ _ _ _ _ ha]
        exact (rk.up (f34.g.trans f6.g)).app (.cons (r4.up f6.g) .nil)
  · have hl : (natsD (asksOf unit tN)).length = (asksS unit tN).length := by simp [natsD, asksS_at]
    rw [hl] at ek rk
    rw [List.take_length] at ek
    rw [List.take_of_length_le (by simp [copiesD])] at rk
    exact ⟨.ref d, slot_s (i := 3) e' rfl, k d kvs G' H' f' g' hd h' ek rk⟩
end
/-! ### linked -/
def entryOf (e : Str) (tF : List Step) : Int := match wayOf e (waysOf tF) with
  | some w => w.2.2
  | none => 0
def addCopy (tF : List Step) (ahead : Int) (steps : List Step) (a : Nat) : Step → List Step
  | .ask _ e _ p g _ => (steps.set a (.move [] (ahead + entryOf e tF - 1))) ++ (tF.drop 1).map (ledS p g ahead)
  | _ => steps
def linkT (unit : Str) (tN tF : List Step) : Nat → List Step
  | 0 => tN
  | t + 1 => match (asksS unit tN)[t]? with
    | some q => addCopy tF (aheadAt tN.length tF.length t) (linkT unit tN tF t) q.1 q.2
    | none => linkT unit tN tF t
def linkSteps (unit : Str) (tN tF : List Step) : List Step := linkT unit tN tF (asksS unit tN).length
theorem linkT_len (unit : Str) (tN tF : List Step) : ∀ t, t ≤ (asksS unit tN).length → (linkT unit tN tF t).length = tN.length + t * (tF.length - 1)
  | 0, _ => by simp [linkT]
  | t + 1, h => by
    have ih := linkT_len unit tN tF t (by omega)
    have ha := List.getElem?_eq_getElem (show t < (asksS unit tN).length by omega)
    unfold linkT
    rw [ha]
    have hm := asksS_mem (List.mem_of_getElem? ha)
    generalize (asksS unit tN)[t] = q at hm ⊢
    obtain ⟨a, s⟩ := q
    cases s with
    | ask u e f p g o =>
      show ((linkT unit tN tF t).set a _ ++ _).length = _
      rw [List.length_append, List.length_set, List.length_map, List.length_drop, ih, Nat.add_mul]
      omega
    | _ => cases hm.2
structure LinkIn2 (unit : Str) (sN : List Str) (tN : List Step) (p : Int) (sF : List Str) (tF : List Step) (q : Int) : Prop extends LinkIn unit sN tN p sF tF q where
  plain : ∀ s ∈ tF.drop 1, plainS s = true
def spLinked (K : PySem.W.Frag) (A : Ad) : Sp := fun vs H Q E => ∃ (G : Hp) (unit : Str) (sN : List Str) (tN : List Step) (p : Int) (sF : List Str) (tF : List Step) (q : Int), Ex G H ∧ RepAll K G vs [flowD A.C_Flow sN tN p, .str unit, flowD A.C_Flow sF tF q] ∧ LinkIn2 unit sN tN p sF tF q ∧
  (linkVer unit sN tN p sF tF q = none → FlowOk (sN ++ calledL unit sF) (linkSteps unit tN tF) p) ∧
  (linkVer unit sN tN p sF tF q = none → ∀ v G' H', Fr G H G' H' → Q v H') ∧ (linkVer unit sN tN p sF tF q = some true → ∀ G' H', Fr G H G' H' → E (.ref A.C_NoPair) none H') ∧
  (linkVer unit sN tN p sF tF q = some false → ∀ G' H', Fr G H G' H' → E (.ref A.C_TooMany) none H')
theorem drop_callS {sp : Sp} {E : St → XK} {t : TA} {σ : L2.St} {H : Hp} {D : Ends} (h : t σ H fun vs H1 => sp vs H1 (fun _ H2 => D.nx σ H2) (E σ)) : tDrop (tCallS sp E t) D σ H := h
theorem call_run {sp : Sp} {E : XK} {t : TA} {σ : L2.St} {H : Hp} {Q : VK} (h : t σ H fun vs H1 => sp vs H1 Q E) : tCall sp [] E t σ H Q := by
  unfold tCall
  simp only [List.append_nil]
  exact h
theorem cons_run {te : TE} {σ : L2.St} {H : Hp} {Q : List V → Hp → Prop} (h : te σ H fun x H1 => Q [x] H1) : tCons te tNil σ H Q := h
theorem ver_deeds {unit : Str} {sN : List Str} {tN : List Step} {p : Int} {sF : List Str} {tF : List Step} {q : Int} (h : linkVer unit sN tN p sF tF q = none) : (tN.filter (askTo unit)).any (badAsk (waysOf tF)) = false := by
  unfold linkVer at h
  split at h
  · cases h
  split at h
  · cases h
  · rename_i z
    simpa using z
theorem ver_few {unit : Str} {sN : List Str} {tN : List Step} {p : Int} {sF : List Str} {tF : List Step} {q : Int} (h : linkVer unit sN tN p sF tF q = none) : tN.length + (asksS unit tN).length * tF.length ≤ 10000 := by
  have e : (asksS unit tN).length = (tN.filter (askTo unit)).length := by
    rw [← asksOf_len, asksS_at, List.length_map]
  rw [e]
  unfold linkVer at h
  repeat (split at h; · cases h)
  rename_i z
  omega
section
variable {P : Program} {w : World} {K : PySem.W.Frag} {mg : Str → Option Value} {base : Heap} {A : Ad}
theorem ok_linked (T : Tx K w mg A) : FnOk P w K mg base (L2.CX P w) 11 A.f_linked A.d_linked ["flow", "unit", "other"] (spLinked K A) := by
  refine T.F_linked.okX sc_linked (fun vs H Q E h => ?_) (fun cdv Ar outer s H vs Q E hr h => ?_)
  · obtain ⟨G, unit, sN, tN, p, sF, tF, q, _, r, _⟩ := h
    rw [r.len]
    rfl
  obtain ⟨G, unit, sN, tN, p, sF, tF, q, i0, r, L, kfl, kok, kpair, kmany⟩ := h
  refine ⟨_, (pss_cons (ps_expr (pe_callS (ok_need_linked T) (hr.mono (by decide)) rfl T.g_need_linked T.F_need_linked.kp T.b_need_linked (fun σ => passAt (takes_of rfl rfl rfl rfl) σ) (pa_cons (pv 0) (pa_cons (pv 1) (pa_cons (pv 2) pa_nil)))))
  (PSs.nox (pss_cons (ps_set (i := 3) sc_linked.nd rfl (Or.inl rfl) (pe_call (ok_copies_of T) (hr.mono (by decide)) rfl T.g_copies_of T.F_copies_of.kp T.b_copies_of .nil pass0 (pa_cons (pv 0) (pa_cons (pv 1) (pa_cons (pv 2) pa_nil)))))
  (pss_cons (ps_set (i := 4) sc_linked.nd rfl (Or.inl rfl) (pe_callTy (r := Dn.rListOf K) call_list_of (by rfl) T.n_list (by decide +kernel) (pa_cons (pe_meth0 (pv 0) T.c_Flow T.m_Flow_steps (ok_Flow_steps T) (hr.mono (by decide)) T.b_Flow_steps .nil pass0) pa_nil)))
  (pss_cons (ps_lock (ps_for PassesOwn.never rfl (pi_items (pv 3)) (pg_tup rfl (pgs_cons (pg_name (i := 5) sc_linked.nd rfl (Or.inl rfl)) (pgs_cons (pg_name (i := 6) sc_linked.nd rfl (Or.inr rfl)) pgs_nil))) (pss_cons (ps_asg (pe_meth (pv 6) T.c_Copy T.m_Copy_begun (ok_Copy_begun T) (hr.mono (by decide)) T.b_Copy_begun .nil pass0 (pa_cons (pe_ix (r := rIx K) ix_seq (pe_ix (r := rIx K) ix_seq (pe_meth0 (pv 2) T.c_Flow T.m_Flow_steps (ok_Flow_steps T) (hr.mono (by decide)) T.b_Flow_steps .nil pass0) pe_int (fun _ _ => rfl)) pe_int (fun _ _ => rfl)) pa_nil)) (pg_sub (pv 4) (pv 5) set_list))
  (pss_one (ps_expr (pe_bm PySem.F.plainAttrs_list PySem.F.slot_list_extend PySem.F.type_list_extend mt_extend (pv 4) (pa_cons (pe_lc (own := [("step", 8)]) (g := (gName 8)) (by rfl) sc_linked.nd (Dn.pi_seq (pe_slice (r := rSlA K) sl_tupA (pe_meth0 (pv 2) T.c_Flow T.m_Flow_steps (ok_Flow_steps T) (hr.mono (by decide)) T.b_Flow_steps .nil pass0) (po_some pe_int) po_none)) (blkOk_by (N := ["flow", "unit", "other", "copies", "steps", "at", "copy", "places", "step", "place"]) (sc := defScope s_linked) (by decide +kernel))
    (fun _ _ _ _ _ => (pg_name (i := 8) sc_linked.nd rfl (Or.inl rfl))) (fun _ _ _ _ _ => pts_nil) (fun _ _ _ _ _ => (pe_meth (pv 6) T.c_Copy T.m_Copy_led (ok_Copy_led T) (hr.mono (by decide)) T.b_Copy_led .nil pass0 (pa_cons (pv 8) pa_nil)))) pa_nil)))))))
  (pss_cons (ps_set (i := 7) sc_linked.nd rfl (Or.inl rfl) (pe_op (r := rCatA K) op_catA (pe_meth0 (pv 0) T.c_Flow T.m_Flow_places (ok_Flow_places T) (hr.mono (by decide)) T.b_Flow_places .nil pass0) (pe_callTy (r := Dn.rTupOf K) call_tuple_of (by rfl) T.n_tuple (by decide +kernel) (pa_cons (pe_lc (own := [("place", 9)]) (g := (gName 9)) (by rfl) sc_linked.nd (Dn.pi_seq (pe_meth0 (pv 2) T.c_Flow T.m_Flow_places (ok_Flow_places T) (hr.mono (by decide)) T.b_Flow_places .nil pass0)) (blkOk_by (N := ["flow", "unit", "other", "copies", "steps", "at", "copy", "places", "step", "place"]) (sc := defScope s_linked) (by decide +kernel))
    (fun _ _ _ _ _ => (pg_name (i := 9) sc_linked.nd rfl (Or.inl rfl))) (fun _ _ _ _ _ => pts_nil) (fun _ _ _ _ _ => (pe_call (ok_called_so T) (hr.mono (by decide)) rfl T.g_called_so T.F_called_so.kp T.b_called_so .nil pass0 (pa_cons (pv 1) (pa_cons (pv 9) pa_nil))))) pa_nil))))
  (pss_one (ps_ret (pe_makeN T.M_Flow (ok_Flow___init__ T) (hr.mono (by decide)) rfl T.g_Flow T.b_Flow___init__ pass0 (pa_cons (pv 7) (pa_cons (pe_callTy (r := Dn.rTupOf K) call_tuple_of (by rfl) T.n_tuple (by decide +kernel) (pa_cons (pv 4) pa_nil)) pa_nil)) (pk_cons (pe_meth0 (pv 0) T.c_Flow T.m_Flow_prime (ok_Flow_prime T) (hr.mono (by decide)) T.b_Flow_prime .nil pass0) pk_nil)))))))))), ?_⟩
  have e0 := envD_start ["flow", "unit", "other", "copies", "steps", "at", "copy", "places", "step", "place"] r
  let nD := flowD A.C_Flow sN tN p
  let fD := flowD A.C_Flow sF tF q
  obtain ⟨ways, rest, htF, hrest⟩ := L.far.first
  have hwaysOk := L.far.ok (.serve ways) (by rw [htF]; exact List.mem_cons_self)
  have hnl := L.near.len
  have hfl := L.far.len
  -- need_linked(flow, unit, other)
  refine seq_any (drop_callS ?_)
  refine da_cons (den_var rfl) (da_cons (den_var rfl) (da_cons (den_var rfl) da_nil)) _ G H _ i0 e0 fun us G0 H0 f0 r0 => ⟨G0, unit, sN, tN, p, sF, tF, q, f0.i, r0, L.toLinkIn, fun hv G1 H1 f1 => ?_, fun hv G1 H1 f1 => kpair hv G1 H1 (f0.trans f1), fun hv G1 H1 f1 => kmany hv G1 H1 (f0.trans f1)⟩
  have f01 := f0.trans f1
  have e1 := e0.up f01.g
  have hfew := ver_few hv
  have hfl2 := kfl hv
  have hdeeds := ver_deeds hv
  dsimp only
  -- copies = copies_of(flow, unit, other)
  refine seq_asg (call_run ?_)
  refine da_cons (den_var rfl) (da_cons (den_var rfl) (da_cons (den_var rfl) da_nil)) _ G1 H1 _ f1.i e1 fun us2 Ga Ha fa ra => ⟨Ga, unit, sN, tN, p, sF, tF, q, fa.i, ra, hnl, hfl, fun d kvs G2 H2 f2 gd hd h2 ek rk => ?_⟩
  refine gname_run ?_
  have fa2 := fa.trans f2
  have f02 := f01.trans fa2
  have e2 : EnvD K G2 ((L2.start ["flow", "unit", "other", "copies", "steps", "at", "copy", "places", "step", "place"] vs).set 3 (some (.ref d))) [some nD, some (.str unit), some fD, some (.s (.ref d)), none, none, none, none, none, none] := (e1.up fa2.g).set (.s (.ref d)) 3
  have hd0 : H d = none := fresh_back (f01.trans fa).h hd
  -- steps = list(flow.steps())
  refine seq_asg (dl_cb (da_cons (den_meth (xs := []) (den_var rfl) rfl da_nil ⟨sN, tN, p, rfl, rfl⟩) da_nil) (rcl_ofT (ds := tN.map stepD)) _ G2 H2 _ f2.i e2 fun st ws G3 H3 f3 gs hs h3 r3 => ?_)
  refine gname_run ?_
  have f03 := f02.trans f3
  have gd3 : G3 d = none := f3.out gd (by rw [h2]; intro z; cases z)
  have h3d : H3 d = some (.dK kvs) := f3.h _ _ h2
  have hs0 : H st = none := fresh_back f02.h hs
  have sd : st ≠ d := fun z => by
    rw [z, h2] at hs
    cases hs
  have e3 := (e2.up f3.g).set (.s (.ref st)) 4
  -- for at, copy in copies.items()
  have kd : (kvs.map (·.2)).length = (copiesD A.C_Copy unit tN tF.length).length := rk.len
  have kl : kvs.length = (asksS unit tN).length := by
    have := congrArg List.length ek
    simpa using this
  refine seq_any ⟨d, .dK kvs, h3d, trivial, fun od => ?_⟩
  dsimp only
  refine ⟨.ref d, slot_s (i := 3) e3 rfl, d, od, kvs, rfl, upd_same, for_it walk_items (fun t σ' H' => ∃ G', Ex G3 G' ∧ Fr G H G' H' ∧ EnvD K G' σ' [some nD, some (.str unit), some fD, some (.s (.ref d)), some (.s (.ref st)), none, none, none, none, none] ∧ G' d = none ∧ H' d = some (.frz od (.dK kvs)) ∧ G' st = none ∧
    ∃ xs, H' st = some (.lst xs) ∧ RepAll K G' xs ((linkT unit tN tF t).map stepD)) ⟨G3, Ex.refl G3, f03.put hd0 gd3, e3, gd3, upd_same, gs, ws, by rw [upd_ne sd]; exact h3, r3⟩ (fun t σ' H' _ h => by obtain ⟨_, _, _, _, _, h, _⟩ := h; exact h) (fun t x σ' H' H4 ht ⟨G', eg, f', e', gd', hd', gs', xs, hs', rs'⟩ yy => ?_) fun σ' H' ⟨G', eg, f', e', gd', hd', gs', xs, hs', rs'⟩ => ?_⟩
  · have ha := List.getElem?_eq_getElem (show t < (asksS unit tN).length by omega)
    obtain ⟨hsN, has⟩ := asksS_mem (List.mem_of_getElem? ha)
    have htk : (copiesD A.C_Copy unit tN tF.length)[t]? = some (copyD A.C_Copy unit (asksS unit tN)[t].2 (aheadAt tN.length tF.length t)) := by
      unfold copiesD
      rw [List.getElem?_map, List.getElem?_zipIdx, ha]
      simp
    have hkey : kvs[t]?.map (fun kv => kV kv.1) = some (V.int ((asksS unit tN)[t].1 : Nat)) := by
      have h1 : (kvs.map (·.1))[t]? = some (Sum.inl ((asksS unit tN)[t].1 : Int)) := by
        rw [ek, List.getElem?_map, ha]
        rfl
      rw [List.getElem?_map] at h1
      cases hk : kvs[t]? with
      | none =>
        rw [hk] at h1
        cases h1
      | some kv =>
        rw [hk] at h1
        have h2 : kv.1 = Sum.inl ((asksS unit tN)[t].1 : Int) := Option.some.inj h1
        show some (kV kv.1) = _
        rw [h2]
        rfl
    have hT : linkT unit tN tF (t + 1) = addCopy tF (aheadAt tN.length tF.length t) (linkT unit tN tF t) (asksS unit tN)[t].1 (asksS unit tN)[t].2 := by
      show (match (asksS unit tN)[t]? with
        | some q => addCopy tF (aheadAt tN.length tF.length t) (linkT unit tN tF t) q.1 q.2
        | none => linkT unit tN tF t) = _
      rw [ha]
    have hlen := linkT_len unit tN tF t (by omega)
    have hlen1 := linkT_len unit tN tF (t + 1) (by omega)
    generalize (asksS unit tN)[t] = qs at hsN has htk hkey hT
    obtain ⟨a, s⟩ := qs
    cases s with
    | ask u e f pl g o =>
      obtain ⟨G5, f5, r5⟩ := pair_rep (K := K) (x := .int (a : Nat)) (y := copyD A.C_Copy unit (.ask u e f pl g o) (aheadAt tN.length tF.length t)) f'.i yy (fun v hv => by
        rw [hkey] at hv
        cases hv
        exact .s _) (fun v hv => by
        obtain ⟨d', hd2, rd⟩ := (rk.up (f3.g.trans eg)).get' (show (kvs.map (·.2))[t]? = some v by rw [List.getElem?_map]; exact hv)
        rw [htk] at hd2
        cases hd2
        exact rd)
      have hno : noDeed ways e f.length = false := by
        have h1 := List.any_eq_false.mp hdeeds (.ask u e f pl g o) (List.mem_filter.mpr ⟨List.mem_of_getElem? hsN, has⟩)
        rw [htF] at h1
        simpa [badAsk, waysOf] using h1
      have hway : ∃ wy, wayOf e ways = some wy := by
        unfold noDeed at hno
        have h1 : (ways.any fun q => decide (q.1 = e) && decide (q.2.1 = f.length)) = true := by simpa using hno
        obtain ⟨x, hx, h2⟩ := List.any_eq_true.mp h1
        have h3 : x.1 = e := by
          have := (Bool.and_eq_true _ _ ▸ h2 : decide (x.1 = e) = true ∧ decide (x.2.1 = f.length) = true).1
          exact of_decide_eq_true this
        cases hw : wayOf e ways with
        | some wy => exact ⟨wy, rfl⟩
        | none =>
          have := List.find?_eq_none.mp hw x hx
          simp [h3] at this
      obtain ⟨wy, hwy⟩ := hway
      have hent : entryOf e tF = wy.2.2 := by
        unfold entryOf
        rw [htF]
        show (match wayOf e ways with
          | some w => w.2.2
          | none => 0) = _
        rw [hwy]
      have hwy3 : wy.2.1 ≤ 3 := (hwaysOk.2.2.1 wy (List.mem_of_find?_eq_some hwy)).2.1
      have hf3 : f.length ≤ 3 := (L.near.ok _ (List.mem_of_getElem? hsN)).2.2.1
      let ah := aheadAt tN.length tF.length t
      refine dg_tup (dgs_cons dg_name (dgs_cons dg_name dgs_nil)) rfl σ' G5 H4 x _ f5.i r5 (e'.up f5.g) fun σ5 _ _ G6 H6 f6 e6 => ?_
      have f56 := f5.trans f6
      -- steps[at] = copy.begun(other.steps()[0][1])
      have hst0 : (tF.map stepD)[0]? = some (stepD (.serve ways)) := by
        rw [htF]
        rfl
      refine seq_asg (den_meth (d := stepD (.move [] (ah + wy.2.2 - 1))) (den_var rfl) rfl (da_cons (x := .tup (ways.map wayD)) (den_op (den_op (den_meth (xs := []) (den_var rfl) rfl da_nil ⟨sF, tF, q, rfl, rfl⟩) den_c (rd_ixUT (d := stepD (.serve ways)) (ati 0 hst0))) den_c (rd_ixUT (ati 1 rfl))) da_nil)
        ⟨unit, u, e, f, pl, g, o, ah, ways, wy, rfl, by have := hwaysOk.2.1; omega, hwy, by omega, by omega, rfl⟩ _ G6 H6 _ f6.i e6 fun v G7 H7 f7 r7 => ?_)
      have f57 := f56.trans f7
      have e7 := e6.up f7.g
      have hst4 : H4 st = some (.lst xs) ∨ True := .inr trivial
      have h7 : H7 st = some (.lst xs) := f57.h _ _ hs'
      have g7 : G7 st = none := f57.out gs' (by rw [hs']; intro z; cases z)
      have xl : xs.length = (linkT unit tN tF t).length := by
        have := rs'.len
        rw [List.length_map] at this
        exact this
      have han : a < tN.length := (List.getElem?_eq_some_iff.mp hsN).1
      refine ⟨.ref st, slot_s (i := 4) e7 rfl, .int (a : Nat), slot_s (i := 5) e7 rfl, st, xs, (a : Nat), a, rfl, rfl, h7, ixN_nat (by rw [xl, hlen]; omega), ?_⟩
      have f7' := (f'.trans f57).put (o := .lst (xs.set a v)) hs0 g7
      have r8 : RepAll K G7 (xs.set a v) (((linkT unit tN tF t).map stepD).set a (stepD (.move [] (ah + wy.2.2 - 1)))) := (rs'.up f57.g).set a r7
      -- steps.extend([copy.led(step) for step in other.steps()[1:]])
      dsimp only
      refine ⟨.ref st, slot_s (i := 4) e7 rfl, .inl ⟨rfl, _, .inl (.inl upd_same)⟩, cons_run (dl_lcA (tF.drop 1) stepD (fun s => stepD (ledS pl g ah s)) (fun s => [some nD, some (.str unit), some fD, some (.s (.ref d)), some (.s (.ref st)), some (.int (a : Nat)), some (copyD A.C_Copy unit (.ask u e f pl g o) ah), none, some (stepD s), none])
        (DenI.is (di_2 (di_tup (den_slT (den_meth (xs := []) (den_var rfl) rfl da_nil ⟨sF, tF, q, rfl, rfl⟩) (dp_some den_c) dp_no))) (by rw [show cutD (tF.map stepD) (some 1) none = (tF.map stepD).drop 1 from cutD_from _ 1, List.map_drop])) (by rw [List.length_drop]; omega) (fun s _ => dg_name) (fun s _ => dts_nil)
        (fun s hs => den_meth (den_var rfl) rfl (da_cons (den_var rfl) da_nil) ⟨unit, u, e, f, pl, g, o, ah, s, rfl, L.plain s hs, rfl⟩) (by rfl) _ G7 _ _ f7'.i e7 fun b zs G9 H9 f9 gb hb h9 r9 => ?_)⟩
      have h9s : H9 st = some (.lst (xs.set a v)) := f9.h _ _ upd_same
      have g9 : G9 st = none := f9.out g7 (by rw [upd_same]; intro z; cases z)
      have rAll : RepAll K G9 (xs.set a v ++ zs) ((linkT unit tN tF (t + 1)).map stepD) := by
        rw [hT]
        show RepAll K G9 _ (((linkT unit tN tF t).set a (.move [] (ah + entryOf e tF - 1)) ++ (tF.drop 1).map (ledS pl g ah)).map stepD)
        rw [hent, List.map_append, List.map_set, List.map_map]
        exact (r8.up f9.g).app r9
      have hz : (xs.set a v ++ zs).length ≤ 100000 := by
        have h1 := rAll.len
        rw [h1, List.length_map, hlen1]
        have : (t + 1) * (tF.length - 1) ≤ (asksS unit tN).length * tF.length := Nat.mul_le_mul (by omega) (by omega)
        omega
      refine ⟨st, b, _, zs, rfl, rfl, h9s, h9, Evl.sz_of (by rw [← List.length_append]; exact hz), ?_⟩
      refine ⟨G9, (eg.trans f57.g).trans f9.g, (f7'.trans f9).put hs0 g9, ((e7.up f9.g).forget 5).forget 6, (f57.trans ⟨Ex.refl G7, Ex.refl H7, f57.i, fun _ a b => absurd a b⟩).out gd' (by rw [hd']; intro z; cases z) |> fun z => ?_, ?_, g9, _, upd_same, rAll⟩
      · have hd7 : H7 d = some (.frz od (.dK kvs)) := f57.h _ _ hd'
        refine f9.out z ?_
        rw [upd_ne sd.symm, hd7]
        intro y
        cases y
      · rw [upd_ne sd.symm]
        refine f9.h _ _ ?_
        rw [upd_ne sd.symm]
        exact f57.h _ _ hd'
    | _ => cases has
  · refine ⟨hd', ?_⟩
    have f5 := f'.put (o := .dK kvs) hd0 gd'
    have h5s : upd H' d (.dK kvs) st = some (.lst xs) := by
      rw [upd_ne sd]
      exact hs'
    generalize upd H' d (.dK kvs) = H5 at f5 h5s
    rw [kl] at rs'
    have f6 := f5.take hs0 h5s gs'
    have e6 : EnvD K (upd G' st (.lst xs)) σ' [some nD, some (.str unit), some fD, some (.s (.ref d)), some (.lst ((linkSteps unit tN tF).map stepD)), none, none, none, none, none] :=
      (e'.up (Ex.new gs')).tell (slot_s (i := 4) e' rfl) (.lst upd_same (rs'.up (Ex.new gs')))
    have hsl : ∀ s ∈ sF, s.length ≤ 40 := fun s hs => (L.far.names s hs).1
    have hul := L.unit.2.1
    have hfewF := L.far.few
    have hfewN := L.near.few
    have hsum : ∀ s ∈ sF, unit.length + s.length ≤ 1000 := fun s hs => by
      have := hsl s hs
      omega
    refine ds_set (d := sitesD (sN ++ calledL unit sF)) (Den.is (den_op (den_meth (xs := []) (den_var rfl) rfl da_nil ⟨sN, tN, p, rfl, rfl⟩) (den_cb (da_cons (dl_lcA sF (fun s => .str s) (fun s => .str (calledS unit s)) (fun s => [some nD, some (.str unit), some fD, some (.s (.ref d)), some (.lst ((linkSteps unit tN tF).map stepD)), none, none, none, none, some (.str s)]) (di_2 (di_tup (den_meth (xs := []) (den_var rfl) rfl da_nil ⟨sF, tF, q, rfl, rfl⟩))) (by omega) (fun s _ => dg_name) (fun s _ => dts_nil)
      fun s hs => den_call (da_cons (den_var rfl) (da_cons (den_var rfl) da_nil)) ⟨unit, s, rfl, hsum s hs, rfl⟩).den da_nil) rc_tupL) (rd_cat (by simp; omega))) ?_) σ' _ H5 _ f6.i e6 ?_
    · unfold sitesD calledL
      rw [List.map_append, List.map_map]
      rfl
    intro σ7 G7 H7 f7 e7
    refine ds_ret (d := flowD A.C_Flow (sN ++ calledL unit sF) (linkSteps unit tN tF) p) (den_makeN (xs := [sitesD (sN ++ calledL unit sF), stepsD (linkSteps unit tN tF)]) (ys := [.int p]) (FI := F_Flow___init__) (da_cons (den_var rfl) (da_cons (den_cb (da_cons (den_var rfl) da_nil) rc_tupL) da_nil)) (da_cons (den_meth (xs := []) (den_var rfl) rfl da_nil ⟨sN, tN, p, rfl, rfl⟩) da_nil) rfl rfl ⟨_, _, _, rfl, hfl2, rfl⟩) σ7 G7 H7 _ f7.i e7 fun v G8 H8 f8 r8 => kok hv v G8 H8 ((f6.trans f7).trans f8)
end
end K56
set_option Elab.async false
set_option linter.all false
set_option maxRecDepth 100000
set_option maxHeartbeats 4000000
/-! Kj: what is linked is a flow: the plain law. -/
namespace K56
open PySem L2 Dn
/-- what stands where in the linked steps -/
def Elt (unit : Str) (tN tF : List Step) (t x : Nat) (s : Step) : Prop :=
  tN[x]? = some s ∨
  (∃ (k : Nat) (u e : Str) (f : List Int) (pl : Str) (g o : Int), k < t ∧ (asksS unit tN)[k]? = some (x, .ask u e f pl g o) ∧ s = .move [] (aheadAt tN.length tF.length k + entryOf e tF - 1)) ∨
  ∃ (k a : Nat) (u e : Str) (f : List Int) (pl : Str) (g o : Int) (j : Nat) (s' : Step), k < t ∧ (asksS unit tN)[k]? = some (a, .ask u e f pl g o) ∧ 1 ≤ j ∧ tF[j]? = some s' ∧ (x : Int) = aheadAt tN.length tF.length k + j - 1 ∧ s = ledS pl g (aheadAt tN.length tF.length k) s'
theorem elt_of {unit : Str} {tN tF : List Step} (hm : 1 ≤ tF.length) : ∀ (t : Nat), t ≤ (asksS unit tN).length → ∀ (x : Nat) (s : Step), (linkT unit tN tF t)[x]? = some s → Elt unit tN tF t x s
  | 0, _, x, s, h => .inl h
  | t + 1, ht, x, s, h => by
    have up : ∀ {x s}, Elt unit tN tF t x s → Elt unit tN tF (t + 1) x s := by
      intro x s h
      rcases h with h | ⟨k, u, e, f, pl, g, o, hk, h1, h2⟩ | ⟨k, a, u, e, f, pl, g, o, j, s', hk, h1, h2⟩
      · exact .inl h
      · exact .inr (.inl ⟨k, u, e, f, pl, g, o, by omega, h1, h2⟩)
      · exact .inr (.inr ⟨k, a, u, e, f, pl, g, o, j, s', by omega, h1, h2⟩)
    have ih := elt_of (unit := unit) (tN := tN) hm t (by omega)
    have ha := List.getElem?_eq_getElem (show t < (asksS unit tN).length by omega)
    have hlen := linkT_len unit tN tF t (by omega)
    have hT : linkT unit tN tF (t + 1) = addCopy tF (aheadAt tN.length tF.length t) (linkT unit tN tF t) (asksS unit tN)[t].1 (asksS unit tN)[t].2 := by
      show (match (asksS unit tN)[t]? with
        | some q => addCopy tF (aheadAt tN.length tF.length t) (linkT unit tN tF t) q.1 q.2
        | none => linkT unit tN tF t) = _
      rw [ha]
    have hms := asksS_mem (List.mem_of_getElem? ha)
    generalize hq : (asksS unit tN)[t] = q at ha hT hms
    obtain ⟨a, sa⟩ := q
    cases sa with
    | ask u e f pl g o =>
      rw [hT] at h
      change ((linkT unit tN tF t).set a (.move [] (aheadAt tN.length tF.length t + entryOf e tF - 1)) ++ (tF.drop 1).map (ledS pl g (aheadAt tN.length tF.length t)))[x]? = some s at h
      by_cases hx : x < (linkT unit tN tF t).length
      · rw [List.getElem?_append_left (by rw [List.length_set]; exact hx), List.getElem?_set] at h
        by_cases hxa : a = x
        · subst hxa
          rw [if_pos rfl, if_pos hx] at h
          cases h
          exact .inr (.inl ⟨t, u, e, f, pl, g, o, by omega, ha, rfl⟩)
        · rw [if_neg hxa] at h
          exact up (ih x s h)
      · rw [List.getElem?_append_right (by rw [List.length_set]; omega), List.length_set, List.getElem?_map, List.getElem?_drop] at h
        cases hs : tF[1 + (x - (linkT unit tN tF t).length)]? with
        | none =>
          rw [hs] at h
          cases h
        | some s' =>
          rw [hs] at h
          cases h
          refine .inr (.inr ⟨t, a, u, e, f, pl, g, o, 1 + (x - (linkT unit tN tF t).length), s', by omega, ha, by omega, hs, ?_, rfl⟩)
          unfold aheadAt
          have e1 : (((t * (tF.length - 1) : Nat)) : Int) = (t : Int) * ((tF.length : Int) - 1) := by
            rw [Int.natCast_mul, Int.ofNat_sub hm]
            rfl
          rw [← e1]
          omega
    | _ => cases hms.2
theorem first_of {unit : Str} {tN tF : List Step} {wN : List (Str × Nat × Int)} {rN : List Step} (hN : tN = .serve wN :: rN) (hr : ∀ s ∈ rN, isServe s = false) (hp : ∀ s ∈ tF.drop 1, plainS s = true) :
    ∀ t, t ≤ (asksS unit tN).length → ∃ r, linkT unit tN tF t = .serve wN :: r ∧ ∀ s ∈ r, isServe s = false
  | 0, _ => ⟨rN, hN, hr⟩
  | t + 1, ht => by
    obtain ⟨r, h1, h2⟩ := first_of (unit := unit) hN hr hp t (by omega)
    have ha := List.getElem?_eq_getElem (show t < (asksS unit tN).length by omega)
    have hms := asksS_mem (List.mem_of_getElem? ha)
    have hT : linkT unit tN tF (t + 1) = addCopy tF (aheadAt tN.length tF.length t) (linkT unit tN tF t) (asksS unit tN)[t].1 (asksS unit tN)[t].2 := by
      show (match (asksS unit tN)[t]? with
        | some q => addCopy tF (aheadAt tN.length tF.length t) (linkT unit tN tF t) q.1 q.2
        | none => linkT unit tN tF t) = _
      rw [ha]
    generalize (asksS unit tN)[t] = q at ha hT hms
    obtain ⟨a, sa⟩ := q
    cases sa with
    | ask u e f pl g o =>
      cases a with
      | zero =>
        rw [hN] at hms
        cases hms.1
      | succ a =>
        rw [hT]
        refine ⟨r.set a (.move [] (aheadAt tN.length tF.length t + entryOf e tF - 1)) ++ (tF.drop 1).map (ledS pl g (aheadAt tN.length tF.length t)), ?_, fun s hs => ?_⟩
        · show (linkT unit tN tF t).set (a + 1) _ ++ _ = _
          rw [h1]
          rfl
        · rcases List.mem_append.mp hs with hs | hs
          · rcases List.mem_or_eq_of_mem_set hs with hs | rfl
            · exact h2 s hs
            · rfl
          · obtain ⟨s', hs', rfl⟩ := List.mem_map.mp hs
            have := hp s' hs'
            cases s' <;> first | rfl | cases this
    | _ => cases hms.2
/-! ### names -/
theorem calledS_eq {u s : Str} (h : s ≠ "") : (calledS u s).cps.toList = u.cps.toList ++ 46 :: s.cps.toList := by
  unfold calledS
  rw [if_neg h]
  show ((((Array.mkEmpty 0 ++ u.cps) ++ (Str.cps ".")) ++ s.cps)).toList = _
  have : (Str.cps ".").toList = [46] := by decide +kernel
  rw [Array.toList_append, Array.toList_append, Array.toList_append, this]
  simp
theorem str_len (s : Str) : s.cps.toList.length = s.length := by simp [Str.length]
theorem str_ext {a b : Str} (h : a.cps.toList = b.cps.toList) : a = b := by
  obtain ⟨x⟩ := a
  obtain ⟨y⟩ := b
  congr 1
  exact Array.toList_inj.mp h
theorem place_ne {s : Str} (h : placeOk s) : s ≠ "" := by
  obtain ⟨_, ⟨c, hc, _⟩, _⟩ := h
  intro e
  subst e
  have : (Str.cps "").toList = [] := by decide +kernel
  rw [this] at hc
  cases hc
theorem called_place {u s : Str} (hu : nameOk u) (hs : placeOk s) (hl : (calledS u s).length ≤ 40) : placeOk (calledS u s) := by
  have he := calledS_eq (u := u) (place_ne hs)
  refine ⟨hl, ?_, ?_⟩
  · have h1 : 1 ≤ u.cps.toList.length := by
      rw [str_len]
      exact hu.1
    refine ⟨u.cps.toList[0], ?_, ?_⟩
    · rw [he, List.getElem?_append_left (by omega)]
      exact List.getElem?_eq_getElem _
    · exact List.all_eq_true.mp hu.2.2 _ (List.getElem_mem _)
  · rw [he, List.all_append, Bool.and_eq_true]
    refine ⟨name_place hu, ?_⟩
    rw [List.all_cons, Bool.and_eq_true]
    exact ⟨by decide +kernel, hs.2.2⟩
theorem called_inj {u a b : Str} (ha : a ≠ "") (hb : b ≠ "") (h : calledS u a = calledS u b) : a = b := by
  have h1 := congrArg (fun z : Str => z.cps.toList) h
  simp only [calledS_eq ha, calledS_eq hb] at h1
  have h2 := List.append_cancel_left h1
  injection h2 with _ h3
  exact str_ext h3
theorem called_nd {u : Str} {sF : List Str} (hp : ∀ s ∈ sF, placeOk s) (nd : sF.Nodup) : (calledL u sF).Nodup := by
  unfold calledL
  rw [List.nodup_iff_pairwise_ne] at nd ⊢
  rw [List.pairwise_map]
  refine List.Pairwise.imp_of_mem ?_ nd
  intro a b ha hb hab he
  exact hab (called_inj (place_ne (hp a ha)) (place_ne (hp b hb)) he)
theorem ver_all {unit : Str} {sN : List Str} {tN : List Step} {p : Int} {sF : List Str} {tF : List Step} {q : Int} (h : linkVer unit sN tN p sF tF q = none) :
    p = q ∧ (∀ s ∈ calledL unit sF, s ∉ sN) ∧ (∀ s ∈ calledL unit sF, s.length ≤ 40) ∧ sF.length + sN.length ≤ 100 := by
  unfold linkVer at h
  split at h
  · cases h
  rename_i h1
  split at h
  · cases h
  rename_i h2
  split at h
  · cases h
  rename_i h3
  split at h
  · cases h
  rename_i h4
  have h5 : (calledL unit sF).any (fun s => decide (s ∈ sN)) = false := by simpa using h3
  have h6 : ((calledL unit sF).any (fun s => decide (40 < s.length)) || decide (100 < sF.length + sN.length)) = false := by
    cases q : ((calledL unit sF).any (fun s => decide (40 < s.length)) || decide (100 < sF.length + sN.length)) with
    | false => rfl
    | true => exact absurd q h4
  rw [Bool.or_eq_false_iff] at h6
  refine ⟨Classical.byContradiction fun z => h1 z, fun s hs => ?_, fun s hs => ?_, ?_⟩
  · have := List.any_eq_false.mp h5 s hs
    simpa using this
  · have := List.any_eq_false.mp h6.1 s hs
    have : ¬ 40 < s.length := by simpa using this
    omega
  · have := of_decide_eq_false h6.2
    omega
theorem sink_up {sN sM : List Str} {s : Str} (h : sinkOk sN s) : sinkOk (sN ++ sM) s := by
  rcases h with h | h
  · exact .inl h
  · exact .inr (List.mem_append_left _ h)
theorem step_up {sN sM : List Str} {n N p : Int} (hn : n ≤ N) : ∀ {s : Step}, stepOk sN n p s → stepOk (sN ++ sM) N p s
  | .serve ways, ⟨h1, h2, h3, h4⟩ => ⟨h1, h2, fun q hq => ⟨(h3 q hq).1, (h3 q hq).2.1, (h3 q hq).2.2.1, by have := (h3 q hq).2.2.2; omega⟩, h4⟩
  | .move pairs goal, ⟨h1, h2, h3, h4⟩ => ⟨h1, fun q hq => ⟨List.mem_append_left _ (h2 q hq).1, (h2 q hq).2.1, (h2 q hq).2.2⟩, h3, h4.1, by have := h4.2; omega⟩
  | .out n goal, ⟨h1, h2⟩ => ⟨h1, h2.1, by have := h2.2; omega⟩
  | .ask u e f pl g o, ⟨h1, h2, h3, h4, h5, h6, h7⟩ => ⟨h1, h2, h3, h4, sink_up h5, ⟨h6.1, by have := h6.2; omega⟩, h7.1, by have := h7.2; omega⟩
  | .done n, h => h
theorem le_sum {f : Nat → Nat} {n j : Nat} (h : j < n) : f j ≤ ((List.range n).map f).sum := by
  induction n with
  | zero => omega
  | succ n ih =>
    rw [List.range_succ, List.map_append, List.sum_append]
    by_cases e : j = n
    · subst e
      simp
    · have := ih (by omega)
      omega
theorem link_ok {unit : Str} {sN : List Str} {tN : List Step} {p : Int} {sF : List Str} {tF : List Step} {q : Int} (L : LinkIn2 unit sN tN p sF tF q) (hv : linkVer unit sN tN p sF tF q = none) : FlowOk (sN ++ calledL unit sF) (linkSteps unit tN tF) p := by
  obtain ⟨hpq, hdis, h40, h100⟩ := ver_all hv
  have hfew := ver_few hv
  have hdeeds := ver_deeds hv
  obtain ⟨ways, rest, htF, hrest⟩ := L.far.first
  obtain ⟨wN, rN, htN, hrN⟩ := L.near.first
  have hwaysOk := L.far.ok (.serve ways) (by rw [htF]; exact List.mem_cons_self)
  have hm2 : 2 ≤ tF.length := by
    have h1 := hwaysOk.1
    cases ways with
    | nil => simp at h1
    | cons w ws =>
      have := (hwaysOk.2.2.1 w List.mem_cons_self).2.2
      have h3 := this.1
      have h4 := this.2
      omega
  have hn1 : 1 ≤ tN.length := by
    rw [htN]
    simp
  have hA := linkT_len unit tN tF (asksS unit tN).length (Nat.le_refl _)
  have hAi : ((linkSteps unit tN tF).length : Int) = aheadAt tN.length tF.length (asksS unit tN).length := by
    unfold linkSteps
    rw [hA]
    unfold aheadAt
    rw [Int.natCast_add, Int.natCast_mul, Int.ofNat_sub (by omega)]
    rfl
  have hmono : ∀ k, k < (asksS unit tN).length → aheadAt tN.length tF.length k + ((tF.length : Int) - 1) ≤ ((linkSteps unit tN tF).length : Int) := fun k hk => by
    rw [hAi, ← ahead_succ]
    unfold aheadAt
    have : ((k + 1 : Nat) : Int) * ((tF.length : Int) - 1) ≤ ((asksS unit tN).length : Int) * ((tF.length : Int) - 1) := Int.mul_le_mul_of_nonneg_right (by omega) (by omega)
    omega
  have hge : ∀ k, (tN.length : Int) ≤ aheadAt tN.length tF.length k := fun k => by
    unfold aheadAt
    have : 0 ≤ (k : Int) * ((tF.length : Int) - 1) := Int.mul_nonneg (by omega) (by omega)
    omega
  have hnN : (tN.length : Int) ≤ ((linkSteps unit tN tF).length : Int) := by
    rw [hAi]
    exact hge _
  -- the way of an ask
  have hent : ∀ {k x : Nat} {u e : Str} {f : List Int} {pl : Str} {g o : Int}, (asksS unit tN)[k]? = some (x, Step.ask u e f pl g o) → ∃ j : Nat, entryOf e tF = (j : Int) ∧ 1 ≤ j ∧ j < tF.length := by
    intro k x u e f pl g o hk
    obtain ⟨hs, has⟩ := asksS_mem (List.mem_of_getElem? hk)
    have h1 := List.any_eq_false.mp hdeeds (.ask u e f pl g o) (List.mem_filter.mpr ⟨List.mem_of_getElem? hs, has⟩)
    rw [htF] at h1
    have hno : noDeed ways e f.length = false := by simpa [badAsk, waysOf] using h1
    unfold noDeed at hno
    have h1 : (ways.any fun q => decide (q.1 = e) && decide (q.2.1 = f.length)) = true := by simpa using hno
    obtain ⟨y, hy, h2⟩ := List.any_eq_true.mp h1
    have h3 : y.1 = e := by
      have := (Bool.and_eq_true _ _ ▸ h2 : decide (y.1 = e) = true ∧ decide (y.2.1 = f.length) = true).1
      exact of_decide_eq_true this
    have hen : entryOf e tF = (match wayOf e ways with
      | some w => w.2.2
      | none => 0) := by
      unfold entryOf
      rw [htF]
      rfl
    cases hw : wayOf e ways with
    | some wy =>
      rw [hw] at hen
      have hg := (hwaysOk.2.2.1 wy (List.mem_of_find?_eq_some hw)).2.2
      have h4 := hg.1
      have h5 := hg.2
      exact ⟨wy.2.2.toNat, by rw [hen]; show wy.2.2 = _; omega, by omega, by omega⟩
    | none =>
      have := List.find?_eq_none.mp hw y hy
      simp [h3] at this
  have hfar : ∀ {j : Nat} {s' : Step}, tF[j]? = some s' → 1 ≤ j → plainS s' = true ∧ stepOk sF tF.length q s' := fun {j s'} hj h1 => by
    refine ⟨L.plain s' ?_, L.far.ok s' (List.mem_of_getElem? hj)⟩
    have : (tF.drop 1)[j - 1]? = some s' := by
      rw [List.getElem?_drop, show 1 + (j - 1) = j by omega]
      exact hj
    exact List.mem_of_getElem? this
  refine ⟨L.near.prime, by simp [calledL]; omega, ?_, ?_, ?_, ?_, ?_, ?_⟩
  · intro s hs
    rcases List.mem_append.mp hs with hs | hs
    · exact L.near.names s hs
    · obtain ⟨y, hy, rfl⟩ := List.mem_map.mp hs
      exact called_place L.unit (L.far.names y hy) (h40 _ hs)
  · rw [List.nodup_append]
    refine ⟨L.near.nd, called_nd L.far.names L.far.nd, fun a ha b hb he => ?_⟩
    subst he
    exact hdis a hb ha
  · unfold linkSteps
    rw [hA]
    have : (asksS unit tN).length * (tF.length - 1) ≤ (asksS unit tN).length * tF.length := Nat.mul_le_mul (Nat.le_refl _) (by omega)
    omega
  · intro s hs
    obtain ⟨x, hx⟩ := List.getElem?_of_mem hs
    rcases elt_of (by omega) _ (Nat.le_refl _) x s hx with h | ⟨k, u, e, f, pl, g, o, hk, h1, rfl⟩ | ⟨k, a, u, e, f, pl, g, o, j, s', hk, h1, hj, h2, hxj, rfl⟩
    · exact step_up hnN (L.near.ok s (List.mem_of_getElem? h))
    · obtain ⟨j, hj1, hj2, hj3⟩ := hent h1
      have h3 := hge k
      have h4 := hmono k hk
      rw [hj1]
      exact ⟨by simp, fun q hq => by simp at hq, by simp, by omega, by omega⟩
    · obtain ⟨hpl, hok⟩ := hfar h2 hj
      obtain ⟨hsa, _⟩ := asksS_mem (List.mem_of_getElem? h1)
      have hask := L.near.ok _ (List.mem_of_getElem? hsa)
      have h3 := hge k
      have h4 := hmono k hk
      cases s' with
      | out n h =>
        have h5 := hok.2.1
        have h6 := hok.2.2
        exact ⟨by rw [hpq]; exact hok.1, by omega, by omega⟩
      | done n =>
        show stepOk _ _ _ (.move (if pl = "" then [] else [(pl, n)]) g)
        have hg := hask.2.2.2.2.2.1
        have hs := hask.2.2.2.2.1
        by_cases hpe : pl = ""
        · rw [if_pos hpe]
          exact ⟨by simp, fun q hq => by simp at hq, by simp, hg.1, by have := hg.2; omega⟩
        · rw [if_neg hpe]
          refine ⟨by simp, fun q hq => ?_, by simp, hg.1, by have := hg.2; omega⟩
          simp at hq
          subst hq
          rcases hs with hs | hs
          · exact absurd hs hpe
          · exact ⟨List.mem_append_left _ hs, hpe, by rw [hpq]; exact hok⟩
      | _ => cases hpl
  · obtain ⟨r, h1, h2⟩ := first_of (unit := unit) htN hrN L.plain _ (Nat.le_refl _)
    exact ⟨wN, r, h1, h2⟩
  · obtain ⟨r, hr⟩ := L.near.rk
    obtain ⟨r', hr'⟩ := L.far.rk
    let B := ((List.range tF.length).map r').sum + 2
    have hB : ∀ j, j < tF.length → r' j + 2 ≤ B := fun j hj => by
      have := le_sum (f := r') hj
      show r' j + 2 ≤ _ + 2
      omega
    let rank : Nat → Nat := fun x => if x < tN.length then r x * B else
      r (((asksS unit tN)[(x - tN.length) / (tF.length - 1)]?.map (·.1)).getD 0) * B - B + 1 + r' ((x - tN.length) % (tF.length - 1) + 1)
    have rkN : ∀ x, x < tN.length → rank x = r x * B := fun x hx => if_pos hx
    have pos : ∀ (k j : Nat), 1 ≤ j → (((tN.length + k * (tF.length - 1) + (j - 1) : Nat)) : Int) = aheadAt tN.length tF.length k + j - 1 := fun k j hj => by
      unfold aheadAt
      rw [Int.natCast_add, Int.natCast_add, Int.natCast_mul, Int.ofNat_sub (by omega), Int.ofNat_sub (by omega)]
      show (tN.length : Int) + (k : Int) * ((tF.length : Int) - 1) + ((j : Int) - 1) = _
      omega
    have rkC : ∀ (k j a : Nat) (s : Step), (asksS unit tN)[k]? = some (a, s) → 1 ≤ j → j < tF.length → rank (tN.length + k * (tF.length - 1) + (j - 1)) = r a * B - B + 1 + r' j := fun k j a s hk h1 h2 => by
      have e0 : tN.length + k * (tF.length - 1) + (j - 1) - tN.length = (tF.length - 1) * k + (j - 1) := by
        rw [Nat.mul_comm]
        omega
      have hpos : 0 < tF.length - 1 := by omega
      have e1 : ((tF.length - 1) * k + (j - 1)) / (tF.length - 1) = k := by
        rw [Nat.mul_add_div hpos, Nat.div_eq_of_lt (by omega)]
        rfl
      have e2 : ((tF.length - 1) * k + (j - 1)) % (tF.length - 1) = j - 1 := by
        rw [Nat.mul_add_mod, Nat.mod_eq_of_lt (by omega)]
      show (if tN.length + k * (tF.length - 1) + (j - 1) < tN.length then _ else _) = _
      rw [if_neg (by omega), e0, e1, e2, hk, show j - 1 + 1 = j by omega]
      rfl
    have cLt : ∀ (k j : Nat), k < (asksS unit tN).length → 1 ≤ j → j < tF.length → tN.length + k * (tF.length - 1) + (j - 1) < (linkSteps unit tN tF).length := fun k j hk h1 h2 => by
      have h3 := hmono k hk
      have h4 := pos k j h1
      omega
    have hask : ∀ {k a : Nat} {u e : Str} {f : List Int} {pl : Str} {g o : Int}, (asksS unit tN)[k]? = some (a, Step.ask u e f pl g o) → ∃ j : Nat, g = (j : Int) ∧ j < tN.length ∧ r j < r a := by
      intro k a u e f pl g o hk
      obtain ⟨hs, _⟩ := asksS_mem (List.mem_of_getElem? hk)
      exact hr a _ hs g (by simp [goalsOf])
    refine ⟨rank, fun x s hx g hg => ?_⟩
    rcases elt_of (by omega) _ (Nat.le_refl _) x s hx with h | ⟨k, u, e, f, pl, gg, o, hk, h1, rfl⟩ | ⟨k, a, u, e, f, pl, gg, o, j, s', hk, h1, hj, h2, hxj, rfl⟩
    · obtain ⟨j, rfl, hj, hlt⟩ := hr x s h g hg
      have hxn := (List.getElem?_eq_some_iff.mp h).1
      refine ⟨j, rfl, by omega, ?_⟩
      rw [rkN j hj, rkN x hxn]
      exact Nat.mul_lt_mul_of_pos_right hlt (by show 0 < _ + 2; omega)
    · obtain ⟨j, hj1, hj2, hj3⟩ := hent h1
      obtain ⟨hs, _⟩ := asksS_mem (List.mem_of_getElem? h1)
      have hxn := (List.getElem?_eq_some_iff.mp hs).1
      obtain ⟨j'', _, _, hlt⟩ := hask h1
      have hge1 : B ≤ r x * B := Nat.le_mul_of_pos_left _ (by omega)
      have hb := hB j hj3
      simp only [goalsOf, List.mem_singleton] at hg
      refine ⟨tN.length + k * (tF.length - 1) + (j - 1), by rw [hg, hj1, pos k j hj2], cLt k j hk hj2 hj3, ?_⟩
      rw [rkC k j x _ h1 hj2 hj3, rkN x hxn]
      omega
    · obtain ⟨hpl, hok⟩ := hfar h2 hj
      have hjm := (List.getElem?_eq_some_iff.mp h2).1
      have hxe : x = tN.length + k * (tF.length - 1) + (j - 1) := by
        have := pos k j hj
        omega
      cases s' with
      | out n h =>
        have h5 := hok.2.1
        obtain ⟨j', rfl, hj', hlt⟩ := hr' j _ h2 h (by simp [goalsOf])
        have hg2 : g = aheadAt tN.length tF.length k + (j' : Int) - 1 := by simpa [ledS, goalsOf] using hg
        refine ⟨tN.length + k * (tF.length - 1) + (j' - 1), by rw [hg2, pos k j' (by omega)], cLt k j' hk (by omega) hj', ?_⟩
        rw [hxe, rkC k j' a _ h1 (by omega) hj', rkC k j a _ h1 hj hjm]
        omega
      | done n =>
        have hg2 : g = gg := by simpa [ledS, goalsOf] using hg
        obtain ⟨j'', hj1, hj2, hlt⟩ := hask h1
        have hmul : r j'' * B + B ≤ r a * B := by
          have : (r j'' + 1) * B ≤ r a * B := Nat.mul_le_mul_right _ hlt
          rw [Nat.add_mul] at this
          omega
        refine ⟨j'', by rw [hg2, hj1], by omega, ?_⟩
        rw [hxe, rkN j'' hj2, rkC k j a _ h1 hj hjm]
        omega
      | _ => cases hpl
end K56
set_option Elab.async false
set_option linter.all false
set_option maxRecDepth 100000
set_option maxHeartbeats 4000000
set_option pp.maxSteps 400
set_option pp.deepTerms false
/-! Kk: what the law draws. -/
namespace K56
open PySem L2 Dn
open Evl (Ex fresh_back)
theorem sc__law_draw : FnScope ["draws", "many", "cells", "at", "cell"] ["draws", "many"] (defScope s__law_draw) := ⟨rfl, rfl, rfl, by decide +kernel, rfl, by decide +kernel, by decide +kernel⟩
theorem sc__law_pick : FnScope ["draws", "some"] ["draws", "some"] (defScope s__law_pick) := ⟨rfl, rfl, rfl, by decide +kernel, rfl, by decide +kernel, by decide +kernel⟩
/-- the draws: cells, a place, a number -/
def DrawsAt (H : Hp) (dr cl : Addr) : Prop := ∃ (cs : List Int) (a b : Int), H dr = some (.lst [.ref cl, .int a, .int b]) ∧ H cl = some (.lst (cs.map V.int)) ∧ cs ≠ [] ∧ cs.length ≤ 64 ∧ (∀ c ∈ cs, 0 ≤ c) ∧ 0 ≤ a ∧ 0 ≤ b ∧ b < 2147483648
/-- all but the draws stays -/
structure DrH (dr cl : Addr) (H H' : Hp) : Prop where
  keep : ∀ a o, a ≠ dr → a ≠ cl → H a = some o → H' a = some o
  at_ : DrawsAt H' dr cl
theorem DrawsAt.ne {H : Hp} {dr cl : Addr} (h : DrawsAt H dr cl) : dr ≠ cl := by
  obtain ⟨cs, a, b, h1, h2, h3, _⟩ := h
  intro e
  subst e
  rw [h1] at h2
  cases cs with
  | nil => exact h3 rfl
  | cons c cs => simp at h2
def spDraw : Sp := fun vs H Q _ => ∃ (dr cl : Addr) (m : Int), vs = [.ref dr, .int m] ∧ DrawsAt H dr cl ∧ 1 ≤ m ∧ m ≤ 100000 ∧ ∀ v H', 0 ≤ v → v < m → DrH dr cl H H' → Q (.int v) H'
section
variable {P : Program} {w : World} {K : PySem.W.Frag} {mg : Str → Option Value} {base : Heap} {A : Ad}
theorem ok__law_draw (T : Tx K w mg A) : FnOk P w K mg base CX0 1 A.f__law_draw A.d__law_draw ["draws", "many"] spDraw := by
  refine T.F__law_draw.ok sc__law_draw (fun vs H Q E h => ?_) (fun cdv Ar outer s H vs Q E hr h => ?_)
  · obtain ⟨dr, cl, m, rfl, _⟩ := h
    rfl
  obtain ⟨dr, cl, m, rfl, hD, hm1, hm2, k⟩ := h
  refine ⟨_, (pss_cons (ps_set (i := 2) sc__law_draw.nd rfl (Or.inl rfl) (pe_ix (r := rIx K) ix_seq (pv 0) pe_int (fun _ _ => rfl)))
  (pss_cons (ps_set (i := 3) sc__law_draw.nd rfl (Or.inl rfl) (pe_op op_mod (pe_ix (r := rIx K) ix_seq (pv 0) pe_int (fun _ _ => rfl)) (pe_callB (r := Dn.rLenU K) Dn.call_lenU (by rfl) T.n_len (by decide +kernel) (pa_cons (pv 2) pa_nil))))
  (pss_cons (ps_set (i := 4) sc__law_draw.nd rfl (Or.inl rfl) (pe_ix (r := rIx K) ix_seq (pv 2) (pv 3) (fun _ _ => rfl)))
  (pss_cons (ps_if (pt_cmpR op_ge (pv 4) pe_int (nomark _)) (pss_cons (ps_asg (pe_op op_fdiv (pv 4) (pv 1)) (pg_sub (pv 2) (pv 3) set_list))
  (pss_one (ps_ret (pe_op op_mod (pv 4) (pv 1))))) pss_nil)
  (pss_cons (ps_asg (pe_op op_add (pe_ix (r := rIx K) ix_seq (pv 0) pe_int (fun _ _ => rfl)) pe_int) (pg_sub (pv 0) pe_int set_list))
  (pss_cons (ps_asg (pe_op op_mod (pe_op op_add (pe_op op_add (pe_op op_mul (pe_ix (r := rIx K) ix_seq (pv 0) pe_int (fun _ _ => rfl)) pe_int) (pv 4)) pe_int) pe_int) (pg_sub (pv 0) pe_int set_list))
  (pss_one (ps_ret (pe_op op_mod (pe_op op_fdiv (pe_op op_mod (pe_op op_mul (pe_ix (r := rIx K) ix_seq (pv 0) pe_int (fun _ _ => rfl)) (pe_ix (r := rIx K) ix_seq (pv 0) pe_int (fun _ _ => rfl))) pe_int) pe_int) (pv 1)))))))))), ?_⟩
  have hne := hD.ne
  obtain ⟨cs, a, b, hdr, hcl, hcs, hz, hpos, ha, hb, hb2⟩ := hD
  have hlen : 0 < (cs.length : Int) := by
    cases cs with
    | nil => exact absurd rfl hcs
    | cons c cs => simp
  let i := (a % (cs.length : Int)).toNat
  have hi1 : 0 ≤ a % (cs.length : Int) := Int.emod_nonneg _ (by omega)
  have hi2 : a % (cs.length : Int) < (cs.length : Int) := Int.emod_lt_of_pos _ hlen
  have hi : a % (cs.length : Int) = (i : Int) := by
    show _ = ((a % (cs.length : Int)).toNat : Int)
    omega
  have hil : i < cs.length := by omega
  have hc : cs[i]? = some cs[i] := List.getElem?_eq_getElem hil
  have hc0 : 0 ≤ cs[i] := hpos _ (List.getElem_mem _)
  have hml : (cs.map V.int).length = cs.length := List.length_map _
  -- cells, at, cell
  refine ⟨.ref dr, rfl, .inl ⟨dr, _, 0, .ref cl, rfl, rfl, .inl (.inl hdr), ati 0 rfl, ?_⟩⟩
  refine ⟨.ref dr, rfl, .inl ⟨dr, _, 1, .int a, rfl, rfl, .inl (.inl hdr), ati 1 rfl, .ref cl, rfl, .inl ⟨cl, _, rfl, .inl (.inl (.inl hcl)), a, (cs.length : Nat), rfl, by rw [hml], hlen, ?_⟩⟩⟩
  refine ⟨.ref cl, rfl, .int (a % (cs.length : Int)), rfl, .inl ⟨cl, _, a % (cs.length : Int), .int cs[i], rfl, rfl, .inl (.inl hcl), by rw [hi]; exact atI_nat (by rw [List.getElem?_map, hc]; rfl), ?_⟩⟩
  -- if cell >= 10 ** 18
  refine ⟨.int cs[i], rfl, cs[i], 1000000000000000000, rfl, rfl, _, rfl, ?_⟩
  by_cases hbig : (1000000000000000000 : Int) ≤ cs[i]
  · dsimp only
    rw [decide_eq_true hbig, if_pos rfl]
    refine ⟨.int cs[i], rfl, .int m, rfl, cs[i], m, rfl, rfl, ⟨by omega, by omega⟩, .ref cl, rfl, .int (a % (cs.length : Int)), rfl, cl, _, a % (cs.length : Int), i, rfl, rfl, hcl, by rw [hi, hml]; exact ixN_nat hil, ?_⟩
    refine ⟨.int cs[i], rfl, .int m, rfl, cs[i], m, rfl, rfl, by omega, ?_⟩
    refine k _ _ (Int.emod_nonneg _ (by omega)) (Int.emod_lt_of_pos _ (by omega)) ⟨fun x o h1 h2 h3 => by rw [upd_ne h2]; exact h3, cs.set i (cs[i] / m), a, b, by rw [upd_ne hne]; exact hdr, ?_, ?_, by rw [List.length_set]; exact hz, fun c hc' => ?_, ha, hb, hb2⟩
    · rw [upd_same, List.map_set]
    · intro e
      have := congrArg List.length e
      rw [List.length_set] at this
      exact hcs (List.length_eq_zero_iff.mp this)
    · rcases List.mem_or_eq_of_mem_set hc' with h | rfl
      · exact hpos c h
      · exact Int.ediv_nonneg hc0 (by omega)
  · dsimp only
    rw [decide_eq_false hbig, if_neg Bool.false_ne_true]
    -- draws[1] = draws[1] + 1
    refine ⟨.ref dr, rfl, .inl ⟨dr, _, 1, .int a, rfl, rfl, .inl (.inl hdr), ati 1 rfl, a, 1, rfl, rfl, .ref dr, rfl, dr, _, 1, 1, rfl, rfl, hdr, rfl, ?_⟩⟩
    -- draws[2] = (draws[2] * 48271 + cell + 12345) % 2147483647
    have h1 : upd H dr (.lst ([V.ref cl, .int a, .int b].set 1 (.int (a + 1)))) dr = some (.lst [V.ref cl, .int (a + 1), .int b]) := upd_same
    refine ⟨.ref dr, rfl, .inl ⟨dr, _, 2, .int b, rfl, rfl, .inl (.inl h1), ati 2 rfl, b, 48271, rfl, rfl, .inr ⟨by decide, by decide⟩, .int cs[i], rfl, b * 48271, cs[i], rfl, rfl, b * 48271 + cs[i], 12345, rfl, rfl, b * 48271 + cs[i] + 12345, 2147483647, rfl, rfl, (by show (0 : Int) < 2147483647; decide), .ref dr, rfl, dr, _, 2, 2, rfl, rfl, h1, rfl, ?_⟩⟩
    let b' := (b * 48271 + cs[i] + 12345) % 2147483647
    have hb0 : 0 ≤ b' := Int.emod_nonneg _ (by decide)
    have hb1 : b' < 2147483647 := Int.emod_lt_of_pos _ (by decide)
    have h2 : upd (upd H dr (.lst ([V.ref cl, .int a, .int b].set 1 (.int (a + 1))))) dr (.lst ([V.ref cl, .int (a + 1), .int b].set 2 (.int b'))) dr = some (.lst [V.ref cl, .int (a + 1), .int b']) := upd_same
    refine ⟨.ref dr, rfl, .inl ⟨dr, _, 2, .int b', rfl, rfl, .inl (.inl h2), ati 2 rfl, .ref dr, rfl, .inl ⟨dr, _, 2, .int b', rfl, rfl, .inl (.inl h2), ati 2 rfl, b', b', rfl, rfl, .inl ⟨by omega, by omega⟩, b' * b', 2147483629, rfl, rfl, (by show (0 : Int) < 2147483629; decide), _, 16, rfl, rfl, ⟨by decide, by decide⟩, .int m, rfl, _, m, rfl, rfl, by omega, ?_⟩⟩⟩
    refine k _ _ (Int.emod_nonneg _ (by omega)) (Int.emod_lt_of_pos _ (by omega)) ⟨fun x o h3 h4 h5 => by rw [upd_ne h3, upd_ne h3]; exact h5, cs, a + 1, b', h2, by rw [upd_ne hne.symm, upd_ne hne.symm]; exact hcl, hcs, hz, hpos, by omega, hb0, by omega⟩
/-- one of a list's items -/
def spPick (K : PySem.W.Frag) : Sp := fun vs H Q _ => ∃ (G : Hp) (dr cl : Addr) (v : V) (ds : List Dat), vs = [.ref dr, v] ∧ Ex G H ∧ G dr = none ∧ G cl = none ∧ DrawsAt H dr cl ∧ Rep K G v (.lst ds) ∧ 1 ≤ ds.length ∧ ds.length ≤ 100000 ∧
  ∀ u d H', d ∈ ds → Rep K G u d → DrH dr cl H H' → Q u H'
theorem ok__law_pick (T : Tx K w mg A) : FnOk P w K mg base CX0 2 A.f__law_pick A.d__law_pick ["draws", "some"] (spPick K) := by
  refine T.F__law_pick.ok sc__law_pick (fun vs H Q E h => ?_) (fun cdv Ar outer s H vs Q E hr h => ?_)
  · obtain ⟨G, dr, cl, v, ds, rfl, _⟩ := h
    rfl
  obtain ⟨G, dr, cl, v, ds, rfl, i0, gd, gc, hD, rv, h1, h2, k⟩ := h
  refine ⟨_, (pss_one (ps_ret (pe_ix (r := rIx K) ix_seq (pv 1) (pe_call (ok__law_draw T) (hr.mono (by decide)) rfl T.g__law_draw T.F__law_draw.kp T.b__law_draw .nil pass0 (pa_cons (pv 0) (pa_cons (pe_callB (r := Dn.rLenU K) Dn.call_lenU (by rfl) T.n_len (by decide +kernel) (pa_cons (pv 1) pa_nil)) pa_nil))) (fun _ _ => rfl)))), ?_⟩
  cases rv with
  | @lst l xs _ hl rl =>
    have hxl := rl.len
    refine ⟨.ref l, rfl, .ref dr, rfl, .ref l, rfl, .inl ⟨l, xs, rfl, .inl (.inl (.inl (i0 _ _ hl))), ?_⟩⟩
    refine ⟨dr, cl, (xs.length : Nat), rfl, hD, by omega, by omega, fun v H' hv0 hv1 hH => ?_⟩
    have hll : l ≠ dr := fun z => by
      rw [z, gd] at hl
      cases hl
    have hlc : l ≠ cl := fun z => by
      rw [z, gc] at hl
      cases hl
    have hvn : v = (v.toNat : Int) := by omega
    have hvl : v.toNat < xs.length := by omega
    have hd := List.getElem?_eq_getElem (show v.toNat < ds.length by omega)
    obtain ⟨u, hu, ru⟩ := rl.get hd
    refine .inl ⟨l, xs, v, u, rfl, rfl, .inl (.inl (hH.keep _ _ hll hlc (i0 _ _ hl))), ?_, k u _ H' (List.getElem_mem _) ru hH⟩
    rw [hvn]
    exact atI_nat hu
end
end K56
set_option Elab.async false
set_option linter.all false
set_option maxRecDepth 100000
set_option maxHeartbeats 4000000
set_option pp.maxSteps 400
set_option pp.deepTerms false
/-! Kl: the draws begun; places drawn. -/
namespace K56
open PySem L2 Dn
open Evl (Ex fresh_back)
theorem sc__law_begun : FnScope ["script", "cell"] ["script"] (defScope s__law_begun) := ⟨rfl, rfl, rfl, by decide +kernel, rfl, by decide +kernel, by decide +kernel⟩
theorem sc__law_places_of : FnScope ["draws", "many", "sign", "size", "k"] ["draws", "many", "sign"] (defScope s__law_places_of) := ⟨rfl, rfl, rfl, by decide +kernel, rfl, by decide +kernel, by decide +kernel⟩
theorem yes_run {σ : L2.St} {H : Hp} {Q : Bool → Hp → Prop} (h : Q true H) : tYes σ H Q := h
/-- G grows, the draws change, all else stays -/
structure DF (dr cl : Addr) (G H G' H' : Hp) : Prop where
  g : Ex G G'
  keep : ∀ a o, a ≠ dr → a ≠ cl → H a = some o → H' a = some o
  i : Ex G' H'
  n : ∀ a, G a = none → G' a ≠ none → H a = none
  at_ : DrawsAt H' dr cl
theorem DrawsAt.up {H H' : Hp} {dr cl : Addr} (h : DrawsAt H dr cl) (e : Ex H H') : DrawsAt H' dr cl := by
  obtain ⟨cs, a, b, h1, h2, h3⟩ := h
  exact ⟨cs, a, b, e _ _ h1, e _ _ h2, h3⟩
theorem DrawsAt.some1 {H : Hp} {dr cl : Addr} (h : DrawsAt H dr cl) : H dr ≠ none := by
  obtain ⟨cs, a, b, h1, h2, h3⟩ := h
  rw [h1]
  intro z
  cases z
theorem DrawsAt.some2 {H : Hp} {dr cl : Addr} (h : DrawsAt H dr cl) : H cl ≠ none := by
  obtain ⟨cs, a, b, h1, h2, h3⟩ := h
  rw [h2]
  intro z
  cases z
section
variable {dr cl : Addr} {G H G' H' G2 H2 : Hp}
theorem DF.draw (i : Ex G H) (gd : G dr = none) (gc : G cl = none) (h : DrH dr cl H H') : DF dr cl G H G H' := ⟨Ex.refl G, h.keep, fun a o e => h.keep a o (ne_of_none e gd) (ne_of_none e gc) (i a o e), fun _ a b => absurd a b, h.at_⟩
theorem DF.fr (f : Fr G H G' H') (h : DrawsAt H dr cl) : DF dr cl G H G' H' := ⟨f.g, fun a o _ _ e => f.h a o e, f.i, f.n, h.up f.h⟩
theorem DF.refl (i : Ex G H) (h : DrawsAt H dr cl) : DF dr cl G H G H := DF.fr (Fr.refl i) h
theorem DF.trans (a : DF dr cl G H G' H') (b : DF dr cl G' H' G2 H2) (gd : G dr = none) (gc : G cl = none) (h0 : DrawsAt H dr cl) : DF dr cl G H G2 H2 := ⟨a.g.trans b.g, fun x o h1 h2 e => b.keep x o h1 h2 (a.keep x o h1 h2 e), b.i, fun x e1 e2 => by
  by_cases q : G' x = none
  · have z := b.n x q e2
    cases y : H x with
    | none => rfl
    | some o =>
      by_cases x1 : x = dr
      · subst x1
        exact absurd z a.at_.some1
      · by_cases x2 : x = cl
        · subst x2
          exact absurd z a.at_.some2
        · rw [a.keep x o x1 x2 y] at z
          cases z
  · exact a.n x e1 q, b.at_⟩
theorem DF.out (f : DF dr cl G H G' H') {p : Addr} (g0 : G p = none) (h : H p ≠ none) : G' p = none := by
  cases q : G' p with
  | none => rfl
  | some o => exact absurd (f.n p g0 (by rw [q]; intro z; cases z)) h
theorem DF.gd (f : DF dr cl G H G' H') (gd : G dr = none) (h0 : DrawsAt H dr cl) : G' dr = none := f.out gd h0.some1
theorem DF.gc (f : DF dr cl G H G' H') (gc : G cl = none) (h0 : DrawsAt H dr cl) : G' cl = none := f.out gc h0.some2
end
def spBegun (K : PySem.W.Frag) : Sp := fun vs H Q _ => ∃ (a : Addr) (ns : List Int), vs = [.ref a] ∧ SqL K H a (ns.map V.int) ∧ ns.length ≤ 63 ∧ ∀ dr cl H', Ex H H' → H dr = none → H cl = none → DrawsAt H' dr cl → Q (.ref dr) H'
def absI (i : Int) : Int := if i < 0 then -i else i
def zsS (k : Nat) : Str := ⟨(List.replicate k (Str.cps "z")).foldl (· ++ ·) #[]⟩
def numS (k : Nat) : Str := (toString ((100 : Int) + (k : Nat)) : String)
def placeN (sign : Str) (size k : Nat) : Str := (sign ++ zsS (size - 4)) ++ numS k
def placesL (sign : Str) (size many : Nat) : List Str := (List.range many).map (placeN sign size)
def spPlaces (K : PySem.W.Frag) : Sp := fun vs H Q _ => ∃ (G : Hp) (dr cl : Addr) (many : Nat) (sign : Str), vs = [.ref dr, .int (many : Nat), .str sign] ∧ Ex G H ∧ G dr = none ∧ G cl = none ∧ DrawsAt H dr cl ∧ sign.length = 1 ∧ many ≤ 60 ∧
  ∀ size v G' H', 4 ≤ size → size ≤ 40 → DF dr cl G H G' H' → Rep K G' v (.lst ((placesL sign size many).map fun s => .str s)) → Q v H'
section
variable {P : Program} {w : World} {K : PySem.W.Frag} {mg : Str → Option Value} {base : Heap} {A : Ad}
theorem ok__law_begun (T : Tx K w mg A) : FnOk P w K mg base CX0 1 A.f__law_begun A.d__law_begun ["script"] (spBegun K) := by
  refine T.F__law_begun.ok sc__law_begun (fun vs H Q E h => ?_) (fun cdv Ar outer s H vs Q E hr h => ?_)
  · obtain ⟨a, ns, rfl, _⟩ := h
    rfl
  obtain ⟨a, ns, rfl, hS, hz, k⟩ := h
  refine ⟨_, (pss_one (ps_ret (pe_lst (pa_cons (pe_op op_cat (pe_lc (own := [("cell", 1)]) (g := (gName 1)) (by rfl) sc__law_begun.nd (pi_list (pv 0)) (blkOk_by (N := ["script", "cell"]) (sc := defScope s__law_begun) (by decide +kernel))
    (fun _ _ _ _ _ => (pg_name (i := 1) sc__law_begun.nd rfl (Or.inl rfl))) (fun _ _ _ _ _ => pts_nil) (fun _ _ _ _ _ => (pe_callB call_abs (by rfl) T.n_abs (by decide +kernel) (pa_cons (pv 1) pa_nil)))) (pe_op op_rep (pe_lst (pa_cons pe_int pa_nil)) (pe_callTy call_int1 (by rfl) T.n_int (by decide +kernel) (pa_cons (pe_cmpR op_eq (pe_callB (r := Dn.rLenU K) Dn.call_lenU (by rfl) T.n_len (by decide +kernel) (pa_cons (pv 0) pa_nil)) pe_int (nomark _)) pa_nil)))) (pa_cons pe_int (pa_cons pe_int pa_nil)))))), ?_⟩
  -- [abs(cell) for cell in script]
  refine ⟨.ref a, rfl, a, rfl, ⟨_, hS⟩, fun D hD => ?_⟩
  refine lc_list (K := K) (a := a) (xs := ns.map V.int) (fun i H' => Ex H H' ∧ H' D = some (.lst ((ns.take i).map fun c => V.int (absI c)))) ⟨Ex.new hD, upd_same⟩ (fun i H' _ p => Evl.ex_l p.1 hS) (fun i x H' hx p => ?_) fun H' p => ?_
  · rw [List.getElem?_map] at hx
    cases hn : ns[i]? with
    | none =>
      rw [hn] at hx
      cases hx
    | some c =>
      rw [hn] at hx
      cases hx
      refine ⟨rfl, ?_⟩
      refine yes_run (iteT ?_)
      refine ⟨.int c, rfl, c, rfl, _, p.2, Evl.sz_lt (by rw [List.length_map, List.length_take]; omega), Evl.Ex.mut p.1 hD, ?_⟩
      rw [upd_same, List.take_add_one, hn, List.map_append]
      rfl
  rw [List.length_map, List.take_length] at p
  -- [1] * int(len(script) == 0)
  refine ⟨by show 1 ≤ sizeLine; decide, fun L1 h1 => ?_⟩
  have e1 : Ex H (upd H' L1 (.lst [.int 1])) := p.1.trans (Ex.new h1)
  have h1D : upd H' L1 (.lst [.int 1]) D = some (.lst (ns.map fun c => V.int (absI c))) := by
    rw [upd_ne (ne_of_none p.2 h1)]
    exact p.2
  have hL1 : upd H' L1 (.lst [.int 1]) L1 = some (.lst [.int 1]) := upd_same
  generalize upd H' L1 (.lst [.int 1]) = H1 at e1 h1D hL1 ⊢
  refine ⟨.ref a, rfl, .inl ⟨a, _, rfl, .inl (Evl.ex_l e1 hS), rfl, .inr ⟨_, rfl, ?_⟩⟩⟩
  rw [List.length_map]
  refine ⟨L1, _, [.int 1], rfl, rfl, hL1, by split <;> decide, by split <;> decide, by split <;> decide, fun L2 h2 => ?_⟩
  have e2 := e1.trans (Ex.new (o := .lst (List.replicate (if decide (V.int (ns.length : Nat) = V.int 0) = true then (1 : Int) else 0).toNat [V.int 1]).flatten) h2)
  have h2D := h1D
  refine ⟨D, L2, _, _, rfl, rfl, by rw [upd_ne (ne_of_none h1D h2)]; exact h1D, upd_same, Evl.sz_of (by rw [List.length_map]; split <;> simp <;> omega), fun L3 h3 => ?_⟩
  have e3 := e2.trans (Ex.new (o := .lst ((ns.map fun c => V.int (absI c)) ++ (List.replicate (if decide (V.int (ns.length : Nat) = V.int 0) = true then (1 : Int) else 0).toNat [V.int 1]).flatten)) h3)
  refine ⟨by show 3 ≤ sizeLine; decide, fun p4 h4 => ?_⟩
  have hL3 : H L3 = none := fresh_back e2 h3
  have hp4 : H p4 = none := fresh_back e3 h4
  refine k p4 L3 _ (e3.trans (Ex.new h4)) hp4 hL3 ⟨ns.map absI ++ (if ns = [] then [1] else []), 0, 1, upd_same, ?_, ?_, ?_, ?_, by decide, by decide, by decide⟩
  · rw [upd_ne (fun z : L3 = p4 => by rw [← z, upd_same] at h4; cases h4), upd_same, List.map_append, List.map_map]
    congr 3
    cases ns with
    | nil => rfl
    | cons c ns => 
      rw [if_neg (by simp; omega), if_neg (by simp)]
      rfl
  · cases ns with
    | nil => simp
    | cons c ns => simp
  · cases ns with
    | nil => simp
    | cons c ns => 
      rw [if_neg (by simp), List.append_nil, List.length_map]
      omega
  · intro c hc
    rcases List.mem_append.mp hc with h | h
    · obtain ⟨x, _, rfl⟩ := List.mem_map.mp h
      unfold absI
      split <;> omega
    · split at h
      · simp at h
        omega
      · simp at h
theorem numS_ok (k : Nat) (hk : k ≤ 63) : (numS k).length = 3 ∧ (numS k).cps.toList.all placeC = true := by
  have h : ∀ k ∈ List.range 64, (numS k).length = 3 ∧ (numS k).cps.toList.all placeC = true := by decide +kernel
  exact h k (List.mem_range.mpr (by omega))
theorem zsS_cps (k : Nat) : (zsS k).cps.toList = List.replicate k 122 := by
  have hz : (Str.cps "z").toList = [122] := by decide +kernel
  have h : ∀ (k : Nat) (acc : Array Nat), ((List.replicate k (Str.cps "z")).foldl (· ++ ·) acc).toList = acc.toList ++ List.replicate k 122 := by
    intro k
    induction k with
    | zero => intro acc; simp
    | succ k ih =>
      intro acc
      rw [List.replicate_succ, List.foldl_cons, ih, Array.toList_append, hz, List.replicate_succ]
      simp
  have := h k #[]
  simpa [zsS] using this
theorem zsS_len (k : Nat) : (zsS k).length = k := by
  rw [← str_len, zsS_cps, List.length_replicate]
theorem app_len (a b : Str) : (a ++ b).length = a.length + b.length := by
  show (a.cps ++ b.cps).size = _
  rw [Array.size_append]
  rfl
theorem app_cps (a b : Str) : (a ++ b).cps.toList = a.cps.toList ++ b.cps.toList := by
  show (a.cps ++ b.cps).toList = _
  rw [Array.toList_append]
theorem ok__law_places_of (T : Tx K w mg A) : FnOk P w K mg base CX0 2 A.f__law_places_of A.d__law_places_of ["draws", "many", "sign"] (spPlaces K) := by
  refine T.F__law_places_of.ok sc__law_places_of (fun vs H Q E h => ?_) (fun cdv Ar outer s H vs Q E hr h => ?_)
  · obtain ⟨_, _, _, _, _, rfl, _⟩ := h
    rfl
  obtain ⟨G, dr, cl, many, sign, rfl, i0, gd, gc, hD, hs1, hm, k⟩ := h
  refine ⟨_, (pss_cons (ps_set (i := 3) sc__law_places_of.nd rfl (Or.inr rfl) (pe_ix (r := rIx K) ix_seq (pe_lst (pa_cons pe_int (pa_cons pe_int (pa_cons pe_int (pa_cons (pe_op op_add pe_int (pe_call (ok__law_draw T) (hr.mono (by decide)) rfl T.g__law_draw T.F__law_draw.kp T.b__law_draw .nil pass0 (pa_cons (pv 0) (pa_cons pe_int pa_nil)))) pa_nil))))) (pe_call (ok__law_draw T) (hr.mono (by decide)) rfl T.g__law_draw T.F__law_draw.kp T.b__law_draw .nil pass0 (pa_cons (pv 0) (pa_cons pe_int pa_nil))) (fun _ _ => rfl)))
  (pss_one (ps_ret (pe_lc (own := [("k", 4)]) (g := (gName 4)) (by rfl) sc__law_places_of.nd (pi_range1 rfl T.n_range (pa_cons (pv 1) pa_nil)) (blkOk_by (N := ["draws", "many", "sign", "size", "k"]) (sc := defScope s__law_places_of) (by decide +kernel))
    (fun _ _ _ _ _ => (pg_name (i := 4) sc__law_places_of.nd rfl (Or.inl rfl))) (fun _ _ _ _ _ => pts_nil) (fun _ _ _ _ _ => (pe_op op_add_str (pe_op op_add_str (pv 2) (pe_op Ru.op_repS pe_str (pe_op op_sub (pv 3) pe_int))) (pe_callTy call_str_int (by rfl) T.n_str (by decide +kernel) (pa_cons (pe_op op_add pe_int (pv 4)) pa_nil)))))))), ?_⟩
  -- [4, 4, 4, 30 + _law_draw(draws, 11)]
  refine ⟨.ref dr, rfl, dr, cl, 11, rfl, hD, by decide, by decide, fun v1 H1 hv1 hv1' d1 => ⟨30, v1, rfl, rfl, by show 4 ≤ sizeLine; decide, fun L hL => ?_⟩⟩
  have hd1 := d1.at_.up (Ex.new (o := .lst [.int 4, .int 4, .int 4, .int (30 + v1)]) hL)
  refine ⟨.ref dr, rfl, dr, cl, 4, rfl, hd1, by decide, by decide, fun v2 H2 hv2 hv2' d2 => ?_⟩
  have hLdr : L ≠ dr := fun z => by
    rw [z] at hL
    exact d1.at_.some1 hL
  have hLcl : L ≠ cl := fun z => by
    rw [z] at hL
    exact d1.at_.some2 hL
  have hL2 : H2 L = some (.lst [.int 4, .int 4, .int 4, .int (30 + v1)]) := d2.keep _ _ hLdr hLcl upd_same
  have f1 : DF dr cl G H G H1 := DF.draw i0 gd gc d1
  have f2 : DF dr cl G H1 G (upd H1 L (.lst [.int 4, .int 4, .int 4, .int (30 + v1)])) := ⟨Ex.refl G, fun a o _ _ e => Ex.new hL a o e, f1.i.trans (Ex.new hL), fun _ a b => absurd a b, hd1⟩
  have f3 : DF dr cl G (upd H1 L (.lst [.int 4, .int 4, .int 4, .int (30 + v1)])) G H2 := DF.draw f2.i gd gc d2
  have f03 := (f1.trans f2 gd gc hD).trans f3 gd gc hD
  have hsz : ∃ size : Nat, 4 ≤ size ∧ size ≤ 40 ∧ atI [V.int 4, .int 4, .int 4, .int (30 + v1)] v2 = some (V.int (size : Nat)) := by
    have : v2 = 0 ∨ v2 = 1 ∨ v2 = 2 ∨ v2 = 3 := by omega
    rcases this with rfl | rfl | rfl | rfl
    · exact ⟨4, by decide, by decide, rfl⟩
    · exact ⟨4, by decide, by decide, rfl⟩
    · exact ⟨4, by decide, by decide, rfl⟩
    · refine ⟨(30 + v1).toNat, by omega, by omega, ?_⟩
      rw [show (((30 + v1).toNat : Nat) : Int) = 30 + v1 by omega]
      rfl
  obtain ⟨size, hs4, hs40, hat⟩ := hsz
  refine .inl ⟨L, _, v2, _, rfl, rfl, .inl (.inl hL2), hat, ?_⟩
  refine gname_run ?_
  have e2 : EnvD K G ((L2.start ["draws", "many", "sign", "size", "k"] [.ref dr, .int (many : Nat), .str sign]).set 3 (some (.int (size : Nat)))) [some (.s (.ref dr)), some (.int (many : Nat)), some (.str sign), some (.int (size : Nat)), none] :=
    (envD_start ["draws", "many", "sign", "size", "k"] (RepAll.vals [.ref dr, .int (many : Nat), .str sign])).set (.s _) 3
  refine ds_ret (d := .lst ((placesL sign size many).map fun s => .str s)) (Den.is (dl_lcA (List.range many) (fun i => .int (i : Nat)) (fun i => .str (placeN sign size i)) (fun i => [some (.s (.ref dr)), some (.int (many : Nat)), some (.str sign), some (.int (size : Nat)), some (.int (i : Nat))])
    (DenI.is (di_rng1 (da_cons (den_var rfl) da_nil) (by omega) (by omega)) (by simp)) (by rw [List.length_range]; omega) (fun i _ => dg_name) (fun i _ => dts_nil) fun i hi => ?_).den (by unfold placesL; rw [List.map_map]; rfl)) _ G H2 _ f03.i e2 fun v G3 H3 f4 r4 => k size v G3 H3 hs4 hs40 (f03.trans (DF.fr f4 d2.at_) gd gc hD) r4
  have hi' := List.mem_range.mp hi
  have hn := numS_ok i (by omega)
  refine den_op (x := .str (sign ++ zsS (size - 4))) (y := .str (numS i)) (den_op (x := .str sign) (y := .str (zsS (size - 4))) (den_var rfl) (den_op (x := .str "z") (y := .int ((size : Int) - 4)) den_c (den_op (den_var rfl) den_c rd_I0) ?_) (rd_addS (by rw [zsS_len, hs1]; omega))) (den_cb (xs := [.int (100 + (i : Nat))]) (da_cons (den_op den_c (den_var rfl) rd_I0) da_nil) ?_) (rd_addS (by rw [app_len, zsS_len, hs1, hn.1]; omega))
  · intro G5 H5 Q5 vx vy e5 rx ry k5
    refine ⟨"z", (size : Int) - 4, rep_s rx, rep_s ry, by decide +kernel, by omega, by omega, ?_⟩
    rw [show ((size : Int) - 4).toNat = size - 4 by omega]
    exact k5 _ G5 H5 (Fr.refl e5) (.s _)
  · intro G5 H5 Q5 vs5 e5 r5 k5
    obtain ⟨v5, rfl, q5⟩ := repAll_1 r5
    obtain rfl := rep_s q5
    refine ⟨_, rfl, ?_, k5 _ G5 H5 (Fr.refl e5) (.s _)⟩
    have h1 : (100 + (i : Int)).natAbs < 2 ^ 10 := by omega
    have h2 : (100 + (i : Int)).natAbs ≠ 0 := by omega
    have := (Nat.log2_lt h2).mpr h1
    omega
end
end K56
set_option Elab.async false
set_option linter.all false
set_option maxRecDepth 100000
set_option maxHeartbeats 4000000
set_option pp.maxSteps 400
set_option pp.deepTerms false
/-! Kn: the drawn flows: one that asks, one that serves. -/
namespace K56
open PySem L2 Dn
open Evl (Ex fresh_back)
theorem sc__law_server : FnScope ["p", "sites", "deeds", "longer", "many", "ways", "steps", "deed", "size", "k"] ["p", "sites", "deeds", "longer"] (defScope s__law_server) := ⟨rfl, rfl, rfl, by decide +kernel, rfl, by decide +kernel, by decide +kernel⟩
theorem sc__law_asker : FnScope ["draws", "p", "sites", "asks", "steps", "k", "label", "deed", "many", "place"] ["draws", "p", "sites", "asks"] (defScope s__law_asker) := ⟨rfl, rfl, rfl, by decide +kernel, rfl, by decide +kernel, by decide +kernel⟩
theorem rd_rep {K : PySem.W.Frag} {ds : List Dat} {k : Nat} (h0 : ds ≠ []) (hk : k ≤ 1000) (hz : ds.length ≤ 1000) : RD K (Ru.rRepTA K) (.tup ds) (.int (k : Nat)) (.tup (List.replicate k ds).flatten) := fun G H Q vx vy e rx ry q => by
  obtain rfl := rep_s ry
  cases rx with
  | @tup l xs _ a ra =>
    have rr : ∀ n, RepAll K G (List.replicate n xs).flatten (List.replicate n ds).flatten := by
      intro n
      induction n with
      | zero => exact .nil
      | succ n ih =>
        rw [List.replicate_succ, List.replicate_succ, List.flatten_cons, List.flatten_cons]
        exact ra.app ih
    refine ⟨l, k, xs, rfl, rfl, Evl.ex_t e a, fun z => ?_, by omega, by omega, by rw [ra.len]; exact hz, fun z => ?_, fun _ p hp => ?_⟩
    · subst z
      cases ra
      exact h0 rfl
    · have z1 : k = 1 := by omega
      subst z1
      refine q _ G H (Fr.refl e) ?_
      show Rep K G _ (.tup (List.flatten [ds]))
      rw [show List.flatten [ds] = ds by simp]
      exact .tup a ra
    · rw [show ((k : Int)).toNat = k by omega]
      exact q _ _ _ (Fr.new e hp) (.tup (Evl.st_of upd_same) ((rr k).up (Fr.new e hp).g))
/-! ### ranks that go up -/
theorem ranked_up {steps : List Step} (h : ∀ (i : Nat) (s : Step), steps[i]? = some s → ∀ g ∈ goalsOf s, 1 ≤ i ∧ (g = 0 ∨ ∃ j : Nat, g = (j : Int) ∧ i < j ∧ j < steps.length)) : Ranked steps := by
  refine ⟨fun i => if i = 0 then 0 else steps.length - i, fun i s hs g hg => ?_⟩
  have hi := (List.getElem?_eq_some_iff.mp hs).1
  obtain ⟨h1, h2⟩ := h i s hs g hg
  rcases h2 with rfl | ⟨j, rfl, h3, h4⟩
  · refine ⟨0, rfl, by omega, ?_⟩
    dsimp only
    rw [if_pos rfl, if_neg (by omega)]
    omega
  · refine ⟨j, rfl, h4, ?_⟩
    dsimp only
    rw [if_neg (by omega), if_neg (by omega)]
    omega
structure SitesOk (sites : List Str) : Prop where
  few : sites.length ≤ 100
  names : ∀ s ∈ sites, placeOk s
  nd : sites.Nodup
def deedD (q : Str × Nat) : Dat := .tup [.str q.1, .int (q.2 : Nat)]
def DeedsOk (deeds : List (Str × Nat)) : Prop := ∃ a b : Nat, a ≤ 3 ∧ b ≤ 3 ∧ (deeds = [(("get" : Str), a)] ∨ deeds = [(("get" : Str), a), (("put" : Str), b)])
def serverSteps (deeds : List (Str × Nat)) (longer : Nat) (p : Int) : List Step := .serve (deeds.map fun q => (q.1, q.2, 1)) :: ((List.range longer).map (fun k => .out 1 ((k : Int) + 2)) ++ [.done (((longer : Int) + 1) % p)])
theorem server_at {deeds : List (Str × Nat)} {longer : Nat} {p : Int} {i : Nat} {s : Step} (h : (serverSteps deeds longer p)[i]? = some s) :
    (i = 0 ∧ s = .serve (deeds.map fun q => (q.1, q.2, 1))) ∨ (1 ≤ i ∧ i ≤ longer ∧ s = .out 1 ((i : Int) + 1)) ∨ (i = longer + 1 ∧ s = .done (((longer : Int) + 1) % p)) := by
  unfold serverSteps at h
  cases i with
  | zero =>
    simp at h
    exact .inl ⟨rfl, h.symm⟩
  | succ i =>
    rw [List.getElem?_cons_succ] at h
    by_cases hi : i < longer
    · rw [List.getElem?_append_left (by simpa using hi), List.getElem?_map, List.getElem?_range hi] at h
      cases h
      exact .inr (.inl ⟨by omega, by omega, by first | rfl | (congr 1; omega)⟩)
    · rw [List.getElem?_append_right (by simp; omega)] at h
      simp at h
      by_cases hj : i = longer
      · subst hj
        simp at h
        exact .inr (.inr ⟨rfl, h.symm⟩)
      · rw [List.getElem?_eq_none (by simp; omega)] at h
        cases h
theorem server_len (deeds : List (Str × Nat)) (longer : Nat) (p : Int) : (serverSteps deeds longer p).length = longer + 2 := by
  simp [serverSteps]
theorem prime_2 {p : Int} (h : p ∈ primeL) : 2 ≤ p ∧ p ≤ 997 := by
  simp only [primeL, List.mem_cons, List.not_mem_nil, or_false] at h
  omega
theorem get_ok : nameOk "get" := ⟨by decide +kernel, by decide +kernel, by decide +kernel⟩
theorem put_ok : nameOk "put" := ⟨by decide +kernel, by decide +kernel, by decide +kernel⟩
theorem go_ok : nameOk "go" := ⟨by decide +kernel, by decide +kernel, by decide +kernel⟩
theorem server_ok {sites : List Str} {deeds : List (Str × Nat)} {longer : Nat} {p : Int} (hp : p ∈ primeL) (hs : SitesOk sites) (hd : DeedsOk deeds) (hl : longer ≤ 9990) : FlowOk sites (serverSteps deeds longer p) p := by
  have h2 := prime_2 hp
  have hlen := server_len deeds longer p
  refine ⟨hp, hs.few, hs.names, hs.nd, by omega, fun s h => ?_, ⟨_, _, rfl, fun s h => ?_⟩, ranked_up fun i s h g hg => ?_⟩
  · obtain ⟨i, hi⟩ := List.getElem?_of_mem h
    rcases server_at hi with ⟨rfl, rfl⟩ | ⟨h3, h4, rfl⟩ | ⟨rfl, rfl⟩
    · obtain ⟨a, b, ha, hb, rfl | rfl⟩ := hd
      · refine ⟨by simp, by simp, fun q hq => ?_, rfl⟩
        simp at hq
        subst hq
        exact ⟨get_ok, ha, (by show (0 : Int) < 1; decide), by rw [hlen]; show (1 : Int) < _; omega⟩
      · refine ⟨by simp, by simp, fun q hq => ?_, by show (ltS "get" "put" && true) = true; decide +kernel⟩
        simp at hq
        rcases hq with rfl | rfl
        · exact ⟨get_ok, ha, (by show (0 : Int) < 1; decide), by rw [hlen]; show (1 : Int) < _; omega⟩
        · exact ⟨put_ok, hb, (by show (0 : Int) < 1; decide), by rw [hlen]; show (1 : Int) < _; omega⟩
    · exact ⟨⟨by decide, by omega⟩, by omega, by rw [hlen]; omega⟩
    · exact ⟨Int.emod_nonneg _ (by omega), Int.emod_lt_of_pos _ (by omega)⟩
  · rcases List.mem_append.mp h with h | h
    · obtain ⟨k, _, rfl⟩ := List.mem_map.mp h
      rfl
    · simp at h
      subst h
      rfl
  · rcases server_at h with ⟨rfl, rfl⟩ | ⟨h3, h4, rfl⟩ | ⟨rfl, rfl⟩
    · simp [goalsOf] at hg
    · simp only [goalsOf, List.mem_singleton] at hg
      exact ⟨h3, .inr ⟨i + 1, by omega, by omega, by omega⟩⟩
    · simp only [goalsOf, List.mem_singleton] at hg
      exact ⟨by omega, .inl hg⟩
def F__law_server (C : Addr) : List Dat → Dat → Prop := fun ds d => ∃ (p : Int) (sites : List Str) (deeds : List (Str × Nat)) (longer : Nat), ds = [.int p, .lst (sites.map fun s => .str s), .lst (deeds.map deedD), .int (longer : Nat)] ∧ p ∈ primeL ∧ SitesOk sites ∧ DeedsOk deeds ∧ longer ≤ 9990 ∧ d = flowD C sites (serverSteps deeds longer p) p
def deedP (q : Str × Nat) : PyData := .tuple [.str q.1, .int (q.2 : Nat)]
theorem deeds_py2 : ∀ deeds : List (Str × Nat), PyAll (deeds.map deedD) (deeds.map deedP) := fun deeds => PyAll.map (fun q => .tup (.cons (.str _) (.cons (.int _) .nil))) deeds
theorem deeds_sorted {deeds : List (Str × Nat)} (h : DeedsOk deeds) : (deeds.map deedP).Pairwise fun x y => (!PySem.W.dataLt y x) = true := by
  obtain ⟨a, b, _, _, rfl | rfl⟩ := h
  · simp
  · simp only [List.map_cons, List.map_nil, List.pairwise_cons, List.mem_singleton, List.not_mem_nil, false_imp_iff, implies_true, List.Pairwise.nil, and_true, forall_eq]
    show (!PySem.W.dataLt (.tuple [.str "put", .int (b : Nat)]) (.tuple [.str "get", .int (a : Nat)])) = true
    rw [PySem.W.dataLt_pair (by decide +kernel) rfl, if_neg (by decide +kernel)]
    decide +kernel
theorem rcl_sorted {K : PySem.W.Frag} {deeds : List (Str × Nat)} (h : DeedsOk deeds) : RCL K (Ru.rSortedD K) [.lst (deeds.map deedD)] (deeds.map deedD) := fun G H Q vs e r k => by
  obtain ⟨v, rfl, q⟩ := repAll_1 r
  cases q with
  | @lst l xs _ hl rl =>
    have hdp := RepAll.dp e (deeds.map deedP) _ _ rl (deeds_py2 deeds)
    refine ⟨l, xs, deeds.map deedP, rfl, .inl (.inl (e _ _ hl)), hdp, ?_, ?_, ?_, fun p hp => ?_⟩
    · intro d hd d' hd'
      obtain ⟨x, _, rfl⟩ := List.mem_map.mp hd
      obtain ⟨y, _, rfl⟩ := List.mem_map.mp hd'
      rfl
    · refine .inl fun d hd => ?_
      obtain ⟨x, _, rfl⟩ := List.mem_map.mp hd
      exact ⟨_, _, rfl⟩
    · intro d hd
      obtain ⟨x, _, rfl⟩ := List.mem_map.mp hd
      simp [deedP, PyData.depth, PyData.depthAll]
    · have hxl : xs.length = (deeds.map deedP).length := by
        rw [rl.len, List.length_map, List.length_map]
      have hsort : (xs.zip (deeds.map deedP)).mergeSort (PySem.W.dataLe false (·.2)) = xs.zip (deeds.map deedP) := by
        refine List.mergeSort_of_pairwise ?_
        have h1 := deeds_sorted h
        rw [show PySem.W.dataLe false (fun b : V × PyData => b.2) = fun a b => !PySem.W.dataLt b.2 a.2 from rfl]
        have h2 : ((xs.zip (deeds.map deedP)).map (·.2)).Pairwise fun x y => (!PySem.W.dataLt y x) = true := by
          rw [List.map_snd_zip (by omega)]
          exact h1
        exact List.pairwise_map.mp h2
      rw [hsort, List.map_fst_zip (by omega)]
      exact k p xs G _ ⟨Ex.refl G, Ex.new hp, e.trans (Ex.new hp), fun _ a b => absurd a b⟩ (fresh_back e hp) hp upd_same rl
section
variable {P : Program} {w : World} {K : PySem.W.Frag} {mg : Str → Option Value} {base : Heap} {A : Ad}
theorem ok__law_server (T : Tx K w mg A) : FnOk P w K mg base CX0 11 A.f__law_server A.d__law_server ["p", "sites", "deeds", "longer"] (spF K (F__law_server A.C_Flow)) := by
  refine pure_ok T.F__law_server sc__law_server (fun ds d h => by obtain ⟨_, _, _, _, rfl, _⟩ := h; rfl) (fun cdv Ar outer s H E hr => ⟨_, (pss_cons (ps_set (i := 4) sc__law_server.nd rfl (Or.inl rfl) (pe_op op_add (pv 3) pe_int))
  (pss_cons (ps_setLc (i := 5) (own := [("deed", 7), ("size", 8)]) (g := (gTup K 2 (gCons (gName 7) (gCons (gName 8) gNil)))) (by rfl) sc__law_server.nd rfl rfl (sw_true rfl rfl rfl (by decide +kernel)) (Dn.pi_seq (pe_callB (Ru.cr_sortedD hr.units) (by rfl) T.n_sorted (by decide +kernel) (pa_cons (pv 2) pa_nil))) (blkOk_by (N := ["p", "sites", "deeds", "longer", "many", "ways", "steps", "deed", "size", "k"]) (sc := defScope s__law_server) (by decide +kernel))
    (fun _ _ _ _ _ => (pg_tup rfl (pgs_cons (pg_name (i := 7) sc__law_server.nd rfl (Or.inl rfl)) (pgs_cons (pg_name (i := 8) sc__law_server.nd rfl (Or.inl rfl)) pgs_nil)))) (fun _ _ _ _ _ => pts_nil) (fun _ _ _ _ _ => (pe_tup (pa_cons (pv 7) (pa_cons (pe_op (r := Ru.rRepTA K) Ru.op_repTA (pe_tup (pa_cons pe_str pa_nil)) (pv 8)) (pa_cons pe_int pa_nil))))))
  (pss_cons (ps_set (i := 6) sc__law_server.nd rfl (Or.inl rfl) (pe_op op_cat (pe_lst (pa_cons (pe_tup (pa_cons pe_str (pa_cons (pe_callTy (r := Dn.rTupOf K) call_tuple_of (by rfl) T.n_tuple (by decide +kernel) (pa_cons (pv 5) pa_nil)) pa_nil))) pa_nil)) (pe_lc (own := [("k", 9)]) (g := (gName 9)) (by rfl) sc__law_server.nd (pi_range1 rfl T.n_range (pa_cons (pv 3) pa_nil)) (blkOk_by (N := ["p", "sites", "deeds", "longer", "many", "ways", "steps", "deed", "size", "k"]) (sc := defScope s__law_server) (by decide +kernel))
    (fun _ _ _ _ _ => (pg_name (i := 9) sc__law_server.nd rfl (Or.inl rfl))) (fun _ _ _ _ _ => pts_nil) (fun _ _ _ _ _ => (pe_tup (pa_cons pe_str (pa_cons (pe_tup (pa_cons pe_int (pa_cons (pe_tup pa_nil) pa_nil))) (pa_cons (pe_op op_add (pv 9) pe_int) pa_nil))))))))
  (pss_one (ps_ret (pe_makeN T.M_Flow (ok_Flow___init__ T) (hr.mono (by decide)) rfl T.g_Flow T.b_Flow___init__ pass0 (pa_cons (pe_callTy (r := Dn.rTupOf K) call_tuple_of (by rfl) T.n_tuple (by decide +kernel) (pa_cons (pv 1) pa_nil)) (pa_cons (pe_callTy (r := Dn.rTupOf K) call_tuple_of (by rfl) T.n_tuple (by decide +kernel) (pa_cons (pe_op op_cat (pv 6) (pe_lst (pa_cons (pe_tup (pa_cons pe_str (pa_cons (pe_tup (pa_cons (pe_op op_mod (pv 4) (pv 0)) (pa_cons (pe_tup pa_nil) pa_nil))) pa_nil))) pa_nil))) pa_nil)) pa_nil)) (pk_cons (pv 0) pk_nil))))))), fun ds d h => ?_⟩)
  obtain ⟨p, sites, deeds, longer, rfl, hp, hs, hd, hl, rfl⟩ := h
  have h2 := prime_2 hp
  have hdl : deeds.length ≤ 2 := by
    obtain ⟨a, b, _, _, rfl | rfl⟩ := hd <;> simp
  have hd3 : ∀ q ∈ deeds, q.2 ≤ 3 := by
    obtain ⟨a, b, ha, hb, rfl | rfl⟩ := hd
    · intro q hq
      simp at hq
      subst hq
      exact ha
    · intro q hq
      simp at hq
      rcases hq with rfl | rfl
      · exact ha
      · exact hb
  let sD : Dat := .lst (sites.map fun s => .str s)
  let dD : Dat := .lst (deeds.map deedD)
  refine ds_seq (ds_set (den_op (den_var rfl) den_c rd_I0)) ?_
  refine ds_seq (ds_set (d := .lst ((deeds.map fun q => (q.1, q.2, (1 : Int))).map wayD)) (Den.is (dl_lcA deeds deedD (fun q => wayD (q.1, q.2, 1)) (fun q => [some (.int p), some sD, some dD, some (.int (longer : Nat)), some (.int ((longer : Int) + 1)), none, none, some (.str q.1), some (.int (q.2 : Nat)), none]) (di_1 (di_list (dl_cb (da_cons (den_var rfl) da_nil) (rcl_sorted hd)).den)) (by omega) (fun q _ => dg_tup (dgs_cons dg_name (dgs_cons dg_name dgs_nil)) rfl) (fun q _ => dts_nil)
    fun q hq => den_tup (da_cons (den_var rfl) (da_cons (x := nosD q.2) (Den.is (den_op (den_tup (da_cons den_c da_nil) (by show 1 ≤ 100000; decide)) (den_var rfl) (rd_rep (by simp) (by have := hd3 q hq; omega) (by decide))) (by unfold nosD; congr 1; simp)) (da_cons den_c da_nil))) (by show 3 ≤ 100000; decide)).den (by rw [List.map_map]; rfl))) ?_
  refine ds_seq (ds_set (d := .lst (stepD (.serve (deeds.map fun q => (q.1, q.2, 1))) :: (List.range longer).map fun k : Nat => stepD (.out 1 ((k : Int) + 2)))) (Den.is (dl_cat (den_lst (da_cons (x := stepD (.serve (deeds.map fun q => (q.1, q.2, 1)))) (den_tup (da_cons den_c (da_cons (den_cb (da_cons (den_var rfl) da_nil) rc_tupL) da_nil)) (by show 2 ≤ 100000; decide)) da_nil) (by show 1 ≤ 100000; decide))
    (dl_lcA (List.range longer) (fun k => .int (k : Nat)) (fun k : Nat => stepD (.out 1 ((k : Int) + 2))) (fun k => [some (.int p), some sD, some dD, some (.int (longer : Nat)), some (.int ((longer : Int) + 1)), some (.lst ((deeds.map fun q => (q.1, q.2, (1 : Int))).map wayD)), none, none, none, some (.int (k : Nat))]) (DenI.is (di_rng1 (da_cons (den_var rfl) da_nil) (by omega) (by omega)) (by simp)) (by rw [List.length_range]; omega) (fun q _ => dg_name) (fun q _ => dts_nil)
      fun k _ => den_tup (da_cons den_c (da_cons (x := formD 1) (den_tup (da_cons den_c (da_cons (den_tup da_nil (Nat.zero_le _)) da_nil)) (by show 2 ≤ 100000; decide)) (da_cons (den_op (den_var rfl) den_c rd_I0) da_nil))) (by show 3 ≤ 100000; decide)).den (by simp; omega)).den (by simp))) ?_
  refine ds_ret (den_makeN (xs := [sitesD sites, stepsD (serverSteps deeds longer p)]) (ys := [.int p]) (FI := F_Flow___init__) (da_cons (den_cb (da_cons (den_var rfl) da_nil) rc_tupL) (da_cons (den_cb (da_cons (Den.is (x := .lst ((serverSteps deeds longer p).map stepD)) (dl_cat (den_var rfl) (den_lst (da_cons (x := stepD (.done (((longer : Int) + 1) % p))) (den_tup (da_cons den_c (da_cons (x := formD (((longer : Int) + 1) % p)) (den_tup (da_cons (den_op (den_var rfl) (den_var rfl) (rd_I (by show (0 : Int) < p; omega))) (da_cons (den_tup da_nil (Nat.zero_le _)) da_nil)) (by show 2 ≤ 100000; decide)) da_nil)) (by show 2 ≤ 100000; decide)) da_nil) (by show 1 ≤ 100000; decide)) (by simp; omega)).den ?_) da_nil) rc_tupL) da_nil))
    (da_cons (den_var rfl) da_nil) rfl rfl ⟨sites, _, p, rfl, server_ok hp hs hd hl, rfl⟩)
  unfold serverSteps
  simp [List.map_map, Function.comp_def]
end
/-! ### the one that asks -/
abbrev Ask := Str × Str × Nat
def askD (q : Ask) : Dat := .tup [.str q.1, .str q.2.1, .int (q.2.2 : Nat)]
def AsksOk (asks : List Ask) : Prop := asks.length ≤ 10 ∧ ∀ q ∈ asks, nameOk q.1 ∧ nameOk q.2.1 ∧ q.2.2 ≤ 3
def askS (p : Int) (n : Nat) (q : Ask) (pl : Str) (k : Nat) : Step := .ask q.1 q.2.1 (List.replicate q.2.2 ((k : Int) % p)) pl ((k : Int) + 2) ((n : Int) + 1)
def AskAcc (asks : List Ask) (sites : List Str) (p : Int) (acc : List Step) : Prop := ∀ (k : Nat) (s : Step), acc[k]? = some s → ∃ q pl, asks[k]? = some q ∧ sinkOk sites pl ∧ s = askS p asks.length q pl k
def goS : Step := .serve [("go", 0, 1)]
def askerSteps (acc : List Step) : List Step := goS :: (acc ++ [.done 0])
theorem asker_at {acc : List Step} {i : Nat} {s : Step} (h : (askerSteps acc)[i]? = some s) : (i = 0 ∧ s = goS) ∨ (1 ≤ i ∧ i ≤ acc.length ∧ acc[i - 1]? = some s) ∨ (i = acc.length + 1 ∧ s = .done 0) := by
  unfold askerSteps at h
  cases i with
  | zero =>
    simp at h
    exact .inl ⟨rfl, h.symm⟩
  | succ i =>
    rw [List.getElem?_cons_succ] at h
    by_cases hi : i < acc.length
    · rw [List.getElem?_append_left hi] at h
      exact .inr (.inl ⟨by omega, by omega, h⟩)
    · rw [List.getElem?_append_right (by omega)] at h
      by_cases hj : i = acc.length
      · subst hj
        simp at h
        exact .inr (.inr ⟨rfl, h.symm⟩)
      · rw [List.getElem?_eq_none (by simp; omega)] at h
        cases h
theorem asker_ok {sites : List Str} {asks : List Ask} {acc : List Step} {p : Int} (hp : p ∈ primeL) (hs : SitesOk sites) (ha : AsksOk asks) (hl : acc.length = asks.length) (hc : AskAcc asks sites p acc) : FlowOk sites (askerSteps acc) p := by
  have h2 := prime_2 hp
  have h10 := ha.1
  have hlen : (askerSteps acc).length = acc.length + 2 := by simp [askerSteps]
  refine ⟨hp, hs.few, hs.names, hs.nd, by omega, fun s h => ?_, ⟨_, _, rfl, fun s h => ?_⟩, ranked_up fun i s h g hg => ?_⟩
  · obtain ⟨i, hi⟩ := List.getElem?_of_mem h
    rcases asker_at hi with ⟨rfl, rfl⟩ | ⟨h3, h4, h5⟩ | ⟨rfl, rfl⟩
    · refine ⟨by simp, by simp, fun q hq => ?_, rfl⟩
      simp at hq
      subst hq
      exact ⟨go_ok, Nat.zero_le _, (by show (0 : Int) < 1; decide), by rw [hlen]; show (1 : Int) < _; omega⟩
    · obtain ⟨q, pl, hq, hpl, rfl⟩ := hc _ _ h5
      obtain ⟨n1, n2, n3⟩ := ha.2 q (List.mem_of_getElem? hq)
      refine ⟨n1, n2, by rw [List.length_replicate]; exact n3, fun n hn => ?_, hpl, ⟨by omega, by rw [hlen]; omega⟩, ⟨by omega, by rw [hlen]; omega⟩⟩
      rw [List.eq_of_mem_replicate hn]
      exact ⟨Int.emod_nonneg _ (by omega), Int.emod_lt_of_pos _ (by omega)⟩
    · exact ⟨by decide, by omega⟩
  · rcases List.mem_append.mp h with h | h
    · obtain ⟨k, hk⟩ := List.getElem?_of_mem h
      obtain ⟨q, pl, _, _, rfl⟩ := hc _ _ hk
      rfl
    · simp at h
      subst h
      rfl
  · rcases asker_at h with ⟨rfl, rfl⟩ | ⟨h3, h4, h5⟩ | ⟨rfl, rfl⟩
    · simp [goalsOf, goS] at hg
    · obtain ⟨q, pl, hq, hpl, rfl⟩ := hc _ _ h5
      simp only [askS, goalsOf, List.mem_cons, List.not_mem_nil, or_false] at hg
      refine ⟨h3, .inr ?_⟩
      rcases hg with hg | hg
      · exact ⟨i + 1, by omega, by omega, by omega⟩
      · exact ⟨asks.length + 1, by omega, by omega, by omega⟩
    · simp only [goalsOf, List.mem_singleton] at hg
      exact ⟨by omega, .inl hg⟩
def spAsker (K : PySem.W.Frag) (A : Ad) : Sp := fun vs H Q _ => ∃ (G : Hp) (dr cl : Addr) (p : Int) (sites : List Str) (asks : List Ask), Ex G H ∧ G dr = none ∧ G cl = none ∧ DrawsAt H dr cl ∧ RepAll K G vs [.s (.ref dr), .int p, .lst (sites.map fun s => .str s), .lst (asks.map askD)] ∧ p ∈ primeL ∧ SitesOk sites ∧ AsksOk asks ∧
  ∀ acc v G' H', DF dr cl G H G' H' → acc.length = asks.length → AskAcc asks sites p acc → Rep K G' v (flowD A.C_Flow sites (askerSteps acc) p) → Q v H'
section
variable {P : Program} {w : World} {K : PySem.W.Frag} {mg : Str → Option Value} {base : Heap} {A : Ad}
theorem ok__law_asker (T : Tx K w mg A) : FnOk P w K mg base CX0 11 A.f__law_asker A.d__law_asker ["draws", "p", "sites", "asks"] (spAsker K A) := by
  refine T.F__law_asker.ok sc__law_asker (fun vs H Q E h => ?_) (fun cdv Ar outer s H vs Q E hr h => ?_)
  · obtain ⟨G, dr, cl, p, sites, asks, _, _, _, _, r, _⟩ := h
    rw [r.len]
    rfl
  obtain ⟨G, dr, cl, p, sites, asks, i0, gd, gc, hD, r, hp, hs, ha, k⟩ := h
  refine ⟨_, (pss_cons (ps_set (i := 4) sc__law_asker.nd rfl (Or.inl rfl) (pe_lst (pa_cons (pe_tup (pa_cons pe_str (pa_cons (pe_tup (pa_cons (pe_tup (pa_cons pe_str (pa_cons (pe_tup pa_nil) (pa_cons pe_int pa_nil)))) pa_nil)) pa_nil))) pa_nil)))
  (pss_cons (ps_for PassesOwn.never rfl (pi_enum rfl T.n_enumerate (pa_cons (pv 3) pa_nil)) (pg_tup rfl (pgs_cons (pg_name (i := 5) sc__law_asker.nd rfl (Or.inl rfl)) (pgs_cons (pg_tup rfl (pgs_cons (pg_name (i := 6) sc__law_asker.nd rfl (Or.inl rfl)) (pgs_cons (pg_name (i := 7) sc__law_asker.nd rfl (Or.inl rfl)) (pgs_cons (pg_name (i := 8) sc__law_asker.nd rfl (Or.inl rfl)) pgs_nil)))) pgs_nil)))
  (pss_cons (ps_set (i := 9) sc__law_asker.nd rfl (Or.inl rfl) (pe_call (ok__law_pick T) (hr.mono (by decide)) rfl T.g__law_pick T.F__law_pick.kp T.b__law_pick .nil pass0 (pa_cons (pv 0) (pa_cons (pe_op op_cat (pv 2) (pe_lst (pa_cons pe_str pa_nil))) pa_nil))))
  (pss_one (ps_expr (pe_bm PySem.F.plainAttrs_list PySem.F.slot_list_append PySem.F.type_list_append mt_append (pv 4) (pa_cons (pe_tup (pa_cons pe_str (pa_cons (pv 6) (pa_cons (pv 7) (pa_cons (pe_op (r := Ru.rRepTA K) Ru.op_repTA (pe_tup (pa_cons (pe_tup (pa_cons (pe_op op_mod (pv 5) (pv 1)) (pa_cons (pe_tup pa_nil) pa_nil))) pa_nil)) (pv 8)) (pa_cons (pv 9) (pa_cons (pe_op op_add (pv 5) pe_int) (pa_cons (pe_op op_add (pe_callB (r := Dn.rLenU K) Dn.call_lenU (by rfl) T.n_len (by decide +kernel) (pa_cons (pv 3) pa_nil)) pe_int) pa_nil)))))))) pa_nil))))))
  (pss_one (ps_ret (pe_makeN T.M_Flow (ok_Flow___init__ T) (hr.mono (by decide)) rfl T.g_Flow T.b_Flow___init__ pass0 (pa_cons (pe_callTy (r := Dn.rTupOf K) call_tuple_of (by rfl) T.n_tuple (by decide +kernel) (pa_cons (pv 2) pa_nil)) (pa_cons (pe_callTy (r := Dn.rTupOf K) call_tuple_of (by rfl) T.n_tuple (by decide +kernel) (pa_cons (pe_op op_cat (pv 4) (pe_lst (pa_cons (pe_tup (pa_cons pe_str (pa_cons (pe_tup (pa_cons pe_int (pa_cons (pe_tup pa_nil) pa_nil))) pa_nil))) pa_nil))) pa_nil)) pa_nil)) (pk_cons (pv 1) pk_nil)))))), ?_⟩
  have h2 := prime_2 hp
  have h10 := ha.1
  have hfew := hs.few
  have e0 := envD_start ["draws", "p", "sites", "asks", "steps", "k", "label", "deed", "many", "place"] r
  let sD : Dat := .lst (sites.map fun s => .str s)
  let aD : Dat := .lst (asks.map askD)
  -- steps = [('serve', ..)]
  refine seq_asg (dl_lst (da_cons (x := stepD goS) (den_tup (da_cons den_c (da_cons (x := .tup [wayD ("go", 0, 1)]) (den_tup (da_cons (den_tup (da_cons den_c (da_cons (den_tup da_nil (Nat.zero_le _)) (da_cons den_c da_nil))) (by show 3 ≤ 100000; decide)) da_nil) (by show 1 ≤ 100000; decide)) da_nil)) (by show 2 ≤ 100000; decide)) da_nil) (by show 1 ≤ 100000; decide) _ G H _ i0 e0 fun st ws G1 H1 f1 gs hst h1 r1 => ?_)
  refine gname_run ?_
  have e1 : EnvD K G1 ((L2.start ["draws", "p", "sites", "asks", "steps", "k", "label", "deed", "many", "place"] vs).set 4 (some (.ref st))) [some (.s (.ref dr)), some (.int p), some sD, some aD, some (.s (.ref st)), none, none, none, none, none] := (e0.up f1.g).set (.s (.ref st)) 4
  have d1 : DF dr cl G H G1 H1 := DF.fr f1 hD
  have sdr : st ≠ dr := fun z => by
    rw [z] at hst
    exact hD.some1 hst
  have scl : st ≠ cl := fun z => by
    rw [z] at hst
    exact hD.some2 hst
  refine seq_any (for_den (DenI.is (di_enumL (da_cons (den_var rfl) da_nil)) (enum_map asks askD)) f1.i e1 (fun t σ' G' H' => DF dr cl G H G' H' ∧ EnvD K G' σ' [some (.s (.ref dr)), some (.int p), some sD, some aD, some (.s (.ref st)), none, none, none, none, none] ∧ G' st = none ∧
    ∃ (acc : List Step) (xs : List V), acc.length = t ∧ AskAcc asks sites p acc ∧ H' st = some (.lst xs) ∧ RepAll K G' xs ((goS :: acc).map stepD))
    (fun G2 H2 f2 => ⟨d1.trans (DF.fr f2 d1.at_) gd gc hD, e1.up f2.g, f2.out gs (by rw [h1]; intro z; cases z), [], ws, rfl, fun k s h => by simp at h, f2.h _ _ h1, r1.up f2.g⟩) (fun t σ' G' H' h => h.1.i) (fun t x σ' G' H' v G3 H3 hx ⟨d', e', gs', acc, xs, hacc, hA, hst', rxs⟩ f3 r3 => ?_) fun σ' G' H' ⟨d', e', gs', acc, xs, hacc, hA, hst', rxs⟩ => ?_)
  · rw [List.getElem?_map, List.getElem?_zipIdx] at hx
    cases hq : asks[t]? with
    | none =>
      rw [hq] at hx
      cases hx
    | some q =>
      rw [hq] at hx
      have hx' : x = .tup [.int (t : Nat), askD q] := by
        simp at hx
        exact hx.symm
      subst hx'
      have htl : t < asks.length := (List.getElem?_eq_some_iff.mp hq).1
      have hq3 := (ha.2 q (List.mem_of_getElem? hq)).2.2
      refine dg_tup (dgs_cons dg_name (dgs_cons (dg_tup (dgs_cons dg_name (dgs_cons dg_name (dgs_cons dg_name dgs_nil))) rfl) dgs_nil)) rfl σ' G3 H3 v _ f3.i r3 (e'.up f3.g) fun σ4 _ _ G4 H4 f4 e4 => ?_
      have f34 := f3.trans f4
      have d4 := d'.trans (DF.fr f34 d'.at_) gd gc hD
      -- place = _law_pick(draws, sites + [''])
      refine seq_asg (call_run ?_)
      refine da_cons (den_var rfl) (da_cons (x := .lst ((sites ++ [("" : Str)]).map fun s => .str s)) (Den.is (dl_cat (den_var rfl) (den_lst (da_cons den_c da_nil) (by show 1 ≤ 100000; decide)) (by simp; omega)).den (by simp)) da_nil) σ4 G4 H4 _ f4.i e4 fun us G5 H5 f5 r5 => ?_
      cases r5 with
      | cons ra rb =>
        obtain ⟨vv, rfl, rv⟩ := repAll_1 rb
        obtain rfl := rep_s ra
        have d5 := d4.trans (DF.fr f5 d4.at_) gd gc hD
        have gd5 := d5.gd gd hD
        have gc5 := d5.gc gc hD
        refine ⟨G5, dr, cl, vv, _, rfl, f5.i, gd5, gc5, d5.at_, rv, by simp, by simp; omega, fun u du H6 hdu ru d6 => ?_⟩
        obtain ⟨pl, hpl, rfl⟩ := List.mem_map.mp hdu
        obtain rfl := rep_s ru
        have hsink : sinkOk sites pl := by
          rcases List.mem_append.mp hpl with z | z
          · exact .inr z
          · simp at z
            exact .inl z
        refine gname_run ?_
        have d06 := d5.trans (DF.draw f5.i gd5 gc5 d6) gd gc hD
        have e6 := (e4.up f5.g).set (.s (.str pl)) 9
        have f35 := f34.trans f5
        have hst5 : H5 st = some (.lst xs) := f35.h _ _ hst'
        have hst6 : H6 st = some (.lst xs) := d6.keep _ _ sdr scl hst5
        have gs5 : G5 st = none := f35.out gs' (by rw [hst']; intro z; cases z)
        -- steps.append(..)
        refine ⟨.ref st, slot_s (i := 4) e6 rfl, .inl ⟨rfl, _, .inl (.inl hst6)⟩, ?_⟩
        refine cons_run (Den.is (d := .tup [.str "ask", .str q.1, .str q.2.1, .tup ((List.replicate q.2.2 [formD ((t : Int) % p)]).flatten), .str pl, .int ((t : Int) + 2), .int ((asks.length : Int) + 1)]) (den_tup (da_cons den_c (da_cons (den_var rfl) (da_cons (den_var rfl) (da_cons (den_op (den_tup (da_cons (x := formD ((t : Int) % p)) (den_tup (da_cons (den_op (den_var rfl) (den_var rfl) (rd_I (by show (0 : Int) < p; omega))) (da_cons (den_tup da_nil (Nat.zero_le _)) da_nil)) (by show 2 ≤ 100000; decide)) da_nil) (by show 1 ≤ 100000; decide)) (den_var rfl) (rd_rep (by simp) (by omega) (by show 1 ≤ 1000; decide)))
          (da_cons (den_var rfl) (da_cons (den_op (den_var rfl) den_c rd_I0) (da_cons (den_op (Den.is (x := .int (asks.length : Nat)) (lenL (den_var rfl)) (by simp)) den_c rd_I0) da_nil))))))) (by show 7 ≤ 100000; decide)) (show _ = stepD (askS p asks.length q pl t) from ?_) _ G5 H6 _ d06.i e6 fun y G7 H7 f7 r7 => ?_)
        · unfold askS stepD stepL
          simp
        have hst7 : H7 st = some (.lst xs) := f7.h _ _ hst6
        have gs7 : G7 st = none := f7.out gs5 (by rw [hst6]; intro z; cases z)
        have d07 := d06.trans (DF.fr f7 d06.at_) gd gc hD
        have hxl := rxs.len
        refine ⟨st, xs, y, rfl, rfl, hst7, Evl.sz_lt (by rw [hxl, List.length_map, List.length_cons]; omega), G7, (f35.g.trans f7.g), ⟨d07.g, fun a o h3 h4 h5 => ?_, Evl.Ex.mut d07.i gs7, d07.n, ?_⟩, (((((e6.up f7.g).forget 5).forget 6).forget 7).forget 8).forget 9, gs7, acc ++ [askS p asks.length q pl t], xs ++ [y], by rw [List.length_append, hacc]; rfl, fun k s hk => ?_, upd_same, ?_⟩
        · rw [upd_ne (ne_of_none h5 hst)]
          exact d07.keep a o h3 h4 h5
        · obtain ⟨cs, a, b, h3, h4, h5⟩ := d07.at_
          exact ⟨cs, a, b, by rw [upd_ne sdr.symm]; exact h3, by rw [upd_ne scl.symm]; exact h4, h5⟩
        · by_cases hk2 : k < acc.length
          · rw [List.getElem?_append_left hk2] at hk
            exact hA k s hk
          · rw [List.getElem?_append_right (by omega)] at hk
            have hk3 : k = acc.length := by
              by_cases z : k - acc.length = 0
              · omega
              · rw [List.getElem?_eq_none (by simp; omega)] at hk
                cases hk
            subst hk3
            simp at hk
            subst hk
            rw [hacc]
            exact ⟨q, pl, hq, hsink, rfl⟩
        · rw [show (goS :: (acc ++ [askS p asks.length q pl t])).map stepD = (goS :: acc).map stepD ++ [stepD (askS p asks.length q pl t)] by simp]
          exact (rxs.up (f35.g.trans f7.g)).app (.cons r7 .nil)
  · rw [List.length_map, List.length_zipIdx] at hacc
    -- return Flow(..)
    have it : Ex (upd G' st (.lst xs)) H' := fun a o h3 => by
      by_cases z : a = st
      · subst z
        rw [upd_same] at h3
        cases h3
        exact hst'
      · rw [upd_ne z] at h3
        exact d'.i a o h3
    have dt : DF dr cl G H (upd G' st (.lst xs)) H' := ⟨d'.g.trans (Ex.new gs'), d'.keep, it, fun a h3 h4 => by
      by_cases z : a = st
      · subst z
        exact hst
      · rw [upd_ne z] at h4
        exact d'.n a h3 h4, d'.at_⟩
    have e7 : EnvD K (upd G' st (.lst xs)) σ' [some (.s (.ref dr)), some (.int p), some sD, some aD, some (.lst ((goS :: acc).map stepD)), none, none, none, none, none] := (e'.up (Ex.new gs')).tell (slot_s (i := 4) e' rfl) (.lst upd_same (rxs.up (Ex.new gs')))
    refine ds_ret (d := flowD A.C_Flow sites (askerSteps acc) p) (den_makeN (xs := [sitesD sites, stepsD (askerSteps acc)]) (ys := [.int p]) (FI := F_Flow___init__) (da_cons (den_cb (da_cons (den_var rfl) da_nil) rc_tupL) (da_cons (den_cb (da_cons (Den.is (x := .lst ((askerSteps acc).map stepD)) (dl_cat (den_var rfl) (den_lst (da_cons (x := stepD (.done 0)) (den_tup (da_cons den_c (da_cons (x := formD 0) (den_tup (da_cons den_c (da_cons (den_tup da_nil (Nat.zero_le _)) da_nil)) (by show 2 ≤ 100000; decide)) da_nil)) (by show 2 ≤ 100000; decide)) da_nil) (by show 1 ≤ 100000; decide)) (by simp; omega)).den ?_) da_nil) rc_tupL) da_nil))
      (da_cons (den_var rfl) da_nil) rfl rfl ⟨sites, _, p, rfl, asker_ok hp hs ha hacc hA, rfl⟩) σ' _ H' _ it e7 fun v G8 H8 f8 r8 => k acc v G8 H8 (dt.trans (DF.fr f8 d'.at_) gd gc hD) hacc hA r8
    unfold askerSteps
    simp
end
end K56
set_option Elab.async false
set_option linter.all false
set_option maxRecDepth 100000
set_option maxHeartbeats 4000000
set_option pp.maxSteps 400
set_option pp.deepTerms false
/-! Ko: how two flows are refused, and how they are due to be. -/
namespace K56
open PySem L2 Dn
open Evl (Ex fresh_back)
theorem sc__law_how_refused : FnScope ["near", "label", "far", "caught", "e", "others"] ["near", "label", "far"] (defScope s__law_how_refused) := ⟨rfl, rfl, rfl, by decide +kernel, rfl, by decide +kernel, by decide +kernel⟩
theorem sc__law_how_due : FnScope ["near", "label", "far", "asks", "sites", "step", "site"] ["near", "label", "far"] (defScope s__law_how_due) := ⟨rfl, rfl, rfl, by decide +kernel, rfl, by decide +kernel, by decide +kernel⟩
theorem c_run {v : V} {σ : L2.St} {H : Hp} {Q : VK} (h : Q v H) : tC v σ H Q := h
def verS : Option Bool → Str
  | none => ""
  | some true => "pair"
  | some false => "many"
def spRefused (K : PySem.W.Frag) (A : Ad) : Sp := fun vs H Q _ => ∃ (G : Hp) (unit : Str) (sN : List Str) (tN : List Step) (p : Int) (sF : List Str) (tF : List Step) (q : Int), Ex G H ∧ RepAll K G vs [flowD A.C_Flow sN tN p, .str unit, flowD A.C_Flow sF tF q] ∧ LinkIn2 unit sN tN p sF tF q ∧
  ∀ G' H', Fr G H G' H' → Q (.str (verS (linkVer unit sN tN p sF tF q))) H'
section
variable {P : Program} {w : World} {K : PySem.W.Frag} {mg : Str → Option Value} {base : Heap} {A : Ad}
theorem ok__law_how_refused (T : Tx K w mg A) : FnOk P w K mg base CX0 12 A.f__law_how_refused A.d__law_how_refused ["near", "label", "far"] (spRefused K A) := by
  refine T.F__law_how_refused.ok sc__law_how_refused (fun vs H Q E h => ?_) (fun cdv Ar outer s H vs Q E hr h => ?_)
  · obtain ⟨G, unit, sN, tN, p, sF, tF, q, _, r, _⟩ := h
    rw [r.len]
    rfl
  obtain ⟨G, unit, sN, tN, p, sF, tF, q, i0, r, L, k⟩ := h
  refine ⟨_, (pss_cons (ps_set (i := 3) sc__law_how_refused.nd rfl (Or.inl rfl) pe_non)
  (pss_cons (Ru.ps_try_keep (i := 4) rfl rfl rfl sc__law_how_refused.nd rfl rfl ⟨rfl, by decide, .inl T.g_TraceError⟩ takes0
    (fun W pn xe tk _ => (pss_one (ps_expr (pe_callS (ok_linked T) (hr.mono (by decide)) rfl T.g_linked T.F_linked.kp T.b_linked (fun σ => passAt tk σ) (pa_cons (pv 0) (pa_cons (pv 1) (pa_cons (pv 2) pa_nil)))))))
    (fun a oe cls d pn hz hf => (pss_one (ps_set (i := 3) sc__law_how_refused.nd rfl (Or.inl rfl) (pv 4)))))
  (pss_cons (ps_if (pt_cmpR op_isN (pv 3) pe_non (nomark _)) (pss_one (ps_ret pe_str)) pss_nil)
  (pss_cons (ps_set (i := 5) sc__law_how_refused.nd rfl (Or.inl rfl) (pe_callB (r := Ru.rIsXT K) Ru.call_isXT (by rfl) T.n_isinstance (by decide +kernel) (pa_cons (pv 3) (pa_cons (pe_tup (pa_cons (pe_glob (v := .ref _) rfl T.g_NoFlow rfl) (pa_cons (pe_glob (v := .ref _) rfl T.g_NoLetter rfl) (pa_cons (pe_glob (v := .ref _) rfl T.g_NoUnit rfl) (pa_cons (pe_glob (v := .ref _) rfl T.g_TooLong rfl) pa_nil))))) pa_nil))))
  (pss_cons (ps_if (PW.pt (pw_and (pt_val (pe_callB (r := Ru.rIsX K) Ru.call_isX (by rfl) T.n_isinstance (by decide +kernel) (pa_cons (pv 3) (pa_cons (pe_glob (v := .ref _) rfl T.g_NoPair rfl) pa_nil)))) (pw_and (pt_not (pt_val (pe_callB (r := Ru.rIsX K) Ru.call_isX (by rfl) T.n_isinstance (by decide +kernel) (pa_cons (pv 3) (pa_cons (pe_glob (v := .ref _) rfl T.g_TooMany rfl) pa_nil))))) (pw_and1 (pt_not (pt_val (pv 5))))))) (pss_one (ps_ret (pe_ifExp (pt_val (pe_callB (r := Ru.rIsX K) Ru.call_isX (by rfl) T.n_isinstance (by decide +kernel) (pa_cons (pv 3) (pa_cons (pe_bltn (v := .ty "ValueError") (by rfl) T.n_ValueError (by decide +kernel) rfl) pa_nil)))) pe_str pe_str))) pss_nil)
  (pss_one (ps_ret (pe_ifExp (PW.pt (pw_and (pt_val (pe_callB (r := Ru.rIsX K) Ru.call_isX (by rfl) T.n_isinstance (by decide +kernel) (pa_cons (pv 3) (pa_cons (pe_glob (v := .ref _) rfl T.g_TooMany rfl) pa_nil)))) (pw_and1 (pt_not (pt_val (pv 5)))))) pe_str pe_str)))))))), ?_⟩
  have rl := r.len
  match vs, rl with
  | [v0, v1, v2], _ =>
  have e0 := envD_start ["near", "label", "far", "caught", "e", "others"] r
  have e1 := e0.set (.s .non) 3
  -- caught = None; try: linked(near, label, far)
  refine seq_asg (c_run (gname_run ?_))
  dsimp only
  refine seq_any ?_
  dsimp only
  refine drop_callS ?_
  refine da_cons (den_var rfl) (da_cons (den_var rfl) (da_cons (den_var rfl) da_nil)) _ G H _ i0 e1 fun us G1 H1 f1 r1 => ⟨G1, unit, sN, tN, p, sF, tF, q, f1.i, r1, L, fun hv => link_ok L hv, fun hv v G2 H2 f2 => ?_, fun hv G2 H2 f2 => ?_, fun hv G2 H2 f2 => ?_⟩
  · -- linked
    have f := f1.trans f2
    refine ⟨.non, rfl, rfl, _, rfl, ?_⟩
    dsimp only
    rw [if_pos (by decide)]
    have := k G2 H2 f
    rw [hv] at this
    exact this
  · have f := f1.trans f2
    refine ⟨true, T.ex_NoPair, fun _ a ha => ?_, fun z => nomatch z⟩
    refine ⟨.ref a, rfl, fun ha2 => ?_⟩
    have hx : upd H2 a (Ru.ExT (.ref A.C_NoPair) none a) a = some (Ru.ExT (.ref A.C_NoPair) none a) := upd_same
    have ff : Fr G H G2 (upd H2 a (Ru.ExT (.ref A.C_NoPair) none a)) := f.put (fresh_back f.h ha) (fresh_back f.i ha)
    generalize upd H2 a (Ru.ExT (.ref A.C_NoPair) none a) = H3 at hx ff ⊢
    have fin := fun H' (e : Ex H3 H') => k G2 H' ⟨ff.g, ff.h.trans e, ff.i.trans e, ff.n⟩
    rw [hv] at fin
    -- caught is None
    refine ⟨.ref a, rfl, rfl, _, rfl, ?_⟩
    dsimp only
    rw [if_neg (by simp)]
    -- others
    refine next_run ?_
    refine ⟨.ref a, rfl, by show 4 ≤ sizeLine; decide, fun tp htp => ⟨a, _, tp, _, _, false, rfl, by rw [upd_ne (ne_of_none hx htp)]; exact hx, T.ec_NoPair, upd_same, .cons (.own _) (.cons (.own _) (.cons (.own _) (.cons (.own _) .nil))), T.ko_NoPair, ?_⟩⟩
    refine gname_run ?_
    have hx4 : ∀ o, upd H3 tp o a = some (Ru.ExT (.ref A.C_NoPair) none a) := fun o => by
      rw [upd_ne (ne_of_none hx htp)]
      exact hx
    refine ⟨.ref a, rfl, a, _, _, _, true, rfl, hx4 _, T.ec_NoPair, .own _, T.kt_NoPair_NoPair, true, rfl, iteT ?_⟩
    refine ⟨.ref a, rfl, a, _, _, _, false, rfl, hx4 _, T.ec_NoPair, .own _, T.kt_NoPair_TooMany, false, rfl, iteT ?_⟩
    refine ⟨.bl false, rfl, false, rfl, iteT ?_⟩
    refine ⟨.ref a, rfl, a, _, _, _, true, rfl, hx4 _, T.ec_NoPair, .ty _, T.kv_NoPair, true, rfl, iteT ?_⟩
    exact fin _ (Ex.new htp)
  · have f := f1.trans f2
    refine ⟨true, T.ex_TooMany, fun _ a ha => ?_, fun z => nomatch z⟩
    refine ⟨.ref a, rfl, fun ha2 => ?_⟩
    have hx : upd H2 a (Ru.ExT (.ref A.C_TooMany) none a) a = some (Ru.ExT (.ref A.C_TooMany) none a) := upd_same
    have ff : Fr G H G2 (upd H2 a (Ru.ExT (.ref A.C_TooMany) none a)) := f.put (fresh_back f.h ha) (fresh_back f.i ha)
    generalize upd H2 a (Ru.ExT (.ref A.C_TooMany) none a) = H3 at hx ff ⊢
    have fin := fun H' (e : Ex H3 H') => k G2 H' ⟨ff.g, ff.h.trans e, ff.i.trans e, ff.n⟩
    rw [hv] at fin
    refine ⟨.ref a, rfl, rfl, _, rfl, ?_⟩
    dsimp only
    rw [if_neg (by simp)]
    refine next_run ?_
    refine ⟨.ref a, rfl, by show 4 ≤ sizeLine; decide, fun tp htp => ⟨a, _, tp, _, _, false, rfl, by rw [upd_ne (ne_of_none hx htp)]; exact hx, T.ec_TooMany, upd_same, .cons (.own _) (.cons (.own _) (.cons (.own _) (.cons (.own _) .nil))), T.ko_TooMany, ?_⟩⟩
    refine gname_run ?_
    have hx4 : ∀ o, upd H3 tp o a = some (Ru.ExT (.ref A.C_TooMany) none a) := fun o => by
      rw [upd_ne (ne_of_none hx htp)]
      exact hx
    refine ⟨.ref a, rfl, a, _, _, _, false, rfl, hx4 _, T.ec_TooMany, .own _, T.kt_TooMany_NoPair, false, rfl, iteF ?_⟩
    refine next_run ?_
    refine ⟨.ref a, rfl, a, _, _, _, true, rfl, hx4 _, T.ec_TooMany, .own _, T.kt_TooMany_TooMany, true, rfl, iteT ?_⟩
    refine ⟨.bl false, rfl, false, rfl, iteT ?_⟩
    exact fin _ (Ex.new htp)
end
theorem filter_any {α : Type} (p : α → Bool) (xs : List α) : (!(xs.filter p).isEmpty) = xs.any p := by
  induction xs with
  | nil => rfl
  | cons a xs ih =>
    rw [List.filter_cons, List.any_cons]
    cases h : p a with
    | true => simp
    | false => simpa using ih
theorem map_empty {α β : Type} (f : α → β) (xs : List α) : (xs.map f).isEmpty = xs.isEmpty := by
  cases xs <;> rfl
/-- [e for ..] != [], of things that may be compared -/
theorem ne_nil {K : PySem.W.Frag} {ρ : DSt} {ta : TE} {α : Type} (xs : List α) (f : α → Dat) (g : α → PyData) (h : Den K ta ρ (.lst (xs.map f))) (hp : ∀ a ∈ xs, Py (f a) (g a)) (hl : ∀ a ∈ xs, Lay 5 (g a)) : DenT K (tTest (tOp (rNeD K) ta (tLst tNil))) ρ (!xs.isEmpty) :=
  DenT.is (dt_test (den_op h (den_lst da_nil (Nat.zero_le _)) (rd_neD (.lst (PyAll.mapM xs hp)) (.lst .nil) (Lay.shaped (k := 6) (.lst (lay_map hl))) (Lay.shaped (k := 6) (.lst fun x hx => nomatch hx))))) (by rw [eqv_nil, map_empty])
theorem called_ok {u s : Str} (hu : nameOk u) (hs : placeOk s) : (calledS u s).cps.toList.all placeC = true := by
  have he := calledS_eq (u := u) (place_ne hs)
  rw [he, List.all_append, Bool.and_eq_true]
  refine ⟨name_place hu, ?_⟩
  rw [List.all_cons, Bool.and_eq_true]
  exact ⟨by decide +kernel, hs.2.2⟩
theorem called_plus {u s : Str} (hs : s ≠ "") : (u ++ ".") ++ s = calledS u s := by
  refine str_ext ?_
  rw [calledS_eq hs, app_cps, app_cps]
  have : (Str.cps ".").toList = [46] := by decide +kernel
  rw [this]
  simp
def stepP : Step → PyData
  | .ask u e f pl g o => .tuple [.str "ask", .str u, .str e, .tuple (f.map fun n => .tuple [.int n, .tuple []]), .str pl, .int g, .int o]
  | _ => .none
theorem ask_py {unit : Str} {sN : List Str} {n p : Int} {s : Step} (ha : askTo unit s = true) (hs : stepOk sN n p s) (hN : ∀ s ∈ sN, placeOk s) : Py (stepD s) (stepP s) ∧ Lay 5 (stepP s) := by
  cases s with
  | ask u e f pl g o =>
    obtain ⟨h1, h2, h3, h4, h5, h6, h7⟩ := hs
    refine ⟨.tup (.cons (.str _) (.cons (.str _) (.cons (.str _) (.cons (.tup (PyAll.map (fun n => .tup (.cons (.int _) (.cons (.tup .nil) .nil))) f)) (.cons (.str _) (.cons (.int _) (.cons (.int _) .nil))))))), .tup (k := 4) fun y hy => ?_⟩
    simp only [List.mem_cons, List.not_mem_nil, or_false] at hy
    have hpl : pl.cps.toList.all placeC = true := by
      rcases h5 with rfl | h5
      · decide +kernel
      · exact (hN pl h5).2.2
    rcases hy with rfl | rfl | rfl | rfl | rfl | rfl | rfl
    · exact .str (by decide +kernel)
    · exact .str (strOk_of (name_place h1))
    · exact .str (strOk_of (name_place h2))
    · refine .tup (k := 3) (lay_map fun n _ => .tup (k := 2) fun z hz => ?_)
      simp only [List.mem_cons, List.not_mem_nil, or_false] at hz
      rcases hz with rfl | rfl
      · exact .int _
      · exact .tup (k := 1) fun x hx => nomatch hx
    · exact .str (strOk_of hpl)
    · exact .int _
    · exact .int _
  | _ => cases ha
def F__law_how_due (C : Addr) : List Dat → Dat → Prop := fun ds d => ∃ unit sN tN p sF tF q, ds = [flowD C sN tN p, .str unit, flowD C sF tF q] ∧ LinkIn2 unit sN tN p sF tF q ∧ d = .str (verS (linkVer unit sN tN p sF tF q))
section
variable {P : Program} {w : World} {K : PySem.W.Frag} {mg : Str → Option Value} {base : Heap} {A : Ad}
theorem ok__law_how_due (T : Tx K w mg A) : FnOk P w K mg base CX0 3 A.f__law_how_due A.d__law_how_due ["near", "label", "far"] (spF K (F__law_how_due A.C_Flow)) := by
  refine pure_ok T.F__law_how_due sc__law_how_due (fun ds d h => by obtain ⟨_, _, _, _, _, _, _, rfl, _⟩ := h; rfl) (fun cdv Ar outer s H E hr => ⟨_, (pss_cons (ps_setLc (i := 3) (own := [("step", 5)]) (g := (gName 5)) (by rfl) sc__law_how_due.nd rfl rfl (sw_true rfl rfl rfl (by decide +kernel)) (Dn.pi_seq (pe_meth0 (pv 0) T.c_Flow T.m_Flow_steps (ok_Flow_steps T) (hr.mono (by decide)) T.b_Flow_steps .nil pass0)) (blkOk_by (N := ["near", "label", "far", "asks", "sites", "step", "site"]) (sc := defScope s__law_how_due) (by decide +kernel))
    (fun _ _ _ _ _ => (pg_name (i := 5) sc__law_how_due.nd rfl (Or.inl rfl))) (fun _ _ _ _ _ => pts_one (PW.pt (pw_and (pt_cmpR op_eq (pe_ix (r := rIx K) ix_seq (pv 5) pe_int (fun _ _ => rfl)) pe_str (nomark _)) (pw_and1 (pt_cmpR op_eq (pe_ix (r := rIx K) ix_seq (pv 5) pe_int (fun _ _ => rfl)) (pv 1) (nomark _)))))) (fun _ _ _ _ _ => (pv 5)))
  (pss_cons (ps_setLc (i := 4) (own := [("site", 6)]) (g := (gName 6)) (by rfl) sc__law_how_due.nd rfl rfl (sw_true rfl rfl rfl (by decide +kernel)) (Dn.pi_seq (pe_meth0 (pv 2) T.c_Flow T.m_Flow_places (ok_Flow_places T) (hr.mono (by decide)) T.b_Flow_places .nil pass0)) (blkOk_by (N := ["near", "label", "far", "asks", "sites", "step", "site"]) (sc := defScope s__law_how_due) (by decide +kernel))
    (fun _ _ _ _ _ => (pg_name (i := 6) sc__law_how_due.nd rfl (Or.inl rfl))) (fun _ _ _ _ _ => pts_nil) (fun _ _ _ _ _ => (pe_op op_add_str (pe_op op_add_str (pv 1) pe_str) (pv 6))))
  (pss_cons (ps_if (PW.pt (pw_or (pt_cmpR op_ne (pe_meth0 (pv 0) T.c_Flow T.m_Flow_prime (ok_Flow_prime T) (hr.mono (by decide)) T.b_Flow_prime .nil pass0) (pe_meth0 (pv 2) T.c_Flow T.m_Flow_prime (ok_Flow_prime T) (hr.mono (by decide)) T.b_Flow_prime .nil pass0) (nomark _)) (pw_or1 (pt_cmpR (r := rNeD K) (op_neD hr.units) (pe_lc (own := [("site", 6)]) (g := (gName 6)) (by rfl) sc__law_how_due.nd (Dn.pi_seq (pv 4)) (blkOk_by (N := ["near", "label", "far", "asks", "sites", "step", "site"]) (sc := defScope s__law_how_due) (by decide +kernel))
    (fun _ _ _ _ _ => (pg_name (i := 6) sc__law_how_due.nd rfl (Or.inl rfl))) (fun _ _ _ _ _ => pts_one (pt_cmpR (r := rIn K false) op_in_seq (pv 6) (pe_meth0 (pv 0) T.c_Flow T.m_Flow_places (ok_Flow_places T) (hr.mono (by decide)) T.b_Flow_places .nil pass0) rfl)) (fun _ _ _ _ _ => (pv 6))) (pe_lst pa_nil) (nomark _))))) (pss_one (ps_ret pe_str)) pss_nil)
  (pss_cons (ps_if (pt_cmpR (r := rNeD K) (op_neD hr.units) (pe_lc (own := [("step", 5)]) (g := (gName 5)) (by rfl) sc__law_how_due.nd (Dn.pi_seq (pv 3)) (blkOk_by (N := ["near", "label", "far", "asks", "sites", "step", "site"]) (sc := defScope s__law_how_due) (by decide +kernel))
    (fun _ _ _ _ _ => (pg_name (i := 5) sc__law_how_due.nd rfl (Or.inl rfl))) (fun _ _ _ _ _ => pts_one (pt_cmpR (r := Ru.rInT K true) (Ru.op_notInT (Dn.hu65 hr)) (pe_tup (pa_cons (pe_ix (r := rIx K) ix_seq (pv 5) pe_int (fun _ _ => rfl)) (pa_cons (pe_callB (r := Dn.rLenU K) Dn.call_lenU (by rfl) T.n_len (by decide +kernel) (pa_cons (pe_ix (r := rIx K) ix_seq (pv 5) pe_int (fun _ _ => rfl)) pa_nil)) pa_nil))) (pe_meth0 (pv 2) T.c_Flow T.m_Flow_deeds (ok_Flow_deeds T) (hr.mono (by decide)) T.b_Flow_deeds .nil pass0) rfl)) (fun _ _ _ _ _ => (pv 5))) (pe_lst pa_nil) (nomark _)) (pss_one (ps_ret pe_str)) pss_nil)
  (pss_cons (ps_if (PW.pt (pw_or (pt_cmpR (r := rNeD K) (op_neD hr.units) (pe_lc (own := [("site", 6)]) (g := (gName 6)) (by rfl) sc__law_how_due.nd (Dn.pi_seq (pv 4)) (blkOk_by (N := ["near", "label", "far", "asks", "sites", "step", "site"]) (sc := defScope s__law_how_due) (by decide +kernel))
    (fun _ _ _ _ _ => (pg_name (i := 6) sc__law_how_due.nd rfl (Or.inl rfl))) (fun _ _ _ _ _ => pts_one (pt_cmpR op_gt (pe_callB (r := Dn.rLenU K) Dn.call_lenU (by rfl) T.n_len (by decide +kernel) (pa_cons (pv 6) pa_nil)) pe_int (nomark _))) (fun _ _ _ _ _ => (pv 6))) (pe_lst pa_nil) (nomark _)) (pw_or1 (pt_cmpR op_gt (pe_op op_add (pe_callB (r := Dn.rLenU K) Dn.call_lenU (by rfl) T.n_len (by decide +kernel) (pa_cons (pv 4) pa_nil)) (pe_callB (r := Dn.rLenU K) Dn.call_lenU (by rfl) T.n_len (by decide +kernel) (pa_cons (pe_meth0 (pv 0) T.c_Flow T.m_Flow_places (ok_Flow_places T) (hr.mono (by decide)) T.b_Flow_places .nil pass0) pa_nil))) pe_int (nomark _))))) (pss_one (ps_ret pe_str)) pss_nil)
  (pss_one (ps_ret (pe_ifExp (pt_cmpR op_gt (pe_op op_add (pe_callB (Ru.call_lenI (CX := CX0) T.c_Flow T.m_Flow___len__.at_ T.m_Flow___len__.fn (ok_Flow___len__ T) (hr.mono (by decide)) T.b_Flow___len__) (by rfl) T.n_len (by decide +kernel) (pa_cons (pv 0) pa_nil)) (pe_op op_mul (pe_callB (r := Dn.rLenU K) Dn.call_lenU (by rfl) T.n_len (by decide +kernel) (pa_cons (pv 3) pa_nil)) (pe_callB (Ru.call_lenI (CX := CX0) T.c_Flow T.m_Flow___len__.at_ T.m_Flow___len__.fn (ok_Flow___len__ T) (hr.mono (by decide)) T.b_Flow___len__) (by rfl) T.n_len (by decide +kernel) (pa_cons (pv 2) pa_nil)))) pe_int (nomark _)) pe_str pe_str)))))))), fun ds d h => ?_⟩)
  obtain ⟨unit, sN, tN, p, sF, tF, q, rfl, L, rfl⟩ := h
  obtain ⟨ways, rest, htF, hrest⟩ := L.far.first
  subst htF
  have hwaysOk := L.far.ok _ List.mem_cons_self
  have hnl := L.near.len
  have hfl := L.far.len
  have hfewF := L.far.few
  have hfewN := L.near.few
  have hul := L.unit.2.1
  have hcl : (calledL unit sF).length = sF.length := by simp [calledL]
  let nD := flowD A.C_Flow sN tN p
  let fD := flowD A.C_Flow sF (.serve ways :: rest) q
  let aD : Dat := .lst ((tN.filter (askTo unit)).map stepD)
  let cD : Dat := .lst ((calledL unit sF).map fun s => .str s)
  have hal : (tN.filter (askTo unit)).length ≤ 10000 := Nat.le_trans (List.length_filter_le _ _) hnl
  have hlen : ∀ s ∈ calledL unit sF, s.length ≤ 1000 := fun s hs => by
    obtain ⟨x, hx, rfl⟩ := List.mem_map.mp hs
    have h1 := calledS_len unit x
    have h2 := (L.far.names x hx).1
    omega
  have hlay : ∀ s ∈ calledL unit sF, Lay 5 (.str s) := fun s hs => by
    obtain ⟨x, hx, rfl⟩ := List.mem_map.mp hs
    exact .str (strOk_of (called_ok L.unit (L.far.names x hx)))
  have hdeeds : ∀ (ρ : DSt), ρ[2]? = some (some fD) → Den K (tMeth A.C_Flow "deeds" (spF K (F_Flow_deeds A.C_Flow)) [] E0 (tVar 2) tNil) ρ (deedsD ways) := fun ρ h =>
    den_meth (xs := []) (den_var h) rfl da_nil ⟨sF, ways, rest, q, rfl, by have := hwaysOk.2.1; omega, fun x hx => by have := (hwaysOk.2.2.1 x hx).2.1; omega, rfl⟩
  have shD : SeqAt.shaped (.tuple (ways.map fun q => .tuple [.str q.1, .int (q.2.1 : Nat)])) = true := Lay.shaped (k := 2) (.tup (lay_map fun x hx => .tup (k := 0) fun y hy => by
    simp only [List.mem_cons, List.not_mem_nil, or_false] at hy
    rcases hy with rfl | rfl
    · exact .str (strOk_of (name_place (hwaysOk.2.2.1 x hx).1))
    · exact .int _))
  -- asks
  refine ds_seq (ds_set (d := aD) (dl_lc tN stepD (askTo unit) stepD (fun s => [some nD, some (.str unit), some fD, none, none, some (stepD s), none]) (di_2 (di_tup (den_meth (xs := []) (den_var rfl) rfl da_nil ⟨sN, tN, p, rfl, rfl⟩))) (by omega) (fun s _ => dg_name) (fun s _ => dts_one ?_) (fun s _ _ => den_var rfl)).den) ?_
  · cases s with
    | ask u e f p g o => exact DenT.is (dt_and (b := true) (DenT.is (dt_test (den_op (den_op (den_var rfl) den_c (rd_ixUT (ati 0 rfl))) den_c (rd_eq rfl))) rfl) fun _ => dt_test (den_op (den_op (den_var rfl) den_c (rd_ixUT (ati 1 rfl))) (den_var rfl) (rd_eq rfl))) rfl
    | serve ways => exact DenT.is (dt_and (b := false) (c := false) (DenT.is (dt_test (den_op (den_op (den_var rfl) den_c (rd_ixUT (ati 0 rfl))) den_c (rd_eq rfl))) rfl) fun z => nomatch z) rfl
    | move a b => exact DenT.is (dt_and (b := false) (c := false) (DenT.is (dt_test (den_op (den_op (den_var rfl) den_c (rd_ixUT (ati 0 rfl))) den_c (rd_eq rfl))) rfl) fun z => nomatch z) rfl
    | out a b => exact DenT.is (dt_and (b := false) (c := false) (DenT.is (dt_test (den_op (den_op (den_var rfl) den_c (rd_ixUT (ati 0 rfl))) den_c (rd_eq rfl))) rfl) fun z => nomatch z) rfl
    | done a => exact DenT.is (dt_and (b := false) (c := false) (DenT.is (dt_test (den_op (den_op (den_var rfl) den_c (rd_ixUT (ati 0 rfl))) den_c (rd_eq rfl))) rfl) fun z => nomatch z) rfl
  -- sites
  refine ds_seq (ds_set (d := cD) (Den.is (dl_lcA sF (fun s => .str s) (fun s => .str (calledS unit s)) (fun s => [some nD, some (.str unit), some fD, some aD, none, none, some (.str s)]) (di_2 (di_tup (den_meth (xs := []) (den_var rfl) rfl da_nil ⟨sF, _, q, rfl, rfl⟩))) (by omega) (fun s _ => dg_name) (fun s _ => dts_nil)
    fun s hs => Den.is (den_op (den_op (den_var rfl) den_c (rd_addS (by have : (Str.length ".") = 1 := (by decide +kernel); omega))) (den_var rfl) (rd_addS (by rw [app_len]; have : (Str.length ".") = 1 := (by decide +kernel); have := (L.far.names s hs).1; omega))) (by rw [called_plus (place_ne (L.far.names s hs))])).den (by show Dat.lst _ = Dat.lst ((calledL unit sF).map _); unfold calledL; rw [List.map_map]; rfl))) ?_
  -- the three tests
  have t1 : ∀ ρ : DSt, ρ = [some nD, some (.str unit), some fD, some aD, some cD, none, none] → True := fun _ _ => trivial
  let b1 := (!decide (V.int p = V.int q)) || (calledL unit sF).any (fun s => decide (s ∈ sN))
  let b2 := (tN.filter (askTo unit)).any (badAsk ways)
  let b3 := (calledL unit sF).any (fun s => decide (40 < s.length)) || decide (100 < sF.length + sN.length)
  let b4 := decide (10000 < tN.length + (tN.filter (askTo unit)).length * (Step.serve ways :: rest).length)
  have hres : verS (linkVer unit sN tN p sF (.serve ways :: rest) q) = if b1 = true then "pair" else if b2 = true then "pair" else if b3 = true then "many" else if b4 = true then "many" else "" := by
    unfold linkVer
    show verS (if p ≠ q then some true else if b2 = true then some true else if (calledL unit sF).any (fun s => decide (s ∈ sN)) = true then some true else if b3 = true then some false else if 10000 < tN.length + (tN.filter (askTo unit)).length * (Step.serve ways :: rest).length then some false else none) = _
    by_cases h1 : p = q
    · have e1 : b1 = (calledL unit sF).any (fun s => decide (s ∈ sN)) := by simp [b1, h1]
      rw [if_neg (by simpa using h1), e1]
      cases h2 : b2 <;> cases h3 : (calledL unit sF).any (fun s => decide (s ∈ sN)) <;> cases h4 : b3 <;> try rfl
      show verS (if 10000 < tN.length + (tN.filter (askTo unit)).length * (Step.serve ways :: rest).length then some false else none) = if b4 = true then "many" else ""
      by_cases h5 : 10000 < tN.length + (tN.filter (askTo unit)).length * (Step.serve ways :: rest).length
      · rw [if_pos h5, if_pos (decide_eq_true h5)]
        rfl
      · rw [if_neg h5, if_neg (by rw [show b4 = false from decide_eq_false h5]; decide)]
        rfl
    · have e1 : b1 = true := by simp [b1, h1]
      rw [if_pos (by simpa using h1), e1, if_pos rfl]
      rfl
  rw [hres]
  -- unlike primes, or a place twice
  have c1 : DenT K _ [some nD, some (.str unit), some fD, some aD, some cD, none, none] b1 := dt_or (b := !decide (V.int p = V.int q)) (c := (calledL unit sF).any (fun s => decide (s ∈ sN))) (dt_test (den_op (den_meth (C := A.C_Flow) (m := "prime") (E := E0) (F := F_Flow_prime A.C_Flow) (xs := []) (den_var (i := 0) rfl) rfl da_nil ⟨_, _, _, rfl, rfl⟩) (den_meth (C := A.C_Flow) (m := "prime") (E := E0) (F := F_Flow_prime A.C_Flow) (xs := []) (den_var (i := 2) rfl) rfl da_nil ⟨_, _, _, rfl, rfl⟩) (rd_ne rfl))) fun _ =>
    DenT.is (ne_nil ((calledL unit sF).filter fun s => decide (s ∈ sN)) (fun s => .str s) (fun s => .str s) (dl_lc (g := gName 6) (te := tVar 6) (tt := tTest (tOp (rIn K false) (tVar 6) (tMeth A.C_Flow "places" (spF K (F_Flow_places A.C_Flow)) [] E0 (tVar 0) tNil))) (vs := [6]) (calledL unit sF) (fun s => .str s) (fun s => decide (s ∈ sN)) (fun s => .str s) (fun s => [some nD, some (.str unit), some fD, some aD, some cD, none, some (.str s)]) (di_1 (b := iTup K (tVar 4)) (di_list (den_var (i := 4) rfl))) (by omega) (fun s _ => dg_name) (fun s _ => dts_one (dt_test (den_op (den_var rfl) (den_meth (xs := []) (den_var rfl) rfl da_nil ⟨sN, tN, p, rfl, rfl⟩) rd_inFlat))) (fun s _ _ => den_var rfl)).den (fun s _ => .str _) fun s hs => hlay s (List.mem_filter.mp hs).1) (filter_any _ _)
  by_cases hb1 : b1 = true
  · rw [if_pos hb1]
    exact ds_seqR (ds_if (b := true) (DenT.is c1 hb1) (fun _ => ds_ret den_c) fun z => nomatch z)
  rw [if_neg hb1]
  refine ds_seq (ds_no (DenT.is c1 (by simpa using hb1))) ?_
  -- a deed that isn't served
  have c2 : DenT K _ [some nD, some (.str unit), some fD, some aD, some cD, none, none] b2 := DenT.is (ne_nil ((tN.filter (askTo unit)).filter (badAsk ways)) stepD stepP (dl_lc (g := gName 5) (te := tVar 5) (tt := tTest (tOp (Ru.rInT K true) (tTup (tCons (tOp (rIx K) (tVar 5) (tC (.int 2))) (tCons (tCB (rLenU K) (tCons (tOp (rIx K) (tVar 5) (tC (.int 3))) tNil)) tNil))) (tMeth A.C_Flow "deeds" (spF K (F_Flow_deeds A.C_Flow)) [] E0 (tVar 2) tNil))) (vs := [5]) (tN.filter (askTo unit)) stepD (badAsk ways) stepD (fun s => [some nD, some (.str unit), some fD, some aD, some cD, some (stepD s), none]) (di_1 (b := iTup K (tVar 3)) (di_list (den_var (i := 3) rfl))) (by omega) (fun s _ => dg_name) (fun s hs => dts_one ?_) (fun s _ _ => den_var rfl)).den
      (fun s hs => (ask_py (List.mem_filter.mp (List.mem_filter.mp hs).1).2 (L.near.ok s (List.mem_filter.mp (List.mem_filter.mp hs).1).1) L.near.names).1) fun s hs => (ask_py (List.mem_filter.mp (List.mem_filter.mp hs).1).2 (L.near.ok s (List.mem_filter.mp (List.mem_filter.mp hs).1).1) L.near.names).2) (filter_any _ _)
  rotate_left
  · obtain ⟨h1, h2⟩ := List.mem_filter.mp hs
    have hsok := L.near.ok s h1
    cases s with
    | ask u e f g h o =>
      refine DenT.is (dt_test (den_op (den_tup (da_cons (x := .str e) (den_op (den_var rfl) den_c (rd_ixUT (ati 2 rfl))) (da_cons (x := .int (f.length : Nat)) (Den.is (lenT (den_op (z := .tup (f.map formD)) (den_var rfl) den_c (rd_ixUT (ati 3 rfl)))) (by simp)) da_nil)) (by show 2 ≤ 100000; decide)) (hdeeds _ rfl) (rd_inT (.tup (.cons (.str _) (.cons (.int _) .nil))) (deeds_py ways) (Lay.shaped (k := 1) (.tup (k := 0) fun y hy => ?_)) shD))) ?_
      · simp only [List.mem_cons, List.not_mem_nil, or_false] at hy
        rcases hy with rfl | rfl
        · exact .str (strOk_of (name_place hsok.2.1))
        · exact .int _
      · rw [if_pos rfl, deeds_any]
        rfl
    | _ => cases h2
  by_cases hb2 : b2 = true
  · rw [if_pos hb2]
    exact ds_seqR (ds_if (b := true) (DenT.is c2 hb2) (fun _ => ds_ret den_c) fun z => nomatch z)
  rw [if_neg hb2]
  refine ds_seq (ds_no (DenT.is c2 (by simpa using hb2))) ?_
  -- too many places, or signs of one
  have c3 : DenT K _ [some nD, some (.str unit), some fD, some aD, some cD, none, none] b3 := dt_or (b := (calledL unit sF).any (fun s => decide (40 < s.length))) (c := decide (100 < sF.length + sN.length)) (DenT.is (ne_nil ((calledL unit sF).filter fun s => decide (40 < s.length)) (fun s => .str s) (fun s => .str s) (dl_lc (g := gName 6) (te := tVar 6) (tt := tTest (tOp (rI0 fun i j => .bl (decide (j < i))) (tCB (rLenU K) (tCons (tVar 6) tNil)) (tC (.int 40)))) (vs := [6]) (calledL unit sF) (fun s => .str s) (fun s => decide (40 < s.length)) (fun s => .str s) (fun s => [some nD, some (.str unit), some fD, some aD, some cD, none, some (.str s)]) (di_1 (b := iTup K (tVar 4)) (di_list (den_var (i := 4) rfl))) (by omega) (fun s _ => dg_name) (fun s hs => dts_one (DenT.is (dt_test (den_op (lenS (den_var rfl) (by have := hlen s hs; omega)) den_c rd_I0)) (decide_eq_decide.mpr (by omega)))) (fun s _ _ => den_var rfl)).den (fun s _ => .str _) fun s hs => hlay s (List.mem_filter.mp hs).1) (filter_any _ _)) fun _ =>
    DenT.is (dt_test (den_op (den_op (lenL (den_var (i := 4) rfl)) (lenT (den_meth (C := A.C_Flow) (m := "places") (E := E0) (F := F_Flow_places A.C_Flow) (xs := []) (den_var (i := 0) rfl) rfl da_nil ⟨sN, tN, p, rfl, rfl⟩)) (rd_I0 (g := fun i j => .int (i + j)))) (den_c (v := .int 100)) (rd_I0 (g := fun i j => .bl (decide (j < i)))))) (decide_eq_decide.mpr (by rw [List.length_map, List.length_map, hcl]; omega))
  by_cases hb3 : b3 = true
  · rw [if_pos hb3]
    exact ds_seqR (ds_if (b := true) (DenT.is c3 hb3) (fun _ => ds_ret den_c) fun z => nomatch z)
  rw [if_neg hb3]
  refine ds_seq (ds_no (DenT.is c3 (by simpa using hb3))) (ds_ret ?_)
  -- too many steps
  refine den_if (b := b4) (DenT.is (dt_test (den_op (den_op (den_lenI (n := (tN.length : Nat)) (den_var rfl) ⟨sN, tN, p, rfl, rfl⟩ (by omega)) (den_op (lenL (den_var rfl)) (den_lenI (n := ((Step.serve ways :: rest).length : Nat)) (den_var rfl) ⟨sF, _, q, rfl, rfl⟩ (by omega)) (rd_I (.inl (by rw [List.length_map]; omega)))) rd_I0) den_c rd_I0)) (decide_eq_decide.mpr (by rw [List.length_map]; push_cast; omega))) (fun z => Den.is den_c (by rw [if_pos z])) fun z => Den.is den_c (by rw [z]; rfl)
end
end K56
set_option Elab.async false
set_option linter.all false
set_option maxRecDepth 100000
set_option maxHeartbeats 4000000
set_option pp.maxSteps 400
set_option pp.deepTerms false
/-! Kp: what comes of an expression in which there are draws; long flows. -/
namespace K56
open PySem L2 Dn
open Evl (Ex fresh_back)
theorem sc__law_long_ones : FnScope ["draws", "asks", "size", "near"] ["draws"] (defScope s__law_long_ones) := ⟨rfl, rfl, rfl, by decide +kernel, rfl, by decide +kernel, by decide +kernel⟩
section
variable (K : PySem.W.Frag) (dr cl : Addr)
def DenN (te : TE) (ρ : DSt) (Pd : Dat → Prop) : Prop := ∀ σ G H (Q : VK), Ex G H → G dr = none → G cl = none → DrawsAt H dr cl → EnvD K G σ ρ → (∀ v d G' H', Pd d → DF dr cl G H G' H' → Rep K G' v d → Q v H') → te σ H Q
def DenNA (ta : TA) (ρ : DSt) (Pd : List Dat → Prop) : Prop := ∀ σ G H (Q : List V → Hp → Prop), Ex G H → G dr = none → G cl = none → DrawsAt H dr cl → EnvD K G σ ρ → (∀ vs ds G' H', Pd ds → DF dr cl G H G' H' → RepAll K G' vs ds → Q vs H') → ta σ H Q
def DenNT (tt : TT) (ρ : DSt) (Pb : Bool → Prop) : Prop := ∀ σ G H (Q : Bool → Hp → Prop), Ex G H → G dr = none → G cl = none → DrawsAt H dr cl → EnvD K G σ ρ → (∀ b G' H', Pb b → DF dr cl G H G' H' → Q b H') → tt σ H Q
end
section
variable {K : PySem.W.Frag} {dr cl : Addr} {ρ ρ' : DSt} {te ta tb : TE} {tt : TT} {d : Dat} {Pd Pa Pb Pz : Dat → Prop} {r : R2} {E : XK}
theorem dn_den (h : Den K te ρ d) : DenN K dr cl te ρ (fun z => z = d) := fun σ G H Q i gd gc hD e k => h σ G H Q i e fun v G1 H1 f r => k v d G1 H1 rfl (DF.fr f hD) r
theorem dn_imp (h : DenN K dr cl te ρ Pa) (hi : ∀ d, Pa d → Pb d) : DenN K dr cl te ρ Pb := fun σ G H Q i gd gc hD e k => h σ G H Q i gd gc hD e fun v d G1 H1 p f r => k v d G1 H1 (hi d p) f r
theorem dn_op (ha : DenN K dr cl ta ρ Pa) (hb : DenN K dr cl tb ρ Pb) (hr : ∀ x y, Pa x → Pb y → ∃ z, RD K r x y z ∧ Pz z) : DenN K dr cl (tOp r ta tb) ρ Pz := fun σ G H Q i gd gc hD e k =>
  ha σ G H _ i gd gc hD e fun v x G1 H1 px f1 r1 => hb σ G1 H1 _ f1.i (f1.gd gd hD) (f1.gc gc hD) f1.at_ (e.up f1.g) fun w y G2 H2 py f2 r2 => by
    obtain ⟨z, hz, pz⟩ := hr x y px py
    have f12 := f1.trans f2 gd gc hD
    exact hz G2 H2 Q v w f2.i (r1.up f2.g) r2 fun u G3 H3 f3 r3 => k u z G3 H3 pz (f12.trans (DF.fr f3 f2.at_) gd gc hD) r3
theorem dna_nil : DenNA K dr cl tNil ρ (fun ds => ds = []) := fun σ G H Q i gd gc hD e k => k [] [] G H rfl (DF.refl i hD) .nil
theorem dna_cons {t : TA} {Ps : List Dat → Prop} (ha : DenN K dr cl ta ρ Pa) (hb : DenNA K dr cl t ρ Ps) : DenNA K dr cl (tCons ta t) ρ (fun ds => ∃ x xs, ds = x :: xs ∧ Pa x ∧ Ps xs) := fun σ G H Q i gd gc hD e k =>
  ha σ G H _ i gd gc hD e fun v x G1 H1 px f1 r1 => hb σ G1 H1 _ f1.i (f1.gd gd hD) (f1.gc gc hD) f1.at_ (e.up f1.g) fun vs xs G2 H2 ps f2 r2 => k _ _ G2 H2 ⟨x, xs, rfl, px, ps⟩ (f1.trans f2 gd gc hD) (.cons (r1.up f2.g) r2)
theorem dn_tup {t : TA} {Ps : List Dat → Prop} (ha : DenNA K dr cl t ρ Ps) (hz : ∀ ds, Ps ds → ds.length ≤ 100000) : DenN K dr cl (tTup t) ρ (fun d => ∃ ds, d = .tup ds ∧ Ps ds) := fun σ G H Q i gd gc hD e k =>
  ha σ G H _ i gd gc hD e fun vs ds G1 H1 ps f1 r1 => ⟨Evl.sz_of (by rw [r1.len]; exact hz ds ps), fun p hp => by
    have f2 := Fr.new (o := .tup vs) f1.i hp
    exact k _ _ _ _ ⟨ds, rfl, ps⟩ (f1.trans (DF.fr f2 f1.at_) gd gc hD) (.tup (Evl.st_of upd_same) (r1.up f2.g))⟩
theorem dn_lst {t : TA} {Ps : List Dat → Prop} (ha : DenNA K dr cl t ρ Ps) (hz : ∀ ds, Ps ds → ds.length ≤ 100000) : DenN K dr cl (tLst t) ρ (fun d => ∃ ds, d = .lst ds ∧ Ps ds) := fun σ G H Q i gd gc hD e k =>
  ha σ G H _ i gd gc hD e fun vs ds G1 H1 ps f1 r1 => ⟨Evl.sz_of (by rw [r1.len]; exact hz ds ps), fun p hp => by
    have f2 := Fr.new (o := .lst vs) f1.i hp
    exact k _ _ _ _ ⟨ds, rfl, ps⟩ (f1.trans (DF.fr f2 f1.at_) gd gc hD) (.lst upd_same (r1.up f2.g))⟩
theorem dn_draw {t : TA} {m : Int} (ha : DenA K t ρ [.s (.ref dr), .int m]) (h1 : 1 ≤ m) (h2 : m ≤ 100000) : DenN K dr cl (tCall spDraw [] E t) ρ (fun d => ∃ v, 0 ≤ v ∧ v < m ∧ d = .int v) := fun σ G H Q i gd gc hD e k =>
  call_run (ha σ G H _ i e fun vs G1 H1 f1 r1 => by
    have z : vs = [.ref dr, .int m] := repAll_s (ws := [.ref dr, .int m]) r1
    subst z
    have g1 := (DF.fr f1 hD)
    exact ⟨dr, cl, m, rfl, g1.at_, h1, h2, fun v H2 hv0 hv1 d2 => k _ _ G1 H2 ⟨v, hv0, hv1, rfl⟩ (g1.trans (DF.draw f1.i (g1.gd gd hD) (g1.gc gc hD) d2) gd gc hD) (.s _)⟩)
theorem dn_pick {ti tl : TE} (hi : Den K ti ρ (.s (.ref dr))) (hl : DenN K dr cl tl ρ Pa) (hp : ∀ d, Pa d → ∃ ds, d = .lst ds ∧ 1 ≤ ds.length ∧ ds.length ≤ 100000 ∧ ∀ x ∈ ds, Pz x) : DenN K dr cl (tCall (spPick K) [] E (tCons ti (tCons tl tNil))) ρ Pz := fun σ G H Q i gd gc hD e k =>
  call_run (hi σ G H _ i e fun v G1 H1 f1 r1 => by
    obtain rfl := rep_s r1
    have d1 := DF.fr f1 hD
    refine hl σ G1 H1 _ f1.i (d1.gd gd hD) (d1.gc gc hD) d1.at_ (e.up f1.g) fun vl dl G2 H2 pl f2 r2 => ?_
    obtain ⟨ds, rfl, h1, h2, hx⟩ := hp dl pl
    have d12 := d1.trans f2 gd gc hD
    exact ⟨G2, dr, cl, vl, ds, rfl, f2.i, d12.gd gd hD, d12.gc gc hD, f2.at_, r2, h1, h2, fun u x H3 hm ru d3 => k u x G2 H3 (hx x hm) (d12.trans (DF.draw f2.i (d12.gd gd hD) (d12.gc gc hD) d3) gd gc hD) ru⟩)
theorem dnt_eq {m : Int} (ha : DenN K dr cl ta ρ (fun d => ∃ v : Int, Pa d ∧ d = .int v)) : DenNT K dr cl (tTest (tOp rEq ta (tC (.int m)))) ρ (fun _ => True) := fun σ G H Q i gd gc hD e k =>
  ha σ G H _ i gd gc hD e fun v d G1 H1 ⟨z, _, hd⟩ f1 r1 => by
    subst hd
    obtain rfl := rep_s r1
    exact ⟨rfl, _, rfl, k _ G1 H1 trivial f1⟩
theorem dn_if (ht : DenNT K dr cl tt ρ (fun _ => True)) (h1 : DenN K dr cl ta ρ Pz) (h2 : DenN K dr cl tb ρ Pz) : DenN K dr cl (tIf tt ta tb) ρ Pz := fun σ G H Q i gd gc hD e k =>
  ht σ G H _ i gd gc hD e fun b G1 H1 _ f1 => by
    cases b with
    | true => exact iteT (h1 σ G1 H1 Q f1.i (f1.gd gd hD) (f1.gc gc hD) f1.at_ (e.up f1.g) fun v d G2 H2 p f2 r => k v d G2 H2 p (f1.trans f2 gd gc hD) r)
    | false => exact iteF (h2 σ G1 H1 Q f1.i (f1.gd gd hD) (f1.gc gc hD) f1.at_ (e.up f1.g) fun v d G2 H2 p f2 r => k v d G2 H2 p (f1.trans f2 gd gc hD) r)
/-- x = e -/
theorem sn_set {i : Nat} {u : TS} {σ : L2.St} {G H : Hp} {D : Ends} (h : DenN K dr cl te ρ Pd) (i0 : Ex G H) (gd : G dr = none) (gc : G cl = none) (hD : DrawsAt H dr cl) (e : EnvD K G σ ρ)
    (k : ∀ d G' H' σ', Pd d → DF dr cl G H G' H' → EnvD K G' σ' (ρ.set i (some d)) → u D σ' H') : tSeq (tAsg te (gName i)) u D σ H :=
  seq_asg (h σ G H _ i0 gd gc hD e fun v d G1 H1 p f r => gname_run (k d G1 H1 _ p f ((e.up f.g).set r i)))
/-- list * int, as data -/
theorem dl_rep {ds : List Dat} {n : Nat} (ha : DenL K ta ρ ds) (hb : Den K tb ρ (.int (n : Nat))) (hz : ds.length * n ≤ 100000) (hn : n ≤ 100000) : DenL K (tOp rRep ta tb) ρ (List.replicate n ds).flatten := fun σ G H Q i e k =>
  ha.den σ G H _ i e fun v G1 H1 f1 r1 => hb σ G1 H1 _ f1.i (e.up f1.g) fun w G2 H2 f2 r2 => by
    obtain rfl := rep_s r2
    cases r1 with
    | @lst l xs _ hl ra =>
      have rr : ∀ n, RepAll K G2 (List.replicate n xs).flatten (List.replicate n ds).flatten := by
        intro n
        induction n with
        | zero => exact .nil
        | succ n ih =>
          rw [List.replicate_succ, List.replicate_succ, List.flatten_cons, List.flatten_cons]
          exact (ra.up f2.g).app ih
      refine ⟨l, (n : Nat), xs, rfl, rfl, f2.i _ _ (f2.g _ _ hl), by omega, by omega, Evl.sz_of (by rw [ra.len]; exact hz), fun p hp => ?_⟩
      have f := f1.trans f2
      exact k p _ G2 _ ⟨f.g, f.h.trans (Ex.new hp), f.i.trans (Ex.new hp), f.n⟩ (fresh_back f2.i hp) (fresh_back f.h hp) upd_same (rr n)
end
theorem x_ok : SitesOk ["x"] := ⟨by decide, fun s hs => by
  simp at hs
  subst hs
  exact ⟨by decide +kernel, ⟨120, by decide +kernel, by decide +kernel⟩, by decide +kernel⟩, by simp⟩
theorem lib_ok : nameOk "lib" := ⟨by decide +kernel, by decide +kernel, by decide +kernel⟩
def libAsks (n : Nat) : List Ask := List.replicate n ("lib", "get", 1)
theorem libAsks_ok {n : Nat} (h : n ≤ 10) : AsksOk (libAsks n) := ⟨by simp [libAsks]; exact h, fun q hq => by
  rw [List.eq_of_mem_replicate hq]
  exact ⟨lib_ok, get_ok, by decide⟩⟩
def spLong (K : PySem.W.Frag) (A : Ad) : Sp := fun vs H Q _ => ∃ (G : Hp) (dr cl : Addr), vs = [.ref dr] ∧ Ex G H ∧ G dr = none ∧ G cl = none ∧ DrawsAt H dr cl ∧
  ∀ n acc longer v G' H', DF dr cl G H G' H' → n ≤ 4 → acc.length = (libAsks n).length → AskAcc (libAsks n) ["x"] 97 acc → longer ≤ 9990 → Rep K G' v (.tup [flowD A.C_Flow ["x"] (askerSteps acc) 97, flowD A.C_Flow ["x"] (serverSteps [("get", 1)] longer 97) 97]) → Q v H'
section
variable {P : Program} {w : World} {K : PySem.W.Frag} {mg : Str → Option Value} {base : Heap} {A : Ad}
theorem ok__law_long_ones (T : Tx K w mg A) : FnOk P w K mg base CX0 12 A.f__law_long_ones A.d__law_long_ones ["draws"] (spLong K A) := by
  refine T.F__law_long_ones.ok sc__law_long_ones (fun vs H Q E h => ?_) (fun cdv Ar outer s H vs Q E hr h => ?_)
  · obtain ⟨_, _, _, rfl, _⟩ := h
    rfl
  obtain ⟨G, dr, cl, rfl, i0, gd, gc, hD, k⟩ := h
  refine ⟨_, (pss_cons (ps_par (i := 1) (j := 2) (by rfl) sc__law_long_ones.nd rfl rfl (by decide) rfl rfl (pa_cons (pe_op op_add pe_int (pe_call (ok__law_draw T) (hr.mono (by decide)) rfl T.g__law_draw T.F__law_draw.kp T.b__law_draw .nil pass0 (pa_cons (pv 0) (pa_cons pe_int pa_nil)))) (pa_cons pe_int pa_nil)) (by rfl))
  (pss_cons (ps_set (i := 3) sc__law_long_ones.nd rfl (Or.inl rfl) (pe_call (ok__law_asker T) (hr.mono (by decide)) rfl T.g__law_asker T.F__law_asker.kp T.b__law_asker .nil pass0 (pa_cons (pv 0) (pa_cons pe_int (pa_cons (pe_lst (pa_cons pe_str pa_nil)) (pa_cons (pe_op op_rep (pe_lst (pa_cons (pe_tup (pa_cons pe_str (pa_cons pe_str (pa_cons pe_int pa_nil)))) pa_nil)) (pv 1)) pa_nil))))))
  (pss_cons (ps_set (i := 2) sc__law_long_ones.nd rfl (Or.inl rfl) (pe_op op_add (pe_op op_fdiv (pe_op op_sub pe_int (pe_callB (Ru.call_lenI (CX := CX0) T.c_Flow T.m_Flow___len__.at_ T.m_Flow___len__.fn (ok_Flow___len__ T) (hr.mono (by decide)) T.b_Flow___len__) (by rfl) T.n_len (by decide +kernel) (pa_cons (pv 3) pa_nil))) (pv 1)) (pe_ix (r := rIx K) ix_seq (pe_lst (pa_cons pe_int (pa_cons pe_int (pa_cons pe_int pa_nil)))) (pe_call (ok__law_draw T) (hr.mono (by decide)) rfl T.g__law_draw T.F__law_draw.kp T.b__law_draw .nil pass0 (pa_cons (pv 0) (pa_cons pe_int pa_nil))) (fun _ _ => rfl))))
  (pss_one (ps_ret (pe_tup (pa_cons (pv 3) (pa_cons (pe_call (ok__law_server T) (hr.mono (by decide)) rfl T.g__law_server T.F__law_server.kp T.b__law_server .nil pass0 (pa_cons pe_int (pa_cons (pe_lst (pa_cons pe_str pa_nil)) (pa_cons (pe_lst (pa_cons (pe_tup (pa_cons pe_str (pa_cons pe_int pa_nil))) pa_nil)) (pa_cons (pe_op op_sub (pv 2) pe_int) pa_nil))))) pa_nil)))))))), ?_⟩
  have e0 : EnvD K G (L2.start ["draws", "asks", "size", "near"] [.ref dr]) [some (.s (.ref dr)), none, none, none] := envD_start ["draws", "asks", "size", "near"] (RepAll.vals [.ref dr])
  -- asks, size = (2 + _law_draw(draws, 3), 2000)
  refine seq_any ⟨.ref dr, rfl, dr, cl, 3, rfl, hD, by decide, by decide, fun v H1 hv0 hv1 d1 => ⟨2, v, rfl, rfl, _, _, rfl, ?_⟩⟩
  have f1 : DF dr cl G H G H1 := DF.draw i0 gd gc d1
  let n := (2 + v).toNat
  have hn : 2 + v = (n : Int) := by
    show _ = ((2 + v).toNat : Int)
    omega
  have hn4 : n ≤ 4 := by omega
  have hn2 : 2 ≤ n := by omega
  have e1 : EnvD K G (((L2.start ["draws", "asks", "size", "near"] [.ref dr]).set 1 (some (.int (2 + v)))).set 2 (some (.int 2000))) [some (.s (.ref dr)), some (.int (n : Nat)), some (.int 2000), none] := by
    rw [hn]
    exact (e0.set (.s _) 1).set (.s _) 2
  dsimp only
  -- near = _law_asker(draws, 97, ['x'], [('lib', 'get', 1)] * asks)
  refine seq_asg (call_run ?_)
  refine da_cons (den_var rfl) (da_cons den_c (da_cons (x := .lst (([("x" : Str)]).map fun s => .str s)) (den_lst (da_cons den_c da_nil) (by show 1 ≤ 100000; decide)) (da_cons (x := .lst ((libAsks n).map askD)) (Den.is (dl_rep (n := n) (dl_lst (da_cons (x := askD ("lib", "get", 1)) (den_tup (da_cons den_c (da_cons den_c (da_cons den_c da_nil))) (by show 3 ≤ 100000; decide)) da_nil) (by show 1 ≤ 100000; decide)) (den_var rfl) (by show 1 * n ≤ 100000; omega) (by omega)).den (by unfold libAsks; congr 1; simp)) da_nil))) _ G H1 _ f1.i e1 fun us G2 H2 f2 r2 => ?_
  have d2 := f1.trans (DF.fr f2 d1.at_) gd gc hD
  refine ⟨G2, dr, cl, 97, ["x"], libAsks n, f2.i, d2.gd gd hD, d2.gc gc hD, d2.at_, r2, by decide, x_ok, libAsks_ok (by omega), fun acc nv G3 H3 d3 hacc hA r3 => ?_⟩
  have d03 := d2.trans d3 gd gc hD
  refine gname_run ?_
  let nD := flowD A.C_Flow ["x"] (askerSteps acc) 97
  have e3 := ((e1.up f2.g).up d3.g).set r3 3
  have hlen : (askerSteps acc).length = n + 2 := by
    simp [askerSteps, hacc, libAsks]
  -- size = (10000 - len(near)) // asks + [0, 0, 1][_law_draw(draws, 3)]
  refine sn_set (Pd := fun d => ∃ longer : Nat, longer ≤ 9990 ∧ d = .int ((longer : Int) + 2)) (dn_op (Pa := fun d => d = .int ((10000 - ((n : Int) + 2)) / (n : Int))) (Pb := fun d => d = .int 0 ∨ d = .int 1) (dn_den (den_op (den_op den_c (den_lenI (n := (n : Int) + 2) (den_var rfl) ⟨_, _, _, rfl, by rw [hlen]; rfl⟩ (by omega)) rd_I0) (den_var rfl) (rd_I ⟨by show (0 : Int) < (n : Nat); omega, by show ((n : Nat) : Int) < 1073741824; omega⟩)))
    (dn_op (Pa := fun d => d = .lst [.int 0, .int 0, .int 1]) (dn_den (den_lst (da_cons den_c (da_cons den_c (da_cons den_c da_nil))) (by show 3 ≤ 100000; decide))) (dn_draw (m := 3) (da_cons (den_var rfl) (da_cons den_c da_nil)) (by decide) (by decide)) (fun x y hx hy => ?_)) (fun x y hx hy => ?_)) d3.i (d03.gd gd hD) (d03.gc gc hD) d3.at_ e3 fun d G4 H4 σ4 hd d4 e4 => ?_
  · obtain ⟨z, hz0, hz1, rfl⟩ := hy
    subst hx
    have hz : z = 0 ∨ z = 1 ∨ z = 2 := by omega
    rcases hz with rfl | rfl | rfl
    · exact ⟨.int 0, rd_ixUL (ati 0 rfl), .inl rfl⟩
    · exact ⟨.int 0, rd_ixUL (ati 1 rfl), .inl rfl⟩
    · exact ⟨.int 1, rd_ixUL (ati 2 rfl), .inr rfl⟩
  · subst hx
    have hq1 : (10000 - ((n : Int) + 2)) / (n : Int) ≤ 9900 := by
      have : n = 2 ∨ n = 3 ∨ n = 4 := by omega
      rcases this with h | h | h <;> rw [h] <;> decide
    have hq2 : 100 ≤ (10000 - ((n : Int) + 2)) / (n : Int) := by
      have : n = 2 ∨ n = 3 ∨ n = 4 := by omega
      rcases this with h | h | h <;> rw [h] <;> decide
    rcases hy with rfl | rfl
    · exact ⟨_, rd_I0, ((10000 - ((n : Int) + 2)) / (n : Int) - 2).toNat, by omega, congrArg Dat.int (by omega)⟩
    · exact ⟨_, rd_I0, ((10000 - ((n : Int) + 2)) / (n : Int) - 1).toNat, by omega, congrArg Dat.int (by omega)⟩
  obtain ⟨longer, hl, rfl⟩ := hd
  have d04 := d03.trans d4 gd gc hD
  refine ds_ret (d := .tup [nD, flowD A.C_Flow ["x"] (serverSteps [("get", 1)] longer 97) 97]) (den_tup (da_cons (den_var rfl) (da_cons (den_call (xs := [.int 97, .lst (([("x" : Str)]).map fun s => .str s), .lst (([(("get" : Str), (1 : Nat))]).map deedD), .int (longer : Nat)]) (da_cons den_c (da_cons (den_lst (da_cons den_c da_nil) (by show 1 ≤ 100000; decide)) (da_cons (den_lst (da_cons (den_tup (da_cons den_c (da_cons den_c da_nil)) (by show 2 ≤ 100000; decide)) da_nil) (by show 1 ≤ 100000; decide)) (da_cons (Den.is (den_op (den_var rfl) den_c rd_I0) (congrArg Dat.int (by omega))) da_nil))))
    ⟨97, ["x"], [("get", 1)], longer, rfl, by decide, x_ok, ⟨1, 0, by decide, by decide, .inl rfl⟩, hl, rfl⟩) da_nil)) (by show 2 ≤ 100000; decide)) σ4 G4 H4 _ d4.i e4 fun v G5 H5 f5 r5 => k n acc longer v G5 H5 (d04.trans (DF.fr f5 d4.at_) gd gc hD) hn4 hacc hA hl r5
end
end K56
set_option Elab.async false
set_option linter.all false
set_option maxRecDepth 100000
set_option maxHeartbeats 4000000
set_option pp.maxSteps 400
set_option pp.deepTerms false
/-! Kq: what the law's own turns need: lists and places with draws in them. -/
namespace K56
open PySem L2 Dn
open Evl (Ex fresh_back)
section
variable {dr cl : Addr} {G H G' H' : Hp}
theorem DF.bare (f : DF dr cl G H G' H') (hD : DrawsAt H dr cl) {p : Addr} (h : H' p = none) : H p = none := by
  cases q : H p with
  | none => rfl
  | some o =>
    by_cases x1 : p = dr
    · subst x1
      exact absurd h f.at_.some1
    · by_cases x2 : p = cl
      · subst x2
        exact absurd h f.at_.some2
      · rw [f.keep p o x1 x2 q] at h
        cases h
theorem DF.ne1 (hD : DrawsAt H dr cl) {p : Addr} (h : H p = none) : p ≠ dr := fun z => by
  rw [z] at h
  exact hD.some1 h
theorem DF.ne2 (hD : DrawsAt H dr cl) {p : Addr} (h : H p = none) : p ≠ cl := fun z => by
  rw [z] at h
  exact hD.some2 h
/-- an object outside of G is written -/
theorem DF.mut (f : DF dr cl G H G' H') (hD : DrawsAt H dr cl) {p : Addr} {o : HO} (h : H p = none) (g : G' p = none) : DF dr cl G H G' (upd H' p o) := by
  have h1 := DF.ne1 hD h
  have h2 := DF.ne2 hD h
  refine ⟨f.g, fun a u h3 h4 h5 => ?_, Evl.Ex.mut f.i g, f.n, ?_⟩
  · rw [upd_ne (ne_of_none h5 h)]
    exact f.keep a u h3 h4 h5
  · obtain ⟨cs, a, b, h3, h4, h5⟩ := f.at_
    exact ⟨cs, a, b, by rw [upd_ne h1.symm]; exact h3, by rw [upd_ne h2.symm]; exact h4, h5⟩
/-- G takes it in -/
theorem DF.take (f : DF dr cl G H G' H') {p : Addr} {o : HO} (h : H p = none) (e : H' p = some o) (g0 : G' p = none) : DF dr cl G H (upd G' p o) H' := by
  refine ⟨f.g.trans (Ex.new g0), f.keep, fun a u e1 => ?_, fun a e1 n => ?_, f.at_⟩
  · by_cases q : a = p
    · subst q
      rw [upd_same] at e1
      rw [← e1]
      exact e
    · rw [upd_ne q] at e1
      exact f.i a u e1
  · by_cases q : a = p
    · rw [q]
      exact h
    · rw [upd_ne q] at n
      exact f.n a e1 n
end
section
variable (K : PySem.W.Frag) (dr cl : Addr)
def DenNL (te : TE) (ρ : DSt) (Pd : List Dat → Prop) : Prop := ∀ σ G H (Q : VK), Ex G H → G dr = none → G cl = none → DrawsAt H dr cl → EnvD K G σ ρ → (∀ p vs ds G' H', Pd ds → DF dr cl G H G' H' → G' p = none → H p = none → H' p = some (.lst vs) → RepAll K G' vs ds → Q (.ref p) H') → te σ H Q
end
section
variable {K : PySem.W.Frag} {dr cl : Addr} {ρ ρ' : DSt} {te ta tb : TE} {tt tu : TT} {d : Dat} {Pd Pa Pb Pz : Dat → Prop} {r : R2} {E : XK} {t : TA} {b : Bool} {Pl : List Dat → Prop} {ds : List Dat}
theorem DenNL.den (h : DenNL K dr cl te ρ Pl) : DenN K dr cl te ρ (fun d => ∃ ds, d = .lst ds ∧ Pl ds) := fun σ G H Q i gd gc hD e k =>
  h σ G H Q i gd gc hD e fun p vs ds G1 H1 ps f g0 h0 e1 r => k _ _ _ H1 ⟨ds, rfl, ps⟩ (f.take h0 e1 g0) (.lst upd_same (r.up (Ex.new g0)))
theorem dna_den {xs : List Dat} (h : DenA K t ρ xs) : DenNA K dr cl t ρ (fun z => z = xs) := fun σ G H Q i gd gc hD e k => h σ G H Q i e fun v G1 H1 f r => k v xs G1 H1 rfl (DF.fr f hD) r
theorem dna_imp {Pm Pn : List Dat → Prop} (h : DenNA K dr cl t ρ Pm) (hi : ∀ d, Pm d → Pn d) : DenNA K dr cl t ρ Pn := fun σ G H Q i gd gc hD e k => h σ G H Q i gd gc hD e fun v d G1 H1 p f r => k v d G1 H1 (hi d p) f r
/-- [e for k in range(n)], draws in n and in e -/
theorem dnl_lc {i : Nat} {Pe : Dat → Prop} (B : Nat) (hB : B ≤ 1000) (ha : DenNA K dr cl t ρ (fun ds => ∃ m : Nat, m ≤ B ∧ ds = [.int (m : Nat)])) (he : ∀ k : Nat, DenN K dr cl te ((wipeD ρ [i]).set i (some (.int (0 + (k : Int))))) Pe) :
    DenNL K dr cl (tLc (iRng1 t) (gName i) tYes te [i]) ρ (fun ds => ds.length ≤ B ∧ ∀ d ∈ ds, Pe d) := fun σ G H Q i0 gd gc hD e k =>
  ha σ G H _ i0 gd gc hD e fun vs ds G1 H1 ⟨m, hm, hds⟩ f1 r1 => by
    subst hds
    have z : vs = [.int (m : Nat)] := repAll_s (ws := [.int (m : Nat)]) r1
    subst z
    refine ⟨(m : Nat), rfl, by omega, by omega, fun D hDn => ?_⟩
    have hD0 := f1.bare hD hDn
    have g1 : G1 D = none := fresh_back f1.i hDn
    rw [Int.toNat_natCast]
    refine lc_range (fun j H' => ∃ G' ws ds, DF dr cl G H G' H' ∧ Ex G1 G' ∧ G' D = none ∧ H' D = some (.lst ws) ∧ RepAll K G' ws ds ∧ ds.length = j ∧ ∀ d ∈ ds, Pe d) ⟨G1, [], [], f1.mut hD hD0 g1, Ex.refl _, g1, upd_same, .nil, rfl, fun d h => nomatch h⟩ (fun j H' hj p => ?_) fun H' p => ?_
    · obtain ⟨G2, ws, ds, f2, e12, g2, h2, r2, hl, hp⟩ := p
      refine gname_run ⟨?_, yes_run (iteT ?_)⟩
      · show ((σ.set i none).set i _).set i none = σ.set i none
        rw [List.set_set, List.set_set]
      · have e2 : EnvD K G2 ((wipe σ [i]).set i (some (.int (0 + (j : Int))))) ((wipeD ρ [i]).set i (some (.int (0 + (j : Int))))) := ((e.up f2.g).wipe [i]).set (.s _) i
        refine he j _ G2 H' _ f2.i (f2.gd gd hD) (f2.gc gc hD) f2.at_ e2 fun y d G3 H3 pd f3 r3 => ?_
        have h3 : H3 D = some (.lst ws) := f3.keep D _ (DF.ne1 hD hD0) (DF.ne2 hD hD0) h2
        have g3 : G3 D = none := f3.out g2 (by rw [h2]; intro z; cases z)
        have hw := r2.len
        refine ⟨ws, h3, Evl.sz_lt (by omega), G3, ws ++ [y], ds ++ [d], (f2.trans f3 gd gc hD).mut hD hD0 g3, e12.trans f3.g, g3, upd_same, (r2.up f3.g).app (.cons r3 .nil), by rw [List.length_append, hl]; rfl, fun x hx => ?_⟩
        rcases List.mem_append.mp hx with hx | hx
        · exact hp x hx
        · rw [List.mem_singleton.mp hx]
          exact pd
    · obtain ⟨G2, ws, ds, f2, e12, g2, h2, r2, hl, hp⟩ := p
      exact k D ws ds G2 H' ⟨by omega, hp⟩ f2 g2 hD0 h2 r2
theorem dn_call {F : List Dat → Dat → Prop} (ha : DenNA K dr cl t ρ Pl) (hf : ∀ ds, Pl ds → ∃ d, F ds d ∧ Pd d) : DenN K dr cl (tCall (spF K F) [] E t) ρ Pd := fun σ G H Q i gd gc hD e k =>
  call_run (ha σ G H _ i gd gc hD e fun vs ds G1 H1 ps f1 r1 => by
    obtain ⟨d, hF, pd⟩ := hf ds ps
    exact ⟨G1, ds, d, f1.i, r1, hF, fun v G2 H2 f2 r2 => k v d G2 H2 pd (f1.trans (DF.fr f2 f1.at_) gd gc hD) r2⟩)
theorem dn_slL {th : TE} (ha : Den K te ρ (.lst ds)) (hb : DenN K dr cl th ρ Pz) (hz : ∀ d, Pz d → ∃ i : Int, d = .int i ∧ Pl (cutD ds none (some i))) : DenN K dr cl (tSl (rSlL K) te tNoPart (tPart th)) ρ (fun d => ∃ es, d = .lst es ∧ Pl es) := fun σ G H Q i gd gc hD e k =>
  ha σ G H _ i e fun v G1 H1 f1 r1 => by
    have d1 := DF.fr f1 hD
    refine hb σ G1 H1 _ f1.i (d1.gd gd hD) (d1.gc gc hD) d1.at_ (e.up f1.g) fun u d G2 H2 pd f2 r2 => ?_
    obtain ⟨j, rfl, pl⟩ := hz d pd
    obtain rfl := rep_s r2
    refine ⟨j, rfl, ?_⟩
    have d2 := d1.trans f2 gd gc hD
    cases r1 with
    | lst a ra =>
      refine ⟨_, _, rfl, Evl.sq_of (f2.i _ _ (f2.g _ _ a)), fun p hp => ?_⟩
      exact k _ _ _ _ ⟨_, rfl, pl⟩ (d2.trans (DF.fr (Fr.new f2.i hp) f2.at_) gd gc hD) (.lst upd_same (((ra.up f2.g).cut none (some j)).up (Fr.new f2.i hp).g))
theorem dn_slS {c : Int} (ha : DenN K dr cl te ρ Pa) (hz : ∀ d, Pa d → ∃ w : Str, d = .str w ∧ w.length ≤ 100000 ∧ Pz (.str (cutS w none (some c)))) : DenN K dr cl (tSl rSlS te tNoPart (tPart (tC (.int c)))) ρ Pz := fun σ G H Q i gd gc hD e k =>
  ha σ G H _ i gd gc hD e fun v d G1 H1 pd f1 r1 => by
    obtain ⟨w, rfl, h1, h2⟩ := hz d pd
    obtain rfl := rep_s r1
    exact ⟨c, rfl, w, rfl, Evl.sz_of h1, k _ _ G1 H1 h2 f1 (.s _)⟩
theorem rd_catL {xs ys : List Dat} (h : xs.length + ys.length ≤ 100000) : RD K rCat (.lst xs) (.lst ys) (.lst (xs ++ ys)) := fun G H Q vx vy i rx ry k => by
  cases rx with
  | @lst l1 ws _ a ra =>
    cases ry with
    | @lst l2 us _ b rb =>
      refine ⟨_, _, _, _, rfl, rfl, i _ _ a, i _ _ b, Evl.sz_of (by rw [ra.len, rb.len]; exact h), fun p hp => ?_⟩
      have f := Fr.new (o := .lst (ws ++ us)) i hp
      exact k _ _ _ f (.lst upd_same ((ra.app rb).up f.g))
theorem dnt_and (ht : DenNT K dr cl tt ρ (fun _ => True)) (hu : DenT K tu ρ b) : DenNT K dr cl (tAnd tt tu) ρ (fun x => x = true → b = true) := fun σ G H Q i gd gc hD e k =>
  ht σ G H _ i gd gc hD e fun c G1 H1 _ f1 => by
    cases c with
    | true => exact iteT (hu σ G1 H1 _ f1.i (e.up f1.g) fun G2 H2 f2 => k b G2 H2 (fun z => z) (f1.trans (DF.fr f2 f1.at_) gd gc hD))
    | false => exact iteF (k false G1 H1 (fun z => nomatch z) f1)
theorem run_if {Pt : Bool → Prop} {t u : TS} {σ : L2.St} {G H : Hp} {D : Ends} (ht : DenNT K dr cl tt ρ Pt) (i : Ex G H) (gd : G dr = none) (gc : G cl = none) (hD : DrawsAt H dr cl) (e : EnvD K G σ ρ)
    (k1 : ∀ G' H', Pt true → DF dr cl G H G' H' → EnvD K G' σ ρ → t D σ H') (k2 : ∀ G' H', Pt false → DF dr cl G H G' H' → EnvD K G' σ ρ → u D σ H') : tIfS tt t u D σ H :=
  ht σ G H _ i gd gc hD e fun c G1 H1 p f1 => by
    cases c with
    | true => exact iteT (k1 G1 H1 p f1 (e.up f1.g))
    | false => exact iteF (k2 G1 H1 p f1 (e.up f1.g))
/-- f(draws, many, sign) -/
theorem dn_places {ti tm ts : TE} {sign : Str} {Pm : Nat → Prop} (hi : Den K ti ρ (.s (.ref dr))) (hm : DenN K dr cl tm ρ (fun d => ∃ m : Nat, m ≤ 60 ∧ Pm m ∧ d = .int (m : Nat))) (hs : Den K ts ρ (.str sign)) (h1 : sign.length = 1) :
    DenN K dr cl (tCall (spPlaces K) [] E (tCons ti (tCons tm (tCons ts tNil)))) ρ (fun d => ∃ size m : Nat, 4 ≤ size ∧ size ≤ 40 ∧ m ≤ 60 ∧ Pm m ∧ d = .lst ((placesL sign size m).map fun s => .str s)) := fun σ G H Q i gd gc hD e k =>
  call_run (hi σ G H _ i e fun v G1 H1 f1 r1 => by
    obtain rfl := rep_s r1
    have d1 := DF.fr f1 hD
    refine hm σ G1 H1 _ f1.i (d1.gd gd hD) (d1.gc gc hD) d1.at_ (e.up f1.g) fun vm dm G2 H2 pm f2 r2 => ?_
    obtain ⟨m, hm60, hPm, rfl⟩ := pm
    obtain rfl := rep_s r2
    have d2 := d1.trans f2 gd gc hD
    refine hs σ G2 H2 _ f2.i (e.up d2.g) fun vs G3 H3 f3 r3 => ?_
    obtain rfl := rep_s r3
    have d3 := d2.trans (DF.fr f3 d2.at_) gd gc hD
    exact ⟨G3, dr, cl, m, sign, rfl, f3.i, d3.gd gd hD, d3.gc gc hD, d3.at_, h1, hm60, fun size u G4 H4 h4 h40 d4 r4 => k u _ G4 H4 ⟨size, m, h4, h40, hm60, hPm, rfl⟩ (d3.trans d4 gd gc hD) r4⟩)
end
/-! ### the plain facts -/
theorem placeN_cps {sign : Str} {size k : Nat} : (placeN sign size k).cps.toList = (sign.cps.toList ++ List.replicate (size - 4) 122) ++ (numS k).cps.toList := by
  unfold placeN
  rw [app_cps, app_cps, zsS_cps]
def signs : List Str := ["x", "y"]
theorem sign_of {sign : Str} (h : sign ∈ signs) : ∃ c, sign.cps.toList = [c] ∧ letterC c = true ∧ sign.length = 1 := by
  simp only [signs, List.mem_cons, List.not_mem_nil, or_false] at h
  rcases h with rfl | rfl
  · exact ⟨120, by decide +kernel, by decide +kernel, by decide +kernel⟩
  · exact ⟨121, by decide +kernel, by decide +kernel, by decide +kernel⟩
theorem letter_place {c : Nat} (h : letterC c = true) : placeC c = true := by
  unfold placeC
  unfold letterC at h
  rw [h]
  rfl
theorem placeN_ok {sign : Str} {size k : Nat} (hs : sign ∈ signs) (h4 : 4 ≤ size) (h40 : size ≤ 40) (hk : k ≤ 63) : placeOk (placeN sign size k) := by
  obtain ⟨c, hc, hl, h1⟩ := sign_of hs
  obtain ⟨n1, n2⟩ := numS_ok k hk
  refine ⟨?_, ⟨c, ?_, hl⟩, ?_⟩
  · unfold placeN
    rw [app_len, app_len, zsS_len, n1, h1]
    omega
  · rw [placeN_cps, hc]
    rfl
  · rw [placeN_cps, hc, List.all_append, List.all_append, n2]
    rw [Bool.and_true, Bool.and_eq_true]
    refine ⟨by simp [letter_place hl], ?_⟩
    refine List.all_eq_true.mpr fun x hx => ?_
    rw [List.eq_of_mem_replicate hx]
    decide +kernel
theorem numS_nd : ((List.range 64).map fun k => (numS k).cps.toList).Nodup := by decide +kernel
theorem numS_lt {j k : Nat} (hk : k ≤ 63) (hj : j < k) : (numS j).cps.toList ≠ (numS k).cps.toList := by
  have := List.pairwise_iff_getElem.mp numS_nd j k (by simp; omega) (by simp; omega) hj
  simpa using this
theorem numS_inj {j k : Nat} (hj : j ≤ 63) (hk : k ≤ 63) (h : (numS j).cps.toList = (numS k).cps.toList) : j = k := by
  rcases Nat.lt_trichotomy j k with h1 | h1 | h1
  · exact absurd h (numS_lt hk h1)
  · exact h1
  · exact absurd h.symm (numS_lt hj h1)
theorem places_ok {sign : Str} {size m : Nat} (hs : sign ∈ signs) (h4 : 4 ≤ size) (h40 : size ≤ 40) (hm : m ≤ 60) : SitesOk (placesL sign size m) := by
  refine ⟨by simp [placesL]; omega, fun s h => ?_, ?_⟩
  · obtain ⟨k, hk, rfl⟩ := List.mem_map.mp h
    have := List.mem_range.mp hk
    exact placeN_ok hs h4 h40 (by omega)
  · unfold placesL
    rw [List.nodup_iff_pairwise_ne, List.pairwise_map]
    refine List.Pairwise.imp_of_mem (fun {a b} ha hb hab => ?_) (List.nodup_iff_pairwise_ne.mp List.nodup_range)
    have h1 := List.mem_range.mp ha
    have h2 := List.mem_range.mp hb
    intro z
    have := congrArg (fun s : Str => s.cps.toList) z
    simp only [placeN_cps] at this
    exact hab (numS_inj (by omega) (by omega) (List.append_cancel_left this))
def labels : List Str := ["lib", "m", "longname"]
theorem label_of {label : Str} (h : label ∈ labels) : nameOk label ∧ ∃ c rest, label.cps.toList = c :: rest ∧ letterC c = true ∧ c ≠ 120 := by
  simp only [labels, List.mem_cons, List.not_mem_nil, or_false] at h
  rcases h with rfl | rfl | rfl
  · exact ⟨⟨by decide +kernel, by decide +kernel, by decide +kernel⟩, 108, [105, 98], by decide +kernel, by decide +kernel, by decide⟩
  · exact ⟨⟨by decide +kernel, by decide +kernel, by decide +kernel⟩, 109, [], by decide +kernel, by decide +kernel, by decide⟩
  · exact ⟨⟨by decide +kernel, by decide +kernel, by decide +kernel⟩, 108, [111, 110, 103, 110, 97, 109, 101], by decide +kernel, by decide +kernel, by decide⟩
/-- sites[1:] + [cut], cut the head of a name called -/
theorem sites_cut {size m : Nat} {label p cut : Str} (h4 : 4 ≤ size) (h40 : size ≤ 40) (hm : m ≤ 60) (hl : label ∈ labels) (hp : placeOk p) (hc : cut.cps.toList = ((label ++ ".") ++ p).cps.toList.take 40) : SitesOk ((placesL "x" size m).drop 1 ++ [cut]) := by
  have h0 := places_ok (sign := "x") (by decide) h4 h40 hm
  obtain ⟨hn, c, rest, hcr, hlc, hc120⟩ := label_of hl
  have hcps : ((label ++ ".") ++ p).cps.toList = c :: (rest ++ [46] ++ p.cps.toList) := by
    rw [app_cps, app_cps, hcr]
    have : (Str.cps ".").toList = [46] := by decide +kernel
    rw [this]
    simp
  refine ⟨?_, fun s hs => ?_, ?_⟩
  · rw [List.length_append, List.length_drop]
    have : (placesL "x" size m).length = m := by simp [placesL]
    simp
    omega
  · rcases List.mem_append.mp hs with h | h
    · exact h0.names s (List.mem_of_mem_drop h)
    · rw [List.mem_singleton.mp h]
      refine ⟨?_, ⟨c, ?_, hlc⟩, ?_⟩
      · rw [← str_len, hc, List.length_take]
        omega
      · rw [hc, hcps]
        rfl
      · refine List.all_eq_true.mpr fun x hx => ?_
        rw [hc] at hx
        have hx := List.mem_of_mem_take hx
        rw [app_cps, app_cps] at hx
        rcases List.mem_append.mp hx with hx | hx
        · rcases List.mem_append.mp hx with hx | hx
          · exact List.all_eq_true.mp (name_place hn) x hx
          · have : (Str.cps ".").toList = [46] := by decide +kernel
            rw [this] at hx
            rw [List.mem_singleton.mp hx]
            decide +kernel
        · exact List.all_eq_true.mp hp.2.2 x hx
  · rw [List.nodup_append]
    refine ⟨h0.nd.sublist (List.drop_sublist _ _), by simp, fun a ha b hb q => ?_⟩
    rw [List.mem_singleton.mp hb] at q
    obtain ⟨k, hk, rfl⟩ := List.mem_map.mp (List.mem_of_mem_drop ha)
    have q := congrArg (fun s : Str => s.cps.toList) q
    simp only [placeN_cps, hc, hcps] at q
    have hx : (Str.cps "x").toList = [120] := by decide +kernel
    rw [hx] at q
    simp at q
    exact hc120 q.1.symm
theorem server_plain {deeds : List (Str × Nat)} {longer : Nat} {p : Int} : ∀ s ∈ (serverSteps deeds longer p).drop 1, plainS s = true := fun s hs => by
  unfold serverSteps at hs
  rw [List.drop_succ_cons, List.drop_zero] at hs
  rcases List.mem_append.mp hs with h | h
  · obtain ⟨k, _, rfl⟩ := List.mem_map.mp h
    rfl
  · rw [List.mem_singleton.mp h]
    rfl
theorem link_in {unit : Str} {sN sF : List Str} {asks : List Ask} {acc : List Step} {p q : Int} {deeds : List (Str × Nat)} {longer : Nat} (hu : nameOk unit) (hp : p ∈ primeL) (hq : q ∈ primeL) (hN : SitesOk sN) (hF : SitesOk sF) (ha : AsksOk asks) (hl : acc.length = asks.length) (hA : AskAcc asks sN p acc) (hd : DeedsOk deeds) (hlo : longer ≤ 9990) :
    LinkIn2 unit sN (askerSteps acc) p sF (serverSteps deeds longer q) q :=
  { near := asker_ok hp hN ha hl hA, far := server_ok hq hF hd hlo, unit := hu, plain := server_plain }
/-! ### steps that may be compared -/
def stepQ : Step → PyData
  | .serve ways => .tuple [.str "serve", .tuple (ways.map fun q => .tuple [.str q.1, .tuple (List.replicate q.2.1 (.str "")), .int q.2.2])]
  | .move pairs goal => .tuple [.str "move", .tuple (pairs.map fun q => .tuple [.str q.1, .tuple [.int q.2, .tuple []]]), .int goal]
  | .out n goal => .tuple [.str "out", .tuple [.int n, .tuple []], .int goal]
  | .ask u e f pl g o => .tuple [.str "ask", .str u, .str e, .tuple (f.map fun n => .tuple [.int n, .tuple []]), .str pl, .int g, .int o]
  | .done n => .tuple [.str "done", .tuple [.int n, .tuple []]]
theorem form_py (n : Int) : Py (formD n) (.tuple [.int n, .tuple []]) := .tup (.cons (.int _) (.cons (.tup .nil) .nil))
theorem lay_all2 {k : Nat} {xs : List PyData} (h : ∀ x ∈ xs, Lay k x) : Lay (k + 1) (.tuple xs) := .tup h
theorem form_lay {k : Nat} (n : Int) : Lay (k + 2) (.tuple [.int n, .tuple []]) := .tup (k := k + 1) fun z hz => by
  simp only [List.mem_cons, List.not_mem_nil, or_false] at hz
  rcases hz with rfl | rfl
  · exact .int _
  · exact .tup (k := k) fun x hx => nomatch hx
theorem py_rep : ∀ k : Nat, PyAll (List.replicate k (.str "")) (List.replicate k (.str ""))
  | 0 => .nil
  | k + 1 => .cons (.str _) (py_rep k)
theorem step_py {sN : List Str} {n p : Int} {s : Step} (hs : stepOk sN n p s) (hN : ∀ s ∈ sN, placeOk s) : Py (stepD s) (stepQ s) ∧ Lay 5 (stepQ s) := by
  cases s with
  | serve ways =>
    refine ⟨.tup (.cons (.str _) (.cons (.tup (PyAll.map (fun q => .tup (.cons (.str _) (.cons (.tup (py_rep _)) (.cons (.int _) .nil)))) ways)) .nil)), .tup (k := 4) fun y hy => ?_⟩
    simp only [List.mem_cons, List.not_mem_nil, or_false] at hy
    rcases hy with rfl | rfl
    · exact .str (by decide +kernel)
    · refine .tup (k := 3) (lay_map fun q hq => .tup (k := 2) fun z hz => ?_)
      simp only [List.mem_cons, List.not_mem_nil, or_false] at hz
      rcases hz with rfl | rfl | rfl
      · exact .str (strOk_of (name_place (hs.2.2.1 q hq).1))
      · refine .tup (k := 1) fun x hx => ?_
        rw [List.eq_of_mem_replicate hx]
        exact .str (by decide +kernel)
      · exact .int _
  | move pairs goal =>
    refine ⟨.tup (.cons (.str _) (.cons (.tup (PyAll.map (fun q => .tup (.cons (.str _) (.cons (form_py _) .nil))) pairs)) (.cons (.int _) .nil))), .tup (k := 4) fun y hy => ?_⟩
    simp only [List.mem_cons, List.not_mem_nil, or_false] at hy
    rcases hy with rfl | rfl | rfl
    · exact .str (by decide +kernel)
    · refine .tup (k := 3) (lay_map fun q hq => .tup (k := 2) fun z hz => ?_)
      simp only [List.mem_cons, List.not_mem_nil, or_false] at hz
      rcases hz with rfl | rfl
      · exact .str (strOk_of (hN _ (hs.2.1 q hq).1).2.2)
      · exact form_lay _
    · exact .int _
  | out m goal =>
    refine ⟨.tup (.cons (.str _) (.cons (form_py _) (.cons (.int _) .nil))), .tup (k := 4) fun y hy => ?_⟩
    simp only [List.mem_cons, List.not_mem_nil, or_false] at hy
    rcases hy with rfl | rfl | rfl
    · exact .str (by decide +kernel)
    · exact form_lay _
    · exact .int _
  | ask u e f pl g o =>
    obtain ⟨h1, h2, h3, h4, h5, h6, h7⟩ := hs
    refine ⟨.tup (.cons (.str _) (.cons (.str _) (.cons (.str _) (.cons (.tup (PyAll.map form_py f)) (.cons (.str _) (.cons (.int _) (.cons (.int _) .nil))))))), .tup (k := 4) fun y hy => ?_⟩
    simp only [List.mem_cons, List.not_mem_nil, or_false] at hy
    have hpl : pl.cps.toList.all placeC = true := by
      rcases h5 with rfl | h5
      · decide +kernel
      · exact (hN pl h5).2.2
    rcases hy with rfl | rfl | rfl | rfl | rfl | rfl | rfl
    · exact .str (by decide +kernel)
    · exact .str (strOk_of (name_place h1))
    · exact .str (strOk_of (name_place h2))
    · exact .tup (k := 3) (lay_map fun n _ => form_lay n)
    · exact .str (strOk_of hpl)
    · exact .int _
    · exact .int _
  | done m =>
    refine ⟨.tup (.cons (.str _) (.cons (form_py _) .nil)), .tup (k := 4) fun y hy => ?_⟩
    simp only [List.mem_cons, List.not_mem_nil, or_false] at hy
    rcases hy with rfl | rfl
    · exact .str (by decide +kernel)
    · exact form_lay _
theorem flow_py {sN : List Str} {tN : List Step} {p : Int} (h : FlowOk sN tN p) : Py (stepsD tN) (.tuple (tN.map stepQ)) ∧ Lay 6 (.tuple (tN.map stepQ)) :=
  ⟨.tup (PyAll.mapM tN fun s hs => (step_py (h.ok s hs) h.names).1), .tup (k := 5) (lay_map fun s hs => (step_py (h.ok s hs) h.names).2)⟩
/-- [near.steps(), far.steps()] != the same -/
theorem kept_same {K : PySem.W.Frag} {ρ : DSt} {ta tb : TE} {sN sF : List Str} {tN tF : List Step} {p q : Int} (hN : FlowOk sN tN p) (hF : FlowOk sF tF q) (ha : Den K ta ρ (.lst [stepsD tN, stepsD tF])) (hb : Den K tb ρ (.lst [stepsD tN, stepsD tF])) : DenT K (tTest (tOp (rNeD K) ta tb)) ρ false := by
  have p1 := flow_py hN
  have p2 := flow_py hF
  have hp : Py (.lst [stepsD tN, stepsD tF]) (.list [.tuple (tN.map stepQ), .tuple (tF.map stepQ)]) := .lst (.cons p1.1 (.cons p2.1 .nil))
  have hl : Lay 7 (.list [.tuple (tN.map stepQ), .tuple (tF.map stepQ)]) := .lst (k := 6) fun x hx => by
    simp only [List.mem_cons, List.not_mem_nil, or_false] at hx
    rcases hx with rfl | rfl
    · exact p1.2
    · exact p2.2
  exact DenT.is (dt_test (den_op ha hb (rd_neD hp hp hl.shaped hl.shaped))) (by rw [PySem.SeqAt.eqv_refl _ hl.1]; rfl)
/-- the two verdicts are one -/
theorem same_verdict {K : PySem.W.Frag} {A : Ad} {ρ : DSt} {tn tl tf tn2 tl2 tf2 : TE} {E E2 : XK} {unit : Str} {sN sF : List Str} {tN tF : List Step} {p q : Int} (L : LinkIn2 unit sN tN p sF tF q)
    (h : DenA K (tCons tn (tCons tl (tCons tf tNil))) ρ [flowD A.C_Flow sN tN p, .str unit, flowD A.C_Flow sF tF q]) (h2 : DenA K (tCons tn2 (tCons tl2 (tCons tf2 tNil))) ρ [flowD A.C_Flow sN tN p, .str unit, flowD A.C_Flow sF tF q]) :
    DenT K (tTest (tOp rNe (tCall (spRefused K A) [] E (tCons tn (tCons tl (tCons tf tNil)))) (tCall (spF K (F__law_how_due A.C_Flow)) [] E2 (tCons tn2 (tCons tl2 (tCons tf2 tNil)))))) ρ false := by
  have h1 : Den K (tCall (spRefused K A) [] E (tCons tn (tCons tl (tCons tf tNil)))) ρ (.str (verS (linkVer unit sN tN p sF tF q))) := fun σ G H Q i e k =>
    call_run (h σ G H _ i e fun vs G1 H1 f1 r1 => ⟨G1, unit, sN, tN, p, sF, tF, q, f1.i, r1, L, fun G2 H2 f2 => k _ G2 H2 (f1.trans f2) (.s _)⟩)
  exact DenT.is (dt_test (den_op h1 (den_call h2 ⟨unit, sN, tN, p, sF, tF, q, rfl, L, rfl⟩) (rd_ne rfl))) (by simp)
end K56
set_option Elab.async false
set_option linter.all false
set_option maxRecDepth 100000
set_option maxHeartbeats 4000000
set_option pp.maxSteps 400
set_option pp.deepTerms false
/-! Kr: the law. -/
namespace K56
open PySem L2 Dn
open Evl (Ex fresh_back)
theorem sc_law : FnScope ["script", "draws", "near", "far", "turn", "p", "label", "deeds", "asks", "odd", "name", "many", "sites", "inner", "kept", "k"] ["script"] (defScope s_law) := ⟨rfl, rfl, rfl, by decide +kernel, rfl, by decide +kernel, by decide +kernel⟩
theorem seq_inv {t u : TS} {σ : L2.St} {H : Hp} {D : Ends} (Iv : L2.St → Hp → Prop) (h : ∀ nx : L2.St → Hp → Prop, (∀ σ' H', Iv σ' H' → nx σ' H') → t { D with nx := nx } σ H) (hu : ∀ σ' H', Iv σ' H' → u D σ' H') : tSeq t u D σ H := h _ hu
section
variable {K : PySem.W.Frag} {dr cl : Addr} {ρ ρ' : DSt} {te ta tb tl ti : TE} {tt tu : TT} {d : Dat} {Pd Pa Pb Pz : Dat → Prop} {r : R2} {E : XK} {t : TA} {b : Bool} {Pl : List Dat → Prop} {ds : List Dat}
theorem dnt_den (h : DenT K tt ρ b) : DenNT K dr cl tt ρ (fun _ => True) := fun σ G H Q i gd gc hD e k => h σ G H Q i e fun G1 H1 f => k b G1 H1 trivial (DF.fr f hD)
theorem dn_drawV {i : Nat} {m : Int} (h : ρ[i]? = some (some (.s (.ref dr)))) (h1 : 1 ≤ m) (h2 : m ≤ 100000) : DenN K dr cl (tCall spDraw [] E (tCons (tVar i) (tCons (tC (.int m)) tNil))) ρ (fun d => ∃ v, 0 ≤ v ∧ v < m ∧ d = .int v) := dn_draw (da_cons (den_var h) (da_cons den_c da_nil)) h1 h2
theorem dnt_draw {i : Nat} {m c : Int} (h : ρ[i]? = some (some (.s (.ref dr)))) (h1 : 1 ≤ m) (h2 : m ≤ 100000) : DenNT K dr cl (tTest (tOp rEq (tCall spDraw [] E (tCons (tVar i) (tCons (tC (.int m)) tNil))) (tC (.int c)))) ρ (fun _ => True) :=
  dnt_eq (Pa := fun _ => True) (dn_imp (dn_drawV h h1 h2) fun d ⟨v, _, _, q⟩ => ⟨v, trivial, q⟩)
theorem dn_pickL (hi : Den K ti ρ (.s (.ref dr))) (hl : Den K tl ρ (.lst ds)) (h1 : 1 ≤ ds.length) (h2 : ds.length ≤ 100000) (hx : ∀ x ∈ ds, Pz x) : DenN K dr cl (tCall (spPick K) [] E (tCons ti (tCons tl tNil))) ρ Pz :=
  dn_pick hi (dn_den hl) fun d q => ⟨ds, q, h1, h2, hx⟩
/-- x = e, last of a block -/
theorem an_set {i : Nat} {σ : L2.St} {G H : Hp} {D : Ends} (h : DenN K dr cl te ρ Pd) (i0 : Ex G H) (gd : G dr = none) (gc : G cl = none) (hD : DrawsAt H dr cl) (e : EnvD K G σ ρ)
    (k : ∀ d G' H' σ', Pd d → DF dr cl G H G' H' → EnvD K G' σ' (ρ.set i (some d)) → D.nx σ' H') : tAsg te (gName i) D σ H :=
  h σ G H _ i0 gd gc hD e fun v d G1 H1 p f r => gname_run (k d G1 H1 _ p f ((e.up f.g).set r i))
theorem EnvD.know {G : Hp} {σ : L2.St} {i : Nat} {v : V} (e : EnvD K G σ ρ) (hσ : σ[i]? = some (some v)) (r : Rep K G v d) : EnvD K G σ (ρ.set i (some d)) := by
  have h := e.set r i
  have z : σ.set i (some v) = σ := by
    refine List.ext_getElem? fun j => ?_
    by_cases q : i = j
    · subst q
      rw [List.getElem?_set_self', hσ]
      rfl
    · rw [List.getElem?_set_ne q]
  rw [z] at h
  exact h
end
theorem cutD_from1 (ds : List Dat) : cutD ds (some 1) none = ds.drop 1 := by
  unfold cutD
  have h : HT.sIx ds.length 0 (some 1) = min 1 ds.length := HT.sIx_nat ds.length 0 1
  rw [HT.sIx_none, h]
  cases ds with
  | nil => rfl
  | cons d ds =>
    have : min 1 (d :: ds).length = 1 := by simp
    rw [this, List.take_of_length_le (by simp)]
theorem cut40 (w : Str) : (cutS w none (some 40)).cps.toList = w.cps.toList.take 40 := by
  unfold cutS
  have h : HT.sIx w.length w.length (some 40) = min 40 w.length := HT.sIx_nat w.length w.length 40
  rw [HT.sIx_none, h, List.drop_zero, Nat.sub_zero]
  show w.cps.toList.take (min 40 w.length) = _
  rw [← str_len, List.take_eq_take_iff]
  omega
def AskOk (q : Ask) : Prop := nameOk q.1 ∧ nameOk q.2.1 ∧ q.2.2 ≤ 3
theorem asks_all : ∀ {ds : List Dat}, (∀ d ∈ ds, ∃ q : Ask, AskOk q ∧ d = askD q) → ∃ asks : List Ask, (∀ q ∈ asks, AskOk q) ∧ ds = asks.map askD
  | [], _ => ⟨[], (fun q h => nomatch h), rfl⟩
  | d :: ds, h => by
    obtain ⟨q, hq, rfl⟩ := h d List.mem_cons_self
    obtain ⟨asks, ha, rfl⟩ := asks_all (ds := ds) fun x hx => h x (List.mem_cons_of_mem _ hx)
    exact ⟨q :: asks, fun x hx => by
      rcases List.mem_cons.mp hx with rfl | hx
      · exact hq
      · exact ha x hx, rfl⟩
theorem pop_ok : nameOk "pop" := ⟨by decide +kernel, by decide +kernel, by decide +kernel⟩
theorem else_ok : nameOk "else" := ⟨by decide +kernel, by decide +kernel, by decide +kernel⟩
theorem deeds_at {deeds : List (Str × Nat)} (h : DeedsOk deeds) : (∃ a, a ≤ 3 ∧ (deeds.map deedD)[0]? = some (deedD ("get", a))) ∧ (∀ q ∈ deeds, nameOk q.1 ∧ q.2 ≤ 3) ∧ 1 ≤ deeds.length ∧ deeds.length ≤ 2 := by
  obtain ⟨a, b, ha, hb, rfl | rfl⟩ := h
  · refine ⟨⟨a, ha, rfl⟩, fun q hq => ?_, by simp, by simp⟩
    rw [List.mem_singleton.mp hq]
    exact ⟨get_ok, ha⟩
  · refine ⟨⟨a, ha, rfl⟩, fun q hq => ?_, by simp, by simp⟩
    simp only [List.mem_cons, List.not_mem_nil, or_false] at hq
    rcases hq with rfl | rfl
    · exact ⟨get_ok, ha⟩
    · exact ⟨put_ok, hb⟩
def spLaw (K : PySem.W.Frag) : Sp := fun vs H Q _ => ∃ (a : Addr) (ns : List Int), vs = [.ref a] ∧ SqL K H a (ns.map V.int) ∧ ns.length ≤ 63 ∧ ∀ H', Q (.bl true) H'
section
variable {P : Program} {w : World} {K : PySem.W.Frag} {mg : Str → Option Value} {base : Heap} {A : Ad}
theorem ok_law (T : Tx K w mg A) : FnOk P w K mg base CX0 13 A.f_law A.d_law ["script"] (spLaw K) := by
  refine T.F_law.ok sc_law (fun vs H Q E h => ?_) (fun cdv Ar outer s H vs Q E hr h => ?_)
  · obtain ⟨a, ns, rfl, _⟩ := h
    rfl
  obtain ⟨a, ns, rfl, hS, hz, k⟩ := h
  refine ⟨_, (pss_cons (ps_set (i := 1) sc_law.nd rfl (Or.inr rfl) (pe_call (ok__law_begun T) (hr.mono (by decide)) rfl T.g__law_begun T.F__law_begun.kp T.b__law_begun .nil pass0 (pa_cons (pv 0) pa_nil)))
  (pss_cons (ps_if (pt_cmpR op_eq (pe_call (ok__law_draw T) (hr.mono (by decide)) rfl T.g__law_draw T.F__law_draw.kp T.b__law_draw .nil pass0 (pa_cons (pv 1) (pa_cons pe_int pa_nil))) pe_int (nomark _)) (pss_cons (ps_asg (pe_call (ok__law_long_ones T) (hr.mono (by decide)) rfl T.g__law_long_ones T.F__law_long_ones.kp T.b__law_long_ones .nil pass0 (pa_cons (pv 1) pa_nil)) (pg_tup rfl (pgs_cons (pg_name (i := 2) sc_law.nd rfl (Or.inl rfl)) (pgs_cons (pg_name (i := 3) sc_law.nd rfl (Or.inl rfl)) pgs_nil))))
  (pss_one (ps_if (pt_cmpR op_ne (pe_call (ok__law_how_refused T) (hr.mono (by decide)) rfl T.g__law_how_refused T.F__law_how_refused.kp T.b__law_how_refused .nil pass0 (pa_cons (pv 2) (pa_cons pe_str (pa_cons (pv 3) pa_nil)))) (pe_call (ok__law_how_due T) (hr.mono (by decide)) rfl T.g__law_how_due T.F__law_how_due.kp T.b__law_how_due .nil pass0 (pa_cons (pv 2) (pa_cons pe_str (pa_cons (pv 3) pa_nil)))) (nomark _)) (pss_one (ps_ret pe_bl)) pss_nil))) pss_nil)
  (pss_cons (ps_for PassesOwn.never rfl (pi_range1 rfl T.n_range (pa_cons pe_int pa_nil)) (pg_name (i := 4) sc_law.nd rfl (Or.inl rfl))
  (pss_cons (ps_asg (pe_tup (pa_cons (pe_call (ok__law_pick T) (hr.mono (by decide)) rfl T.g__law_pick T.F__law_pick.kp T.b__law_pick .nil pass0 (pa_cons (pv 1) (pa_cons (pe_lst (pa_cons pe_int (pa_cons pe_int (pa_cons pe_int pa_nil)))) pa_nil))) (pa_cons (pe_call (ok__law_pick T) (hr.mono (by decide)) rfl T.g__law_pick T.F__law_pick.kp T.b__law_pick .nil pass0 (pa_cons (pv 1) (pa_cons (pe_lst (pa_cons pe_str (pa_cons pe_str (pa_cons pe_str pa_nil)))) pa_nil))) pa_nil))) (pg_tup rfl (pgs_cons (pg_name (i := 5) sc_law.nd rfl (Or.inl rfl)) (pgs_cons (pg_name (i := 6) sc_law.nd rfl (Or.inr rfl)) pgs_nil))))
  (pss_cons (ps_set (i := 7) sc_law.nd rfl (Or.inr rfl) (pe_lst (pa_cons (pe_tup (pa_cons pe_str (pa_cons (pe_call (ok__law_draw T) (hr.mono (by decide)) rfl T.g__law_draw T.F__law_draw.kp T.b__law_draw .nil pass0 (pa_cons (pv 1) (pa_cons pe_int pa_nil))) pa_nil))) (pa_cons (pe_tup (pa_cons pe_str (pa_cons (pe_call (ok__law_draw T) (hr.mono (by decide)) rfl T.g__law_draw T.F__law_draw.kp T.b__law_draw .nil pass0 (pa_cons (pv 1) (pa_cons pe_int pa_nil))) pa_nil))) pa_nil))))
  (pss_cons (ps_set (i := 7) sc_law.nd rfl (Or.inr rfl) (pe_slice (r := rSlL K) sl_list (pv 7) po_none (po_some (pe_op op_add pe_int (pe_call (ok__law_draw T) (hr.mono (by decide)) rfl T.g__law_draw T.F__law_draw.kp T.b__law_draw .nil pass0 (pa_cons (pv 1) (pa_cons pe_int pa_nil)))))))
  (pss_cons (ps_setLc (i := 8) (own := [("k", 15)]) (g := (gName 15)) (by rfl) sc_law.nd rfl rfl (sw_true rfl rfl rfl (by decide +kernel)) (pi_range1 rfl T.n_range (pa_cons (pe_call (ok__law_draw T) (hr.mono (by decide)) rfl T.g__law_draw T.F__law_draw.kp T.b__law_draw .nil pass0 (pa_cons (pv 1) (pa_cons pe_int pa_nil))) pa_nil)) (blkOk_by (N := ["script", "draws", "near", "far", "turn", "p", "label", "deeds", "asks", "odd", "name", "many", "sites", "inner", "kept", "k"]) (sc := defScope s_law) (by decide +kernel))
    (fun _ _ _ _ _ => (pg_name (i := 15) sc_law.nd rfl (Or.inl rfl))) (fun _ _ _ _ _ => pts_nil) (fun _ _ _ _ _ => (pe_op (r := rCatA K) op_catA (pe_tup (pa_cons (pv 6) pa_nil)) (pe_call (ok__law_pick T) (hr.mono (by decide)) rfl T.g__law_pick T.F__law_pick.kp T.b__law_pick .nil pass0 (pa_cons (pv 1) (pa_cons (pv 7) pa_nil))))))
  (pss_cons (ps_if (pt_cmpR op_eq (pe_call (ok__law_draw T) (hr.mono (by decide)) rfl T.g__law_draw T.F__law_draw.kp T.b__law_draw .nil pass0 (pa_cons (pv 1) (pa_cons pe_int pa_nil))) pe_int (nomark _)) (pss_cons (ps_set (i := 9) sc_law.nd rfl (Or.inl rfl) (pe_tup (pa_cons pe_str (pa_cons (pe_op op_mod (pe_op op_add (pe_ix (r := rIx K) ix_seq (pe_ix (r := rIx K) ix_seq (pv 7) pe_int (fun _ _ => rfl)) pe_int (fun _ _ => rfl)) pe_int) pe_int) pa_nil))))
  (pss_cons (ps_set (i := 10) sc_law.nd rfl (Or.inl rfl) (pe_call (ok__law_pick T) (hr.mono (by decide)) rfl T.g__law_pick T.F__law_pick.kp T.b__law_pick .nil pass0 (pa_cons (pv 1) (pa_cons (pe_lst (pa_cons (pv 6) (pa_cons (pv 6) (pa_cons pe_str pa_nil)))) pa_nil))))
  (pss_one (ps_expr (pe_bm PySem.F.plainAttrs_list PySem.F.slot_list_append PySem.F.type_list_append mt_append (pv 8) (pa_cons (pe_op (r := rCatA K) op_catA (pe_tup (pa_cons (pv 10) pa_nil)) (pe_call (ok__law_pick T) (hr.mono (by decide)) rfl T.g__law_pick T.F__law_pick.kp T.b__law_pick .nil pass0 (pa_cons (pv 1) (pa_cons (pe_lst (pa_cons (pv 9) (pa_cons (pe_tup (pa_cons pe_str (pa_cons pe_int pa_nil))) pa_nil))) pa_nil)))) pa_nil)))))) pss_nil)
  (pss_cons (ps_set (i := 11) sc_law.nd rfl (Or.inl rfl) (pe_ifExp (pt_cmpR op_eq (pe_call (ok__law_draw T) (hr.mono (by decide)) rfl T.g__law_draw T.F__law_draw.kp T.b__law_draw .nil pass0 (pa_cons (pv 1) (pa_cons pe_int pa_nil))) pe_int (nomark _)) (pe_op op_add pe_int (pe_call (ok__law_draw T) (hr.mono (by decide)) rfl T.g__law_draw T.F__law_draw.kp T.b__law_draw .nil pass0 (pa_cons (pv 1) (pa_cons pe_int pa_nil)))) (pe_call (ok__law_draw T) (hr.mono (by decide)) rfl T.g__law_draw T.F__law_draw.kp T.b__law_draw .nil pass0 (pa_cons (pv 1) (pa_cons pe_int pa_nil)))))
  (pss_cons (ps_set (i := 12) sc_law.nd rfl (Or.inl rfl) (pe_call (ok__law_places_of T) (hr.mono (by decide)) rfl T.g__law_places_of T.F__law_places_of.kp T.b__law_places_of .nil pass0 (pa_cons (pv 1) (pa_cons (pe_ifExp (pt_cmpR op_gt (pv 11) pe_int (nomark _)) pe_int (pe_call (ok__law_draw T) (hr.mono (by decide)) rfl T.g__law_draw T.F__law_draw.kp T.b__law_draw .nil pass0 (pa_cons (pv 1) (pa_cons pe_int pa_nil)))) (pa_cons pe_str pa_nil)))))
  (pss_cons (ps_set (i := 13) sc_law.nd rfl (Or.inl rfl) (pe_call (ok__law_places_of T) (hr.mono (by decide)) rfl T.g__law_places_of T.F__law_places_of.kp T.b__law_places_of .nil pass0 (pa_cons (pv 1) (pa_cons (pv 11) (pa_cons pe_str pa_nil)))))
  (pss_cons (ps_if (PW.pt (pw_and (pt_cmpR op_eq (pe_call (ok__law_draw T) (hr.mono (by decide)) rfl T.g__law_draw T.F__law_draw.kp T.b__law_draw .nil pass0 (pa_cons (pv 1) (pa_cons pe_int pa_nil))) pe_int (nomark _)) (pw_and1 (pt_cmpR (r := rNeD K) (op_neD hr.units) (pv 13) (pe_lst pa_nil) (nomark _))))) (pss_one (ps_set (i := 12) sc_law.nd rfl (Or.inl rfl) (pe_op op_cat (pe_slice (r := rSlL K) sl_list (pv 12) (po_some pe_int) po_none) (pe_lst (pa_cons (pe_slice sl_str (pe_op op_add_str (pe_op op_add_str (pv 6) pe_str) (pe_call (ok__law_pick T) (hr.mono (by decide)) rfl T.g__law_pick T.F__law_pick.kp T.b__law_pick .nil pass0 (pa_cons (pv 1) (pa_cons (pv 13) pa_nil)))) po_none (po_some pe_int)) pa_nil))))) pss_nil)
  (pss_cons (ps_set (i := 2) sc_law.nd rfl (Or.inl rfl) (pe_call (ok__law_asker T) (hr.mono (by decide)) rfl T.g__law_asker T.F__law_asker.kp T.b__law_asker .nil pass0 (pa_cons (pv 1) (pa_cons (pv 5) (pa_cons (pv 12) (pa_cons (pv 8) pa_nil))))))
  (pss_cons (ps_set (i := 3) sc_law.nd rfl (Or.inl rfl) (pe_call (ok__law_server T) (hr.mono (by decide)) rfl T.g__law_server T.F__law_server.kp T.b__law_server .nil pass0 (pa_cons (pe_ix (r := rIx K) ix_seq (pe_lst (pa_cons (pv 5) (pa_cons (pv 5) (pa_cons (pv 5) (pa_cons pe_int pa_nil))))) (pe_call (ok__law_draw T) (hr.mono (by decide)) rfl T.g__law_draw T.F__law_draw.kp T.b__law_draw .nil pass0 (pa_cons (pv 1) (pa_cons pe_int pa_nil))) (fun _ _ => rfl)) (pa_cons (pv 13) (pa_cons (pv 7) (pa_cons (pe_call (ok__law_draw T) (hr.mono (by decide)) rfl T.g__law_draw T.F__law_draw.kp T.b__law_draw .nil pass0 (pa_cons (pv 1) (pa_cons pe_int pa_nil))) pa_nil))))))
  (pss_cons (ps_set (i := 14) sc_law.nd rfl (Or.inl rfl) (pe_lst (pa_cons (pe_meth0 (pv 2) T.c_Flow T.m_Flow_steps (ok_Flow_steps T) (hr.mono (by decide)) T.b_Flow_steps .nil pass0) (pa_cons (pe_meth0 (pv 3) T.c_Flow T.m_Flow_steps (ok_Flow_steps T) (hr.mono (by decide)) T.b_Flow_steps .nil pass0) pa_nil))))
  (pss_cons (ps_if (pt_cmpR op_ne (pe_call (ok__law_how_refused T) (hr.mono (by decide)) rfl T.g__law_how_refused T.F__law_how_refused.kp T.b__law_how_refused .nil pass0 (pa_cons (pv 2) (pa_cons (pv 6) (pa_cons (pv 3) pa_nil)))) (pe_call (ok__law_how_due T) (hr.mono (by decide)) rfl T.g__law_how_due T.F__law_how_due.kp T.b__law_how_due .nil pass0 (pa_cons (pv 2) (pa_cons (pv 6) (pa_cons (pv 3) pa_nil)))) (nomark _)) (pss_one (ps_ret pe_bl)) pss_nil)
  (pss_one (ps_if (pt_cmpR (r := rNeD K) (op_neD hr.units) (pv 14) (pe_lst (pa_cons (pe_meth0 (pv 2) T.c_Flow T.m_Flow_steps (ok_Flow_steps T) (hr.mono (by decide)) T.b_Flow_steps .nil pass0) (pa_cons (pe_meth0 (pv 3) T.c_Flow T.m_Flow_steps (ok_Flow_steps T) (hr.mono (by decide)) T.b_Flow_steps .nil pass0) pa_nil))) (nomark _)) (pss_one (ps_ret pe_bl)) pss_nil))))))))))))))))
  (pss_one (ps_ret pe_bl))))), ?_⟩
  -- draws = _law_begun(script)
  refine seq_asg (call_run ⟨.ref a, rfl, a, ns, rfl, hS, hz, fun dr cl H1 _ _ _ hD1 => gname_run ?_⟩)
  let N : List Str := ["script", "draws", "near", "far", "turn", "p", "label", "deeds", "asks", "odd", "name", "many", "sites", "inner", "kept", "k"]
  let ρi : DSt := [some (.s (.ref a)), some (.s (.ref dr)), none, none, none, none, none, none, none, none, none, none, none, none, none, none]
  have e0 : EnvD K (fun _ => none) (L2.start N [.ref a]) [some (.s (.ref a)), none, none, none, none, none, none, none, none, none, none, none, none, none, none, none] := envD_start N (RepAll.vals [.ref a])
  have e1 : EnvD K (fun _ => none) ((L2.start N [.ref a]).set 1 (some (.ref dr))) ρi := e0.set (.s _) 1
  have i1 : Ex (fun _ => none) H1 := fun x o q => nomatch q
  -- a pair of long flows
  refine seq_inv (fun σ' H' => ∃ G', Ex G' H' ∧ G' dr = none ∧ G' cl = none ∧ DrawsAt H' dr cl ∧ EnvD K G' σ' ρi) (fun nx hn => ?_) fun σ H ⟨G, i0, gd, gc, hD, e⟩ => ?_
  · refine run_if (ρ := ρi) (dnt_draw rfl (by decide) (by decide)) i1 rfl rfl hD1 e1 (fun G2 H2 _ d2 e2 => ?_) fun G2 H2 _ d2 e2 => hn _ _ ⟨G2, d2.i, d2.gd rfl hD1, d2.gc rfl hD1, d2.at_, e2⟩
    refine seq_asg (call_run ⟨.ref dr, slot_s (i := 1) e2 rfl, G2, dr, cl, rfl, d2.i, d2.gd rfl hD1, d2.gc rfl hD1, d2.at_, fun n acc longer v G3 H3 d3 hn4 hl hA hlo r3 => ?_⟩)
    have d03 := d2.trans d3 rfl rfl hD1
    refine dg_tup (dgs_cons dg_name (dgs_cons dg_name dgs_nil)) rfl _ G3 H3 v _ d3.i r3 (e2.up d3.g) fun σ4 _ _ G4 H4 f4 e4 => ?_
    have d04 := d03.trans (DF.fr f4 d3.at_) rfl rfl hD1
    refine ds_no (same_verdict (link_in lib_ok (by decide) (by decide) x_ok x_ok (libAsks_ok (by omega)) hl hA ⟨1, 0, by decide, by decide, .inl rfl⟩ hlo) (da_cons (den_var rfl) (da_cons den_c (da_cons (den_var rfl) da_nil))) (da_cons (den_var rfl) (da_cons den_c (da_cons (den_var rfl) da_nil)))) σ4 G4 H4 _ f4.i e4 fun σ5 G5 H5 f5 e5 => ?_
    have d05 := d04.trans (DF.fr f5 d04.at_) rfl rfl hD1
    exact hn _ _ ⟨G5, f5.i, d05.gd rfl hD1, d05.gc rfl hD1, d05.at_, (e5.forget 2).forget 3⟩
  -- the turns
  refine seq_any (for_den (di_rng1 (da_cons den_c da_nil) (by decide) (by decide)) i0 e (fun _ σ' G' H' => Ex G' H' ∧ G' dr = none ∧ G' cl = none ∧ DrawsAt H' dr cl ∧ EnvD K G' σ' ρi)
    (fun G2 H2 f2 => ⟨f2.i, (DF.fr f2 hD).gd gd hD, (DF.fr f2 hD).gc gc hD, hD.up f2.h, e.up f2.g⟩) (fun _ _ _ _ h => h.1) (fun t x σ0 G0 H0 v G1 H1 hx ⟨i0, gd, gc, hD, e⟩ f1 r1 => ?_) fun σ' G' H' h => k H')
  refine gname_run ?_
  have d1 : DF dr cl G0 H0 G1 H1 := DF.fr f1 hD
  have e1 : EnvD K G1 (σ0.set 4 (some v)) ρi := EnvD.dark (e.up f1.g) 4 (some v) rfl
  clear r1 hx
  -- p, label
  refine seq_asg ((dn_tup (dna_cons (dn_pickL (ds := [.int 2, .int 97, .int 997]) (Pz := fun d => ∃ p, p ∈ primeL ∧ d = .int p) (den_var rfl) (den_lst (da_cons den_c (da_cons den_c (da_cons den_c da_nil))) (by show 3 ≤ 100000; decide)) (by decide) (by decide) fun x hx => ?_)
    (dna_cons (dn_pickL (ds := labels.map fun s => .str s) (Pz := fun d => ∃ s, s ∈ labels ∧ d = .str s) (den_var rfl) (den_lst (da_cons den_c (da_cons den_c (da_cons den_c da_nil))) (by show 3 ≤ 100000; decide)) (by decide) (by decide) fun x hx => ?_) dna_nil)) (fun ds ⟨x, xs, h, _, y, ys, h2, _, h3⟩ => by rw [h, h2, h3]; show 2 ≤ 100000; decide)) _ G1 H1 _ f1.i (d1.gd gd hD) (d1.gc gc hD) d1.at_ e1 fun u d G2 H2 pd f2 r2 => ?_)
  · simp only [List.mem_cons, List.not_mem_nil, or_false] at hx
    rcases hx with rfl | rfl | rfl
    · exact ⟨2, by decide, rfl⟩
    · exact ⟨97, by decide, rfl⟩
    · exact ⟨997, by decide, rfl⟩
  · obtain ⟨s, hs, rfl⟩ := List.mem_map.mp hx
    exact ⟨s, hs, rfl⟩
  obtain ⟨_, rfl, _, _, rfl, ⟨p, hp, rfl⟩, _, _, rfl, ⟨label, hlab, rfl⟩, rfl⟩ := pd
  have hlo := (label_of hlab).1
  have d2 := d1.trans f2 gd gc hD
  refine dg_tup (dgs_cons dg_name (dgs_cons dg_name dgs_nil)) rfl _ G2 H2 u _ f2.i r2 (e1.up f2.g) fun σ3 _ _ G3 H3 f3 e3 => ?_
  have d3 := d2.trans (DF.fr f3 d2.at_) gd gc hD
  -- deeds
  refine sn_set (Pd := fun d => ∃ a b : Nat, a ≤ 3 ∧ b ≤ 3 ∧ d = .lst ([(("get" : Str), a), (("put" : Str), b)].map deedD)) (dn_imp (dn_lst (dna_cons (dn_tup (dna_cons (dn_den den_c) (dna_cons (dn_drawV rfl (by decide) (by decide)) dna_nil)) (fun ds ⟨x, xs, h, _, y, ys, h2, _, h3⟩ => by rw [h, h2, h3]; show 2 ≤ 100000; decide))
    (dna_cons (dn_tup (dna_cons (dn_den den_c) (dna_cons (dn_drawV rfl (by decide) (by decide)) dna_nil)) (fun ds ⟨x, xs, h, _, y, ys, h2, _, h3⟩ => by rw [h, h2, h3]; show 2 ≤ 100000; decide)) dna_nil)) (fun ds ⟨x, xs, h, _, y, ys, h2, _, h3⟩ => by rw [h, h2, h3]; show 2 ≤ 100000; decide)) fun d hd => ?_) d3.i (d3.gd gd hD) (d3.gc gc hD) d3.at_ e3 fun d G4 H4 σ4 pd f4 e4 => ?_
  · obtain ⟨_, rfl, _, _, rfl, ⟨_, rfl, _, _, rfl, rfl, _, _, rfl, ⟨a, ha0, ha1, rfl⟩, rfl⟩, _, _, rfl, ⟨_, rfl, _, _, rfl, rfl, _, _, rfl, ⟨b, hb0, hb1, rfl⟩, rfl⟩, rfl⟩ := hd
    refine ⟨a.toNat, b.toNat, by omega, by omega, ?_⟩
    show _ = Dat.lst [.tup [.str "get", .int ((a.toNat : Nat) : Int)], .tup [.str "put", .int ((b.toNat : Nat) : Int)]]
    rw [Int.toNat_of_nonneg ha0, Int.toNat_of_nonneg hb0]
  obtain ⟨a0, b0, ha0, hb0, rfl⟩ := pd
  have d4 := d3.trans f4 gd gc hD
  refine sn_set (dn_slL (Pz := fun d => d = .int 1 ∨ d = .int 2) (Pl := fun es => ∃ deeds, DeedsOk deeds ∧ es = deeds.map deedD) (den_var rfl) (dn_op (dn_den den_c) (dn_drawV rfl (by decide) (by decide)) (fun x y hx hy => ?_)) (fun d hd => ?_)) d4.i (d4.gd gd hD) (d4.gc gc hD) d4.at_ e4 fun d G5 H5 σ5 pd f5 e5 => ?_
  · obtain ⟨z, hz0, hz1, rfl⟩ := hy
    subst hx
    have hz : z = 0 ∨ z = 1 := by omega
    rcases hz with rfl | rfl
    · exact ⟨.int 1, rd_I0, .inl rfl⟩
    · exact ⟨.int 2, rd_I0, .inr rfl⟩
  · rcases hd with rfl | rfl
    · exact ⟨1, rfl, [("get", a0)], ⟨a0, b0, ha0, hb0, .inl rfl⟩, rfl⟩
    · exact ⟨2, rfl, [("get", a0), ("put", b0)], ⟨a0, b0, ha0, hb0, .inr rfl⟩, rfl⟩
  obtain ⟨_, rfl, deeds, hdeeds, rfl⟩ := pd
  have d5 := d4.trans f5 gd gc hD
  obtain ⟨⟨ad, had, hat⟩, hdn, hd1, hd2⟩ := deeds_at hdeeds
  -- asks
  refine seq_asg ((dnl_lc (Pe := fun d => ∃ q : Ask, AskOk q ∧ d = askD q) 3 (by decide) (dna_imp (dna_cons (dn_drawV rfl (by decide) (by decide)) dna_nil) fun ds ⟨x, xs, h, ⟨z, hz0, hz1, hz⟩, h2⟩ => ⟨z.toNat, by omega, by rw [h, h2, hz, Int.toNat_of_nonneg hz0]⟩)
    (fun kk => dn_op (Pa := fun d => d = .tup [.str label]) (Pb := fun d => ∃ q : Str × Nat, q ∈ deeds ∧ d = deedD q) (dn_den (den_tup (da_cons (den_var rfl) da_nil) (by show 1 ≤ 100000; decide))) (dn_pickL (den_var rfl) (den_var rfl) (by rw [List.length_map]; exact hd1) (by rw [List.length_map]; omega) fun x hx => ?_) fun x y hx hy => ?_)) _ G5 H5 _ f5.i (d5.gd gd hD) (d5.gc gc hD) d5.at_ e5 fun st ws as G6 H6 pa f6 gst hst h6 r6 => gname_run ?_)
  · obtain ⟨q, hq, rfl⟩ := List.mem_map.mp hx
    exact ⟨q, hq, rfl⟩
  · obtain ⟨q, hq, rfl⟩ := hy
    subst hx
    exact ⟨_, rd_cat (by show 1 + 2 ≤ 100000; decide), (label, q), ⟨hlo, (hdn q hq).1, (hdn q hq).2⟩, rfl⟩
  have d6 := d5.trans f6 gd gc hD
  have hst0 : H0 st = none := d5.bare hD hst
  let ρ6 : DSt := [some (.s (.ref a)), some (.s (.ref dr)), none, none, none, some (.int p), some (.str label), some (.lst (deeds.map deedD)), some (.s (.ref st)), none, none, none, none, none, none, none]
  have e6 : EnvD K G6 (σ5.set 8 (some (.ref st))) ρ6 := (e5.up f6.g).set (.s (.ref st)) 8
  refine seq_inv (fun σ' H' => ∃ G', DF dr cl G0 H0 G' H' ∧ EnvD K G' σ' ρ6 ∧ G' st = none ∧ ∃ xs ds, H' st = some (.lst xs) ∧ RepAll K G' xs ds ∧ ds.length ≤ 4 ∧ ∀ d ∈ ds, ∃ q : Ask, AskOk q ∧ d = askD q) (fun nx hn => ?_) fun σ7 H7 ⟨G7, d7, e7, gst7, xs7, ds7, h7, r7, hl7, ha7⟩ => ?_
  · refine run_if (ρ := ρ6) (dnt_draw rfl (by decide) (by decide)) d6.i (d6.gd gd hD) (d6.gc gc hD) d6.at_ e6 (fun G7 H7 _ f7 e7 => ?_) fun G7 H7 _ f7 e7 => ?_
    · have d7 := d6.trans f7 gd gc hD
      have h7 : H7 st = some (.lst ws) := f7.keep st _ (DF.ne1 hD hst0) (DF.ne2 hD hst0) h6
      have g7 : G7 st = none := f7.out gst (by rw [h6]; intro z; cases z)
      refine sn_set (dn_den (d := deedD ("get", (ad + 1) % 4)) (Den.is (den_tup (da_cons den_c (da_cons (den_op (den_op (den_op (den_op (den_var rfl) den_c (rd_ixUL (ati 0 hat))) den_c (rd_ixUT (ati 1 rfl))) den_c rd_I0) den_c (rd_I (by show (0 : Int) < 4; decide))) da_nil)) (by show 2 ≤ 100000; decide)) rfl)) d7.i (d7.gd gd hD) (d7.gc gc hD) d7.at_ e7 fun d G8 H8 σ8 pd f8 e8 => ?_
      subst pd
      have d8 := d7.trans f8 gd gc hD
      refine sn_set (dn_pickL (ds := [.str label, .str label, .str "else"]) (Pz := fun d => ∃ s, nameOk s ∧ d = .str s) (den_var rfl) (den_lst (da_cons (den_var rfl) (da_cons (den_var rfl) (da_cons den_c da_nil))) (by show 3 ≤ 100000; decide)) (by show 1 ≤ 3; decide) (by show 3 ≤ 100000; decide) fun x hx => ?_) d8.i (d8.gd gd hD) (d8.gc gc hD) d8.at_ e8 fun d G9 H9 σ9 pd f9 e9 => ?_
      · simp only [List.mem_cons, List.not_mem_nil, or_false] at hx
        rcases hx with rfl | rfl | rfl
        · exact ⟨label, hlo, rfl⟩
        · exact ⟨label, hlo, rfl⟩
        · exact ⟨"else", else_ok, rfl⟩
      obtain ⟨name, hname, rfl⟩ := pd
      have d9 := d8.trans f9 gd gc hD
      have f89 := f8.trans f9 (d7.gd gd hD) (d7.gc gc hD) d7.at_
      have h9 : H9 st = some (.lst ws) := f89.keep st _ (DF.ne1 hD hst0) (DF.ne2 hD hst0) h7
      have g9 : G9 st = none := f89.out g7 (by rw [h7]; intro z; cases z)
      refine ⟨.ref st, slot_s (i := 8) e9 rfl, .inl ⟨rfl, _, .inl (.inl h9)⟩, ?_⟩
      refine cons_run (dn_op (Pa := fun d => d = .tup [.str name]) (Pb := fun d => ∃ q : Str × Nat, nameOk q.1 ∧ q.2 ≤ 3 ∧ d = deedD q) (Pz := fun d => ∃ q : Ask, AskOk q ∧ d = askD q) (dn_den (den_tup (da_cons (den_var rfl) da_nil) (by show 1 ≤ 100000; decide))) (dn_pickL (ds := [deedD ("get", (ad + 1) % 4), deedD ("pop", 1)]) (den_var rfl) (den_lst (da_cons (den_var rfl) (da_cons (x := deedD ("pop", 1)) (den_tup (da_cons den_c (da_cons den_c da_nil)) (by show 2 ≤ 100000; decide)) da_nil)) (by show 2 ≤ 100000; decide)) (by show 1 ≤ 2; decide) (by show 2 ≤ 100000; decide) fun x hx => ?_) (fun x y hx hy => ?_) σ9 G9 H9 _ d9.i (d9.gd gd hD) (d9.gc gc hD) d9.at_ e9 fun y d G10 H10 pd f10 r10 => ?_)
      · simp only [List.mem_cons, List.not_mem_nil, or_false] at hx
        rcases hx with rfl | rfl
        · exact ⟨("get", (ad + 1) % 4), get_ok, by show (ad + 1) % 4 ≤ 3; omega, rfl⟩
        · exact ⟨("pop", 1), pop_ok, by decide, rfl⟩
      · obtain ⟨q, hq1, hq2, rfl⟩ := hy
        subst hx
        exact ⟨_, rd_cat (by show 1 + 2 ≤ 100000; decide), (name, q), ⟨hname, hq1, hq2⟩, rfl⟩
      have d10 := d9.trans f10 gd gc hD
      have h10 : H10 st = some (.lst ws) := f10.keep st _ (DF.ne1 hD hst0) (DF.ne2 hD hst0) h9
      have g10 : G10 st = none := f10.out g9 (by rw [h9]; intro z; cases z)
      have hwl := r6.len
      have hal := pa.1
      refine ⟨st, ws, y, rfl, rfl, h10, Evl.sz_lt (by omega), hn _ _ ⟨G10, d10.mut hD hst0 g10, ((e9.up f10.g).forget 9).forget 10, g10, ws ++ [y], as ++ [d], upd_same, ((r6.up (f7.g.trans f89.g)).up f10.g).app (.cons r10 .nil), by simp; omega, fun x hx => ?_⟩⟩
      rcases List.mem_append.mp hx with hx | hx
      · exact pa.2 x hx
      · rw [List.mem_singleton.mp hx]
        exact pd
    · have hal := pa.1
      exact hn _ _ ⟨G7, d6.trans f7 gd gc hD, e7, f7.out gst (by rw [h6]; intro z; cases z), ws, as, f7.keep st _ (DF.ne1 hD hst0) (DF.ne2 hD hst0) h6, r6.up f7.g, by omega, pa.2⟩
  obtain ⟨asks, hasks, rfl⟩ := asks_all ha7
  rw [List.length_map] at hl7
  have hAsks : AsksOk asks := ⟨by omega, hasks⟩
  -- the list of asks is data from here on
  have d8 : DF dr cl G0 H0 (upd G7 st (.lst xs7)) H7 := d7.take hst0 h7 gst7
  have e8 := EnvD.know (e7.up (Ex.new (o := .lst xs7) gst7)) (slot_s (i := 8) e7 rfl) (Rep.lst upd_same (r7.up (Ex.new gst7)))
  generalize upd G7 st (.lst xs7) = G8 at d8 e8
  -- many
  refine sn_set (Pd := fun d => ∃ m : Nat, m ≤ 60 ∧ d = .int (m : Nat)) (dn_if (dnt_draw rfl (by decide) (by decide)) (dn_op (dn_den den_c) (dn_drawV rfl (by decide) (by decide)) fun x y hx hy => ?_) (dn_imp (dn_drawV rfl (by decide) (by decide)) fun d hd => ?_)) d8.i (d8.gd gd hD) (d8.gc gc hD) d8.at_ e8 fun d G9 H9 σ9 pd f9 e9 => ?_
  · obtain ⟨z, hz0, hz1, rfl⟩ := hy
    subst hx
    exact ⟨_, rd_I0, (49 + z).toNat, by omega, congrArg Dat.int (by omega)⟩
  · obtain ⟨z, hz0, hz1, rfl⟩ := hd
    exact ⟨z.toNat, by omega, congrArg Dat.int (by omega)⟩
  obtain ⟨many, hmany, rfl⟩ := pd
  have d9 := d8.trans f9 gd gc hD
  -- sites
  refine sn_set (dn_places (Pm := fun _ => True) (sign := "x") (den_var rfl) (dn_if (dnt_den (dt_test (den_op (den_var rfl) den_c rd_I0))) (dn_imp (dn_den den_c) fun d hd => ⟨50, by decide, trivial, hd⟩) (dn_imp (dn_drawV rfl (by decide) (by decide)) fun d hd => ?_)) den_c (by decide +kernel)) d9.i (d9.gd gd hD) (d9.gc gc hD) d9.at_ e9 fun d G10 H10 σ10 pd f10 e10 => ?_
  · obtain ⟨z, hz0, hz1, rfl⟩ := hd
    exact ⟨z.toNat, by omega, trivial, congrArg Dat.int (by omega)⟩
  obtain ⟨sx, mx, hx4, hx40, hmx, _, rfl⟩ := pd
  have d10 := d9.trans f10 gd gc hD
  -- inner
  refine sn_set (dn_places (Pm := fun _ => True) (sign := "y") (den_var rfl) (dn_imp (dn_den (den_var rfl)) fun d hd => ⟨many, hmany, trivial, hd⟩) den_c (by decide +kernel)) d10.i (d10.gd gd hD) (d10.gc gc hD) d10.at_ e10 fun d G11 H11 σ11 pd f11 e11 => ?_
  obtain ⟨sy, my, hy4, hy40, hmy, _, rfl⟩ := pd
  have d11 := d10.trans f11 gd gc hD
  have hsx : SitesOk (placesL "x" sx mx) := places_ok (by decide) hx4 hx40 hmx
  have hsy : SitesOk (placesL "y" sy my) := places_ok (by decide) hy4 hy40 hmy
  have hlx : (placesL "x" sx mx).length = mx := by simp [placesL]
  have hly : (placesL "y" sy my).length = my := by simp [placesL]
  let ρ11 : Dat → DSt := fun z => [some (.s (.ref a)), some (.s (.ref dr)), none, none, none, some (.int p), some (.str label), some (.lst (deeds.map deedD)), some (.lst (asks.map askD)), none, none, some (.int (many : Nat)), some z, some (.lst ((placesL "y" sy my).map fun s => .str s)), none, none]
  have e11' : EnvD K G11 σ11 (ρ11 (.lst ((placesL "x" sx mx).map fun s => .str s))) := e11
  refine seq_inv (fun σ' H' => ∃ G' sites, DF dr cl G0 H0 G' H' ∧ SitesOk sites ∧ EnvD K G' σ' (ρ11 (.lst (sites.map fun s => .str s)))) (fun nx hn => ?_) fun σ12 H12 ⟨G12, sites, d12, hsites, e12⟩ => ?_
  · refine run_if (ρ := ρ11 (.lst ((placesL "x" sx mx).map fun s => .str s))) (dnt_and (b := !(placesL "y" sy my).isEmpty) (dnt_draw rfl (by decide) (by decide)) (ne_nil (placesL "y" sy my) (fun s => .str s) (fun s => .str s) (den_var rfl) (fun s _ => .str s) (fun s hs => .str (strOk_of (hsy.names s hs).2.2)))) d11.i (d11.gd gd hD) (d11.gc gc hD) d11.at_ e11' (fun G12 H12 pt f12 e12 => ?_) fun G12 H12 _ f12 e12 => hn _ _ ⟨G12, _, d11.trans f12 gd gc hD, hsx, e12⟩
    have hne : 1 ≤ (placesL "y" sy my).length := by
      have := pt rfl
      cases q : placesL "y" sy my with
      | nil =>
        rw [q] at this
        cases this
      | cons a as => simp
    have d12 := d11.trans f12 gd gc hD
    let s1 : List Str := (placesL "x" sx mx).drop 1
    have hs1 : s1.length ≤ 100 := by simp [s1]; omega
    have hnl := hlo.2.1
    -- sites[1:] + [cut]
    refine an_set (dn_op (Pa := fun d => d = .lst (s1.map fun s => .str s)) (Pb := fun d => ∃ cut, d = .lst [.str cut] ∧ SitesOk (s1 ++ [cut])) (Pz := fun d => ∃ sites, SitesOk sites ∧ d = .lst (sites.map fun s => .str s)) (dn_den (Den.is (dl_slL (den_var rfl) (dp_some den_c) dp_no).den ?_))
      (dn_imp (dn_lst (dna_cons (dn_slS (Pa := fun d => ∃ q, placeOk q ∧ d = .str ((label ++ ".") ++ q)) (Pz := fun d => ∃ cut, d = .str cut ∧ SitesOk (s1 ++ [cut])) (dn_op (Pa := fun d => d = .str (label ++ ".")) (Pb := fun d => ∃ q, placeOk q ∧ d = .str q) (dn_den (den_op (den_var rfl) den_c (rd_addS (by show label.length + 1 ≤ 100000; omega)))) (dn_pickL (den_var rfl) (den_var rfl) (by rw [List.length_map]; exact hne) (by rw [List.length_map]; omega) fun x hx => ?_) fun x y hx hy => ?_) fun d hd => ?_) dna_nil) (fun ds ⟨x, xs, h, _, h2⟩ => by rw [h, h2]; show 1 ≤ 100000; decide)) fun d hd => ?_) fun x y hx hy => ?_) d12.i (d12.gd gd hD) (d12.gc gc hD) d12.at_ e12 fun d G13 H13 σ13 pd f13 e13 => ?_
    · rw [cutD_from1]
      simp [s1]
    · obtain ⟨q, hq, rfl⟩ := List.mem_map.mp hx
      exact ⟨q, hsy.names q hq, rfl⟩
    · obtain ⟨q, hq, rfl⟩ := hy
      subst hx
      refine ⟨_, rd_addS ?_, q, hq, rfl⟩
      have := hq.1
      rw [app_len]
      show label.length + 1 + q.length ≤ 100000
      omega
    · obtain ⟨q, hq, rfl⟩ := hd
      refine ⟨_, rfl, ?_, _, rfl, sites_cut hx4 hx40 hmx hlab hq ?_⟩
      · have := hq.1
        rw [app_len, app_len]
        show label.length + 1 + q.length ≤ 100000
        omega
      · exact cut40 _
    · obtain ⟨_, rfl, _, _, rfl, ⟨cut, rfl, hc⟩, rfl⟩ := hd
      exact ⟨cut, rfl, hc⟩
    · obtain ⟨cut, rfl, hc⟩ := hy
      subst hx
      exact ⟨_, rd_catL (by simp; omega), _, hc, by simp⟩
    obtain ⟨sites, hsites, rfl⟩ := pd
    exact hn _ _ ⟨G13, sites, d12.trans f13 gd gc hD, hsites, e13⟩
  -- near
  refine seq_asg (call_run (da_cons (den_var rfl) (da_cons (den_var rfl) (da_cons (den_var rfl) (da_cons (den_var rfl) da_nil))) σ12 G12 H12 _ d12.i e12 fun us G13 H13 f13 r13 => ?_))
  have d13 := d12.trans (DF.fr f13 d12.at_) gd gc hD
  refine ⟨G13, dr, cl, p, sites, asks, f13.i, d13.gd gd hD, d13.gc gc hD, d13.at_, r13, hp, hsites, hAsks, fun acc nv G14 H14 f14 hacc hA r14 => gname_run ?_⟩
  have d14 := d13.trans f14 gd gc hD
  have e14 := ((e12.up f13.g).up f14.g).set r14 2
  -- far
  refine sn_set (dn_call (Pl := fun ds => ∃ (q : Int) (longer : Nat), q ∈ primeL ∧ longer ≤ 9990 ∧ ds = [.int q, .lst ((placesL "y" sy my).map fun s => .str s), .lst (deeds.map deedD), .int (longer : Nat)]) (Pd := fun d => ∃ (q : Int) (longer : Nat), q ∈ primeL ∧ longer ≤ 9990 ∧ d = flowD A.C_Flow (placesL "y" sy my) (serverSteps deeds longer q) q)
    (dna_imp (dna_cons (dn_op (Pa := fun d => d = .lst [.int p, .int p, .int p, .int 5]) (Pz := fun d => ∃ q : Int, q ∈ primeL ∧ d = .int q) (dn_den (den_lst (da_cons (den_var rfl) (da_cons (den_var rfl) (da_cons (den_var rfl) (da_cons den_c da_nil)))) (by show 4 ≤ 100000; decide))) (dn_drawV rfl (by decide) (by decide)) fun x y hx hy => ?_) (dna_cons (dn_den (den_var rfl)) (dna_cons (dn_den (den_var rfl)) (dna_cons (dn_drawV rfl (by decide) (by decide)) dna_nil)))) fun ds hd => ?_) fun ds hd => ?_) d14.i (d14.gd gd hD) (d14.gc gc hD) d14.at_ e14 fun d G15 H15 σ15 pd f15 e15 => ?_
  · obtain ⟨z, hz0, hz1, rfl⟩ := hy
    subst hx
    have hz : z = 0 ∨ z = 1 ∨ z = 2 ∨ z = 3 := by omega
    rcases hz with rfl | rfl | rfl | rfl
    · exact ⟨.int p, rd_ixUL (ati 0 rfl), p, hp, rfl⟩
    · exact ⟨.int p, rd_ixUL (ati 1 rfl), p, hp, rfl⟩
    · exact ⟨.int p, rd_ixUL (ati 2 rfl), p, hp, rfl⟩
    · exact ⟨.int 5, rd_ixUL (ati 3 rfl), 5, by decide, rfl⟩
  · obtain ⟨_, _, rfl, ⟨q, hq, rfl⟩, _, _, rfl, rfl, _, _, rfl, rfl, _, _, rfl, ⟨z, hz0, hz1, rfl⟩, rfl⟩ := hd
    refine ⟨q, z.toNat, hq, by omega, ?_⟩
    rw [Int.toNat_of_nonneg hz0]
  · obtain ⟨q, longer, hq, hlong, rfl⟩ := hd
    exact ⟨_, ⟨q, _, deeds, longer, rfl, hq, hsy, hdeeds, hlong, rfl⟩, q, longer, hq, hlong, rfl⟩
  obtain ⟨q, longer, hq, hlong, rfl⟩ := pd
  have d15 := d14.trans f15 gd gc hD
  have L := link_in hlo hp hq hsites hsy hAsks hacc hA hdeeds hlong
  have hkept : ∀ {ρ : DSt}, ρ[2]? = some (some (flowD A.C_Flow sites (askerSteps acc) p)) → ρ[3]? = some (some (flowD A.C_Flow (placesL "y" sy my) (serverSteps deeds longer q) q)) → ∀ {E1 E2 : XK}, Den K (tLst (tCons (tMeth A.C_Flow "steps" (spF K (F_Flow_steps A.C_Flow)) [] E1 (tVar 2) tNil) (tCons (tMeth A.C_Flow "steps" (spF K (F_Flow_steps A.C_Flow)) [] E2 (tVar 3) tNil) tNil))) ρ (.lst [stepsD (askerSteps acc), stepsD (serverSteps deeds longer q)]) := fun h2 h3 _ _ =>
    den_lst (da_cons (den_meth (xs := []) (den_var h2) rfl da_nil ⟨_, _, _, rfl, rfl⟩) (da_cons (den_meth (xs := []) (den_var h3) rfl da_nil ⟨_, _, _, rfl, rfl⟩) da_nil)) (by show 2 ≤ 100000; decide)
  -- kept, and the two tests
  refine (ds_seq (ds_set (hkept rfl rfl)) (ds_seq (ds_no (same_verdict L (da_cons (den_var rfl) (da_cons (den_var rfl) (da_cons (den_var rfl) da_nil))) (da_cons (den_var rfl) (da_cons (den_var rfl) (da_cons (den_var rfl) da_nil))))) (ds_no (kept_same L.near L.far (den_var rfl) (hkept rfl rfl))))) σ15 G15 H15 _ d15.i e15 fun σ16 G16 H16 f16 e16 => ?_
  have d16 := d15.trans (DF.fr f16 d15.at_) gd gc hD
  exact ⟨G16, d16.g, d16.i, d16.gd gd hD, d16.gc gc hD, d16.at_, (((((((((((e16.forget 2).forget 3).forget 5).forget 6).forget 7).forget 8).forget 11).forget 12).forget 13).forget 14))⟩
end
end K56
set_option Elab.async false
set_option linter.all false
set_option maxRecDepth 100000
set_option maxHeartbeats 4000000
set_option pp.maxSteps 400
set_option pp.deepTerms false
/-! Kz: the facts of the top, the walk, the end. -/
namespace K56
open PySem L2 Dn
def strKey (e : DictEntry) : Bool := match e.key with
  | .str _ _ => true
  | _ => false
section
variable {K : PySem.W.Frag}
theorem nsOk_of {N : Addr} {oc : Value} {od : Option Addr} {es : Array DictEntry} {n : Nat} {sl : Array (Option Value)} (h : K.lookup N = some ⟨oc, od, .dict es n, sl⟩) (hk : es.toList.all strKey = true) : PySem.W.nsOkIn K N = true := by
  unfold PySem.W.nsOkIn
  rw [h]
  show es.all _ = true
  rw [← Array.all_toList]
  exact hk
theorem exc_in {C T N : Addr} {od od2 : Option Addr} {oc2 : Value} {nm q : Str} {bs sub : List Value} {hd ab : Bool} {sn : List Str} {col : Option Bool} {m0 m1 m2 m3 m5 : Option Value} {cd : ClassData} {sl : Array (Option Value)}
    (h1 : K.lookup C = some ⟨.type "type", od, .cls ⟨nm, bs, [.ref C, .ref T, .type "ValueError", .type "Exception", .type "BaseException", .type "object"], N, q, hd, sn, sub, ab, col, false⟩, #[m0, m1, m2, m3, some (.builtin "ValueError.__new__"), m5]⟩)
    (h2 : K.lookup T = some ⟨oc2, od2, .cls cd, sl⟩) (o1 : PySem.W.nsOkIn K N = true) (i1 : PySem.W.nsIn K N "__init__" = some none) (o2 : PySem.W.nsOkIn K cd.ns = true) (i2 : PySem.W.nsIn K cd.ns "__init__" = some none) :
    PySem.W.excIn K C [.type "ValueError", .type "Exception", .type "BaseException", .type "object"] "ValueError.__new__" = true := by
  have ht : PySem.W.tailIn K [.type "ValueError", .type "Exception", .type "BaseException", .type "object"] [.ref T, .type "ValueError", .type "Exception", .type "BaseException", .type "object"] = true := by
    unfold PySem.W.tailIn
    dsimp only
    rw [h2]
    show (_ || (PySem.W.nsOkIn K cd.ns && PySem.W.nsIn K cd.ns "__init__" == some none && PySem.W.tailIn K _ _)) = true
    rw [o2, i2]
    have hb : PySem.W.tailIn K [.type "ValueError", .type "Exception", .type "BaseException", .type "object"] [.type "ValueError", .type "Exception", .type "BaseException", .type "object"] = true := by
      unfold PySem.W.tailIn
      rw [beq_self_eq_true]
      rfl
    rw [hb]
    simp
  unfold PySem.W.excIn
  rw [h1]
  show (C == C && ("ValueError.__new__" : String) == "ValueError.__new__" && !false && PySem.W.tailIn K _ _ && PySem.W.nsOkIn K N && PySem.W.nsIn K N "__init__" == some none) = true
  rw [ht, o1, i1]
  simp
theorem kit_self (t : Value) : PySem.W.kitOne K t t = some true := by
  unfold PySem.W.kitOne
  rw [if_pos (beq_self_eq_true t)]
theorem kit_ty {t : Value} {n : String} (h : PySem.W.subIn K t (.type n) = some true) (hm : PySem.W.kitMeta n = true) : PySem.W.kitOne K t (.type n) = some true := by
  unfold PySem.W.kitOne
  split
  · rfl
  · show (if PySem.W.kitMeta n = true then PySem.W.subIn K t (.type n) else none) = some true
    rw [if_pos hm]
    exact h
theorem kit_no {C D : Addr} (hs : PySem.W.subIn K (.ref C) (.ref C) = some true) (h : PySem.W.subIn K (.ref C) (.ref D) = some false) (hc : PySem.W.isClsIn K D = true) (ht : PySem.W.typeIn K (.ref D) = some (.type "type")) : PySem.W.kitOne K (.ref C) (.ref D) = some false := by
  unfold PySem.W.kitOne
  have hn : ¬ ((Value.ref C == Value.ref D) = true) := fun e => by
    have e2 : (Value.ref C) = Value.ref D := beq_iff_eq.mp e
    rw [← e2, hs] at h
    cases h
  rw [if_neg hn]
  have hc' : (PySem.W.clsIn K D).isSome = true := hc
  show (if ((PySem.W.clsIn K D).isSome && PySem.W.typeIn K (.ref D) == some (.type "type")) = true then PySem.W.subIn K (.ref C) (.ref D) else none) = some false
  rw [if_pos (by rw [hc', ht] <;> rfl)]
  exact h
theorem kit_any {t c : Value} {r : List Value} (h : PySem.W.kitOne K t c = some false) (h2 : PySem.W.kitAny K t r = some false) : PySem.W.kitAny K t (c :: r) = some false := by
  unfold PySem.W.kitAny
  rw [h]
  exact h2
end
theorem all_mk {l : PySem.W.OpenLaw} {w : World} {K : PySem.W.Frag} {h : Heap} {mg : Str → Option Value} {fa : Addr} (X : K.In h) (G : h.Ns mainGlobals mg) (hfa : mg "law" = some (.ref fa))
  {C_Ground : Addr}
  {C_Flow : Addr}
  {C_Copy : Addr}
  {f_is_whole : Addr} {od_is_whole an_is_whole : Option Addr} {sl_is_whole : Array (Option Value)} {oc_is_whole kV_is_whole dc_is_whole pm_is_whole cd_is_whole ct_is_whole : Value}
  {f_is_prime : Addr} {od_is_prime an_is_prime : Option Addr} {sl_is_prime : Array (Option Value)} {oc_is_prime kV_is_prime dc_is_prime pm_is_prime cd_is_prime ct_is_prime : Value}
  {f_is_number : Addr} {od_is_number an_is_number : Option Addr} {sl_is_number : Array (Option Value)} {oc_is_number kV_is_number dc_is_number pm_is_number cd_is_number ct_is_number : Value}
  {f_is_name : Addr} {od_is_name an_is_name : Option Addr} {sl_is_name : Array (Option Value)} {oc_is_name kV_is_name dc_is_name pm_is_name cd_is_name ct_is_name : Value}
  {f_is_place : Addr} {od_is_place an_is_place : Option Addr} {sl_is_place : Array (Option Value)} {oc_is_place kV_is_place dc_is_place pm_is_place cd_is_place ct_is_place : Value}
  {f_is_form : Addr} {od_is_form an_is_form : Option Addr} {sl_is_form : Array (Option Value)} {oc_is_form kV_is_form dc_is_form pm_is_form cd_is_form ct_is_form : Value}
  {f_places_in : Addr} {od_places_in an_places_in : Option Addr} {sl_places_in : Array (Option Value)} {oc_places_in kV_places_in dc_places_in pm_places_in cd_places_in ct_places_in : Value}
  {f_Ground___init__ : Addr} {od_Ground___init__ an_Ground___init__ : Option Addr} {sl_Ground___init__ : Array (Option Value)} {oc_Ground___init__ kV_Ground___init__ dc_Ground___init__ pm_Ground___init__ cd_Ground___init__ ct_Ground___init__ : Value}
  {f_Ground_is_goal : Addr} {od_Ground_is_goal an_Ground_is_goal : Option Addr} {sl_Ground_is_goal : Array (Option Value)} {oc_Ground_is_goal kV_Ground_is_goal dc_Ground_is_goal pm_Ground_is_goal cd_Ground_is_goal ct_Ground_is_goal : Value}
  {f_Ground_is_sink : Addr} {od_Ground_is_sink an_Ground_is_sink : Option Addr} {sl_Ground_is_sink : Array (Option Value)} {oc_Ground_is_sink kV_Ground_is_sink dc_Ground_is_sink pm_Ground_is_sink cd_Ground_is_sink ct_Ground_is_sink : Value}
  {f_Ground_is_over : Addr} {od_Ground_is_over an_Ground_is_over : Option Addr} {sl_Ground_is_over : Array (Option Value)} {oc_Ground_is_over kV_Ground_is_over dc_Ground_is_over pm_Ground_is_over cd_Ground_is_over ct_Ground_is_over : Value}
  {f_Ground_are_over : Addr} {od_Ground_are_over an_Ground_are_over : Option Addr} {sl_Ground_are_over : Array (Option Value)} {oc_Ground_are_over kV_Ground_are_over dc_Ground_are_over pm_Ground_are_over cd_Ground_are_over ct_Ground_are_over : Value}
  {f_Ground_are_sinks : Addr} {od_Ground_are_sinks an_Ground_are_sinks : Option Addr} {sl_Ground_are_sinks : Array (Option Value)} {oc_Ground_are_sinks kV_Ground_are_sinks dc_Ground_are_sinks pm_Ground_are_sinks cd_Ground_are_sinks ct_Ground_are_sinks : Value}
  {f_rises : Addr} {od_rises an_rises : Option Addr} {sl_rises : Array (Option Value)} {oc_rises kV_rises dc_rises pm_rises cd_rises ct_rises : Value}
  {f_are_tuples : Addr} {od_are_tuples an_are_tuples : Option Addr} {sl_are_tuples : Array (Option Value)} {oc_are_tuples kV_are_tuples dc_are_tuples pm_are_tuples cd_are_tuples ct_are_tuples : Value}
  {f_is_serve : Addr} {od_is_serve an_is_serve : Option Addr} {sl_is_serve : Array (Option Value)} {oc_is_serve kV_is_serve dc_is_serve pm_is_serve cd_is_serve ct_is_serve : Value}
  {f_is_move : Addr} {od_is_move an_is_move : Option Addr} {sl_is_move : Array (Option Value)} {oc_is_move kV_is_move dc_is_move pm_is_move cd_is_move ct_is_move : Value}
  {f_is_out : Addr} {od_is_out an_is_out : Option Addr} {sl_is_out : Array (Option Value)} {oc_is_out kV_is_out dc_is_out pm_is_out cd_is_out ct_is_out : Value}
  {f_is_ask : Addr} {od_is_ask an_is_ask : Option Addr} {sl_is_ask : Array (Option Value)} {oc_is_ask kV_is_ask dc_is_ask pm_is_ask cd_is_ask ct_is_ask : Value}
  {f_is_done : Addr} {od_is_done an_is_done : Option Addr} {sl_is_done : Array (Option Value)} {oc_is_done kV_is_done dc_is_done pm_is_done cd_is_done ct_is_done : Value}
  {f_is_step : Addr} {od_is_step an_is_step : Option Addr} {sl_is_step : Array (Option Value)} {oc_is_step kV_is_step dc_is_step pm_is_step cd_is_step ct_is_step : Value}
  {f_goals_of : Addr} {od_goals_of an_goals_of : Option Addr} {sl_goals_of : Array (Option Value)} {oc_goals_of kV_goals_of dc_goals_of pm_goals_of cd_goals_of ct_goals_of : Value}
  {f_has_idle_round : Addr} {od_has_idle_round an_has_idle_round : Option Addr} {sl_has_idle_round : Array (Option Value)} {oc_has_idle_round kV_has_idle_round dc_has_idle_round pm_has_idle_round cd_has_idle_round ct_has_idle_round : Value}
  {f_need_flow : Addr} {od_need_flow an_need_flow : Option Addr} {sl_need_flow : Array (Option Value)} {oc_need_flow kV_need_flow dc_need_flow pm_need_flow cd_need_flow ct_need_flow : Value}
  {f_Flow___init__ : Addr} {od_Flow___init__ an_Flow___init__ : Option Addr} {sl_Flow___init__ : Array (Option Value)} {oc_Flow___init__ kV_Flow___init__ dc_Flow___init__ pm_Flow___init__ cd_Flow___init__ ct_Flow___init__ : Value}
  {f_Flow_places : Addr} {od_Flow_places an_Flow_places : Option Addr} {sl_Flow_places : Array (Option Value)} {oc_Flow_places kV_Flow_places dc_Flow_places pm_Flow_places cd_Flow_places ct_Flow_places : Value}
  {f_Flow_steps : Addr} {od_Flow_steps an_Flow_steps : Option Addr} {sl_Flow_steps : Array (Option Value)} {oc_Flow_steps kV_Flow_steps dc_Flow_steps pm_Flow_steps cd_Flow_steps ct_Flow_steps : Value}
  {f_Flow_prime : Addr} {od_Flow_prime an_Flow_prime : Option Addr} {sl_Flow_prime : Array (Option Value)} {oc_Flow_prime kV_Flow_prime dc_Flow_prime pm_Flow_prime cd_Flow_prime ct_Flow_prime : Value}
  {f_Flow_deeds : Addr} {od_Flow_deeds an_Flow_deeds : Option Addr} {sl_Flow_deeds : Array (Option Value)} {oc_Flow_deeds kV_Flow_deeds dc_Flow_deeds pm_Flow_deeds cd_Flow_deeds ct_Flow_deeds : Value}
  {f_Flow___len__ : Addr} {od_Flow___len__ an_Flow___len__ : Option Addr} {sl_Flow___len__ : Array (Option Value)} {oc_Flow___len__ kV_Flow___len__ dc_Flow___len__ pm_Flow___len__ cd_Flow___len__ ct_Flow___len__ : Value}
  {f_asks_of : Addr} {od_asks_of an_asks_of : Option Addr} {sl_asks_of : Array (Option Value)} {oc_asks_of kV_asks_of dc_asks_of pm_asks_of cd_asks_of ct_asks_of : Value}
  {f_called_so : Addr} {od_called_so an_called_so : Option Addr} {sl_called_so : Array (Option Value)} {oc_called_so kV_called_so dc_called_so pm_called_so cd_called_so ct_called_so : Value}
  {f_form_called : Addr} {od_form_called an_form_called : Option Addr} {sl_form_called : Array (Option Value)} {oc_form_called kV_form_called dc_form_called pm_form_called cd_form_called ct_form_called : Value}
  {f_Copy___init__ : Addr} {od_Copy___init__ an_Copy___init__ : Option Addr} {sl_Copy___init__ : Array (Option Value)} {oc_Copy___init__ kV_Copy___init__ dc_Copy___init__ pm_Copy___init__ cd_Copy___init__ ct_Copy___init__ : Value}
  {f_Copy_number_of : Addr} {od_Copy_number_of an_Copy_number_of : Option Addr} {sl_Copy_number_of : Array (Option Value)} {oc_Copy_number_of kV_Copy_number_of dc_Copy_number_of pm_Copy_number_of cd_Copy_number_of ct_Copy_number_of : Value}
  {f_Copy_renamed : Addr} {od_Copy_renamed an_Copy_renamed : Option Addr} {sl_Copy_renamed : Array (Option Value)} {oc_Copy_renamed kV_Copy_renamed dc_Copy_renamed pm_Copy_renamed cd_Copy_renamed ct_Copy_renamed : Value}
  {f_Copy_form : Addr} {od_Copy_form an_Copy_form : Option Addr} {sl_Copy_form : Array (Option Value)} {oc_Copy_form kV_Copy_form dc_Copy_form pm_Copy_form cd_Copy_form ct_Copy_form : Value}
  {f_Copy_begun : Addr} {od_Copy_begun an_Copy_begun : Option Addr} {sl_Copy_begun : Array (Option Value)} {oc_Copy_begun kV_Copy_begun dc_Copy_begun pm_Copy_begun cd_Copy_begun ct_Copy_begun : Value}
  {f_Copy_ended : Addr} {od_Copy_ended an_Copy_ended : Option Addr} {sl_Copy_ended : Array (Option Value)} {oc_Copy_ended kV_Copy_ended dc_Copy_ended pm_Copy_ended cd_Copy_ended ct_Copy_ended : Value}
  {f_Copy_led : Addr} {od_Copy_led an_Copy_led : Option Addr} {sl_Copy_led : Array (Option Value)} {oc_Copy_led kV_Copy_led dc_Copy_led pm_Copy_led cd_Copy_led ct_Copy_led : Value}
  {f_copies_of : Addr} {od_copies_of an_copies_of : Option Addr} {sl_copies_of : Array (Option Value)} {oc_copies_of kV_copies_of dc_copies_of pm_copies_of cd_copies_of ct_copies_of : Value}
  {f_need_linked : Addr} {od_need_linked an_need_linked : Option Addr} {sl_need_linked : Array (Option Value)} {oc_need_linked kV_need_linked dc_need_linked pm_need_linked cd_need_linked ct_need_linked : Value}
  {f_linked : Addr} {od_linked an_linked : Option Addr} {sl_linked : Array (Option Value)} {oc_linked kV_linked dc_linked pm_linked cd_linked ct_linked : Value}
  {f__law_begun : Addr} {od__law_begun an__law_begun : Option Addr} {sl__law_begun : Array (Option Value)} {oc__law_begun kV__law_begun dc__law_begun pm__law_begun cd__law_begun ct__law_begun : Value}
  {f__law_draw : Addr} {od__law_draw an__law_draw : Option Addr} {sl__law_draw : Array (Option Value)} {oc__law_draw kV__law_draw dc__law_draw pm__law_draw cd__law_draw ct__law_draw : Value}
  {f__law_pick : Addr} {od__law_pick an__law_pick : Option Addr} {sl__law_pick : Array (Option Value)} {oc__law_pick kV__law_pick dc__law_pick pm__law_pick cd__law_pick ct__law_pick : Value}
  {f__law_asker : Addr} {od__law_asker an__law_asker : Option Addr} {sl__law_asker : Array (Option Value)} {oc__law_asker kV__law_asker dc__law_asker pm__law_asker cd__law_asker ct__law_asker : Value}
  {f__law_server : Addr} {od__law_server an__law_server : Option Addr} {sl__law_server : Array (Option Value)} {oc__law_server kV__law_server dc__law_server pm__law_server cd__law_server ct__law_server : Value}
  {f__law_places_of : Addr} {od__law_places_of an__law_places_of : Option Addr} {sl__law_places_of : Array (Option Value)} {oc__law_places_of kV__law_places_of dc__law_places_of pm__law_places_of cd__law_places_of ct__law_places_of : Value}
  {f__law_how_refused : Addr} {od__law_how_refused an__law_how_refused : Option Addr} {sl__law_how_refused : Array (Option Value)} {oc__law_how_refused kV__law_how_refused dc__law_how_refused pm__law_how_refused cd__law_how_refused ct__law_how_refused : Value}
  {f__law_how_due : Addr} {od__law_how_due an__law_how_due : Option Addr} {sl__law_how_due : Array (Option Value)} {oc__law_how_due kV__law_how_due dc__law_how_due pm__law_how_due cd__law_how_due ct__law_how_due : Value}
  {f__law_long_ones : Addr} {od__law_long_ones an__law_long_ones : Option Addr} {sl__law_long_ones : Array (Option Value)} {oc__law_long_ones kV__law_long_ones dc__law_long_ones pm__law_long_ones cd__law_long_ones ct__law_long_ones : Value}
  {f_law : Addr} {od_law an_law : Option Addr} {sl_law : Array (Option Value)} {oc_law kV_law dc_law pm_law cd_law ct_law : Value}
  {t_PRIME : Tok}
  {t_MOST_PRIME : Tok}
  {t_MOST_NAME : Tok}
  {t_MOST_PLACE : Tok}
  {t_LETTERS : Tok}
  {t_FIGURES : Tok}
  {t_MOST_PLACES_flows : Tok}
  {t_MOST_STEPS_flows : Tok}
  {t_MOST_WAYS : Tok}
  {t_MOST_COMING : Tok}
  {t_NOWHERE : Tok}
  {r_BREAKS : Addr} {dd_BREAKS : Option Addr} {n_BREAKS : Nat} {sl_BREAKS : Array (Option Value)}
  {t_BREAKS_0 : Tok}
  {t_BREAKS_1 : Tok}
  {t_BREAKS_2 : Tok}
  {t_MOVE : Tok}
  {t_MOST_PLACES_linking : Tok}
  {t_MOST_SIGNS : Tok}
  {t_MOST_STEPS_linking : Tok}
  {C_TraceError : Addr}
  {C_NoFlow : Addr}
  {C_NoUnit : Addr}
  {C_NoLetter : Addr}
  {C_TooLong : Addr}
  {C_TooMany : Addr}
  {C_NoPair : Addr}
  {od_T odn_T : Option Addr} {oc_T ocn_T : Value} {cd_T : ClassData} {sl_T sln_T : Array (Option Value)} {es_T : Array DictEntry} {nn_T : Nat}
  {od_NoPair odn_NoPair : Option Addr} {ocn_NoPair : Value} {sln_NoPair : Array (Option Value)} {es_NoPair : Array DictEntry} {nn_NoPair : Nat} {nm_NoPair qn_NoPair : Str} {bs_NoPair sub_NoPair : List Value} {N_NoPair : Addr} {hdd_NoPair ab_NoPair : Bool} {sn_NoPair : List Str} {col_NoPair : Option Bool} {m0_NoPair m1_NoPair m2_NoPair m3_NoPair m5_NoPair : Option Value}
  {od_TooMany odn_TooMany : Option Addr} {ocn_TooMany : Value} {sln_TooMany : Array (Option Value)} {es_TooMany : Array DictEntry} {nn_TooMany : Nat} {nm_TooMany qn_TooMany : Str} {bs_TooMany sub_TooMany : List Value} {N_TooMany : Addr} {hdd_TooMany ab_TooMany : Bool} {sn_TooMany : List Str} {col_TooMany : Option Bool} {m0_TooMany m1_TooMany m2_TooMany m3_TooMany m5_TooMany : Option Value}
  {r_SORTS : Addr} {es_SORTS : Array DictEntry} {n_SORTS : Nat}
  {p_serve : Addr} {dd_serve : Option Addr} {t_serve : Tok} {n_serve : Nat} {slp_serve : Array (Option Value)}
  {p_move : Addr} {dd_move : Option Addr} {t_move : Tok} {n_move : Nat} {slp_move : Array (Option Value)}
  {p_out : Addr} {dd_out : Option Addr} {t_out : Tok} {n_out : Nat} {slp_out : Array (Option Value)}
  {p_ask : Addr} {dd_ask : Option Addr} {t_ask : Tok} {n_ask : Nat} {slp_ask : Array (Option Value)}
  {p_done : Addr} {dd_done : Option Addr} {t_done : Tok} {n_done : Nat} {slp_done : Array (Option Value)}
  (aC_Ground : PySem.W.nsIn K mainGlobals "Ground" = some (some (.ref C_Ground)))
  (aC_Flow : PySem.W.nsIn K mainGlobals "Flow" = some (some (.ref C_Flow)))
  (aC_Copy : PySem.W.nsIn K mainGlobals "Copy" = some (some (.ref C_Copy)))
  (a_is_whole : PySem.W.nsIn K mainGlobals "is_whole" = some (some (.ref f_is_whole)))
  (l_is_whole : K.lookup f_is_whole = some ⟨oc_is_whole, od_is_whole, .func (PySem.W.fnOf "is_whole" "is_whole" (defArgs s_is_whole) (defBody s_is_whole) (defScope s_is_whole) .none kV_is_whole dc_is_whole pm_is_whole an_is_whole cd_is_whole ct_is_whole), sl_is_whole⟩)
  (c_is_whole : PySem.W.codeIn K cd_is_whole "is_whole" = true)
  (k_is_whole : PySem.W.keepIn K (.ref f_is_whole) = true)
  (a_is_prime : PySem.W.nsIn K mainGlobals "is_prime" = some (some (.ref f_is_prime)))
  (l_is_prime : K.lookup f_is_prime = some ⟨oc_is_prime, od_is_prime, .func (PySem.W.fnOf "is_prime" "is_prime" (defArgs s_is_prime) (defBody s_is_prime) (defScope s_is_prime) .none kV_is_prime dc_is_prime pm_is_prime an_is_prime cd_is_prime ct_is_prime), sl_is_prime⟩)
  (c_is_prime : PySem.W.codeIn K cd_is_prime "is_prime" = true)
  (k_is_prime : PySem.W.keepIn K (.ref f_is_prime) = true)
  (a_is_number : PySem.W.nsIn K mainGlobals "is_number" = some (some (.ref f_is_number)))
  (l_is_number : K.lookup f_is_number = some ⟨oc_is_number, od_is_number, .func (PySem.W.fnOf "is_number" "is_number" (defArgs s_is_number) (defBody s_is_number) (defScope s_is_number) .none kV_is_number dc_is_number pm_is_number an_is_number cd_is_number ct_is_number), sl_is_number⟩)
  (c_is_number : PySem.W.codeIn K cd_is_number "is_number" = true)
  (k_is_number : PySem.W.keepIn K (.ref f_is_number) = true)
  (a_is_name : PySem.W.nsIn K mainGlobals "is_name" = some (some (.ref f_is_name)))
  (l_is_name : K.lookup f_is_name = some ⟨oc_is_name, od_is_name, .func (PySem.W.fnOf "is_name" "is_name" (defArgs s_is_name) (defBody s_is_name) (defScope s_is_name) .none kV_is_name dc_is_name pm_is_name an_is_name cd_is_name ct_is_name), sl_is_name⟩)
  (c_is_name : PySem.W.codeIn K cd_is_name "is_name" = true)
  (k_is_name : PySem.W.keepIn K (.ref f_is_name) = true)
  (a_is_place : PySem.W.nsIn K mainGlobals "is_place" = some (some (.ref f_is_place)))
  (l_is_place : K.lookup f_is_place = some ⟨oc_is_place, od_is_place, .func (PySem.W.fnOf "is_place" "is_place" (defArgs s_is_place) (defBody s_is_place) (defScope s_is_place) .none kV_is_place dc_is_place pm_is_place an_is_place cd_is_place ct_is_place), sl_is_place⟩)
  (c_is_place : PySem.W.codeIn K cd_is_place "is_place" = true)
  (k_is_place : PySem.W.keepIn K (.ref f_is_place) = true)
  (a_is_form : PySem.W.nsIn K mainGlobals "is_form" = some (some (.ref f_is_form)))
  (l_is_form : K.lookup f_is_form = some ⟨oc_is_form, od_is_form, .func (PySem.W.fnOf "is_form" "is_form" (defArgs s_is_form) (defBody s_is_form) (defScope s_is_form) .none kV_is_form dc_is_form pm_is_form an_is_form cd_is_form ct_is_form), sl_is_form⟩)
  (c_is_form : PySem.W.codeIn K cd_is_form "is_form" = true)
  (k_is_form : PySem.W.keepIn K (.ref f_is_form) = true)
  (a_places_in : PySem.W.nsIn K mainGlobals "places_in" = some (some (.ref f_places_in)))
  (l_places_in : K.lookup f_places_in = some ⟨oc_places_in, od_places_in, .func (PySem.W.fnOf "places_in" "places_in" (defArgs s_places_in) (defBody s_places_in) (defScope s_places_in) .none kV_places_in dc_places_in pm_places_in an_places_in cd_places_in ct_places_in), sl_places_in⟩)
  (c_places_in : PySem.W.codeIn K cd_places_in "places_in" = true)
  (k_places_in : PySem.W.keepIn K (.ref f_places_in) = true)
  (a_Ground___init__ : PySem.W.findIn K (.ref C_Ground) "__init__" = some (some (.ref f_Ground___init__)))
  (i_Ground___init__ : PySem.W.isFn K (.ref f_Ground___init__) = true)
  (l_Ground___init__ : K.lookup f_Ground___init__ = some ⟨oc_Ground___init__, od_Ground___init__, .func (PySem.W.fnOf "__init__" "Ground.__init__" (defArgs s_Ground___init__) (defBody s_Ground___init__) (defScope s_Ground___init__) .none kV_Ground___init__ dc_Ground___init__ pm_Ground___init__ an_Ground___init__ cd_Ground___init__ ct_Ground___init__), sl_Ground___init__⟩)
  (c_Ground___init__ : PySem.W.codeIn K cd_Ground___init__ "Ground.__init__" = true)
  (k_Ground___init__ : PySem.W.keepIn K (.ref f_Ground___init__) = true)
  (a_Ground_is_goal : PySem.W.findIn K (.ref C_Ground) "is_goal" = some (some (.ref f_Ground_is_goal)))
  (i_Ground_is_goal : PySem.W.isFn K (.ref f_Ground_is_goal) = true)
  (l_Ground_is_goal : K.lookup f_Ground_is_goal = some ⟨oc_Ground_is_goal, od_Ground_is_goal, .func (PySem.W.fnOf "is_goal" "Ground.is_goal" (defArgs s_Ground_is_goal) (defBody s_Ground_is_goal) (defScope s_Ground_is_goal) .none kV_Ground_is_goal dc_Ground_is_goal pm_Ground_is_goal an_Ground_is_goal cd_Ground_is_goal ct_Ground_is_goal), sl_Ground_is_goal⟩)
  (c_Ground_is_goal : PySem.W.codeIn K cd_Ground_is_goal "Ground.is_goal" = true)
  (k_Ground_is_goal : PySem.W.keepIn K (.ref f_Ground_is_goal) = true)
  (a_Ground_is_sink : PySem.W.findIn K (.ref C_Ground) "is_sink" = some (some (.ref f_Ground_is_sink)))
  (i_Ground_is_sink : PySem.W.isFn K (.ref f_Ground_is_sink) = true)
  (l_Ground_is_sink : K.lookup f_Ground_is_sink = some ⟨oc_Ground_is_sink, od_Ground_is_sink, .func (PySem.W.fnOf "is_sink" "Ground.is_sink" (defArgs s_Ground_is_sink) (defBody s_Ground_is_sink) (defScope s_Ground_is_sink) .none kV_Ground_is_sink dc_Ground_is_sink pm_Ground_is_sink an_Ground_is_sink cd_Ground_is_sink ct_Ground_is_sink), sl_Ground_is_sink⟩)
  (c_Ground_is_sink : PySem.W.codeIn K cd_Ground_is_sink "Ground.is_sink" = true)
  (k_Ground_is_sink : PySem.W.keepIn K (.ref f_Ground_is_sink) = true)
  (a_Ground_is_over : PySem.W.findIn K (.ref C_Ground) "is_over" = some (some (.ref f_Ground_is_over)))
  (i_Ground_is_over : PySem.W.isFn K (.ref f_Ground_is_over) = true)
  (l_Ground_is_over : K.lookup f_Ground_is_over = some ⟨oc_Ground_is_over, od_Ground_is_over, .func (PySem.W.fnOf "is_over" "Ground.is_over" (defArgs s_Ground_is_over) (defBody s_Ground_is_over) (defScope s_Ground_is_over) .none kV_Ground_is_over dc_Ground_is_over pm_Ground_is_over an_Ground_is_over cd_Ground_is_over ct_Ground_is_over), sl_Ground_is_over⟩)
  (c_Ground_is_over : PySem.W.codeIn K cd_Ground_is_over "Ground.is_over" = true)
  (k_Ground_is_over : PySem.W.keepIn K (.ref f_Ground_is_over) = true)
  (a_Ground_are_over : PySem.W.findIn K (.ref C_Ground) "are_over" = some (some (.ref f_Ground_are_over)))
  (i_Ground_are_over : PySem.W.isFn K (.ref f_Ground_are_over) = true)
  (l_Ground_are_over : K.lookup f_Ground_are_over = some ⟨oc_Ground_are_over, od_Ground_are_over, .func (PySem.W.fnOf "are_over" "Ground.are_over" (defArgs s_Ground_are_over) (defBody s_Ground_are_over) (defScope s_Ground_are_over) .none kV_Ground_are_over dc_Ground_are_over pm_Ground_are_over an_Ground_are_over cd_Ground_are_over ct_Ground_are_over), sl_Ground_are_over⟩)
  (c_Ground_are_over : PySem.W.codeIn K cd_Ground_are_over "Ground.are_over" = true)
  (k_Ground_are_over : PySem.W.keepIn K (.ref f_Ground_are_over) = true)
  (a_Ground_are_sinks : PySem.W.findIn K (.ref C_Ground) "are_sinks" = some (some (.ref f_Ground_are_sinks)))
  (i_Ground_are_sinks : PySem.W.isFn K (.ref f_Ground_are_sinks) = true)
  (l_Ground_are_sinks : K.lookup f_Ground_are_sinks = some ⟨oc_Ground_are_sinks, od_Ground_are_sinks, .func (PySem.W.fnOf "are_sinks" "Ground.are_sinks" (defArgs s_Ground_are_sinks) (defBody s_Ground_are_sinks) (defScope s_Ground_are_sinks) .none kV_Ground_are_sinks dc_Ground_are_sinks pm_Ground_are_sinks an_Ground_are_sinks cd_Ground_are_sinks ct_Ground_are_sinks), sl_Ground_are_sinks⟩)
  (c_Ground_are_sinks : PySem.W.codeIn K cd_Ground_are_sinks "Ground.are_sinks" = true)
  (k_Ground_are_sinks : PySem.W.keepIn K (.ref f_Ground_are_sinks) = true)
  (a_rises : PySem.W.nsIn K mainGlobals "rises" = some (some (.ref f_rises)))
  (l_rises : K.lookup f_rises = some ⟨oc_rises, od_rises, .func (PySem.W.fnOf "rises" "rises" (defArgs s_rises) (defBody s_rises) (defScope s_rises) .none kV_rises dc_rises pm_rises an_rises cd_rises ct_rises), sl_rises⟩)
  (c_rises : PySem.W.codeIn K cd_rises "rises" = true)
  (k_rises : PySem.W.keepIn K (.ref f_rises) = true)
  (a_are_tuples : PySem.W.nsIn K mainGlobals "are_tuples" = some (some (.ref f_are_tuples)))
  (l_are_tuples : K.lookup f_are_tuples = some ⟨oc_are_tuples, od_are_tuples, .func (PySem.W.fnOf "are_tuples" "are_tuples" (defArgs s_are_tuples) (defBody s_are_tuples) (defScope s_are_tuples) .none kV_are_tuples dc_are_tuples pm_are_tuples an_are_tuples cd_are_tuples ct_are_tuples), sl_are_tuples⟩)
  (c_are_tuples : PySem.W.codeIn K cd_are_tuples "are_tuples" = true)
  (k_are_tuples : PySem.W.keepIn K (.ref f_are_tuples) = true)
  (a_is_serve : PySem.W.nsIn K mainGlobals "is_serve" = some (some (.ref f_is_serve)))
  (l_is_serve : K.lookup f_is_serve = some ⟨oc_is_serve, od_is_serve, .func (PySem.W.fnOf "is_serve" "is_serve" (defArgs s_is_serve) (defBody s_is_serve) (defScope s_is_serve) .none kV_is_serve dc_is_serve pm_is_serve an_is_serve cd_is_serve ct_is_serve), sl_is_serve⟩)
  (c_is_serve : PySem.W.codeIn K cd_is_serve "is_serve" = true)
  (k_is_serve : PySem.W.keepIn K (.ref f_is_serve) = true)
  (a_is_move : PySem.W.nsIn K mainGlobals "is_move" = some (some (.ref f_is_move)))
  (l_is_move : K.lookup f_is_move = some ⟨oc_is_move, od_is_move, .func (PySem.W.fnOf "is_move" "is_move" (defArgs s_is_move) (defBody s_is_move) (defScope s_is_move) .none kV_is_move dc_is_move pm_is_move an_is_move cd_is_move ct_is_move), sl_is_move⟩)
  (c_is_move : PySem.W.codeIn K cd_is_move "is_move" = true)
  (k_is_move : PySem.W.keepIn K (.ref f_is_move) = true)
  (a_is_out : PySem.W.nsIn K mainGlobals "is_out" = some (some (.ref f_is_out)))
  (l_is_out : K.lookup f_is_out = some ⟨oc_is_out, od_is_out, .func (PySem.W.fnOf "is_out" "is_out" (defArgs s_is_out) (defBody s_is_out) (defScope s_is_out) .none kV_is_out dc_is_out pm_is_out an_is_out cd_is_out ct_is_out), sl_is_out⟩)
  (c_is_out : PySem.W.codeIn K cd_is_out "is_out" = true)
  (k_is_out : PySem.W.keepIn K (.ref f_is_out) = true)
  (a_is_ask : PySem.W.nsIn K mainGlobals "is_ask" = some (some (.ref f_is_ask)))
  (l_is_ask : K.lookup f_is_ask = some ⟨oc_is_ask, od_is_ask, .func (PySem.W.fnOf "is_ask" "is_ask" (defArgs s_is_ask) (defBody s_is_ask) (defScope s_is_ask) .none kV_is_ask dc_is_ask pm_is_ask an_is_ask cd_is_ask ct_is_ask), sl_is_ask⟩)
  (c_is_ask : PySem.W.codeIn K cd_is_ask "is_ask" = true)
  (k_is_ask : PySem.W.keepIn K (.ref f_is_ask) = true)
  (a_is_done : PySem.W.nsIn K mainGlobals "is_done" = some (some (.ref f_is_done)))
  (l_is_done : K.lookup f_is_done = some ⟨oc_is_done, od_is_done, .func (PySem.W.fnOf "is_done" "is_done" (defArgs s_is_done) (defBody s_is_done) (defScope s_is_done) .none kV_is_done dc_is_done pm_is_done an_is_done cd_is_done ct_is_done), sl_is_done⟩)
  (c_is_done : PySem.W.codeIn K cd_is_done "is_done" = true)
  (k_is_done : PySem.W.keepIn K (.ref f_is_done) = true)
  (a_is_step : PySem.W.nsIn K mainGlobals "is_step" = some (some (.ref f_is_step)))
  (l_is_step : K.lookup f_is_step = some ⟨oc_is_step, od_is_step, .func (PySem.W.fnOf "is_step" "is_step" (defArgs s_is_step) (defBody s_is_step) (defScope s_is_step) .none kV_is_step dc_is_step pm_is_step an_is_step cd_is_step ct_is_step), sl_is_step⟩)
  (c_is_step : PySem.W.codeIn K cd_is_step "is_step" = true)
  (k_is_step : PySem.W.keepIn K (.ref f_is_step) = true)
  (a_goals_of : PySem.W.nsIn K mainGlobals "goals_of" = some (some (.ref f_goals_of)))
  (l_goals_of : K.lookup f_goals_of = some ⟨oc_goals_of, od_goals_of, .func (PySem.W.fnOf "goals_of" "goals_of" (defArgs s_goals_of) (defBody s_goals_of) (defScope s_goals_of) .none kV_goals_of dc_goals_of pm_goals_of an_goals_of cd_goals_of ct_goals_of), sl_goals_of⟩)
  (c_goals_of : PySem.W.codeIn K cd_goals_of "goals_of" = true)
  (k_goals_of : PySem.W.keepIn K (.ref f_goals_of) = true)
  (a_has_idle_round : PySem.W.nsIn K mainGlobals "has_idle_round" = some (some (.ref f_has_idle_round)))
  (l_has_idle_round : K.lookup f_has_idle_round = some ⟨oc_has_idle_round, od_has_idle_round, .func (PySem.W.fnOf "has_idle_round" "has_idle_round" (defArgs s_has_idle_round) (defBody s_has_idle_round) (defScope s_has_idle_round) .none kV_has_idle_round dc_has_idle_round pm_has_idle_round an_has_idle_round cd_has_idle_round ct_has_idle_round), sl_has_idle_round⟩)
  (c_has_idle_round : PySem.W.codeIn K cd_has_idle_round "has_idle_round" = true)
  (k_has_idle_round : PySem.W.keepIn K (.ref f_has_idle_round) = true)
  (a_need_flow : PySem.W.nsIn K mainGlobals "need_flow" = some (some (.ref f_need_flow)))
  (l_need_flow : K.lookup f_need_flow = some ⟨oc_need_flow, od_need_flow, .func (PySem.W.fnOf "need_flow" "need_flow" (defArgs s_need_flow) (defBody s_need_flow) (defScope s_need_flow) .none kV_need_flow dc_need_flow pm_need_flow an_need_flow cd_need_flow ct_need_flow), sl_need_flow⟩)
  (c_need_flow : PySem.W.codeIn K cd_need_flow "need_flow" = true)
  (k_need_flow : PySem.W.keepIn K (.ref f_need_flow) = true)
  (a_Flow___init__ : PySem.W.findIn K (.ref C_Flow) "__init__" = some (some (.ref f_Flow___init__)))
  (i_Flow___init__ : PySem.W.isFn K (.ref f_Flow___init__) = true)
  (l_Flow___init__ : K.lookup f_Flow___init__ = some ⟨oc_Flow___init__, od_Flow___init__, .func (PySem.W.fnOf "__init__" "Flow.__init__" (defArgs s_Flow___init__) (defBody s_Flow___init__) (defScope s_Flow___init__) .none kV_Flow___init__ dc_Flow___init__ pm_Flow___init__ an_Flow___init__ cd_Flow___init__ ct_Flow___init__), sl_Flow___init__⟩)
  (c_Flow___init__ : PySem.W.codeIn K cd_Flow___init__ "Flow.__init__" = true)
  (k_Flow___init__ : PySem.W.keepIn K (.ref f_Flow___init__) = true)
  (a_Flow_places : PySem.W.findIn K (.ref C_Flow) "places" = some (some (.ref f_Flow_places)))
  (i_Flow_places : PySem.W.isFn K (.ref f_Flow_places) = true)
  (l_Flow_places : K.lookup f_Flow_places = some ⟨oc_Flow_places, od_Flow_places, .func (PySem.W.fnOf "places" "Flow.places" (defArgs s_Flow_places) (defBody s_Flow_places) (defScope s_Flow_places) .none kV_Flow_places dc_Flow_places pm_Flow_places an_Flow_places cd_Flow_places ct_Flow_places), sl_Flow_places⟩)
  (c_Flow_places : PySem.W.codeIn K cd_Flow_places "Flow.places" = true)
  (k_Flow_places : PySem.W.keepIn K (.ref f_Flow_places) = true)
  (a_Flow_steps : PySem.W.findIn K (.ref C_Flow) "steps" = some (some (.ref f_Flow_steps)))
  (i_Flow_steps : PySem.W.isFn K (.ref f_Flow_steps) = true)
  (l_Flow_steps : K.lookup f_Flow_steps = some ⟨oc_Flow_steps, od_Flow_steps, .func (PySem.W.fnOf "steps" "Flow.steps" (defArgs s_Flow_steps) (defBody s_Flow_steps) (defScope s_Flow_steps) .none kV_Flow_steps dc_Flow_steps pm_Flow_steps an_Flow_steps cd_Flow_steps ct_Flow_steps), sl_Flow_steps⟩)
  (c_Flow_steps : PySem.W.codeIn K cd_Flow_steps "Flow.steps" = true)
  (k_Flow_steps : PySem.W.keepIn K (.ref f_Flow_steps) = true)
  (a_Flow_prime : PySem.W.findIn K (.ref C_Flow) "prime" = some (some (.ref f_Flow_prime)))
  (i_Flow_prime : PySem.W.isFn K (.ref f_Flow_prime) = true)
  (l_Flow_prime : K.lookup f_Flow_prime = some ⟨oc_Flow_prime, od_Flow_prime, .func (PySem.W.fnOf "prime" "Flow.prime" (defArgs s_Flow_prime) (defBody s_Flow_prime) (defScope s_Flow_prime) .none kV_Flow_prime dc_Flow_prime pm_Flow_prime an_Flow_prime cd_Flow_prime ct_Flow_prime), sl_Flow_prime⟩)
  (c_Flow_prime : PySem.W.codeIn K cd_Flow_prime "Flow.prime" = true)
  (k_Flow_prime : PySem.W.keepIn K (.ref f_Flow_prime) = true)
  (a_Flow_deeds : PySem.W.findIn K (.ref C_Flow) "deeds" = some (some (.ref f_Flow_deeds)))
  (i_Flow_deeds : PySem.W.isFn K (.ref f_Flow_deeds) = true)
  (l_Flow_deeds : K.lookup f_Flow_deeds = some ⟨oc_Flow_deeds, od_Flow_deeds, .func (PySem.W.fnOf "deeds" "Flow.deeds" (defArgs s_Flow_deeds) (defBody s_Flow_deeds) (defScope s_Flow_deeds) .none kV_Flow_deeds dc_Flow_deeds pm_Flow_deeds an_Flow_deeds cd_Flow_deeds ct_Flow_deeds), sl_Flow_deeds⟩)
  (c_Flow_deeds : PySem.W.codeIn K cd_Flow_deeds "Flow.deeds" = true)
  (k_Flow_deeds : PySem.W.keepIn K (.ref f_Flow_deeds) = true)
  (a_Flow___len__ : PySem.W.findIn K (.ref C_Flow) "__len__" = some (some (.ref f_Flow___len__)))
  (i_Flow___len__ : PySem.W.isFn K (.ref f_Flow___len__) = true)
  (l_Flow___len__ : K.lookup f_Flow___len__ = some ⟨oc_Flow___len__, od_Flow___len__, .func (PySem.W.fnOf "__len__" "Flow.__len__" (defArgs s_Flow___len__) (defBody s_Flow___len__) (defScope s_Flow___len__) .none kV_Flow___len__ dc_Flow___len__ pm_Flow___len__ an_Flow___len__ cd_Flow___len__ ct_Flow___len__), sl_Flow___len__⟩)
  (c_Flow___len__ : PySem.W.codeIn K cd_Flow___len__ "Flow.__len__" = true)
  (k_Flow___len__ : PySem.W.keepIn K (.ref f_Flow___len__) = true)
  (a_asks_of : PySem.W.nsIn K mainGlobals "asks_of" = some (some (.ref f_asks_of)))
  (l_asks_of : K.lookup f_asks_of = some ⟨oc_asks_of, od_asks_of, .func (PySem.W.fnOf "asks_of" "asks_of" (defArgs s_asks_of) (defBody s_asks_of) (defScope s_asks_of) .none kV_asks_of dc_asks_of pm_asks_of an_asks_of cd_asks_of ct_asks_of), sl_asks_of⟩)
  (c_asks_of : PySem.W.codeIn K cd_asks_of "asks_of" = true)
  (k_asks_of : PySem.W.keepIn K (.ref f_asks_of) = true)
  (a_called_so : PySem.W.nsIn K mainGlobals "called_so" = some (some (.ref f_called_so)))
  (l_called_so : K.lookup f_called_so = some ⟨oc_called_so, od_called_so, .func (PySem.W.fnOf "called_so" "called_so" (defArgs s_called_so) (defBody s_called_so) (defScope s_called_so) .none kV_called_so dc_called_so pm_called_so an_called_so cd_called_so ct_called_so), sl_called_so⟩)
  (c_called_so : PySem.W.codeIn K cd_called_so "called_so" = true)
  (k_called_so : PySem.W.keepIn K (.ref f_called_so) = true)
  (a_form_called : PySem.W.nsIn K mainGlobals "form_called" = some (some (.ref f_form_called)))
  (l_form_called : K.lookup f_form_called = some ⟨oc_form_called, od_form_called, .func (PySem.W.fnOf "form_called" "form_called" (defArgs s_form_called) (defBody s_form_called) (defScope s_form_called) .none kV_form_called dc_form_called pm_form_called an_form_called cd_form_called ct_form_called), sl_form_called⟩)
  (c_form_called : PySem.W.codeIn K cd_form_called "form_called" = true)
  (k_form_called : PySem.W.keepIn K (.ref f_form_called) = true)
  (a_Copy___init__ : PySem.W.findIn K (.ref C_Copy) "__init__" = some (some (.ref f_Copy___init__)))
  (i_Copy___init__ : PySem.W.isFn K (.ref f_Copy___init__) = true)
  (l_Copy___init__ : K.lookup f_Copy___init__ = some ⟨oc_Copy___init__, od_Copy___init__, .func (PySem.W.fnOf "__init__" "Copy.__init__" (defArgs s_Copy___init__) (defBody s_Copy___init__) (defScope s_Copy___init__) .none kV_Copy___init__ dc_Copy___init__ pm_Copy___init__ an_Copy___init__ cd_Copy___init__ ct_Copy___init__), sl_Copy___init__⟩)
  (c_Copy___init__ : PySem.W.codeIn K cd_Copy___init__ "Copy.__init__" = true)
  (k_Copy___init__ : PySem.W.keepIn K (.ref f_Copy___init__) = true)
  (a_Copy_number_of : PySem.W.findIn K (.ref C_Copy) "number_of" = some (some (.ref f_Copy_number_of)))
  (i_Copy_number_of : PySem.W.isFn K (.ref f_Copy_number_of) = true)
  (l_Copy_number_of : K.lookup f_Copy_number_of = some ⟨oc_Copy_number_of, od_Copy_number_of, .func (PySem.W.fnOf "number_of" "Copy.number_of" (defArgs s_Copy_number_of) (defBody s_Copy_number_of) (defScope s_Copy_number_of) .none kV_Copy_number_of dc_Copy_number_of pm_Copy_number_of an_Copy_number_of cd_Copy_number_of ct_Copy_number_of), sl_Copy_number_of⟩)
  (c_Copy_number_of : PySem.W.codeIn K cd_Copy_number_of "Copy.number_of" = true)
  (k_Copy_number_of : PySem.W.keepIn K (.ref f_Copy_number_of) = true)
  (a_Copy_renamed : PySem.W.findIn K (.ref C_Copy) "renamed" = some (some (.ref f_Copy_renamed)))
  (i_Copy_renamed : PySem.W.isFn K (.ref f_Copy_renamed) = true)
  (l_Copy_renamed : K.lookup f_Copy_renamed = some ⟨oc_Copy_renamed, od_Copy_renamed, .func (PySem.W.fnOf "renamed" "Copy.renamed" (defArgs s_Copy_renamed) (defBody s_Copy_renamed) (defScope s_Copy_renamed) .none kV_Copy_renamed dc_Copy_renamed pm_Copy_renamed an_Copy_renamed cd_Copy_renamed ct_Copy_renamed), sl_Copy_renamed⟩)
  (c_Copy_renamed : PySem.W.codeIn K cd_Copy_renamed "Copy.renamed" = true)
  (k_Copy_renamed : PySem.W.keepIn K (.ref f_Copy_renamed) = true)
  (a_Copy_form : PySem.W.findIn K (.ref C_Copy) "form" = some (some (.ref f_Copy_form)))
  (i_Copy_form : PySem.W.isFn K (.ref f_Copy_form) = true)
  (l_Copy_form : K.lookup f_Copy_form = some ⟨oc_Copy_form, od_Copy_form, .func (PySem.W.fnOf "form" "Copy.form" (defArgs s_Copy_form) (defBody s_Copy_form) (defScope s_Copy_form) .none kV_Copy_form dc_Copy_form pm_Copy_form an_Copy_form cd_Copy_form ct_Copy_form), sl_Copy_form⟩)
  (c_Copy_form : PySem.W.codeIn K cd_Copy_form "Copy.form" = true)
  (k_Copy_form : PySem.W.keepIn K (.ref f_Copy_form) = true)
  (a_Copy_begun : PySem.W.findIn K (.ref C_Copy) "begun" = some (some (.ref f_Copy_begun)))
  (i_Copy_begun : PySem.W.isFn K (.ref f_Copy_begun) = true)
  (l_Copy_begun : K.lookup f_Copy_begun = some ⟨oc_Copy_begun, od_Copy_begun, .func (PySem.W.fnOf "begun" "Copy.begun" (defArgs s_Copy_begun) (defBody s_Copy_begun) (defScope s_Copy_begun) .none kV_Copy_begun dc_Copy_begun pm_Copy_begun an_Copy_begun cd_Copy_begun ct_Copy_begun), sl_Copy_begun⟩)
  (c_Copy_begun : PySem.W.codeIn K cd_Copy_begun "Copy.begun" = true)
  (k_Copy_begun : PySem.W.keepIn K (.ref f_Copy_begun) = true)
  (a_Copy_ended : PySem.W.findIn K (.ref C_Copy) "ended" = some (some (.ref f_Copy_ended)))
  (i_Copy_ended : PySem.W.isFn K (.ref f_Copy_ended) = true)
  (l_Copy_ended : K.lookup f_Copy_ended = some ⟨oc_Copy_ended, od_Copy_ended, .func (PySem.W.fnOf "ended" "Copy.ended" (defArgs s_Copy_ended) (defBody s_Copy_ended) (defScope s_Copy_ended) .none kV_Copy_ended dc_Copy_ended pm_Copy_ended an_Copy_ended cd_Copy_ended ct_Copy_ended), sl_Copy_ended⟩)
  (c_Copy_ended : PySem.W.codeIn K cd_Copy_ended "Copy.ended" = true)
  (k_Copy_ended : PySem.W.keepIn K (.ref f_Copy_ended) = true)
  (a_Copy_led : PySem.W.findIn K (.ref C_Copy) "led" = some (some (.ref f_Copy_led)))
  (i_Copy_led : PySem.W.isFn K (.ref f_Copy_led) = true)
  (l_Copy_led : K.lookup f_Copy_led = some ⟨oc_Copy_led, od_Copy_led, .func (PySem.W.fnOf "led" "Copy.led" (defArgs s_Copy_led) (defBody s_Copy_led) (defScope s_Copy_led) .none kV_Copy_led dc_Copy_led pm_Copy_led an_Copy_led cd_Copy_led ct_Copy_led), sl_Copy_led⟩)
  (c_Copy_led : PySem.W.codeIn K cd_Copy_led "Copy.led" = true)
  (k_Copy_led : PySem.W.keepIn K (.ref f_Copy_led) = true)
  (a_copies_of : PySem.W.nsIn K mainGlobals "copies_of" = some (some (.ref f_copies_of)))
  (l_copies_of : K.lookup f_copies_of = some ⟨oc_copies_of, od_copies_of, .func (PySem.W.fnOf "copies_of" "copies_of" (defArgs s_copies_of) (defBody s_copies_of) (defScope s_copies_of) .none kV_copies_of dc_copies_of pm_copies_of an_copies_of cd_copies_of ct_copies_of), sl_copies_of⟩)
  (c_copies_of : PySem.W.codeIn K cd_copies_of "copies_of" = true)
  (k_copies_of : PySem.W.keepIn K (.ref f_copies_of) = true)
  (a_need_linked : PySem.W.nsIn K mainGlobals "need_linked" = some (some (.ref f_need_linked)))
  (l_need_linked : K.lookup f_need_linked = some ⟨oc_need_linked, od_need_linked, .func (PySem.W.fnOf "need_linked" "need_linked" (defArgs s_need_linked) (defBody s_need_linked) (defScope s_need_linked) .none kV_need_linked dc_need_linked pm_need_linked an_need_linked cd_need_linked ct_need_linked), sl_need_linked⟩)
  (c_need_linked : PySem.W.codeIn K cd_need_linked "need_linked" = true)
  (k_need_linked : PySem.W.keepIn K (.ref f_need_linked) = true)
  (a_linked : PySem.W.nsIn K mainGlobals "linked" = some (some (.ref f_linked)))
  (l_linked : K.lookup f_linked = some ⟨oc_linked, od_linked, .func (PySem.W.fnOf "linked" "linked" (defArgs s_linked) (defBody s_linked) (defScope s_linked) .none kV_linked dc_linked pm_linked an_linked cd_linked ct_linked), sl_linked⟩)
  (c_linked : PySem.W.codeIn K cd_linked "linked" = true)
  (k_linked : PySem.W.keepIn K (.ref f_linked) = true)
  (a__law_begun : PySem.W.nsIn K mainGlobals "_law_begun" = some (some (.ref f__law_begun)))
  (l__law_begun : K.lookup f__law_begun = some ⟨oc__law_begun, od__law_begun, .func (PySem.W.fnOf "_law_begun" "_law_begun" (defArgs s__law_begun) (defBody s__law_begun) (defScope s__law_begun) .none kV__law_begun dc__law_begun pm__law_begun an__law_begun cd__law_begun ct__law_begun), sl__law_begun⟩)
  (c__law_begun : PySem.W.codeIn K cd__law_begun "_law_begun" = true)
  (k__law_begun : PySem.W.keepIn K (.ref f__law_begun) = true)
  (a__law_draw : PySem.W.nsIn K mainGlobals "_law_draw" = some (some (.ref f__law_draw)))
  (l__law_draw : K.lookup f__law_draw = some ⟨oc__law_draw, od__law_draw, .func (PySem.W.fnOf "_law_draw" "_law_draw" (defArgs s__law_draw) (defBody s__law_draw) (defScope s__law_draw) .none kV__law_draw dc__law_draw pm__law_draw an__law_draw cd__law_draw ct__law_draw), sl__law_draw⟩)
  (c__law_draw : PySem.W.codeIn K cd__law_draw "_law_draw" = true)
  (k__law_draw : PySem.W.keepIn K (.ref f__law_draw) = true)
  (a__law_pick : PySem.W.nsIn K mainGlobals "_law_pick" = some (some (.ref f__law_pick)))
  (l__law_pick : K.lookup f__law_pick = some ⟨oc__law_pick, od__law_pick, .func (PySem.W.fnOf "_law_pick" "_law_pick" (defArgs s__law_pick) (defBody s__law_pick) (defScope s__law_pick) .none kV__law_pick dc__law_pick pm__law_pick an__law_pick cd__law_pick ct__law_pick), sl__law_pick⟩)
  (c__law_pick : PySem.W.codeIn K cd__law_pick "_law_pick" = true)
  (k__law_pick : PySem.W.keepIn K (.ref f__law_pick) = true)
  (a__law_asker : PySem.W.nsIn K mainGlobals "_law_asker" = some (some (.ref f__law_asker)))
  (l__law_asker : K.lookup f__law_asker = some ⟨oc__law_asker, od__law_asker, .func (PySem.W.fnOf "_law_asker" "_law_asker" (defArgs s__law_asker) (defBody s__law_asker) (defScope s__law_asker) .none kV__law_asker dc__law_asker pm__law_asker an__law_asker cd__law_asker ct__law_asker), sl__law_asker⟩)
  (c__law_asker : PySem.W.codeIn K cd__law_asker "_law_asker" = true)
  (k__law_asker : PySem.W.keepIn K (.ref f__law_asker) = true)
  (a__law_server : PySem.W.nsIn K mainGlobals "_law_server" = some (some (.ref f__law_server)))
  (l__law_server : K.lookup f__law_server = some ⟨oc__law_server, od__law_server, .func (PySem.W.fnOf "_law_server" "_law_server" (defArgs s__law_server) (defBody s__law_server) (defScope s__law_server) .none kV__law_server dc__law_server pm__law_server an__law_server cd__law_server ct__law_server), sl__law_server⟩)
  (c__law_server : PySem.W.codeIn K cd__law_server "_law_server" = true)
  (k__law_server : PySem.W.keepIn K (.ref f__law_server) = true)
  (a__law_places_of : PySem.W.nsIn K mainGlobals "_law_places_of" = some (some (.ref f__law_places_of)))
  (l__law_places_of : K.lookup f__law_places_of = some ⟨oc__law_places_of, od__law_places_of, .func (PySem.W.fnOf "_law_places_of" "_law_places_of" (defArgs s__law_places_of) (defBody s__law_places_of) (defScope s__law_places_of) .none kV__law_places_of dc__law_places_of pm__law_places_of an__law_places_of cd__law_places_of ct__law_places_of), sl__law_places_of⟩)
  (c__law_places_of : PySem.W.codeIn K cd__law_places_of "_law_places_of" = true)
  (k__law_places_of : PySem.W.keepIn K (.ref f__law_places_of) = true)
  (a__law_how_refused : PySem.W.nsIn K mainGlobals "_law_how_refused" = some (some (.ref f__law_how_refused)))
  (l__law_how_refused : K.lookup f__law_how_refused = some ⟨oc__law_how_refused, od__law_how_refused, .func (PySem.W.fnOf "_law_how_refused" "_law_how_refused" (defArgs s__law_how_refused) (defBody s__law_how_refused) (defScope s__law_how_refused) .none kV__law_how_refused dc__law_how_refused pm__law_how_refused an__law_how_refused cd__law_how_refused ct__law_how_refused), sl__law_how_refused⟩)
  (c__law_how_refused : PySem.W.codeIn K cd__law_how_refused "_law_how_refused" = true)
  (k__law_how_refused : PySem.W.keepIn K (.ref f__law_how_refused) = true)
  (a__law_how_due : PySem.W.nsIn K mainGlobals "_law_how_due" = some (some (.ref f__law_how_due)))
  (l__law_how_due : K.lookup f__law_how_due = some ⟨oc__law_how_due, od__law_how_due, .func (PySem.W.fnOf "_law_how_due" "_law_how_due" (defArgs s__law_how_due) (defBody s__law_how_due) (defScope s__law_how_due) .none kV__law_how_due dc__law_how_due pm__law_how_due an__law_how_due cd__law_how_due ct__law_how_due), sl__law_how_due⟩)
  (c__law_how_due : PySem.W.codeIn K cd__law_how_due "_law_how_due" = true)
  (k__law_how_due : PySem.W.keepIn K (.ref f__law_how_due) = true)
  (a__law_long_ones : PySem.W.nsIn K mainGlobals "_law_long_ones" = some (some (.ref f__law_long_ones)))
  (l__law_long_ones : K.lookup f__law_long_ones = some ⟨oc__law_long_ones, od__law_long_ones, .func (PySem.W.fnOf "_law_long_ones" "_law_long_ones" (defArgs s__law_long_ones) (defBody s__law_long_ones) (defScope s__law_long_ones) .none kV__law_long_ones dc__law_long_ones pm__law_long_ones an__law_long_ones cd__law_long_ones ct__law_long_ones), sl__law_long_ones⟩)
  (c__law_long_ones : PySem.W.codeIn K cd__law_long_ones "_law_long_ones" = true)
  (k__law_long_ones : PySem.W.keepIn K (.ref f__law_long_ones) = true)
  (a_law : PySem.W.nsIn K mainGlobals "law" = some (some (.ref f_law)))
  (l_law : K.lookup f_law = some ⟨oc_law, od_law, .func (PySem.W.fnOf "law" "law" (defArgs s_law) (defBody s_law) (defScope s_law) .none kV_law dc_law pm_law an_law cd_law ct_law), sl_law⟩)
  (c_law : PySem.W.codeIn K cd_law "law" = true)
  (k_law : PySem.W.keepIn K (.ref f_law) = true)
  (pg_Ground : PySem.W.plainGet K C_Ground Str.empty = true)
  (hd_Ground : PySem.W.hasDictIn K C_Ground = true)
  (po_Ground : PySem.W.plainOver K C_Ground = true)
  (sa_Ground : PySem.W.findIn K (.ref C_Ground) "__setattr__" = some (some (.builtin "object.__setattr__")))
  (mk_Ground : PySem.W.makesIn K C_Ground = true)
  (kc_Ground : PySem.W.keepIn K (.ref C_Ground) = true)
  (n_Ground_there : PySem.W.findIn K (.ref C_Ground) "there" = some none)
  (n_Ground_many : PySem.W.findIn K (.ref C_Ground) "many" = some none)
  (n_Ground_base : PySem.W.findIn K (.ref C_Ground) "base" = some none)
  (pg_Flow : PySem.W.plainGet K C_Flow Str.empty = true)
  (hd_Flow : PySem.W.hasDictIn K C_Flow = true)
  (po_Flow : PySem.W.plainOver K C_Flow = true)
  (sa_Flow : PySem.W.findIn K (.ref C_Flow) "__setattr__" = some (some (.builtin "object.__setattr__")))
  (mk_Flow : PySem.W.makesIn K C_Flow = true)
  (kc_Flow : PySem.W.keepIn K (.ref C_Flow) = true)
  (n_Flow_sites : PySem.W.findIn K (.ref C_Flow) "sites" = some none)
  (n_Flow_rows : PySem.W.findIn K (.ref C_Flow) "rows" = some none)
  (n_Flow_base : PySem.W.findIn K (.ref C_Flow) "base" = some none)
  (pg_Copy : PySem.W.plainGet K C_Copy Str.empty = true)
  (hd_Copy : PySem.W.hasDictIn K C_Copy = true)
  (po_Copy : PySem.W.plainOver K C_Copy = true)
  (sa_Copy : PySem.W.findIn K (.ref C_Copy) "__setattr__" = some (some (.builtin "object.__setattr__")))
  (mk_Copy : PySem.W.makesIn K C_Copy = true)
  (kc_Copy : PySem.W.keepIn K (.ref C_Copy) = true)
  (n_Copy_label : PySem.W.findIn K (.ref C_Copy) "label" = some none)
  (n_Copy_asking : PySem.W.findIn K (.ref C_Copy) "asking" = some none)
  (n_Copy_ahead : PySem.W.findIn K (.ref C_Copy) "ahead" = some none)
  (z_len : PySem.W.nsIn K mainGlobals "len" = some none)
  (z_all : PySem.W.nsIn K mainGlobals "all" = some none)
  (z_any : PySem.W.nsIn K mainGlobals "any" = some none)
  (z_tuple : PySem.W.nsIn K mainGlobals "tuple" = some none)
  (z_list : PySem.W.nsIn K mainGlobals "list" = some none)
  (z_set : PySem.W.nsIn K mainGlobals "set" = some none)
  (z_isinstance : PySem.W.nsIn K mainGlobals "isinstance" = some none)
  (z_int : PySem.W.nsIn K mainGlobals "int" = some none)
  (z_bool : PySem.W.nsIn K mainGlobals "bool" = some none)
  (z_str : PySem.W.nsIn K mainGlobals "str" = some none)
  (z_sorted : PySem.W.nsIn K mainGlobals "sorted" = some none)
  (z_abs : PySem.W.nsIn K mainGlobals "abs" = some none)
  (z_range : PySem.W.nsIn K mainGlobals "range" = some none)
  (z_enumerate : PySem.W.nsIn K mainGlobals "enumerate" = some none)
  (z_zip : PySem.W.nsIn K mainGlobals "zip" = some none)
  (z_ValueError : PySem.W.nsIn K mainGlobals "ValueError" = some none)
  (g_PRIME : PySem.W.nsIn K mainGlobals "PRIME" = some (some (.int 97 t_PRIME)))
  (g_MOST_PRIME : PySem.W.nsIn K mainGlobals "MOST_PRIME" = some (some (.int 997 t_MOST_PRIME)))
  (g_MOST_NAME : PySem.W.nsIn K mainGlobals "MOST_NAME" = some (some (.int 8 t_MOST_NAME)))
  (g_MOST_PLACE : PySem.W.nsIn K mainGlobals "MOST_PLACE" = some (some (.int 40 t_MOST_PLACE)))
  (g_LETTERS : PySem.W.nsIn K mainGlobals "LETTERS" = some (some (.str "abcdefghijklmnopqrstuvwxyz" t_LETTERS)))
  (g_FIGURES : PySem.W.nsIn K mainGlobals "FIGURES" = some (some (.str "0123456789" t_FIGURES)))
  (g_MOST_PLACES_flows : PySem.W.nsIn K mainGlobals "MOST_PLACES_flows" = some (some (.int 100 t_MOST_PLACES_flows)))
  (g_MOST_STEPS_flows : PySem.W.nsIn K mainGlobals "MOST_STEPS_flows" = some (some (.int 10000 t_MOST_STEPS_flows)))
  (g_MOST_WAYS : PySem.W.nsIn K mainGlobals "MOST_WAYS" = some (some (.int 6 t_MOST_WAYS)))
  (g_MOST_COMING : PySem.W.nsIn K mainGlobals "MOST_COMING" = some (some (.int 3 t_MOST_COMING)))
  (g_NOWHERE : PySem.W.nsIn K mainGlobals "NOWHERE" = some (some (.str "" t_NOWHERE)))
  (g_BREAKS : PySem.W.nsIn K mainGlobals "BREAKS" = some (some (.ref r_BREAKS)))
  (l_BREAKS : K.lookup r_BREAKS = some ⟨.type "tuple", dd_BREAKS, .seq #[.str "serve" t_BREAKS_0, .str "pick" t_BREAKS_1, .str "take" t_BREAKS_2] n_BREAKS, sl_BREAKS⟩)
  (g_MOVE : PySem.W.nsIn K mainGlobals "MOVE" = some (some (.str "move" t_MOVE)))
  (g_MOST_PLACES_linking : PySem.W.nsIn K mainGlobals "MOST_PLACES_linking" = some (some (.int 100 t_MOST_PLACES_linking)))
  (g_MOST_SIGNS : PySem.W.nsIn K mainGlobals "MOST_SIGNS" = some (some (.int 40 t_MOST_SIGNS)))
  (g_MOST_STEPS_linking : PySem.W.nsIn K mainGlobals "MOST_STEPS_linking" = some (some (.int 10000 t_MOST_STEPS_linking)))
  (aC_TraceError : PySem.W.nsIn K mainGlobals "TraceError" = some (some (.ref C_TraceError)))
  (aC_NoFlow : PySem.W.nsIn K mainGlobals "NoFlow" = some (some (.ref C_NoFlow)))
  (aC_NoUnit : PySem.W.nsIn K mainGlobals "NoUnit" = some (some (.ref C_NoUnit)))
  (aC_NoLetter : PySem.W.nsIn K mainGlobals "NoLetter" = some (some (.ref C_NoLetter)))
  (aC_TooLong : PySem.W.nsIn K mainGlobals "TooLong" = some (some (.ref C_TooLong)))
  (aC_TooMany : PySem.W.nsIn K mainGlobals "TooMany" = some (some (.ref C_TooMany)))
  (aC_NoPair : PySem.W.nsIn K mainGlobals "NoPair" = some (some (.ref C_NoPair)))
  (xl_T : K.lookup C_TraceError = some ⟨oc_T, od_T, .cls cd_T, sl_T⟩)
  (xn_T : K.lookup cd_T.ns = some ⟨ocn_T, odn_T, .dict es_T nn_T, sln_T⟩)
  (xo_T : es_T.toList.all strKey = true)
  (xi_T : PySem.W.nsIn K cd_T.ns "__init__" = some none)
  (sb_T : PySem.W.subIn K (.ref C_TraceError) (.type "BaseException") = some true)
  (hd_T : PySem.W.hasDictIn K C_TraceError = true)
  (ty_T : PySem.W.typeIn K (.ref C_TraceError) = some (.type "type"))
  (xl_NoPair : K.lookup C_NoPair = some ⟨.type "type", od_NoPair, .cls ⟨nm_NoPair, bs_NoPair, [.ref C_NoPair, .ref C_TraceError, .type "ValueError", .type "Exception", .type "BaseException", .type "object"], N_NoPair, qn_NoPair, hdd_NoPair, sn_NoPair, sub_NoPair, ab_NoPair, col_NoPair, false⟩, #[m0_NoPair, m1_NoPair, m2_NoPair, m3_NoPair, some (.builtin "ValueError.__new__"), m5_NoPair]⟩)
  (xn_NoPair : K.lookup N_NoPair = some ⟨ocn_NoPair, odn_NoPair, .dict es_NoPair nn_NoPair, sln_NoPair⟩)
  (xo_NoPair : es_NoPair.toList.all strKey = true)
  (xi_NoPair : PySem.W.nsIn K N_NoPair "__init__" = some none)
  (kp_NoPair : PySem.W.keepIn K (.ref C_NoPair) = true)
  (sb_NoPair : PySem.W.subIn K (.ref C_NoPair) (.type "BaseException") = some true)
  (st_NoPair : PySem.W.subIn K (.ref C_NoPair) (.ref C_TraceError) = some true)
  (sv_NoPair : PySem.W.subIn K (.ref C_NoPair) (.type "ValueError") = some true)
  (ss_NoPair : PySem.W.subIn K (.ref C_NoPair) (.ref C_NoPair) = some true)
  (ty_NoPair : PySem.W.typeIn K (.ref C_NoPair) = some (.type "type"))
  (ic_NoPair : PySem.W.isClsIn K C_NoPair = true)
  (hd_NoPair : PySem.W.hasDictIn K C_NoPair = true)
  (eg_NoPair : PySem.W.findIn K (.ref C_NoPair) "__getattribute__" = some (some (.builtin "BaseException.__getattribute__")))
  (ek_NoPair : PySem.W.findIn K (.ref C_NoPair) "__getattr__" = some none)
  (ea_NoPair : PySem.W.findIn K (.ref C_NoPair) "__class__" = some (some (.builtin "object.__class__")))
  (em_NoPair : PySem.W.mroIn K C_NoPair (.type "object") = some true)
  (xl_TooMany : K.lookup C_TooMany = some ⟨.type "type", od_TooMany, .cls ⟨nm_TooMany, bs_TooMany, [.ref C_TooMany, .ref C_TraceError, .type "ValueError", .type "Exception", .type "BaseException", .type "object"], N_TooMany, qn_TooMany, hdd_TooMany, sn_TooMany, sub_TooMany, ab_TooMany, col_TooMany, false⟩, #[m0_TooMany, m1_TooMany, m2_TooMany, m3_TooMany, some (.builtin "ValueError.__new__"), m5_TooMany]⟩)
  (xn_TooMany : K.lookup N_TooMany = some ⟨ocn_TooMany, odn_TooMany, .dict es_TooMany nn_TooMany, sln_TooMany⟩)
  (xo_TooMany : es_TooMany.toList.all strKey = true)
  (xi_TooMany : PySem.W.nsIn K N_TooMany "__init__" = some none)
  (kp_TooMany : PySem.W.keepIn K (.ref C_TooMany) = true)
  (sb_TooMany : PySem.W.subIn K (.ref C_TooMany) (.type "BaseException") = some true)
  (st_TooMany : PySem.W.subIn K (.ref C_TooMany) (.ref C_TraceError) = some true)
  (sv_TooMany : PySem.W.subIn K (.ref C_TooMany) (.type "ValueError") = some true)
  (ss_TooMany : PySem.W.subIn K (.ref C_TooMany) (.ref C_TooMany) = some true)
  (ty_TooMany : PySem.W.typeIn K (.ref C_TooMany) = some (.type "type"))
  (ic_TooMany : PySem.W.isClsIn K C_TooMany = true)
  (hd_TooMany : PySem.W.hasDictIn K C_TooMany = true)
  (eg_TooMany : PySem.W.findIn K (.ref C_TooMany) "__getattribute__" = some (some (.builtin "BaseException.__getattribute__")))
  (ek_TooMany : PySem.W.findIn K (.ref C_TooMany) "__getattr__" = some none)
  (ea_TooMany : PySem.W.findIn K (.ref C_TooMany) "__class__" = some (some (.builtin "object.__class__")))
  (em_TooMany : PySem.W.mroIn K C_TooMany (.type "object") = some true)
  (en : PySem.W.specialIn K (.builtin "object.__class__") "__get__" = some (some (.builtin "getset_descriptor.__get__")))
  (et : PySem.W.takesIn K (.builtin "object.__class__") = some true)
  (ic_NoFlow : PySem.W.isClsIn K C_NoFlow = true)
  (ty_NoFlow : PySem.W.typeIn K (.ref C_NoFlow) = some (.type "type"))
  (no_NoPair_NoFlow : PySem.W.subIn K (.ref C_NoPair) (.ref C_NoFlow) = some false)
  (no_TooMany_NoFlow : PySem.W.subIn K (.ref C_TooMany) (.ref C_NoFlow) = some false)
  (ic_NoLetter : PySem.W.isClsIn K C_NoLetter = true)
  (ty_NoLetter : PySem.W.typeIn K (.ref C_NoLetter) = some (.type "type"))
  (no_NoPair_NoLetter : PySem.W.subIn K (.ref C_NoPair) (.ref C_NoLetter) = some false)
  (no_TooMany_NoLetter : PySem.W.subIn K (.ref C_TooMany) (.ref C_NoLetter) = some false)
  (ic_NoUnit : PySem.W.isClsIn K C_NoUnit = true)
  (ty_NoUnit : PySem.W.typeIn K (.ref C_NoUnit) = some (.type "type"))
  (no_NoPair_NoUnit : PySem.W.subIn K (.ref C_NoPair) (.ref C_NoUnit) = some false)
  (no_TooMany_NoUnit : PySem.W.subIn K (.ref C_TooMany) (.ref C_NoUnit) = some false)
  (ic_TooLong : PySem.W.isClsIn K C_TooLong = true)
  (ty_TooLong : PySem.W.typeIn K (.ref C_TooLong) = some (.type "type"))
  (no_NoPair_TooLong : PySem.W.subIn K (.ref C_NoPair) (.ref C_TooLong) = some false)
  (no_TooMany_TooLong : PySem.W.subIn K (.ref C_TooMany) (.ref C_TooLong) = some false)
  (no_NoPair_TooMany : PySem.W.subIn K (.ref C_NoPair) (.ref C_TooMany) = some false)
  (no_TooMany_NoPair : PySem.W.subIn K (.ref C_TooMany) (.ref C_NoPair) = some false)
  (g_SORTS : PySem.W.nsIn K mainGlobals "SORTS" = some (some (.ref r_SORTS)))
  (l_SORTS : K.lookup r_SORTS = some ⟨.type "dict", none, .dict es_SORTS n_SORTS, #[]⟩)
  (kl_SORTS : PySem.W.KeysLit w.params es_SORTS.toList)
  (lo_SORTS : (r_SORTS == sysModules) = false)
  (ns_serve : PySem.W.nsIn K r_SORTS "serve" = some (some (.ref p_serve)))
  (lp_serve : K.lookup p_serve = some ⟨.type "tuple", dd_serve, .seq #[.int 2 t_serve, .ref f_is_serve] n_serve, slp_serve⟩)
  (ns_move : PySem.W.nsIn K r_SORTS "move" = some (some (.ref p_move)))
  (lp_move : K.lookup p_move = some ⟨.type "tuple", dd_move, .seq #[.int 3 t_move, .ref f_is_move] n_move, slp_move⟩)
  (ns_out : PySem.W.nsIn K r_SORTS "out" = some (some (.ref p_out)))
  (lp_out : K.lookup p_out = some ⟨.type "tuple", dd_out, .seq #[.int 3 t_out, .ref f_is_out] n_out, slp_out⟩)
  (ns_ask : PySem.W.nsIn K r_SORTS "ask" = some (some (.ref p_ask)))
  (lp_ask : K.lookup p_ask = some ⟨.type "tuple", dd_ask, .seq #[.int 7 t_ask, .ref f_is_ask] n_ask, slp_ask⟩)
  (ns_done : PySem.W.nsIn K r_SORTS "done" = some (some (.ref p_done)))
  (lp_done : K.lookup p_done = some ⟨.type "tuple", dd_done, .seq #[.int 2 t_done, .ref f_is_done] n_done, slp_done⟩) :
    ∃ fd : FuncData, (∀ (s : Shared) (v : Value), BindsTo s fd ⟨[v], []⟩ [("script", v)]) ∧ ∀ base : Heap, K.In base → base.Ns mainGlobals mg → FnOk l.prog w K mg base CX0 13 fa fd ["script"] (spLaw K) := by
  have e := hfa.symm.trans (PySem.W.mg_of X G a_law)
  cases e
  have F_is_whole := fun_mk (st := s_is_whole) l_is_whole c_is_whole k_is_whole
  have F_is_prime := fun_mk (st := s_is_prime) l_is_prime c_is_prime k_is_prime
  have F_is_number := fun_mk (st := s_is_number) l_is_number c_is_number k_is_number
  have F_is_name := fun_mk (st := s_is_name) l_is_name c_is_name k_is_name
  have F_is_place := fun_mk (st := s_is_place) l_is_place c_is_place k_is_place
  have F_is_form := fun_mk (st := s_is_form) l_is_form c_is_form k_is_form
  have F_places_in := fun_mk (st := s_places_in) l_places_in c_places_in k_places_in
  have F_Ground___init__ := fun_mk (st := s_Ground___init__) l_Ground___init__ c_Ground___init__ k_Ground___init__
  have F_Ground_is_goal := fun_mk (st := s_Ground_is_goal) l_Ground_is_goal c_Ground_is_goal k_Ground_is_goal
  have F_Ground_is_sink := fun_mk (st := s_Ground_is_sink) l_Ground_is_sink c_Ground_is_sink k_Ground_is_sink
  have F_Ground_is_over := fun_mk (st := s_Ground_is_over) l_Ground_is_over c_Ground_is_over k_Ground_is_over
  have F_Ground_are_over := fun_mk (st := s_Ground_are_over) l_Ground_are_over c_Ground_are_over k_Ground_are_over
  have F_Ground_are_sinks := fun_mk (st := s_Ground_are_sinks) l_Ground_are_sinks c_Ground_are_sinks k_Ground_are_sinks
  have F_rises := fun_mk (st := s_rises) l_rises c_rises k_rises
  have F_are_tuples := fun_mk (st := s_are_tuples) l_are_tuples c_are_tuples k_are_tuples
  have F_is_serve := fun_mk (st := s_is_serve) l_is_serve c_is_serve k_is_serve
  have F_is_move := fun_mk (st := s_is_move) l_is_move c_is_move k_is_move
  have F_is_out := fun_mk (st := s_is_out) l_is_out c_is_out k_is_out
  have F_is_ask := fun_mk (st := s_is_ask) l_is_ask c_is_ask k_is_ask
  have F_is_done := fun_mk (st := s_is_done) l_is_done c_is_done k_is_done
  have F_is_step := fun_mk (st := s_is_step) l_is_step c_is_step k_is_step
  have F_goals_of := fun_mk (st := s_goals_of) l_goals_of c_goals_of k_goals_of
  have F_has_idle_round := fun_mk (st := s_has_idle_round) l_has_idle_round c_has_idle_round k_has_idle_round
  have F_need_flow := fun_mk (st := s_need_flow) l_need_flow c_need_flow k_need_flow
  have F_Flow___init__ := fun_mk (st := s_Flow___init__) l_Flow___init__ c_Flow___init__ k_Flow___init__
  have F_Flow_places := fun_mk (st := s_Flow_places) l_Flow_places c_Flow_places k_Flow_places
  have F_Flow_steps := fun_mk (st := s_Flow_steps) l_Flow_steps c_Flow_steps k_Flow_steps
  have F_Flow_prime := fun_mk (st := s_Flow_prime) l_Flow_prime c_Flow_prime k_Flow_prime
  have F_Flow_deeds := fun_mk (st := s_Flow_deeds) l_Flow_deeds c_Flow_deeds k_Flow_deeds
  have F_Flow___len__ := fun_mk (st := s_Flow___len__) l_Flow___len__ c_Flow___len__ k_Flow___len__
  have F_asks_of := fun_mk (st := s_asks_of) l_asks_of c_asks_of k_asks_of
  have F_called_so := fun_mk (st := s_called_so) l_called_so c_called_so k_called_so
  have F_form_called := fun_mk (st := s_form_called) l_form_called c_form_called k_form_called
  have F_Copy___init__ := fun_mk (st := s_Copy___init__) l_Copy___init__ c_Copy___init__ k_Copy___init__
  have F_Copy_number_of := fun_mk (st := s_Copy_number_of) l_Copy_number_of c_Copy_number_of k_Copy_number_of
  have F_Copy_renamed := fun_mk (st := s_Copy_renamed) l_Copy_renamed c_Copy_renamed k_Copy_renamed
  have F_Copy_form := fun_mk (st := s_Copy_form) l_Copy_form c_Copy_form k_Copy_form
  have F_Copy_begun := fun_mk (st := s_Copy_begun) l_Copy_begun c_Copy_begun k_Copy_begun
  have F_Copy_ended := fun_mk (st := s_Copy_ended) l_Copy_ended c_Copy_ended k_Copy_ended
  have F_Copy_led := fun_mk (st := s_Copy_led) l_Copy_led c_Copy_led k_Copy_led
  have F_copies_of := fun_mk (st := s_copies_of) l_copies_of c_copies_of k_copies_of
  have F_need_linked := fun_mk (st := s_need_linked) l_need_linked c_need_linked k_need_linked
  have F_linked := fun_mk (st := s_linked) l_linked c_linked k_linked
  have F__law_begun := fun_mk (st := s__law_begun) l__law_begun c__law_begun k__law_begun
  have F__law_draw := fun_mk (st := s__law_draw) l__law_draw c__law_draw k__law_draw
  have F__law_pick := fun_mk (st := s__law_pick) l__law_pick c__law_pick k__law_pick
  have F__law_asker := fun_mk (st := s__law_asker) l__law_asker c__law_asker k__law_asker
  have F__law_server := fun_mk (st := s__law_server) l__law_server c__law_server k__law_server
  have F__law_places_of := fun_mk (st := s__law_places_of) l__law_places_of c__law_places_of k__law_places_of
  have F__law_how_refused := fun_mk (st := s__law_how_refused) l__law_how_refused c__law_how_refused k__law_how_refused
  have F__law_how_due := fun_mk (st := s__law_how_due) l__law_how_due c__law_how_due k__law_how_due
  have F__law_long_ones := fun_mk (st := s__law_long_ones) l__law_long_ones c__law_long_ones k__law_long_ones
  have F_law := fun_mk (st := s_law) l_law c_law k_law
  let A : Ad :=
    { f_is_whole := f_is_whole
      d_is_whole := PySem.W.fnOf "is_whole" "is_whole" (defArgs s_is_whole) (defBody s_is_whole) (defScope s_is_whole) .none kV_is_whole dc_is_whole pm_is_whole an_is_whole cd_is_whole ct_is_whole
      f_is_prime := f_is_prime
      d_is_prime := PySem.W.fnOf "is_prime" "is_prime" (defArgs s_is_prime) (defBody s_is_prime) (defScope s_is_prime) .none kV_is_prime dc_is_prime pm_is_prime an_is_prime cd_is_prime ct_is_prime
      f_is_number := f_is_number
      d_is_number := PySem.W.fnOf "is_number" "is_number" (defArgs s_is_number) (defBody s_is_number) (defScope s_is_number) .none kV_is_number dc_is_number pm_is_number an_is_number cd_is_number ct_is_number
      f_is_name := f_is_name
      d_is_name := PySem.W.fnOf "is_name" "is_name" (defArgs s_is_name) (defBody s_is_name) (defScope s_is_name) .none kV_is_name dc_is_name pm_is_name an_is_name cd_is_name ct_is_name
      f_is_place := f_is_place
      d_is_place := PySem.W.fnOf "is_place" "is_place" (defArgs s_is_place) (defBody s_is_place) (defScope s_is_place) .none kV_is_place dc_is_place pm_is_place an_is_place cd_is_place ct_is_place
      f_is_form := f_is_form
      d_is_form := PySem.W.fnOf "is_form" "is_form" (defArgs s_is_form) (defBody s_is_form) (defScope s_is_form) .none kV_is_form dc_is_form pm_is_form an_is_form cd_is_form ct_is_form
      f_places_in := f_places_in
      d_places_in := PySem.W.fnOf "places_in" "places_in" (defArgs s_places_in) (defBody s_places_in) (defScope s_places_in) .none kV_places_in dc_places_in pm_places_in an_places_in cd_places_in ct_places_in
      f_Ground___init__ := f_Ground___init__
      d_Ground___init__ := PySem.W.fnOf "__init__" "Ground.__init__" (defArgs s_Ground___init__) (defBody s_Ground___init__) (defScope s_Ground___init__) .none kV_Ground___init__ dc_Ground___init__ pm_Ground___init__ an_Ground___init__ cd_Ground___init__ ct_Ground___init__
      f_Ground_is_goal := f_Ground_is_goal
      d_Ground_is_goal := PySem.W.fnOf "is_goal" "Ground.is_goal" (defArgs s_Ground_is_goal) (defBody s_Ground_is_goal) (defScope s_Ground_is_goal) .none kV_Ground_is_goal dc_Ground_is_goal pm_Ground_is_goal an_Ground_is_goal cd_Ground_is_goal ct_Ground_is_goal
      f_Ground_is_sink := f_Ground_is_sink
      d_Ground_is_sink := PySem.W.fnOf "is_sink" "Ground.is_sink" (defArgs s_Ground_is_sink) (defBody s_Ground_is_sink) (defScope s_Ground_is_sink) .none kV_Ground_is_sink dc_Ground_is_sink pm_Ground_is_sink an_Ground_is_sink cd_Ground_is_sink ct_Ground_is_sink
      f_Ground_is_over := f_Ground_is_over
      d_Ground_is_over := PySem.W.fnOf "is_over" "Ground.is_over" (defArgs s_Ground_is_over) (defBody s_Ground_is_over) (defScope s_Ground_is_over) .none kV_Ground_is_over dc_Ground_is_over pm_Ground_is_over an_Ground_is_over cd_Ground_is_over ct_Ground_is_over
      f_Ground_are_over := f_Ground_are_over
      d_Ground_are_over := PySem.W.fnOf "are_over" "Ground.are_over" (defArgs s_Ground_are_over) (defBody s_Ground_are_over) (defScope s_Ground_are_over) .none kV_Ground_are_over dc_Ground_are_over pm_Ground_are_over an_Ground_are_over cd_Ground_are_over ct_Ground_are_over
      f_Ground_are_sinks := f_Ground_are_sinks
      d_Ground_are_sinks := PySem.W.fnOf "are_sinks" "Ground.are_sinks" (defArgs s_Ground_are_sinks) (defBody s_Ground_are_sinks) (defScope s_Ground_are_sinks) .none kV_Ground_are_sinks dc_Ground_are_sinks pm_Ground_are_sinks an_Ground_are_sinks cd_Ground_are_sinks ct_Ground_are_sinks
      f_rises := f_rises
      d_rises := PySem.W.fnOf "rises" "rises" (defArgs s_rises) (defBody s_rises) (defScope s_rises) .none kV_rises dc_rises pm_rises an_rises cd_rises ct_rises
      f_are_tuples := f_are_tuples
      d_are_tuples := PySem.W.fnOf "are_tuples" "are_tuples" (defArgs s_are_tuples) (defBody s_are_tuples) (defScope s_are_tuples) .none kV_are_tuples dc_are_tuples pm_are_tuples an_are_tuples cd_are_tuples ct_are_tuples
      f_is_serve := f_is_serve
      d_is_serve := PySem.W.fnOf "is_serve" "is_serve" (defArgs s_is_serve) (defBody s_is_serve) (defScope s_is_serve) .none kV_is_serve dc_is_serve pm_is_serve an_is_serve cd_is_serve ct_is_serve
      f_is_move := f_is_move
      d_is_move := PySem.W.fnOf "is_move" "is_move" (defArgs s_is_move) (defBody s_is_move) (defScope s_is_move) .none kV_is_move dc_is_move pm_is_move an_is_move cd_is_move ct_is_move
      f_is_out := f_is_out
      d_is_out := PySem.W.fnOf "is_out" "is_out" (defArgs s_is_out) (defBody s_is_out) (defScope s_is_out) .none kV_is_out dc_is_out pm_is_out an_is_out cd_is_out ct_is_out
      f_is_ask := f_is_ask
      d_is_ask := PySem.W.fnOf "is_ask" "is_ask" (defArgs s_is_ask) (defBody s_is_ask) (defScope s_is_ask) .none kV_is_ask dc_is_ask pm_is_ask an_is_ask cd_is_ask ct_is_ask
      f_is_done := f_is_done
      d_is_done := PySem.W.fnOf "is_done" "is_done" (defArgs s_is_done) (defBody s_is_done) (defScope s_is_done) .none kV_is_done dc_is_done pm_is_done an_is_done cd_is_done ct_is_done
      f_is_step := f_is_step
      d_is_step := PySem.W.fnOf "is_step" "is_step" (defArgs s_is_step) (defBody s_is_step) (defScope s_is_step) .none kV_is_step dc_is_step pm_is_step an_is_step cd_is_step ct_is_step
      f_goals_of := f_goals_of
      d_goals_of := PySem.W.fnOf "goals_of" "goals_of" (defArgs s_goals_of) (defBody s_goals_of) (defScope s_goals_of) .none kV_goals_of dc_goals_of pm_goals_of an_goals_of cd_goals_of ct_goals_of
      f_has_idle_round := f_has_idle_round
      d_has_idle_round := PySem.W.fnOf "has_idle_round" "has_idle_round" (defArgs s_has_idle_round) (defBody s_has_idle_round) (defScope s_has_idle_round) .none kV_has_idle_round dc_has_idle_round pm_has_idle_round an_has_idle_round cd_has_idle_round ct_has_idle_round
      f_need_flow := f_need_flow
      d_need_flow := PySem.W.fnOf "need_flow" "need_flow" (defArgs s_need_flow) (defBody s_need_flow) (defScope s_need_flow) .none kV_need_flow dc_need_flow pm_need_flow an_need_flow cd_need_flow ct_need_flow
      f_Flow___init__ := f_Flow___init__
      d_Flow___init__ := PySem.W.fnOf "__init__" "Flow.__init__" (defArgs s_Flow___init__) (defBody s_Flow___init__) (defScope s_Flow___init__) .none kV_Flow___init__ dc_Flow___init__ pm_Flow___init__ an_Flow___init__ cd_Flow___init__ ct_Flow___init__
      f_Flow_places := f_Flow_places
      d_Flow_places := PySem.W.fnOf "places" "Flow.places" (defArgs s_Flow_places) (defBody s_Flow_places) (defScope s_Flow_places) .none kV_Flow_places dc_Flow_places pm_Flow_places an_Flow_places cd_Flow_places ct_Flow_places
      f_Flow_steps := f_Flow_steps
      d_Flow_steps := PySem.W.fnOf "steps" "Flow.steps" (defArgs s_Flow_steps) (defBody s_Flow_steps) (defScope s_Flow_steps) .none kV_Flow_steps dc_Flow_steps pm_Flow_steps an_Flow_steps cd_Flow_steps ct_Flow_steps
      f_Flow_prime := f_Flow_prime
      d_Flow_prime := PySem.W.fnOf "prime" "Flow.prime" (defArgs s_Flow_prime) (defBody s_Flow_prime) (defScope s_Flow_prime) .none kV_Flow_prime dc_Flow_prime pm_Flow_prime an_Flow_prime cd_Flow_prime ct_Flow_prime
      f_Flow_deeds := f_Flow_deeds
      d_Flow_deeds := PySem.W.fnOf "deeds" "Flow.deeds" (defArgs s_Flow_deeds) (defBody s_Flow_deeds) (defScope s_Flow_deeds) .none kV_Flow_deeds dc_Flow_deeds pm_Flow_deeds an_Flow_deeds cd_Flow_deeds ct_Flow_deeds
      f_Flow___len__ := f_Flow___len__
      d_Flow___len__ := PySem.W.fnOf "__len__" "Flow.__len__" (defArgs s_Flow___len__) (defBody s_Flow___len__) (defScope s_Flow___len__) .none kV_Flow___len__ dc_Flow___len__ pm_Flow___len__ an_Flow___len__ cd_Flow___len__ ct_Flow___len__
      f_asks_of := f_asks_of
      d_asks_of := PySem.W.fnOf "asks_of" "asks_of" (defArgs s_asks_of) (defBody s_asks_of) (defScope s_asks_of) .none kV_asks_of dc_asks_of pm_asks_of an_asks_of cd_asks_of ct_asks_of
      f_called_so := f_called_so
      d_called_so := PySem.W.fnOf "called_so" "called_so" (defArgs s_called_so) (defBody s_called_so) (defScope s_called_so) .none kV_called_so dc_called_so pm_called_so an_called_so cd_called_so ct_called_so
      f_form_called := f_form_called
      d_form_called := PySem.W.fnOf "form_called" "form_called" (defArgs s_form_called) (defBody s_form_called) (defScope s_form_called) .none kV_form_called dc_form_called pm_form_called an_form_called cd_form_called ct_form_called
      f_Copy___init__ := f_Copy___init__
      d_Copy___init__ := PySem.W.fnOf "__init__" "Copy.__init__" (defArgs s_Copy___init__) (defBody s_Copy___init__) (defScope s_Copy___init__) .none kV_Copy___init__ dc_Copy___init__ pm_Copy___init__ an_Copy___init__ cd_Copy___init__ ct_Copy___init__
      f_Copy_number_of := f_Copy_number_of
      d_Copy_number_of := PySem.W.fnOf "number_of" "Copy.number_of" (defArgs s_Copy_number_of) (defBody s_Copy_number_of) (defScope s_Copy_number_of) .none kV_Copy_number_of dc_Copy_number_of pm_Copy_number_of an_Copy_number_of cd_Copy_number_of ct_Copy_number_of
      f_Copy_renamed := f_Copy_renamed
      d_Copy_renamed := PySem.W.fnOf "renamed" "Copy.renamed" (defArgs s_Copy_renamed) (defBody s_Copy_renamed) (defScope s_Copy_renamed) .none kV_Copy_renamed dc_Copy_renamed pm_Copy_renamed an_Copy_renamed cd_Copy_renamed ct_Copy_renamed
      f_Copy_form := f_Copy_form
      d_Copy_form := PySem.W.fnOf "form" "Copy.form" (defArgs s_Copy_form) (defBody s_Copy_form) (defScope s_Copy_form) .none kV_Copy_form dc_Copy_form pm_Copy_form an_Copy_form cd_Copy_form ct_Copy_form
      f_Copy_begun := f_Copy_begun
      d_Copy_begun := PySem.W.fnOf "begun" "Copy.begun" (defArgs s_Copy_begun) (defBody s_Copy_begun) (defScope s_Copy_begun) .none kV_Copy_begun dc_Copy_begun pm_Copy_begun an_Copy_begun cd_Copy_begun ct_Copy_begun
      f_Copy_ended := f_Copy_ended
      d_Copy_ended := PySem.W.fnOf "ended" "Copy.ended" (defArgs s_Copy_ended) (defBody s_Copy_ended) (defScope s_Copy_ended) .none kV_Copy_ended dc_Copy_ended pm_Copy_ended an_Copy_ended cd_Copy_ended ct_Copy_ended
      f_Copy_led := f_Copy_led
      d_Copy_led := PySem.W.fnOf "led" "Copy.led" (defArgs s_Copy_led) (defBody s_Copy_led) (defScope s_Copy_led) .none kV_Copy_led dc_Copy_led pm_Copy_led an_Copy_led cd_Copy_led ct_Copy_led
      f_copies_of := f_copies_of
      d_copies_of := PySem.W.fnOf "copies_of" "copies_of" (defArgs s_copies_of) (defBody s_copies_of) (defScope s_copies_of) .none kV_copies_of dc_copies_of pm_copies_of an_copies_of cd_copies_of ct_copies_of
      f_need_linked := f_need_linked
      d_need_linked := PySem.W.fnOf "need_linked" "need_linked" (defArgs s_need_linked) (defBody s_need_linked) (defScope s_need_linked) .none kV_need_linked dc_need_linked pm_need_linked an_need_linked cd_need_linked ct_need_linked
      f_linked := f_linked
      d_linked := PySem.W.fnOf "linked" "linked" (defArgs s_linked) (defBody s_linked) (defScope s_linked) .none kV_linked dc_linked pm_linked an_linked cd_linked ct_linked
      f__law_begun := f__law_begun
      d__law_begun := PySem.W.fnOf "_law_begun" "_law_begun" (defArgs s__law_begun) (defBody s__law_begun) (defScope s__law_begun) .none kV__law_begun dc__law_begun pm__law_begun an__law_begun cd__law_begun ct__law_begun
      f__law_draw := f__law_draw
      d__law_draw := PySem.W.fnOf "_law_draw" "_law_draw" (defArgs s__law_draw) (defBody s__law_draw) (defScope s__law_draw) .none kV__law_draw dc__law_draw pm__law_draw an__law_draw cd__law_draw ct__law_draw
      f__law_pick := f__law_pick
      d__law_pick := PySem.W.fnOf "_law_pick" "_law_pick" (defArgs s__law_pick) (defBody s__law_pick) (defScope s__law_pick) .none kV__law_pick dc__law_pick pm__law_pick an__law_pick cd__law_pick ct__law_pick
      f__law_asker := f__law_asker
      d__law_asker := PySem.W.fnOf "_law_asker" "_law_asker" (defArgs s__law_asker) (defBody s__law_asker) (defScope s__law_asker) .none kV__law_asker dc__law_asker pm__law_asker an__law_asker cd__law_asker ct__law_asker
      f__law_server := f__law_server
      d__law_server := PySem.W.fnOf "_law_server" "_law_server" (defArgs s__law_server) (defBody s__law_server) (defScope s__law_server) .none kV__law_server dc__law_server pm__law_server an__law_server cd__law_server ct__law_server
      f__law_places_of := f__law_places_of
      d__law_places_of := PySem.W.fnOf "_law_places_of" "_law_places_of" (defArgs s__law_places_of) (defBody s__law_places_of) (defScope s__law_places_of) .none kV__law_places_of dc__law_places_of pm__law_places_of an__law_places_of cd__law_places_of ct__law_places_of
      f__law_how_refused := f__law_how_refused
      d__law_how_refused := PySem.W.fnOf "_law_how_refused" "_law_how_refused" (defArgs s__law_how_refused) (defBody s__law_how_refused) (defScope s__law_how_refused) .none kV__law_how_refused dc__law_how_refused pm__law_how_refused an__law_how_refused cd__law_how_refused ct__law_how_refused
      f__law_how_due := f__law_how_due
      d__law_how_due := PySem.W.fnOf "_law_how_due" "_law_how_due" (defArgs s__law_how_due) (defBody s__law_how_due) (defScope s__law_how_due) .none kV__law_how_due dc__law_how_due pm__law_how_due an__law_how_due cd__law_how_due ct__law_how_due
      f__law_long_ones := f__law_long_ones
      d__law_long_ones := PySem.W.fnOf "_law_long_ones" "_law_long_ones" (defArgs s__law_long_ones) (defBody s__law_long_ones) (defScope s__law_long_ones) .none kV__law_long_ones dc__law_long_ones pm__law_long_ones an__law_long_ones cd__law_long_ones ct__law_long_ones
      f_law := fa
      d_law := PySem.W.fnOf "law" "law" (defArgs s_law) (defBody s_law) (defScope s_law) .none kV_law dc_law pm_law an_law cd_law ct_law
      C_Ground := C_Ground
      C_Flow := C_Flow
      C_Copy := C_Copy
      t_PRIME := t_PRIME
      t_MOST_PRIME := t_MOST_PRIME
      t_MOST_NAME := t_MOST_NAME
      t_MOST_PLACE := t_MOST_PLACE
      t_LETTERS := t_LETTERS
      t_FIGURES := t_FIGURES
      t_MOST_PLACES_flows := t_MOST_PLACES_flows
      t_MOST_STEPS_flows := t_MOST_STEPS_flows
      t_MOST_WAYS := t_MOST_WAYS
      t_MOST_COMING := t_MOST_COMING
      t_NOWHERE := t_NOWHERE
      r_BREAKS := r_BREAKS
      t_MOVE := t_MOVE
      t_MOST_PLACES_linking := t_MOST_PLACES_linking
      t_MOST_SIGNS := t_MOST_SIGNS
      t_MOST_STEPS_linking := t_MOST_STEPS_linking
      C_TraceError := C_TraceError
      C_NoFlow := C_NoFlow
      C_NoUnit := C_NoUnit
      C_NoLetter := C_NoLetter
      C_TooLong := C_TooLong
      C_TooMany := C_TooMany
      C_NoPair := C_NoPair
      r_SORTS := r_SORTS
      p_serve := p_serve
      p_move := p_move
      p_out := p_out
      p_ask := p_ask
      p_done := p_done }
  have T : Tx K w mg A :=
    { F_is_whole := F_is_whole
      b_is_whole := F_is_whole.binds (ps := ["thing"]) fun _ _ _ _ _ _ us hl => match us, hl with | [_], _ => rfl
      g_is_whole := PySem.W.mg_of X G a_is_whole
      F_is_prime := F_is_prime
      b_is_prime := F_is_prime.binds (ps := ["thing"]) fun _ _ _ _ _ _ us hl => match us, hl with | [_], _ => rfl
      g_is_prime := PySem.W.mg_of X G a_is_prime
      F_is_number := F_is_number
      b_is_number := F_is_number.binds (ps := ["thing", "p"]) fun _ _ _ _ _ _ us hl => match us, hl with | [_, _], _ => rfl
      g_is_number := PySem.W.mg_of X G a_is_number
      F_is_name := F_is_name
      b_is_name := F_is_name.binds (ps := ["thing"]) fun _ _ _ _ _ _ us hl => match us, hl with | [_], _ => rfl
      g_is_name := PySem.W.mg_of X G a_is_name
      F_is_place := F_is_place
      b_is_place := F_is_place.binds (ps := ["thing"]) fun _ _ _ _ _ _ us hl => match us, hl with | [_], _ => rfl
      g_is_place := PySem.W.mg_of X G a_is_place
      F_is_form := F_is_form
      b_is_form := F_is_form.binds (ps := ["thing", "p"]) fun _ _ _ _ _ _ us hl => match us, hl with | [_, _], _ => rfl
      g_is_form := PySem.W.mg_of X G a_is_form
      F_places_in := F_places_in
      b_places_in := F_places_in.binds (ps := ["form"]) fun _ _ _ _ _ _ us hl => match us, hl with | [_], _ => rfl
      g_places_in := PySem.W.mg_of X G a_places_in
      F_Ground___init__ := F_Ground___init__
      b_Ground___init__ := F_Ground___init__.binds (ps := ["self", "there", "many", "base"]) fun _ _ _ _ _ _ us hl => match us, hl with | [_, _, _, _], _ => rfl
      F_Ground_is_goal := F_Ground_is_goal
      b_Ground_is_goal := F_Ground_is_goal.binds (ps := ["self", "thing"]) fun _ _ _ _ _ _ us hl => match us, hl with | [_, _], _ => rfl
      m_Ground_is_goal := ⟨a_Ground_is_goal, i_Ground_is_goal, k_Ground_is_goal⟩
      F_Ground_is_sink := F_Ground_is_sink
      b_Ground_is_sink := F_Ground_is_sink.binds (ps := ["self", "thing"]) fun _ _ _ _ _ _ us hl => match us, hl with | [_, _], _ => rfl
      m_Ground_is_sink := ⟨a_Ground_is_sink, i_Ground_is_sink, k_Ground_is_sink⟩
      F_Ground_is_over := F_Ground_is_over
      b_Ground_is_over := F_Ground_is_over.binds (ps := ["self", "thing"]) fun _ _ _ _ _ _ us hl => match us, hl with | [_, _], _ => rfl
      m_Ground_is_over := ⟨a_Ground_is_over, i_Ground_is_over, k_Ground_is_over⟩
      F_Ground_are_over := F_Ground_are_over
      b_Ground_are_over := F_Ground_are_over.binds (ps := ["self", "thing"]) fun _ _ _ _ _ _ us hl => match us, hl with | [_, _], _ => rfl
      m_Ground_are_over := ⟨a_Ground_are_over, i_Ground_are_over, k_Ground_are_over⟩
      F_Ground_are_sinks := F_Ground_are_sinks
      b_Ground_are_sinks := F_Ground_are_sinks.binds (ps := ["self", "thing"]) fun _ _ _ _ _ _ us hl => match us, hl with | [_, _], _ => rfl
      m_Ground_are_sinks := ⟨a_Ground_are_sinks, i_Ground_are_sinks, k_Ground_are_sinks⟩
      F_rises := F_rises
      b_rises := F_rises.binds (ps := ["words"]) fun _ _ _ _ _ _ us hl => match us, hl with | [_], _ => rfl
      g_rises := PySem.W.mg_of X G a_rises
      F_are_tuples := F_are_tuples
      b_are_tuples := F_are_tuples.binds (ps := ["thing", "least", "most", "size"]) fun _ _ _ _ _ _ us hl => match us, hl with | [_, _, _, _], _ => rfl
      g_are_tuples := PySem.W.mg_of X G a_are_tuples
      F_is_serve := F_is_serve
      b_is_serve := F_is_serve.binds (ps := ["step", "ground"]) fun _ _ _ _ _ _ us hl => match us, hl with | [_, _], _ => rfl
      g_is_serve := PySem.W.mg_of X G a_is_serve
      F_is_move := F_is_move
      b_is_move := F_is_move.binds (ps := ["step", "ground"]) fun _ _ _ _ _ _ us hl => match us, hl with | [_, _], _ => rfl
      g_is_move := PySem.W.mg_of X G a_is_move
      F_is_out := F_is_out
      b_is_out := F_is_out.binds (ps := ["step", "ground"]) fun _ _ _ _ _ _ us hl => match us, hl with | [_, _], _ => rfl
      g_is_out := PySem.W.mg_of X G a_is_out
      F_is_ask := F_is_ask
      b_is_ask := F_is_ask.binds (ps := ["step", "ground"]) fun _ _ _ _ _ _ us hl => match us, hl with | [_, _], _ => rfl
      g_is_ask := PySem.W.mg_of X G a_is_ask
      F_is_done := F_is_done
      b_is_done := F_is_done.binds (ps := ["step", "ground"]) fun _ _ _ _ _ _ us hl => match us, hl with | [_, _], _ => rfl
      g_is_done := PySem.W.mg_of X G a_is_done
      F_is_step := F_is_step
      b_is_step := F_is_step.binds (ps := ["step", "ground"]) fun _ _ _ _ _ _ us hl => match us, hl with | [_, _], _ => rfl
      g_is_step := PySem.W.mg_of X G a_is_step
      F_goals_of := F_goals_of
      b_goals_of := F_goals_of.binds (ps := ["step"]) fun _ _ _ _ _ _ us hl => match us, hl with | [_], _ => rfl
      g_goals_of := PySem.W.mg_of X G a_goals_of
      F_has_idle_round := F_has_idle_round
      b_has_idle_round := F_has_idle_round.binds (ps := ["steps"]) fun _ _ _ _ _ _ us hl => match us, hl with | [_], _ => rfl
      g_has_idle_round := PySem.W.mg_of X G a_has_idle_round
      F_need_flow := F_need_flow
      b_need_flow := F_need_flow.binds (ps := ["places", "steps", "base"]) fun _ _ _ _ _ _ us hl => match us, hl with | [_, _, _], _ => rfl
      g_need_flow := PySem.W.mg_of X G a_need_flow
      F_Flow___init__ := F_Flow___init__
      b_Flow___init__ := kbn_all fun us ws h1 h2 => match us, h1, ws, h2 with | [_, _, _], _, [_], _ => rfl
      F_Flow_places := F_Flow_places
      b_Flow_places := F_Flow_places.binds (ps := ["self"]) fun _ _ _ _ _ _ us hl => match us, hl with | [_], _ => rfl
      m_Flow_places := ⟨a_Flow_places, i_Flow_places, k_Flow_places⟩
      F_Flow_steps := F_Flow_steps
      b_Flow_steps := F_Flow_steps.binds (ps := ["self"]) fun _ _ _ _ _ _ us hl => match us, hl with | [_], _ => rfl
      m_Flow_steps := ⟨a_Flow_steps, i_Flow_steps, k_Flow_steps⟩
      F_Flow_prime := F_Flow_prime
      b_Flow_prime := F_Flow_prime.binds (ps := ["self"]) fun _ _ _ _ _ _ us hl => match us, hl with | [_], _ => rfl
      m_Flow_prime := ⟨a_Flow_prime, i_Flow_prime, k_Flow_prime⟩
      F_Flow_deeds := F_Flow_deeds
      b_Flow_deeds := F_Flow_deeds.binds (ps := ["self"]) fun _ _ _ _ _ _ us hl => match us, hl with | [_], _ => rfl
      m_Flow_deeds := ⟨a_Flow_deeds, i_Flow_deeds, k_Flow_deeds⟩
      F_Flow___len__ := F_Flow___len__
      b_Flow___len__ := F_Flow___len__.binds (ps := ["self"]) fun _ _ _ _ _ _ us hl => match us, hl with | [_], _ => rfl
      m_Flow___len__ := ⟨a_Flow___len__, i_Flow___len__, k_Flow___len__⟩
      F_asks_of := F_asks_of
      b_asks_of := F_asks_of.binds (ps := ["flow", "unit"]) fun _ _ _ _ _ _ us hl => match us, hl with | [_, _], _ => rfl
      g_asks_of := PySem.W.mg_of X G a_asks_of
      F_called_so := F_called_so
      b_called_so := F_called_so.binds (ps := ["unit", "place"]) fun _ _ _ _ _ _ us hl => match us, hl with | [_, _], _ => rfl
      g_called_so := PySem.W.mg_of X G a_called_so
      F_form_called := F_form_called
      b_form_called := F_form_called.binds (ps := ["unit", "form"]) fun _ _ _ _ _ _ us hl => match us, hl with | [_, _], _ => rfl
      g_form_called := PySem.W.mg_of X G a_form_called
      F_Copy___init__ := F_Copy___init__
      b_Copy___init__ := F_Copy___init__.binds (ps := ["self", "unit", "ask", "ahead"]) fun _ _ _ _ _ _ us hl => match us, hl with | [_, _, _, _], _ => rfl
      F_Copy_number_of := F_Copy_number_of
      b_Copy_number_of := F_Copy_number_of.binds (ps := ["self", "at"]) fun _ _ _ _ _ _ us hl => match us, hl with | [_, _], _ => rfl
      m_Copy_number_of := ⟨a_Copy_number_of, i_Copy_number_of, k_Copy_number_of⟩
      F_Copy_renamed := F_Copy_renamed
      b_Copy_renamed := F_Copy_renamed.binds (ps := ["self", "place"]) fun _ _ _ _ _ _ us hl => match us, hl with | [_, _], _ => rfl
      m_Copy_renamed := ⟨a_Copy_renamed, i_Copy_renamed, k_Copy_renamed⟩
      F_Copy_form := F_Copy_form
      b_Copy_form := F_Copy_form.binds (ps := ["self", "form"]) fun _ _ _ _ _ _ us hl => match us, hl with | [_, _], _ => rfl
      m_Copy_form := ⟨a_Copy_form, i_Copy_form, k_Copy_form⟩
      F_Copy_begun := F_Copy_begun
      b_Copy_begun := F_Copy_begun.binds (ps := ["self", "ways"]) fun _ _ _ _ _ _ us hl => match us, hl with | [_, _], _ => rfl
      m_Copy_begun := ⟨a_Copy_begun, i_Copy_begun, k_Copy_begun⟩
      F_Copy_ended := F_Copy_ended
      b_Copy_ended := F_Copy_ended.binds (ps := ["self", "step"]) fun _ _ _ _ _ _ us hl => match us, hl with | [_, _], _ => rfl
      m_Copy_ended := ⟨a_Copy_ended, i_Copy_ended, k_Copy_ended⟩
      F_Copy_led := F_Copy_led
      b_Copy_led := F_Copy_led.binds (ps := ["self", "step"]) fun _ _ _ _ _ _ us hl => match us, hl with | [_, _], _ => rfl
      m_Copy_led := ⟨a_Copy_led, i_Copy_led, k_Copy_led⟩
      F_copies_of := F_copies_of
      b_copies_of := F_copies_of.binds (ps := ["flow", "unit", "other"]) fun _ _ _ _ _ _ us hl => match us, hl with | [_, _, _], _ => rfl
      g_copies_of := PySem.W.mg_of X G a_copies_of
      F_need_linked := F_need_linked
      b_need_linked := F_need_linked.binds (ps := ["flow", "unit", "other"]) fun _ _ _ _ _ _ us hl => match us, hl with | [_, _, _], _ => rfl
      g_need_linked := PySem.W.mg_of X G a_need_linked
      F_linked := F_linked
      b_linked := F_linked.binds (ps := ["flow", "unit", "other"]) fun _ _ _ _ _ _ us hl => match us, hl with | [_, _, _], _ => rfl
      g_linked := PySem.W.mg_of X G a_linked
      F__law_begun := F__law_begun
      b__law_begun := F__law_begun.binds (ps := ["script"]) fun _ _ _ _ _ _ us hl => match us, hl with | [_], _ => rfl
      g__law_begun := PySem.W.mg_of X G a__law_begun
      F__law_draw := F__law_draw
      b__law_draw := F__law_draw.binds (ps := ["draws", "many"]) fun _ _ _ _ _ _ us hl => match us, hl with | [_, _], _ => rfl
      g__law_draw := PySem.W.mg_of X G a__law_draw
      F__law_pick := F__law_pick
      b__law_pick := F__law_pick.binds (ps := ["draws", "some"]) fun _ _ _ _ _ _ us hl => match us, hl with | [_, _], _ => rfl
      g__law_pick := PySem.W.mg_of X G a__law_pick
      F__law_asker := F__law_asker
      b__law_asker := F__law_asker.binds (ps := ["draws", "p", "sites", "asks"]) fun _ _ _ _ _ _ us hl => match us, hl with | [_, _, _, _], _ => rfl
      g__law_asker := PySem.W.mg_of X G a__law_asker
      F__law_server := F__law_server
      b__law_server := F__law_server.binds (ps := ["p", "sites", "deeds", "longer"]) fun _ _ _ _ _ _ us hl => match us, hl with | [_, _, _, _], _ => rfl
      g__law_server := PySem.W.mg_of X G a__law_server
      F__law_places_of := F__law_places_of
      b__law_places_of := F__law_places_of.binds (ps := ["draws", "many", "sign"]) fun _ _ _ _ _ _ us hl => match us, hl with | [_, _, _], _ => rfl
      g__law_places_of := PySem.W.mg_of X G a__law_places_of
      F__law_how_refused := F__law_how_refused
      b__law_how_refused := F__law_how_refused.binds (ps := ["near", "label", "far"]) fun _ _ _ _ _ _ us hl => match us, hl with | [_, _, _], _ => rfl
      g__law_how_refused := PySem.W.mg_of X G a__law_how_refused
      F__law_how_due := F__law_how_due
      b__law_how_due := F__law_how_due.binds (ps := ["near", "label", "far"]) fun _ _ _ _ _ _ us hl => match us, hl with | [_, _, _], _ => rfl
      g__law_how_due := PySem.W.mg_of X G a__law_how_due
      F__law_long_ones := F__law_long_ones
      b__law_long_ones := F__law_long_ones.binds (ps := ["draws"]) fun _ _ _ _ _ _ us hl => match us, hl with | [_], _ => rfl
      g__law_long_ones := PySem.W.mg_of X G a__law_long_ones
      F_law := F_law
      b_law := F_law.binds (ps := ["script"]) fun _ _ _ _ _ _ us hl => match us, hl with | [_], _ => rfl
      g_law := PySem.W.mg_of X G a_law
      c_Ground := ⟨pg_Ground, hd_Ground, po_Ground, sa_Ground⟩
      g_Ground := PySem.W.mg_of X G aC_Ground
      M_Ground := ⟨mk_Ground, a_Ground___init__, i_Ground___init__, kc_Ground⟩
      a_Ground_there := n_Ground_there
      a_Ground_many := n_Ground_many
      a_Ground_base := n_Ground_base
      c_Flow := ⟨pg_Flow, hd_Flow, po_Flow, sa_Flow⟩
      g_Flow := PySem.W.mg_of X G aC_Flow
      M_Flow := ⟨mk_Flow, a_Flow___init__, i_Flow___init__, kc_Flow⟩
      a_Flow_sites := n_Flow_sites
      a_Flow_rows := n_Flow_rows
      a_Flow_base := n_Flow_base
      c_Copy := ⟨pg_Copy, hd_Copy, po_Copy, sa_Copy⟩
      g_Copy := PySem.W.mg_of X G aC_Copy
      M_Copy := ⟨mk_Copy, a_Copy___init__, i_Copy___init__, kc_Copy⟩
      a_Copy_label := n_Copy_label
      a_Copy_asking := n_Copy_asking
      a_Copy_ahead := n_Copy_ahead
      n_len := PySem.W.mg_none_of X G z_len
      n_all := PySem.W.mg_none_of X G z_all
      n_any := PySem.W.mg_none_of X G z_any
      n_tuple := PySem.W.mg_none_of X G z_tuple
      n_list := PySem.W.mg_none_of X G z_list
      n_set := PySem.W.mg_none_of X G z_set
      n_isinstance := PySem.W.mg_none_of X G z_isinstance
      n_int := PySem.W.mg_none_of X G z_int
      n_bool := PySem.W.mg_none_of X G z_bool
      n_str := PySem.W.mg_none_of X G z_str
      n_sorted := PySem.W.mg_none_of X G z_sorted
      n_abs := PySem.W.mg_none_of X G z_abs
      n_range := PySem.W.mg_none_of X G z_range
      n_enumerate := PySem.W.mg_none_of X G z_enumerate
      n_zip := PySem.W.mg_none_of X G z_zip
      n_ValueError := PySem.W.mg_none_of X G z_ValueError
      g_PRIME := PySem.W.mg_of X G g_PRIME
      g_MOST_PRIME := PySem.W.mg_of X G g_MOST_PRIME
      g_MOST_NAME := PySem.W.mg_of X G g_MOST_NAME
      g_MOST_PLACE := PySem.W.mg_of X G g_MOST_PLACE
      g_LETTERS := PySem.W.mg_of X G g_LETTERS
      g_FIGURES := PySem.W.mg_of X G g_FIGURES
      g_MOST_PLACES_flows := PySem.W.mg_of X G g_MOST_PLACES_flows
      g_MOST_STEPS_flows := PySem.W.mg_of X G g_MOST_STEPS_flows
      g_MOST_WAYS := PySem.W.mg_of X G g_MOST_WAYS
      g_MOST_COMING := PySem.W.mg_of X G g_MOST_COMING
      g_NOWHERE := PySem.W.mg_of X G g_NOWHERE
      g_BREAKS := PySem.W.mg_of X G g_BREAKS
      q_BREAKS := fun H => .inr ⟨_, _, _, l_BREAKS, rfl, rfl, by show 3 ≤ sizeLine; decide, (.cons ⟨_, rfl⟩ (.cons ⟨_, rfl⟩ (.cons ⟨_, rfl⟩ .nil)))⟩
      g_MOVE := PySem.W.mg_of X G g_MOVE
      g_MOST_PLACES_linking := PySem.W.mg_of X G g_MOST_PLACES_linking
      g_MOST_SIGNS := PySem.W.mg_of X G g_MOST_SIGNS
      g_MOST_STEPS_linking := PySem.W.mg_of X G g_MOST_STEPS_linking
      g_TraceError := PySem.W.mg_of X G aC_TraceError
      g_NoFlow := PySem.W.mg_of X G aC_NoFlow
      g_NoUnit := PySem.W.mg_of X G aC_NoUnit
      g_NoLetter := PySem.W.mg_of X G aC_NoLetter
      g_TooLong := PySem.W.mg_of X G aC_TooLong
      g_TooMany := PySem.W.mg_of X G aC_TooMany
      g_NoPair := PySem.W.mg_of X G aC_NoPair
      x_NoPair := exc_in xl_NoPair xl_T (nsOk_of xn_NoPair xo_NoPair) xi_NoPair (nsOk_of xn_T xo_T) xi_T
      kp_NoPair := kp_NoPair
      sb_NoPair := sb_NoPair
      ty_NoPair := ty_NoPair
      ex_NoPair := PySem.W.exm_ref sb_T hd_T ty_T st_NoPair
      ec_NoPair := ⟨eg_NoPair, ek_NoPair, sb_NoPair, hd_NoPair, ea_NoPair, en, et, em_NoPair⟩
      kv_NoPair := kit_ty sv_NoPair (by decide +kernel)
      ko_NoPair := (kit_any (kit_no ss_NoPair no_NoPair_NoFlow ic_NoFlow ty_NoFlow) (kit_any (kit_no ss_NoPair no_NoPair_NoLetter ic_NoLetter ty_NoLetter) (kit_any (kit_no ss_NoPair no_NoPair_NoUnit ic_NoUnit ty_NoUnit) (kit_any (kit_no ss_NoPair no_NoPair_TooLong ic_TooLong ty_TooLong) rfl))))
      kt_NoPair_NoPair := kit_self _
      kt_NoPair_TooMany := kit_no ss_NoPair no_NoPair_TooMany ic_TooMany ty_TooMany
      x_TooMany := exc_in xl_TooMany xl_T (nsOk_of xn_TooMany xo_TooMany) xi_TooMany (nsOk_of xn_T xo_T) xi_T
      kp_TooMany := kp_TooMany
      sb_TooMany := sb_TooMany
      ty_TooMany := ty_TooMany
      ex_TooMany := PySem.W.exm_ref sb_T hd_T ty_T st_TooMany
      ec_TooMany := ⟨eg_TooMany, ek_TooMany, sb_TooMany, hd_TooMany, ea_TooMany, en, et, em_TooMany⟩
      kv_TooMany := kit_ty sv_TooMany (by decide +kernel)
      ko_TooMany := (kit_any (kit_no ss_TooMany no_TooMany_NoFlow ic_NoFlow ty_NoFlow) (kit_any (kit_no ss_TooMany no_TooMany_NoLetter ic_NoLetter ty_NoLetter) (kit_any (kit_no ss_TooMany no_TooMany_NoUnit ic_NoUnit ty_NoUnit) (kit_any (kit_no ss_TooMany no_TooMany_TooLong ic_TooLong ty_TooLong) rfl))))
      kt_TooMany_NoPair := kit_no ss_TooMany no_TooMany_NoPair ic_NoPair ty_NoPair
      kt_TooMany_TooMany := kit_self _
      g_SORTS := PySem.W.mg_of X G g_SORTS
      kd_SORTS := ⟨es_SORTS, n_SORTS, l_SORTS, kl_SORTS, lo_SORTS⟩
      ns_serve := ns_serve
      pt_serve := fun H => .inr ⟨_, _, _, lp_serve, rfl, rfl, by show 2 ≤ sizeLine; decide, .cons ⟨_, rfl⟩ (.cons rfl .nil)⟩
      ns_move := ns_move
      pt_move := fun H => .inr ⟨_, _, _, lp_move, rfl, rfl, by show 2 ≤ sizeLine; decide, .cons ⟨_, rfl⟩ (.cons rfl .nil)⟩
      ns_out := ns_out
      pt_out := fun H => .inr ⟨_, _, _, lp_out, rfl, rfl, by show 2 ≤ sizeLine; decide, .cons ⟨_, rfl⟩ (.cons rfl .nil)⟩
      ns_ask := ns_ask
      pt_ask := fun H => .inr ⟨_, _, _, lp_ask, rfl, rfl, by show 2 ≤ sizeLine; decide, .cons ⟨_, rfl⟩ (.cons rfl .nil)⟩
      ns_done := ns_done
      pt_done := fun H => .inr ⟨_, _, _, lp_done, rfl, rfl, by show 2 ≤ sizeLine; decide, .cons ⟨_, rfl⟩ (.cons rfl .nil)⟩ }
  exact ⟨A.d_law, fun s v => .of_eq rfl, fun base _ _ => ok_law T⟩
theorem walk {l : PySem.W.OpenLaw} {q : Program} {loose : List Str} {XP : (Str → Option Value) → Heap → Prop} {YP : World → Heap → Prop} {d : DefRec} {K : Params → PySem.W.Frag} (hn : l.most = some 63) (hdf : d.params.defaults = [])
    (hY : ∀ (w : World) (h : Heap), YP w h → (K w.params).In h)
    (F : ∀ (w : World) (mg : Str → Option Value) (fa : Addr) (h : Heap), (K w.params).In h → h.Ns mainGlobals mg → mg d.name = some (.ref fa) →
      ∃ fd : FuncData, (∀ (s : Shared) (u : Value), BindsTo s fd ⟨[u], []⟩ [("script", u)]) ∧ ∀ base : Heap, (K w.params).In base → base.Ns mainGlobals mg → FnOk l.prog w (K w.params) mg base CX0 13 fa fd ["script"] (spLaw (K w.params))) :
    PySem.W.WalkO q loose XP YP l.row.toRowW d [] (fun f vs => PySem.call f vs) :=
  L2.walk_of (n := 63) (k := 13) (x := "script") (CX := fun _ => CX0) (sp := fun w => spLaw (K w.params)) hn (by decide) hdf ⟨rfl, by decide, by decide⟩ hY F (fun _ _ a ns hl _ hS => ⟨a, ns, rfl, hS, hl, fun _ => rfl⟩) fun _ _ _ _ _ z => z
end K56
set_option Elab.async false
open PySem PySem.W PyProof.Rows in
set_option maxRecDepth 100000 in
set_option maxHeartbeats 0 in
theorem PySem.Challenge.cw_onetrace_k56_links_refused_holds : PySem.Challenge.rw_onetrace_k56_links_refused.Holds := by
  w_on; o_law; k_head; (case hw => w_witness2)
  k_fill
  refine K56.walk (l := PySem.Challenge.rw_onetrace_k56_links_refused) rfl rfl (fun w h Y => PySem.W.kIn_of Y) ?F
  case F =>
    intro w mg fa h KX G hmg
    refine' K56.all_mk KX G hmg ?aC_Ground ?aC_Flow ?aC_Copy ?a_is_whole ?l_is_whole ?c_is_whole ?k_is_whole ?a_is_prime ?l_is_prime ?c_is_prime ?k_is_prime ?a_is_number ?l_is_number ?c_is_number ?k_is_number ?a_is_name ?l_is_name ?c_is_name ?k_is_name ?a_is_place ?l_is_place ?c_is_place ?k_is_place ?a_is_form ?l_is_form ?c_is_form ?k_is_form ?a_places_in ?l_places_in ?c_places_in ?k_places_in ?a_Ground___init__ ?i_Ground___init__ ?l_Ground___init__ ?c_Ground___init__ ?k_Ground___init__ ?a_Ground_is_goal ?i_Ground_is_goal ?l_Ground_is_goal ?c_Ground_is_goal ?k_Ground_is_goal ?a_Ground_is_sink ?i_Ground_is_sink ?l_Ground_is_sink ?c_Ground_is_sink ?k_Ground_is_sink ?a_Ground_is_over ?i_Ground_is_over ?l_Ground_is_over ?c_Ground_is_over ?k_Ground_is_over ?a_Ground_are_over ?i_Ground_are_over ?l_Ground_are_over ?c_Ground_are_over ?k_Ground_are_over ?a_Ground_are_sinks ?i_Ground_are_sinks ?l_Ground_are_sinks ?c_Ground_are_sinks ?k_Ground_are_sinks ?a_rises ?l_rises ?c_rises ?k_rises ?a_are_tuples ?l_are_tuples ?c_are_tuples ?k_are_tuples ?a_is_serve ?l_is_serve ?c_is_serve ?k_is_serve ?a_is_move ?l_is_move ?c_is_move ?k_is_move ?a_is_out ?l_is_out ?c_is_out ?k_is_out ?a_is_ask ?l_is_ask ?c_is_ask ?k_is_ask ?a_is_done ?l_is_done ?c_is_done ?k_is_done ?a_is_step ?l_is_step ?c_is_step ?k_is_step ?a_goals_of ?l_goals_of ?c_goals_of ?k_goals_of ?a_has_idle_round ?l_has_idle_round ?c_has_idle_round ?k_has_idle_round ?a_need_flow ?l_need_flow ?c_need_flow ?k_need_flow ?a_Flow___init__ ?i_Flow___init__ ?l_Flow___init__ ?c_Flow___init__ ?k_Flow___init__ ?a_Flow_places ?i_Flow_places ?l_Flow_places ?c_Flow_places ?k_Flow_places ?a_Flow_steps ?i_Flow_steps ?l_Flow_steps ?c_Flow_steps ?k_Flow_steps ?a_Flow_prime ?i_Flow_prime ?l_Flow_prime ?c_Flow_prime ?k_Flow_prime ?a_Flow_deeds ?i_Flow_deeds ?l_Flow_deeds ?c_Flow_deeds ?k_Flow_deeds ?a_Flow___len__ ?i_Flow___len__ ?l_Flow___len__ ?c_Flow___len__ ?k_Flow___len__ ?a_asks_of ?l_asks_of ?c_asks_of ?k_asks_of ?a_called_so ?l_called_so ?c_called_so ?k_called_so ?a_form_called ?l_form_called ?c_form_called ?k_form_called ?a_Copy___init__ ?i_Copy___init__ ?l_Copy___init__ ?c_Copy___init__ ?k_Copy___init__ ?a_Copy_number_of ?i_Copy_number_of ?l_Copy_number_of ?c_Copy_number_of ?k_Copy_number_of ?a_Copy_renamed ?i_Copy_renamed ?l_Copy_renamed ?c_Copy_renamed ?k_Copy_renamed ?a_Copy_form ?i_Copy_form ?l_Copy_form ?c_Copy_form ?k_Copy_form ?a_Copy_begun ?i_Copy_begun ?l_Copy_begun ?c_Copy_begun ?k_Copy_begun ?a_Copy_ended ?i_Copy_ended ?l_Copy_ended ?c_Copy_ended ?k_Copy_ended ?a_Copy_led ?i_Copy_led ?l_Copy_led ?c_Copy_led ?k_Copy_led ?a_copies_of ?l_copies_of ?c_copies_of ?k_copies_of ?a_need_linked ?l_need_linked ?c_need_linked ?k_need_linked ?a_linked ?l_linked ?c_linked ?k_linked ?a__law_begun ?l__law_begun ?c__law_begun ?k__law_begun ?a__law_draw ?l__law_draw ?c__law_draw ?k__law_draw ?a__law_pick ?l__law_pick ?c__law_pick ?k__law_pick ?a__law_asker ?l__law_asker ?c__law_asker ?k__law_asker ?a__law_server ?l__law_server ?c__law_server ?k__law_server ?a__law_places_of ?l__law_places_of ?c__law_places_of ?k__law_places_of ?a__law_how_refused ?l__law_how_refused ?c__law_how_refused ?k__law_how_refused ?a__law_how_due ?l__law_how_due ?c__law_how_due ?k__law_how_due ?a__law_long_ones ?l__law_long_ones ?c__law_long_ones ?k__law_long_ones ?a_law ?l_law ?c_law ?k_law ?pg_Ground ?hd_Ground ?po_Ground ?sa_Ground ?mk_Ground ?kc_Ground ?n_Ground_there ?n_Ground_many ?n_Ground_base ?pg_Flow ?hd_Flow ?po_Flow ?sa_Flow ?mk_Flow ?kc_Flow ?n_Flow_sites ?n_Flow_rows ?n_Flow_base ?pg_Copy ?hd_Copy ?po_Copy ?sa_Copy ?mk_Copy ?kc_Copy ?n_Copy_label ?n_Copy_asking ?n_Copy_ahead ?z_len ?z_all ?z_any ?z_tuple ?z_list ?z_set ?z_isinstance ?z_int ?z_bool ?z_str ?z_sorted ?z_abs ?z_range ?z_enumerate ?z_zip ?z_ValueError ?g_PRIME ?g_MOST_PRIME ?g_MOST_NAME ?g_MOST_PLACE ?g_LETTERS ?g_FIGURES ?g_MOST_PLACES_flows ?g_MOST_STEPS_flows ?g_MOST_WAYS ?g_MOST_COMING ?g_NOWHERE ?g_BREAKS ?l_BREAKS ?g_MOVE ?g_MOST_PLACES_linking ?g_MOST_SIGNS ?g_MOST_STEPS_linking ?aC_TraceError ?aC_NoFlow ?aC_NoUnit ?aC_NoLetter ?aC_TooLong ?aC_TooMany ?aC_NoPair ?xl_T ?xn_T ?xo_T ?xi_T ?sb_T ?hd_T ?ty_T ?xl_NoPair ?xn_NoPair ?xo_NoPair ?xi_NoPair ?kp_NoPair ?sb_NoPair ?st_NoPair ?sv_NoPair ?ss_NoPair ?ty_NoPair ?ic_NoPair ?hd_NoPair ?eg_NoPair ?ek_NoPair ?ea_NoPair ?em_NoPair ?xl_TooMany ?xn_TooMany ?xo_TooMany ?xi_TooMany ?kp_TooMany ?sb_TooMany ?st_TooMany ?sv_TooMany ?ss_TooMany ?ty_TooMany ?ic_TooMany ?hd_TooMany ?eg_TooMany ?ek_TooMany ?ea_TooMany ?em_TooMany ?en ?et ?ic_NoFlow ?ty_NoFlow ?no_NoPair_NoFlow ?no_TooMany_NoFlow ?ic_NoLetter ?ty_NoLetter ?no_NoPair_NoLetter ?no_TooMany_NoLetter ?ic_NoUnit ?ty_NoUnit ?no_NoPair_NoUnit ?no_TooMany_NoUnit ?ic_TooLong ?ty_TooLong ?no_NoPair_TooLong ?no_TooMany_TooLong ?no_NoPair_TooMany ?no_TooMany_NoPair ?g_SORTS ?l_SORTS ?kl_SORTS ?lo_SORTS ?ns_serve ?lp_serve ?ns_move ?lp_move ?ns_out ?lp_out ?ns_ask ?lp_ask ?ns_done ?lp_done
    (case aC_Ground => k_is)
    (case aC_Flow => k_is)
    (case aC_Copy => k_is)
    (case a_is_whole => k_is)
    (case l_is_whole => k_is)
    (case c_is_whole => k_is)
    (case k_is_whole => k_is)
    (case a_is_prime => k_is)
    (case l_is_prime => k_is)
    (case c_is_prime => k_is)
    (case k_is_prime => k_is)
    (case a_is_number => k_is)
    (case l_is_number => k_is)
    (case c_is_number => k_is)
    (case k_is_number => k_is)
    (case a_is_name => k_is)
    (case l_is_name => k_is)
    (case c_is_name => k_is)
    (case k_is_name => k_is)
    (case a_is_place => k_is)
    (case l_is_place => k_is)
    (case c_is_place => k_is)
    (case k_is_place => k_is)
    (case a_is_form => k_is)
    (case l_is_form => k_is)
    (case c_is_form => k_is)
    (case k_is_form => k_is)
    (case a_places_in => k_is)
    (case l_places_in => k_is)
    (case c_places_in => k_is)
    (case k_places_in => k_is)
    (case a_Ground___init__ => k_is)
    (case i_Ground___init__ => k_is)
    (case l_Ground___init__ => k_is)
    (case c_Ground___init__ => k_is)
    (case k_Ground___init__ => k_is)
    (case a_Ground_is_goal => k_is)
    (case i_Ground_is_goal => k_is)
    (case l_Ground_is_goal => k_is)
    (case c_Ground_is_goal => k_is)
    (case k_Ground_is_goal => k_is)
    (case a_Ground_is_sink => k_is)
    (case i_Ground_is_sink => k_is)
    (case l_Ground_is_sink => k_is)
    (case c_Ground_is_sink => k_is)
    (case k_Ground_is_sink => k_is)
    (case a_Ground_is_over => k_is)
    (case i_Ground_is_over => k_is)
    (case l_Ground_is_over => k_is)
    (case c_Ground_is_over => k_is)
    (case k_Ground_is_over => k_is)
    (case a_Ground_are_over => k_is)
    (case i_Ground_are_over => k_is)
    (case l_Ground_are_over => k_is)
    (case c_Ground_are_over => k_is)
    (case k_Ground_are_over => k_is)
    (case a_Ground_are_sinks => k_is)
    (case i_Ground_are_sinks => k_is)
    (case l_Ground_are_sinks => k_is)
    (case c_Ground_are_sinks => k_is)
    (case k_Ground_are_sinks => k_is)
    (case a_rises => k_is)
    (case l_rises => k_is)
    (case c_rises => k_is)
    (case k_rises => k_is)
    (case a_are_tuples => k_is)
    (case l_are_tuples => k_is)
    (case c_are_tuples => k_is)
    (case k_are_tuples => k_is)
    (case a_is_serve => k_is)
    (case l_is_serve => k_is)
    (case c_is_serve => k_is)
    (case k_is_serve => k_is)
    (case a_is_move => k_is)
    (case l_is_move => k_is)
    (case c_is_move => k_is)
    (case k_is_move => k_is)
    (case a_is_out => k_is)
    (case l_is_out => k_is)
    (case c_is_out => k_is)
    (case k_is_out => k_is)
    (case a_is_ask => k_is)
    (case l_is_ask => k_is)
    (case c_is_ask => k_is)
    (case k_is_ask => k_is)
    (case a_is_done => k_is)
    (case l_is_done => k_is)
    (case c_is_done => k_is)
    (case k_is_done => k_is)
    (case a_is_step => k_is)
    (case l_is_step => k_is)
    (case c_is_step => k_is)
    (case k_is_step => k_is)
    (case a_goals_of => k_is)
    (case l_goals_of => k_is)
    (case c_goals_of => k_is)
    (case k_goals_of => k_is)
    (case a_has_idle_round => k_is)
    (case l_has_idle_round => k_is)
    (case c_has_idle_round => k_is)
    (case k_has_idle_round => k_is)
    (case a_need_flow => k_is)
    (case l_need_flow => k_is)
    (case c_need_flow => k_is)
    (case k_need_flow => k_is)
    (case a_Flow___init__ => k_is)
    (case i_Flow___init__ => k_is)
    (case l_Flow___init__ => k_is)
    (case c_Flow___init__ => k_is)
    (case k_Flow___init__ => k_is)
    (case a_Flow_places => k_is)
    (case i_Flow_places => k_is)
    (case l_Flow_places => k_is)
    (case c_Flow_places => k_is)
    (case k_Flow_places => k_is)
    (case a_Flow_steps => k_is)
    (case i_Flow_steps => k_is)
    (case l_Flow_steps => k_is)
    (case c_Flow_steps => k_is)
    (case k_Flow_steps => k_is)
    (case a_Flow_prime => k_is)
    (case i_Flow_prime => k_is)
    (case l_Flow_prime => k_is)
    (case c_Flow_prime => k_is)
    (case k_Flow_prime => k_is)
    (case a_Flow_deeds => k_is)
    (case i_Flow_deeds => k_is)
    (case l_Flow_deeds => k_is)
    (case c_Flow_deeds => k_is)
    (case k_Flow_deeds => k_is)
    (case a_Flow___len__ => k_is)
    (case i_Flow___len__ => k_is)
    (case l_Flow___len__ => k_is)
    (case c_Flow___len__ => k_is)
    (case k_Flow___len__ => k_is)
    (case a_asks_of => k_is)
    (case l_asks_of => k_is)
    (case c_asks_of => k_is)
    (case k_asks_of => k_is)
    (case a_called_so => k_is)
    (case l_called_so => k_is)
    (case c_called_so => k_is)
    (case k_called_so => k_is)
    (case a_form_called => k_is)
    (case l_form_called => k_is)
    (case c_form_called => k_is)
    (case k_form_called => k_is)
    (case a_Copy___init__ => k_is)
    (case i_Copy___init__ => k_is)
    (case l_Copy___init__ => k_is)
    (case c_Copy___init__ => k_is)
    (case k_Copy___init__ => k_is)
    (case a_Copy_number_of => k_is)
    (case i_Copy_number_of => k_is)
    (case l_Copy_number_of => k_is)
    (case c_Copy_number_of => k_is)
    (case k_Copy_number_of => k_is)
    (case a_Copy_renamed => k_is)
    (case i_Copy_renamed => k_is)
    (case l_Copy_renamed => k_is)
    (case c_Copy_renamed => k_is)
    (case k_Copy_renamed => k_is)
    (case a_Copy_form => k_is)
    (case i_Copy_form => k_is)
    (case l_Copy_form => k_is)
    (case c_Copy_form => k_is)
    (case k_Copy_form => k_is)
    (case a_Copy_begun => k_is)
    (case i_Copy_begun => k_is)
    (case l_Copy_begun => k_is)
    (case c_Copy_begun => k_is)
    (case k_Copy_begun => k_is)
    (case a_Copy_ended => k_is)
    (case i_Copy_ended => k_is)
    (case l_Copy_ended => k_is)
    (case c_Copy_ended => k_is)
    (case k_Copy_ended => k_is)
    (case a_Copy_led => k_is)
    (case i_Copy_led => k_is)
    (case l_Copy_led => k_is)
    (case c_Copy_led => k_is)
    (case k_Copy_led => k_is)
    (case a_copies_of => k_is)
    (case l_copies_of => k_is)
    (case c_copies_of => k_is)
    (case k_copies_of => k_is)
    (case a_need_linked => k_is)
    (case l_need_linked => k_is)
    (case c_need_linked => k_is)
    (case k_need_linked => k_is)
    (case a_linked => k_is)
    (case l_linked => k_is)
    (case c_linked => k_is)
    (case k_linked => k_is)
    (case a__law_begun => k_is)
    (case l__law_begun => k_is)
    (case c__law_begun => k_is)
    (case k__law_begun => k_is)
    (case a__law_draw => k_is)
    (case l__law_draw => k_is)
    (case c__law_draw => k_is)
    (case k__law_draw => k_is)
    (case a__law_pick => k_is)
    (case l__law_pick => k_is)
    (case c__law_pick => k_is)
    (case k__law_pick => k_is)
    (case a__law_asker => k_is)
    (case l__law_asker => k_is)
    (case c__law_asker => k_is)
    (case k__law_asker => k_is)
    (case a__law_server => k_is)
    (case l__law_server => k_is)
    (case c__law_server => k_is)
    (case k__law_server => k_is)
    (case a__law_places_of => k_is)
    (case l__law_places_of => k_is)
    (case c__law_places_of => k_is)
    (case k__law_places_of => k_is)
    (case a__law_how_refused => k_is)
    (case l__law_how_refused => k_is)
    (case c__law_how_refused => k_is)
    (case k__law_how_refused => k_is)
    (case a__law_how_due => k_is)
    (case l__law_how_due => k_is)
    (case c__law_how_due => k_is)
    (case k__law_how_due => k_is)
    (case a__law_long_ones => k_is)
    (case l__law_long_ones => k_is)
    (case c__law_long_ones => k_is)
    (case k__law_long_ones => k_is)
    (case a_law => k_is)
    (case l_law => k_is)
    (case c_law => k_is)
    (case k_law => k_is)
    (case pg_Ground => k_is)
    (case hd_Ground => k_is)
    (case po_Ground => k_is)
    (case sa_Ground => k_is)
    (case mk_Ground => k_is)
    (case kc_Ground => k_is)
    (case n_Ground_there => k_is)
    (case n_Ground_many => k_is)
    (case n_Ground_base => k_is)
    (case pg_Flow => k_is)
    (case hd_Flow => k_is)
    (case po_Flow => k_is)
    (case sa_Flow => k_is)
    (case mk_Flow => k_is)
    (case kc_Flow => k_is)
    (case n_Flow_sites => k_is)
    (case n_Flow_rows => k_is)
    (case n_Flow_base => k_is)
    (case pg_Copy => k_is)
    (case hd_Copy => k_is)
    (case po_Copy => k_is)
    (case sa_Copy => k_is)
    (case mk_Copy => k_is)
    (case kc_Copy => k_is)
    (case n_Copy_label => k_is)
    (case n_Copy_asking => k_is)
    (case n_Copy_ahead => k_is)
    (case z_len => k_is)
    (case z_all => k_is)
    (case z_any => k_is)
    (case z_tuple => k_is)
    (case z_list => k_is)
    (case z_set => k_is)
    (case z_isinstance => k_is)
    (case z_int => k_is)
    (case z_bool => k_is)
    (case z_str => k_is)
    (case z_sorted => k_is)
    (case z_abs => k_is)
    (case z_range => k_is)
    (case z_enumerate => k_is)
    (case z_zip => k_is)
    (case z_ValueError => k_is)
    (case g_PRIME => k_is)
    (case g_MOST_PRIME => k_is)
    (case g_MOST_NAME => k_is)
    (case g_MOST_PLACE => k_is)
    (case g_LETTERS => k_is)
    (case g_FIGURES => k_is)
    (case g_MOST_PLACES_flows => k_is)
    (case g_MOST_STEPS_flows => k_is)
    (case g_MOST_WAYS => k_is)
    (case g_MOST_COMING => k_is)
    (case g_NOWHERE => k_is)
    (case g_BREAKS => k_is)
    (case l_BREAKS => k_is)
    (case g_MOVE => k_is)
    (case g_MOST_PLACES_linking => k_is)
    (case g_MOST_SIGNS => k_is)
    (case g_MOST_STEPS_linking => k_is)
    (case aC_TraceError => k_is)
    (case aC_NoFlow => k_is)
    (case aC_NoUnit => k_is)
    (case aC_NoLetter => k_is)
    (case aC_TooLong => k_is)
    (case aC_TooMany => k_is)
    (case aC_NoPair => k_is)
    (case xl_T => k_is)
    (case xn_T => k_is)
    (case xo_T => rfl)
    (case xi_T => k_is)
    (case sb_T => k_is)
    (case hd_T => k_is)
    (case ty_T => k_is)
    (case xl_NoPair => k_is)
    (case xn_NoPair => k_is)
    (case xo_NoPair => rfl)
    (case xi_NoPair => k_is)
    (case kp_NoPair => k_is)
    (case sb_NoPair => k_is)
    (case st_NoPair => k_is)
    (case sv_NoPair => k_is)
    (case ss_NoPair => k_is)
    (case ty_NoPair => k_is)
    (case ic_NoPair => k_is)
    (case hd_NoPair => k_is)
    (case eg_NoPair => k_is)
    (case ek_NoPair => k_is)
    (case ea_NoPair => k_is)
    (case em_NoPair => k_is)
    (case xl_TooMany => k_is)
    (case xn_TooMany => k_is)
    (case xo_TooMany => rfl)
    (case xi_TooMany => k_is)
    (case kp_TooMany => k_is)
    (case sb_TooMany => k_is)
    (case st_TooMany => k_is)
    (case sv_TooMany => k_is)
    (case ss_TooMany => k_is)
    (case ty_TooMany => k_is)
    (case ic_TooMany => k_is)
    (case hd_TooMany => k_is)
    (case eg_TooMany => k_is)
    (case ek_TooMany => k_is)
    (case ea_TooMany => k_is)
    (case em_TooMany => k_is)
    (case en => k_is)
    (case et => k_is)
    (case ic_NoFlow => k_is)
    (case ty_NoFlow => k_is)
    (case no_NoPair_NoFlow => k_is)
    (case no_TooMany_NoFlow => k_is)
    (case ic_NoLetter => k_is)
    (case ty_NoLetter => k_is)
    (case no_NoPair_NoLetter => k_is)
    (case no_TooMany_NoLetter => k_is)
    (case ic_NoUnit => k_is)
    (case ty_NoUnit => k_is)
    (case no_NoPair_NoUnit => k_is)
    (case no_TooMany_NoUnit => k_is)
    (case ic_TooLong => k_is)
    (case ty_TooLong => k_is)
    (case no_NoPair_TooLong => k_is)
    (case no_TooMany_TooLong => k_is)
    (case no_NoPair_TooMany => k_is)
    (case no_TooMany_NoPair => k_is)
    (case g_SORTS => k_is)
    (case l_SORTS => k_is)
    (case kl_SORTS => exact ⟨⟨_, _, rfl, rfl⟩, ⟨_, _, rfl, rfl⟩, ⟨_, _, rfl, rfl⟩, ⟨_, _, rfl, rfl⟩, ⟨_, _, rfl, rfl⟩, ⟨_, _, rfl, rfl⟩, ⟨_, _, rfl, rfl⟩, ⟨_, _, rfl, rfl⟩, trivial⟩)
    (case lo_SORTS => rfl)
    (case ns_serve => k_is)
    (case lp_serve => k_is)
    (case ns_move => k_is)
    (case lp_move => k_is)
    (case ns_out => k_is)
    (case lp_out => k_is)
    (case ns_ask => k_is)
    (case lp_ask => k_is)
    (case ns_done => k_is)
    (case lp_done => k_is)
#print axioms PySem.Challenge.cw_onetrace_k56_links_refused_holds
