import PyProof.Rows.All
import Wide.All
import OpenK.AllK
import Wide.FinOn
import HandS.ForMost
import HandS.Deep
import HandS.DictTup
import HandS.SortRule
import HandS.TupMul
import HandS.IsInst
import HandS.DictComp
import HandS.NoneIn
import HandS.Conv
import HandS.Style
import KE.KDictCopyH
import KE.KDictSum
import KE.KDictPairs
import KE.KDictItemsList
import HandS.Zip
import HandS.Comp
import KE.GoesEnum
import HandS.Words
import PySem.Challenge.RW_lefttoyou_k79_whole_what_is_let_as_it_go
set_option Elab.async false
set_option linter.all false
set_option maxRecDepth 100000
set_option maxHeartbeats 4000000
/-! PLa: pure Python values, what stands for them in the layer's heap, the judgements over them. -/
namespace PL
open PySem PySem.Spec PyProof.Rows L2

/-- a pure value; a mutable object by its address -/
inductive PV where
  | non | bl (b : Bool) | int (i : Int) | str (x : Str) | tup (l : List PV) | ref (a : Addr)

mutual
def PV.noref : PV → Bool
  | .ref _ => false
  | .tup l => PV.norefs l
  | .non => true
  | .bl _ => true
  | .int _ => true
  | .str _ => true
def PV.norefs : List PV → Bool
  | [] => true
  | p :: l => p.noref && PV.norefs l
end

/-- a mutable object: a list, a list that is only read, a dict (its pairs, its epoch) -/
inductive MO where
  | lst (l : List PV)
  | rol (l : List PV)
  | dct (kvs : List (PV × PV)) (ep : Nat)

abbrev MH := Addr → Option MO
def MH.upd (M : MH) (a : Addr) (o : MO) : MH := fun b => if b = a then some o else M b
theorem MH.upd_same {M : MH} {a : Addr} {o : MO} : M.upd a o a = some o := by unfold MH.upd; rw [if_pos rfl]
theorem MH.upd_ne {M : MH} {a b : Addr} {o : MO} (h : b ≠ a) : M.upd a o b = M b := by unfold MH.upd; rw [if_neg h]
theorem MH.upd_upd {M : MH} {a : Addr} {o u : MO} : (M.upd a o).upd a u = M.upd a u := by
  funext b; unfold MH.upd; split <;> rfl
theorem MH.upd_comm {M : MH} {a b : Addr} {o u : MO} (h : a ≠ b) : (M.upd a o).upd b u = (M.upd b u).upd a o := by
  funext c; unfold MH.upd; split
  · rename_i e; subst e; rw [if_neg (Ne.symm h)]
  · rfl
theorem MH.upd_id {M : MH} {a : Addr} {o : MO} (h : M a = some o) : M.upd a o = M := by
  funext b; unfold MH.upd; split
  · rename_i e; rw [e, h]
  · rfl

abbrev PEnv := List (Option PV)
abbrev WK := PV → MH → Prop
abbrev WE := PEnv → MH → WK → Prop
abbrev WA := PEnv → MH → (List PV → MH → Prop) → Prop
structure WEnds where
  nx : PEnv → MH → Prop
  rt : WK
  bk : PEnv → MH → Prop := fun _ _ => False
  ct : PEnv → MH → Prop := fun _ _ => False
abbrev WS := WEnds → PEnv → MH → Prop

/-! ### what stands for what -/
section
variable (K : PySem.W.Frag) (H : Hp)
mutual
def Rep : PV → V → Prop
  | .non, v => v = .non
  | .bl b, v => v = .bl b
  | .int i, v => v = .int i
  | .str x, v => v = .str x
  | .ref a, v => v = .ref a
  | .tup l, v => ∃ a vs, v = .ref a ∧ SqT K H a vs ∧ l.length ≤ sizeLine ∧ RepL l vs
def RepL : List PV → List V → Prop
  | [], vs => vs = []
  | p :: l, vs => ∃ v ws, vs = v :: ws ∧ Rep p v ∧ RepL l ws
end
/-- the names' values -/
def EnvR : PEnv → L2.St → Prop
  | [], σ => σ = []
  | o :: ρ, σ => ∃ w τ, σ = w :: τ ∧ (∀ p, o = some p → ∃ v, w = some v ∧ Rep K H p v) ∧ EnvR ρ τ
end

theorem RepL.length {K : PySem.W.Frag} {H : Hp} : ∀ {l : List PV} {vs : List V}, RepL K H l vs → l.length = vs.length
  | [], vs, h => by unfold RepL at h; subst h; rfl
  | p :: l, vs, h => by
    unfold RepL at h
    obtain ⟨v, ws, rfl, _, h⟩ := h
    rw [List.length_cons, List.length_cons, RepL.length h]

/-! ### data -/
mutual
def PV.toD : PV → PyData
  | .non => .none
  | .bl b => .bool b
  | .int i => .int i
  | .str x => .str x
  | .ref _ => .none
  | .tup l => .tuple (PV.toDs l)
def PV.toDs : List PV → List PyData
  | [] => []
  | p :: l => p.toD :: PV.toDs l
end
-- data (no mutable object within), nested to n
mutual
def PV.goodN : PV → Nat → Bool
  | .non, _ => true
  | .bl _, _ => true
  | .int _, _ => true
  | .str x, _ => PyData.strOk x
  | .ref _, _ => false
  | .tup l, n => (match n with | 0 => false | m + 1 => PV.goodsN l m)
def PV.goodsN : List PV → Nat → Bool
  | [], _ => true
  | p :: l, n => p.goodN n && PV.goodsN l n
end
abbrev PV.good (p : PV) : Bool := p.goodN 7
abbrev PV.goods (l : List PV) : Bool := PV.goodsN l 6
-- Python's == of data
mutual
def pyEq : PV → PV → Bool
  | .non, .non => true
  | .bl a, .bl b => a == b
  | .bl a, .int j => (if a then 1 else 0) == j
  | .int i, .bl b => i == (if b then 1 else 0)
  | .int i, .int j => i == j
  | .str x, .str y => x == y
  | .tup l, .tup m => pyEqs l m
  | .non, .bl _ | .non, .int _ | .non, .str _ | .non, .tup _ | .non, .ref _ => false
  | .bl _, .non | .bl _, .str _ | .bl _, .tup _ | .bl _, .ref _ => false
  | .int _, .non | .int _, .str _ | .int _, .tup _ | .int _, .ref _ => false
  | .str _, .non | .str _, .bl _ | .str _, .int _ | .str _, .tup _ | .str _, .ref _ => false
  | .tup _, .non | .tup _, .bl _ | .tup _, .int _ | .tup _, .str _ | .tup _, .ref _ => false
  | .ref _, _ => false
def pyEqs : List PV → List PV → Bool
  | [], [] => true
  | p :: l, q :: m => pyEq p q && pyEqs l m
  | [], _ :: _ => false
  | _ :: _, [] => false
end
-- Python's < of data of one form
mutual
def pyLt : PV → PV → Option Bool
  | .int i, .int j => some (decide (i < j))
  | .str x, .str y => some (decide (x.cps.toList < y.cps.toList))
  | .tup l, .tup m => pyLts l m
  | .int _, .non | .int _, .bl _ | .int _, .str _ | .int _, .tup _ | .int _, .ref _ => none
  | .str _, .non | .str _, .bl _ | .str _, .int _ | .str _, .tup _ | .str _, .ref _ => none
  | .tup _, .non | .tup _, .bl _ | .tup _, .int _ | .tup _, .str _ | .tup _, .ref _ => none
  | .non, _ => none
  | .bl _, _ => none
  | .ref _, _ => none
def pyLts : List PV → List PV → Option Bool
  | [], [] => some false
  | [], _ :: _ => some true
  | _ :: _, [] => some false
  | p :: l, q :: m => if pyEq p q then pyLts l m else pyLt p q
end
-- what may be a dict's key here
mutual
def PV.keyN : PV → Nat → Bool
  | .int _, _ => true
  | .str x, _ => PyData.strOk x
  | .tup l, n => (match n with | 0 => false | m + 1 => PV.keysN l m)
  | .non, _ => false
  | .bl _, _ => false
  | .ref _, _ => false
def PV.keysN : List PV → Nat → Bool
  | [], _ => true
  | p :: l, n => p.keyN n && PV.keysN l n
end
abbrev PV.key (p : PV) : Bool := p.keyN 7
mutual
def PV.hash (w : World) : PV → Int
  | .non => 0
  | .bl _ => 0
  | .int i => hashInt i
  | .str x => hashStr w x
  | .ref _ => 0
  | .tup l => reduceHash (Builtin.Tuple.tupleHashOf (PV.hashes w l))
def PV.hashes (w : World) : List PV → List Int
  | [] => []
  | p :: l => p.hash w :: PV.hashes w l
end

theorem toDs_eq : ∀ l : List PV, PV.toDs l = l.map PV.toD
  | [] => rfl
  | p :: l => by rw [PV.toDs, List.map_cons, toDs_eq l]
theorem toDs_length (l : List PV) : (PV.toDs l).length = l.length := by rw [toDs_eq, List.length_map]
mutual
theorem eqv_toD : ∀ (p q : PV) (n m : Nat), p.goodN n = true → q.goodN m = true → PyData.eqv p.toD q.toD = pyEq p q
  | .non, q, _, _, _, _ => by cases q <;> simp_all [PV.toD, PyData.eqv, pyEq, PV.goodN]
  | .bl b, q, _, _, _, _ => by cases q <;> simp_all [PV.toD, PyData.eqv, pyEq, PV.goodN]
  | .int i, q, _, _, _, _ => by cases q <;> simp_all [PV.toD, PyData.eqv, pyEq, PV.goodN]
  | .str x, q, _, _, _, _ => by cases q <;> simp_all [PV.toD, PyData.eqv, pyEq, PV.goodN]
  | .ref a, q, _, _, h, _ => by simp [PV.goodN] at h
  | .tup l, q, n, m, h, h2 => by
    cases q with
    | tup k =>
      cases n with
      | zero => simp [PV.goodN] at h
      | succ n =>
        cases m with
        | zero => simp [PV.goodN] at h2
        | succ m => simpa [PV.toD, PyData.eqv, pyEq] using eqvs_toD l k n m (by simpa [PV.goodN] using h) (by simpa [PV.goodN] using h2)
    | _ => simp_all [PV.toD, PyData.eqv, pyEq, PV.goodN]
theorem eqvs_toD : ∀ (l k : List PV) (n m : Nat), PV.goodsN l n = true → PV.goodsN k m = true → PyData.eqvAll (PV.toDs l) (PV.toDs k) = pyEqs l k
  | [], [], _, _, _, _ => by simp [PV.toDs, PyData.eqvAll, pyEqs]
  | [], q :: k, _, _, _, _ => by simp [PV.toDs, PyData.eqvAll, pyEqs]
  | p :: l, [], _, _, _, _ => by simp [PV.toDs, PyData.eqvAll, pyEqs]
  | p :: l, q :: k, n, m, h, h2 => by
    simp only [PV.goodsN, Bool.and_eq_true] at h h2
    simp only [PV.toDs, PyData.eqvAll, pyEqs]
    rw [eqv_toD p q n m h.1 h2.1, eqvs_toD l k n m h.2 h2.2]
end
mutual
theorem lay_toD : ∀ (p : PV) (n : Nat), p.goodN n = true → p.toD.canLay0 = true ∧ p.toD.depth ≤ n
  | .non, _, _ => by simp [PV.toD, PyData.canLay0, PyData.depth]
  | .bl _, _, _ => by simp [PV.toD, PyData.canLay0, PyData.depth]
  | .int _, _, _ => by simp [PV.toD, PyData.canLay0, PyData.depth]
  | .str x, _, h => by simp only [PV.goodN] at h; simp [PV.toD, PyData.canLay0, PyData.depth, h]
  | .ref _, _, h => by simp [PV.goodN] at h
  | .tup l, 0, h => by simp [PV.goodN] at h
  | .tup l, n + 1, h => by
    obtain ⟨h1, h2⟩ := lays_toD l n (by simpa [PV.goodN] using h)
    simp only [PV.toD, PyData.canLay0, PyData.depth]
    exact ⟨h1, by omega⟩
theorem lays_toD : ∀ (l : List PV) (n : Nat), PV.goodsN l n = true → PyData.canLayAll0 (PV.toDs l) = true ∧ PyData.depthAll (PV.toDs l) ≤ n
  | [], _, _ => by simp [PV.toDs, PyData.canLayAll0, PyData.depthAll]
  | p :: l, n, h => by
    simp only [PV.goodsN, Bool.and_eq_true] at h
    obtain ⟨a, b⟩ := lay_toD p n h.1
    obtain ⟨c, d⟩ := lays_toD l n h.2
    simp only [PV.toDs, PyData.canLayAll0, PyData.depthAll, a, c, Bool.and_self, true_and]
    omega
end
mutual
theorem key_good : ∀ (p : PV) (n : Nat), p.keyN n = true → p.goodN n = true
  | .non, _, h => by simp [PV.keyN] at h
  | .bl _, _, h => by simp [PV.keyN] at h
  | .int _, _, _ => by simp [PV.goodN]
  | .str x, _, h => by simpa [PV.goodN, PV.keyN] using h
  | .ref _, _, h => by simp [PV.keyN] at h
  | .tup l, 0, h => by simp [PV.keyN] at h
  | .tup l, n + 1, h => by simp only [PV.goodN]; exact keys_good l n (by simpa [PV.keyN] using h)
theorem keys_good : ∀ (l : List PV) (n : Nat), PV.keysN l n = true → PV.goodsN l n = true
  | [], _, _ => by simp [PV.goodsN]
  | p :: l, n, h => by
    simp only [PV.keysN, Bool.and_eq_true] at h
    simp only [PV.goodsN, key_good p n h.1, keys_good l n h.2, Bool.and_self]
end
theorem goodsN_mem : ∀ {l : List PV} {n : Nat}, PV.goodsN l n = true ↔ ∀ p ∈ l, p.goodN n = true
  | [], n => by simp [PV.goodsN]
  | p :: l, n => by simp [PV.goodsN, goodsN_mem (l := l)]
theorem keysN_mem : ∀ {l : List PV} {n : Nat}, PV.keysN l n = true ↔ ∀ p ∈ l, p.keyN n = true
  | [], n => by simp [PV.keysN]
  | p :: l, n => by simp [PV.keysN, keysN_mem (l := l)]
end PL
/-! PLb: hash, quiet, <, == of data at the machine. -/
namespace PL
open PySem PySem.Spec PyProof.Rows L2

theorem readsAll_length {h : Heap} : ∀ {vs : List Value} {ds : List PyData} {as : List Addr}, ReadsAll h vs ds as → vs.length = ds.length
  | _, _, _, .nil => rfl
  | _, _, _, .cons _ t => by rw [List.length_cons, List.length_cons, readsAll_length t]

mutual
def PV.draws : PV → Nat
  | .tup l => PV.drawss l + 1
  | .non => 1
  | .bl _ => 1
  | .int _ => 1
  | .str _ => 1
  | .ref _ => 1
def PV.drawss : List PV → Nat
  | [] => 0
  | p :: l => p.draws + PV.drawss l
end
section
variable {prog : Program} {w : World} {A : Around} {E : Value → Shared → Prop} {s : Shared}

-- hash
mutual
theorem hash_reads : ∀ (p : PV) (n : Nat) (A : Around) (s : Shared) (u : Value) (as : List Addr) (Q : Int → Shared → Prop), Reads s.heap u p.toD as → p.keyN n = true → A.units + n < cLine →
    Q (p.hash w) { s with toks := s.toks + p.draws } → wpAny (model prog w) A (pyHash u) Q E s
  | .non, _, _, _, _, _, _, _, h, _, _ => by simp [PV.keyN] at h
  | .bl _, _, _, _, _, _, _, _, h, _, _ => by simp [PV.keyN] at h
  | .ref _, _, _, _, _, _, _, _, h, _, _ => by simp [PV.keyN] at h
  | .int i, _, A, s, u, _, Q, r, _, _, q => by
    cases r
    exact wpAny_pyHash_int q
  | .str x, _, A, s, u, _, Q, r, _, _, q => by
    cases r
    exact wpAny_pyHash_str q
  | .tup l, 0, _, _, _, _, _, _, h, _, _ => by simp [PV.keyN] at h
  | .tup l, n + 1, A, s, u, as, Q, r, hk, hu, q => by
    cases r with
    | @tuple a o vs k _ _ ho hc hd ra =>
    have hT : s.TypeIs (.ref a) "tuple" := ⟨o, ho, hc⟩
    have hu0 : A.units < cLine := by omega
    unfold pyHash
    first | unfold pyHashByItsType | skip
    first | refine wpAny_bind (wpAny_cRoomFor_or (.inr hu0) ?_) | skip
    refine wpAny_bind (wpAny_specialOf hT F.slot_tuple_hash.lookup ?_)
    show wpAny _ _ (if (some (Value.builtin "tuple.__hash__") == some Value.none) = true then _ else _) Q E s
    rw [if_neg (by rw [beq_builtin_none]; exact Bool.false_ne_true)]
    refine wpAny_bind (wpAny_specialOf hT F.slot_tuple_hash.lookup ?_)
    show wpAny _ _ (callSpecialIfBoundUnlessNone? (.ref a) "__hash__" _ >>= _) Q E s
    refine wpAny_bind (wpAny_callSpecialIfBoundUnlessNone?_slot hT F.slot_tuple_hash (wpAny_call_entry F.slot_tuple_hash hT F.entry_tuple_hash ?_ (F.args_tuple_hash_1 _)))
    show wpAny _ _ (Builtin.Tuple.tupleItemsOf (.ref a) >>= _) _ _ s
    refine wpAny_bind (wpAny_tupleItemsOf ho hd ?_)
    refine wpAny_bind ?_
    rw [← Array.forIn_toList]
    refine hashes_reads l n A.in1 s vs.toList _ #[] [] ra (by simpa [PV.keyN] using hk) (by show A.units + 1 + n < cLine; omega) rfl ?_
    intro b hb
    show wpAny _ _ (retInt (Builtin.Tuple.tupleHashOf b.toList)) _ _ _
    rw [hb, List.nil_append]
    refine wpAny_ret_mkInt ?_
    show wpAny _ _ (if (decide (-(2 : Int) ^ 63 ≤ Builtin.Tuple.tupleHashOf (PV.hashes w l)) && decide (Builtin.Tuple.tupleHashOf (PV.hashes w l) < 2 ^ 63)) = true then _ else _) Q E _
    simp only [PV.hash, reduceHash] at q
    by_cases hr : (decide (-(2 : Int) ^ 63 ≤ Builtin.Tuple.tupleHashOf (PV.hashes w l)) && decide (Builtin.Tuple.tupleHashOf (PV.hashes w l) < 2 ^ 63)) = true
    · rw [if_pos hr]
      simp only [if_pos hr] at q
      exact wpAny_pure (by simpa [PV.draws, Nat.add_assoc] using q)
    · rw [if_neg hr]
      simp only [if_neg hr] at q
      exact wpAny_bind (wpAny_rule (wpAny_pure (by simpa [PV.draws, Nat.add_assoc] using q)))
theorem hashes_reads : ∀ (l : List PV) (n : Nat) (A : Around) (s : Shared) (vs : List Value) (as : List Addr) (b : Array Int) (done : List Int) {R : Array Int → Shared → Prop}, ReadsAll s.heap vs (PV.toDs l) as → PV.keysN l n = true → A.units + n < cLine → b.toList = done →
    (∀ (b' : Array Int), b'.toList = done ++ PV.hashes w l → R b' { s with toks := s.toks + PV.drawss l }) →
    wpAny (model prog w) A (forIn vs b fun x r => do let y ← pyHash x; pure (ForInStep.yield (r.push y))) R E s
  | [], n, A, s, vs, as, b, done, R, r, _, _, hb, q => by
    cases r
    simp only [List.forIn_nil]
    exact wpAny_pure (q b (by simp [PV.hashes, hb]))
  | p :: l, n, A, s, vs, as, b, done, R, r, hk, hu, hb, q => by
    cases r with
    | cons r1 r2 =>
    simp only [PV.keysN, Bool.and_eq_true] at hk
    simp only [List.forIn_cons]
    have hk1 := hk.1
    have hk2 := hk.2
    have fin : wpAny (model prog w) A (forIn _ (b.push (p.hash w)) fun x r => do let y ← pyHash x; pure (ForInStep.yield (r.push y))) R E { s with toks := s.toks + p.draws } :=
      hashes_reads l n A { s with toks := s.toks + p.draws } _ _ (b.push (p.hash w)) (done ++ [p.hash w]) r2 hk2 hu (by simp [hb]) fun b' hb' => by
        have := q b' (by rw [hb']; simp [PV.hashes])
        simpa [PV.drawss, Nat.add_assoc] using this
    refine wpAny_bind ?_
    refine wpAny_bind ?_
    exact hash_reads p n A s _ _ _ r1 hk1 hu (wpAny_pure fin)
end

-- an own == is asked of nothing
mutual
theorem quiet_reads : ∀ (p : PV) (n : Nat) (A : Around) (s : Shared) (u : Value) (as : List Addr) (Q : Bool → Shared → Prop), Reads s.heap u p.toD as → p.goodN n = true → Q true s → wpAny (model prog w) A (eqIsQuiet (n + 1) u) Q E s
  | .non, _, _, _, _, _, _, r, _, q => by cases r; rw [eqIsQuiet_byValue _ rfl]; exact wpAny_pure q
  | .bl _, _, _, _, _, _, _, r, _, q => by cases r; rw [eqIsQuiet_byValue _ rfl]; exact wpAny_pure q
  | .ref _, _, _, _, _, _, _, _, h, _ => by simp [PV.goodN] at h
  | .int i, _, A, s, u, _, Q, r, _, q => by cases r; rw [eqIsQuiet_byValue _ rfl]; exact wpAny_pure q
  | .str x, _, A, s, u, _, Q, r, _, q => by cases r; rw [eqIsQuiet_byValue _ rfl]; exact wpAny_pure q
  | .tup l, 0, _, _, _, _, _, _, h, _ => by simp [PV.goodN] at h
  | .tup l, n + 1, A, s, u, as, Q, r, hk, q => by
    cases r with
    | @tuple a o vs k _ _ ho hc hd ra =>
    have hT : s.TypeIs (.ref a) "tuple" := ⟨o, ho, hc⟩
    unfold eqIsQuiet
    refine wpAny_bind (wpAny_specialOf hT F.slot_tuple_eq.lookup ?_)
    show wpAny _ _ (isInstance (.ref a) (.type "tuple") >>= _) _ _ s
    refine wpAny_bind (wpAny_isInstance hT isSubtype_tuple_tuple ?_)
    simp only [Bool.not_true, Bool.false_eq_true, if_false]
    refine wpAny_bind (wpAny_seqItems ho hd ?_)
    refine wpAny_bind ?_
    show wpAny _ _ (forIn vs _ _) _ _ s
    rw [← Array.forIn_toList]
    refine quiets_reads l n A s vs.toList _ ra (by simpa [PV.goodN] using hk) ?_
    exact wpAny_pure q
theorem quiets_reads : ∀ (l : List PV) (n : Nat) (A : Around) (s : Shared) (vs : List Value) (as : List Addr) {R : Option Bool × Unit → Shared → Prop}, ReadsAll s.heap vs (PV.toDs l) as → PV.goodsN l n = true →
    R (none, ()) s →
    wpAny (model prog w) A (forIn vs ((none, ()) : Option Bool × Unit) fun y r => do
      let c ← eqIsQuiet (n + 1) y
      if (!c) = true then pure (ForInStep.done (some false, ())) else pure (ForInStep.yield (none, ()))) R E s
  | [], n, A, s, vs, as, R, r, _, q => by
    cases r
    simp only [List.forIn_nil]
    exact wpAny_pure q
  | p :: l, n, A, s, vs, as, R, r, hk, q => by
    cases r with
    | cons r1 r2 =>
    simp only [PV.goodsN, Bool.and_eq_true] at hk
    simp only [List.forIn_cons]
    have fin := quiets_reads l n A s _ _ r2 hk.2 q
    refine wpAny_bind ?_
    refine wpAny_bind ?_
    refine quiet_reads p n A s _ _ _ r1 hk.1 ?_
    simp only [Bool.not_true, Bool.false_eq_true, if_false]
    exact wpAny_pure fin
end

theorem eqAt_good {p q : PV} {n m : Nat} {u v : Value} {as bs : List Addr} (rp : Reads s.heap u p.toD as) (rq : Reads s.heap v q.toD bs) (hp : p.goodN n = true) (hq : q.goodN m = true) (hu : A.units + n < cLine) : SeqAt.EqAt A s u v (pyEq p q) := by
  have h1 := lay_toD p n hp
  have h2 := lay_toD q m hq
  have := SeqAt.eqAt_reads p.toD q.toD A s u v as bs rp rq h1.1 h2.1 (by have := Nat.min_le_left p.toD.depth q.toD.depth; omega)
  rwa [eqv_toD p q n m hp hq] at this
theorem eqBool_good {p q : PV} {n m : Nat} {u v : Value} {as bs : List Addr} {Q : Bool → Shared → Prop} (rp : Reads s.heap u p.toD as) (rq : Reads s.heap v q.toD bs) (hp : p.goodN n = true) (hq : q.goodN m = true) (hu : A.units + n < cLine) (h : Q (pyEq p q) s) :
    wpAny (model prog w) A (eqBool u v) Q E s := eqAt_good rp rq hp hq hu prog w E Q h
end
end PL
namespace PL
open PySem PySem.Spec PyProof.Rows L2
section
variable {prog : Program} {w : World} {A : Around} {E : Value → Shared → Prop} {s : Shared}

-- <
mutual
theorem lt_reads : ∀ (p q : PV) (n m : Nat) (A : Around) (s : Shared) (u v : Value) (as bs : List Addr) (b : Bool) (Q : Value → Shared → Prop), Reads s.heap u p.toD as → Reads s.heap v q.toD bs → p.goodN n = true → q.goodN m = true → A.units + n < cLine →
    pyLt p q = some b → Q (.bool b) s → wpAny (model prog w) A (richCompare .Lt u v) Q E s
  | .non, _, _, _, _, _, _, _, _, _, _, _, _, _, _, _, _, h, _ => by simp [pyLt] at h
  | .bl _, _, _, _, _, _, _, _, _, _, _, _, _, _, _, _, _, h, _ => by simp [pyLt] at h
  | .ref _, _, _, _, _, _, _, _, _, _, _, _, _, _, _, _, _, h, _ => by simp [pyLt] at h
  | .int i, q, _, _, A, s, u, v, _, _, b, Q, rp, rq, _, _, _, h, hQ => by
    cases q <;> simp only [pyLt, Option.some.injEq, reduceCtorEq] at h
    cases rp; cases rq; subst h
    exact (PyProof.Rows.lt_int hQ : wpAny (model prog w) A (compareOp .Lt _ _) Q E s)
  | .str x, q, _, _, A, s, u, v, _, _, b, Q, rp, rq, _, _, _, h, hQ => by
    cases q <;> simp only [pyLt, Option.some.injEq, reduceCtorEq] at h
    cases rp; cases rq; subst h
    exact DT.rcLt_str A s _ _ _ _ prog w E Q hQ
  | .tup l, .tup k, 0, _, _, _, _, _, _, _, _, _, _, _, hp, _, _, _, _ => by simp [PV.goodN] at hp
  | .tup l, .tup k, n + 1, 0, _, _, _, _, _, _, _, _, _, _, _, hq, _, _, _ => by simp [PV.goodN] at hq
  | .tup l, .tup k, n + 1, m + 1, A, s, u, v, as, bs, b, Q, rp, rq, hp, hq, hu, h, hQ => by
    cases rp with
    | @tuple a o vs c1 _ _ ho hc hd ra =>
    cases rq with
    | @tuple a2 o2 vs2 c2 _ _ ho2 hc2 hd2 rb =>
    have hT : s.TypeIs (.ref a) "tuple" := ⟨o, ho, hc⟩
    have hT2 : s.TypeIs (.ref a2) "tuple" := ⟨o2, ho2, hc2⟩
    refine wpAny_richCompare_same_room (op := .Lt) hT hT2 F.slot_tuple_lt (wpAny_call_entry F.slot_tuple_lt hT F.entry_tuple_lt ?_ (F.args_tuple_lt_2 _ _)) (by omega)
    show wpAny _ _ (isInstance (.ref a2) (.type "tuple") >>= _) _ _ s
    refine wpAny_bind (wpAny_isInstance hT2 isSubtype_tuple_tuple ?_)
    simp only [Bool.not_true, Bool.false_eq_true, if_false]
    refine wpAny_bind (wpAny_tupleItemsOf ho hd ?_)
    refine wpAny_bind (wpAny_tupleItemsOf ho2 hd2 ?_)
    refine wpAny_bind ?_
    refine lts_reads l k n m A.in1 s _ _ _ _ b ra rb (by simpa [PV.goodN] using hp) (by simpa [PV.goodN] using hq) (by show A.units + 1 + n < cLine; omega) (by simpa [pyLt] using h) ?_ ?_
    · exact wpAny_pure ⟨.bool b, rfl, (by intro e; cases e), hQ⟩
    · intro e
      refine wpAny_pure ⟨.bool b, ?_, (by intro e; cases e), hQ⟩
      simp only [Builtin.Tuple.tupleCompareSizes]
      rw [e]
      simp
  | .tup l, .non, _, _, _, _, _, _, _, _, _, _, _, _, _, _, _, h, _ => by simp [pyLt] at h
  | .tup l, .bl _, _, _, _, _, _, _, _, _, _, _, _, _, _, _, _, h, _ => by simp [pyLt] at h
  | .tup l, .int _, _, _, _, _, _, _, _, _, _, _, _, _, _, _, _, h, _ => by simp [pyLt] at h
  | .tup l, .str _, _, _, _, _, _, _, _, _, _, _, _, _, _, _, _, h, _ => by simp [pyLt] at h
  | .tup l, .ref _, _, _, _, _, _, _, _, _, _, _, _, _, _, _, _, h, _ => by simp [pyLt] at h
theorem lts_reads : ∀ (l k : List PV) (n m : Nat) (A : Around) (s : Shared) (vs ws : List Value) (as bs : List Addr) (b : Bool) {R : Option PySem.Fin × Unit → Shared → Prop}, ReadsAll s.heap vs (PV.toDs l) as → ReadsAll s.heap ws (PV.toDs k) bs →
    PV.goodsN l n = true → PV.goodsN k m = true → A.units + n < cLine → pyLts l k = some b → R (some (.done (.ret (.bool b))), ()) s → (b = decide (vs.length < ws.length) → R (none, ()) s) →
    wpAny (model prog w) A (forIn (vs.zip ws) ((none, ()) : Option PySem.Fin × Unit) fun x r => do
      let c ← eqBool x.1 x.2
      if (!c) = true then do
          rule "tuple.compare.by-the-first-pair-that-differs"
          let y ← richCompare CmpOp.Lt x.1 x.2
          let z ← ret y
          pure (ForInStep.done (some z, ()))
        else pure (ForInStep.yield (none, ()))) R E s
  | [], k, n, m, A, s, vs, ws, as, bs, b, R, ra, rb, _, _, _, h, h1, h2 => by
    cases ra
    simp only [List.zip_nil_left, List.forIn_nil]
    refine wpAny_pure (h2 ?_)
    have hl := readsAll_length rb
    rw [toDs_length] at hl
    cases k <;> simp_all [pyLts]
  | p :: l, [], n, m, A, s, vs, ws, as, bs, b, R, ra, rb, _, _, _, h, h1, h2 => by
    cases rb
    simp only [List.zip_nil_right, List.forIn_nil]
    refine wpAny_pure (h2 ?_)
    simp_all [pyLts]
  | p :: l, q :: k, n, m, A, s, vs, ws, as, bs, b, R, ra, rb, hp, hq, hu, h, h1, h2 => by
    cases ra with
    | cons ra1 ra2 =>
    cases rb with
    | cons rb1 rb2 =>
    simp only [PV.goodsN, Bool.and_eq_true] at hp hq
    simp only [List.zip_cons_cons, List.forIn_cons]
    refine wpAny_bind ?_
    refine wpAny_bind ?_
    refine eqBool_good ra1 rb1 hp.1 hq.1 hu ?_
    simp only [pyLts] at h
    by_cases e : pyEq p q = true
    · rw [e]
      rw [if_pos e] at h
      simp only [Bool.not_true, Bool.false_eq_true, if_false]
      refine wpAny_pure ?_
      exact lts_reads l k n m A s _ _ _ _ b ra2 rb2 hp.2 hq.2 hu h h1 fun e2 => h2 (by rw [e2]; simp)
    · rw [if_neg e] at h
      have e' : pyEq p q = false := by simpa using e
      rw [e']
      simp only [Bool.not_false, if_true]
      refine wpAny_bind (wpAny_rule ?_)
      refine wpAny_bind ?_
      refine lt_reads p q n m A s _ _ _ _ b _ ra1 rb1 hp.1 hq.1 hu h ?_
      exact wpAny_bind (wpAny_pure (wpAny_pure (wpAny_pure h1)))
end
end
end PL
/-! PLc: the order of keys; sorting. -/
namespace PL
open PySem PySem.Spec PyProof.Rows L2

mutual
theorem key_eq : ∀ (p q : PV) (n m : Nat), p.keyN n = true → q.keyN m = true → (pyEq p q = true ↔ p = q)
  | .non, _, _, _, h, _ => by simp [PV.keyN] at h
  | .bl _, _, _, _, h, _ => by simp [PV.keyN] at h
  | .ref _, _, _, _, h, _ => by simp [PV.keyN] at h
  | .int i, q, _, _, _, h => by cases q <;> simp_all [PV.keyN, pyEq]
  | .str x, q, _, _, _, h => by cases q <;> simp_all [PV.keyN, pyEq]
  | .tup l, q, n, m, h, h2 => by
    cases q with
    | tup k =>
      cases n with
      | zero => simp [PV.keyN] at h
      | succ n =>
        cases m with
        | zero => simp [PV.keyN] at h2
        | succ m =>
          have := keys_eq l k n m (by simpa [PV.keyN] using h) (by simpa [PV.keyN] using h2)
          simpa [pyEq] using this
    | _ => simp_all [PV.keyN, pyEq]
theorem keys_eq : ∀ (l k : List PV) (n m : Nat), PV.keysN l n = true → PV.keysN k m = true → (pyEqs l k = true ↔ l = k)
  | [], [], _, _, _, _ => by simp [pyEqs]
  | [], _ :: _, _, _, _, _ => by simp [pyEqs]
  | _ :: _, [], _, _, _, _ => by simp [pyEqs]
  | p :: l, q :: k, n, m, h, h2 => by
    simp only [PV.keysN, Bool.and_eq_true] at h h2
    have a := key_eq p q n m h.1 h2.1
    have b := keys_eq l k n m h.2 h2.2
    simp only [pyEqs, Bool.and_eq_true, a, b, List.cons.injEq]
end
theorem str_lt_trans {x y z : Str} (h : x.cps.toList < y.cps.toList) (h2 : y.cps.toList < z.cps.toList) : x.cps.toList < z.cps.toList := List.lt_trans h h2
mutual
theorem lt_trans' : ∀ (p q r : PV) (a b c : Nat), p.keyN a = true → q.keyN b = true → r.keyN c = true → pyLt p q = some true → pyLt q r = some true → pyLt p r = some true
  | .non, _, _, _, _, _, h, _, _, _, _ => by simp [PV.keyN] at h
  | .bl _, _, _, _, _, _, h, _, _, _, _ => by simp [PV.keyN] at h
  | .ref _, _, _, _, _, _, h, _, _, _, _ => by simp [PV.keyN] at h
  | .int i, q, r, _, _, _, _, _, _, h1, h2 => by
    cases q <;> simp only [pyLt, reduceCtorEq, Option.some.injEq, decide_eq_true_eq] at h1
    cases r <;> simp only [pyLt, reduceCtorEq, Option.some.injEq, decide_eq_true_eq] at h2
    simp only [pyLt, Option.some.injEq, decide_eq_true_eq]; omega
  | .str x, q, r, _, _, _, _, _, _, h1, h2 => by
    cases q <;> simp only [pyLt, reduceCtorEq, Option.some.injEq, decide_eq_true_eq] at h1
    cases r <;> simp only [pyLt, reduceCtorEq, Option.some.injEq, decide_eq_true_eq] at h2
    simp only [pyLt, Option.some.injEq, decide_eq_true_eq]; exact str_lt_trans h1 h2
  | .tup l, q, r, a, b, c, h, hq, hr, h1, h2 => by
    cases q with
    | tup k =>
      cases r with
      | tup j =>
        cases a with
        | zero => simp [PV.keyN] at h
        | succ a =>
          cases b with
          | zero => simp [PV.keyN] at hq
          | succ b =>
            cases c with
            | zero => simp [PV.keyN] at hr
            | succ c =>
              simp only [pyLt] at h1 h2 ⊢
              exact lts_trans l k j a b c (by simpa [PV.keyN] using h) (by simpa [PV.keyN] using hq) (by simpa [PV.keyN] using hr) h1 h2
      | _ => simp [pyLt] at h2
    | _ => simp [pyLt] at h1
theorem lts_trans : ∀ (l k j : List PV) (a b c : Nat), PV.keysN l a = true → PV.keysN k b = true → PV.keysN j c = true → pyLts l k = some true → pyLts k j = some true → pyLts l j = some true
  | [], [], _, _, _, _, _, _, _, h1, _ => by simp [pyLts] at h1
  | [], _ :: _, [], _, _, _, _, _, _, _, h2 => by simp [pyLts] at h2
  | [], _ :: _, _ :: _, _, _, _, _, _, _, _, _ => by simp [pyLts]
  | _ :: _, [], _, _, _, _, _, _, _, h1, _ => by simp [pyLts] at h1
  | _ :: _, _ :: _, [], _, _, _, _, _, _, _, h2 => by simp [pyLts] at h2
  | p :: l, q :: k, r :: j, a, b, c, h, hk, hj, h1, h2 => by
    simp only [PV.keysN, Bool.and_eq_true] at h hk hj
    simp only [pyLts] at h1 h2 ⊢
    have e1 := key_eq p q a b h.1 hk.1
    have e2 := key_eq q r b c hk.1 hj.1
    have e3 := key_eq p r a c h.1 hj.1
    by_cases c1 : pyEq p q = true
    · have := e1.mp c1; subst this
      rw [if_pos c1] at h1
      by_cases c2 : pyEq p r = true
      · rw [if_pos c2] at h2 ⊢
        exact lts_trans l k j a b c h.2 hk.2 hj.2 h1 h2
      · rw [if_neg c2] at h2 ⊢
        exact h2
    · rw [if_neg c1] at h1
      by_cases c2 : pyEq q r = true
      · have := e2.mp c2; subst this
        rw [if_neg c1]; exact h1
      · rw [if_neg c2] at h2
        have h3 := lt_trans' p q r a b c h.1 hk.1 hj.1 h1 h2
        by_cases c3 : pyEq p r = true
        · have := e3.mp c3; subst this
          exfalso
          exact lt_irr p a h.1 h3
        · rw [if_neg c3]; exact h3
theorem lt_irr : ∀ (p : PV) (n : Nat), p.keyN n = true → pyLt p p ≠ some true
  | .non, _, h => by simp [PV.keyN] at h
  | .bl _, _, h => by simp [PV.keyN] at h
  | .ref _, _, h => by simp [PV.keyN] at h
  | .int i, _, _ => by simp [pyLt]
  | .str x, _, _ => by simp [pyLt, List.lt_irrefl]
  | .tup l, 0, h => by simp [PV.keyN] at h
  | .tup l, n + 1, h => by simp only [pyLt]; exact lts_irr l n (by simpa [PV.keyN] using h)
theorem lts_irr : ∀ (l : List PV) (n : Nat), PV.keysN l n = true → pyLts l l ≠ some true
  | [], _, _ => by simp [pyLts]
  | p :: l, n, h => by
    simp only [PV.keysN, Bool.and_eq_true] at h
    simp only [pyLts, if_pos ((key_eq p p n n h.1 h.1).mpr rfl)]
    exact lts_irr l n h.2
end
mutual
theorem lt_total : ∀ (p q : PV) (a b : Nat), p.keyN a = true → q.keyN b = true → pyLt p q = some false → p = q ∨ pyLt q p = some true
  | .non, _, _, _, h, _, _ => by simp [PV.keyN] at h
  | .bl _, _, _, _, h, _, _ => by simp [PV.keyN] at h
  | .ref _, _, _, _, h, _, _ => by simp [PV.keyN] at h
  | .int i, q, _, _, _, _, h => by
    cases q with
    | int j =>
      simp only [pyLt, Option.some.injEq, decide_eq_false_iff_not] at h
      simp only [pyLt, Option.some.injEq, decide_eq_true_eq, PV.int.injEq]; omega
    | _ => simp [pyLt] at h
  | .str x, q, _, _, _, _, h => by
    cases q with
    | str y =>
      simp only [pyLt, Option.some.injEq, decide_eq_false_iff_not] at h
      simp only [pyLt, Option.some.injEq, decide_eq_true_eq, PV.str.injEq]
      by_cases e : y.cps.toList < x.cps.toList
      · exact .inr e
      · left
        have e2 := List.le_antisymm (List.not_lt.mp e) (List.not_lt.mp h)
        have e3 : x.cps = y.cps := Array.toList_inj.mp e2
        cases x; cases y; simp_all
    | _ => simp [pyLt] at h
  | .tup l, q, a, b, h, hq, h1 => by
    cases q with
    | tup k =>
      cases a with
      | zero => simp [PV.keyN] at h
      | succ a =>
        cases b with
        | zero => simp [PV.keyN] at hq
        | succ b =>
          simp only [pyLt] at h1 ⊢
          rcases lts_total l k a b (by simpa [PV.keyN] using h) (by simpa [PV.keyN] using hq) h1 with e | e
          · exact .inl (by rw [e])
          · exact .inr e
    | _ => simp [pyLt] at h1
theorem lts_total : ∀ (l k : List PV) (a b : Nat), PV.keysN l a = true → PV.keysN k b = true → pyLts l k = some false → l = k ∨ pyLts k l = some true
  | [], [], _, _, _, _, _ => .inl rfl
  | [], _ :: _, _, _, _, _, h => by simp [pyLts] at h
  | _ :: _, [], _, _, _, _, _ => by simp [pyLts]
  | p :: l, q :: k, a, b, h, hk, h1 => by
    simp only [PV.keysN, Bool.and_eq_true] at h hk
    simp only [pyLts] at h1 ⊢
    have e1 := key_eq p q a b h.1 hk.1
    have e2 := key_eq q p b a hk.1 h.1
    by_cases c1 : pyEq p q = true
    · rw [if_pos c1] at h1
      have := e1.mp c1; subst this
      rw [if_pos c1]
      rcases lts_total l k a b h.2 hk.2 h1 with e | e
      · exact .inl (by rw [e])
      · exact .inr e
    · rw [if_neg c1] at h1
      have c2 : ¬ pyEq q p = true := fun e => c1 (e1.mpr (e2.mp e).symm)
      rw [if_neg c2]
      rcases lt_total p q a b h.1 hk.1 h1 with e | e
      · exact absurd (e1.mpr e) c1
      · exact .inr e
end
mutual
theorem reads_inj : ∀ (p q : PV) (n m : Nat) (h : Heap) (u : Value) (as bs : List Addr), p.goodN n = true → q.goodN m = true → Reads h u p.toD as → Reads h u q.toD bs → p = q
  | .non, q, _, _, _, _, _, _, _, g, r, r2 => by cases r; cases q <;> simp_all [PV.toD, PV.goodN] <;> cases r2
  | .bl _, q, _, _, _, _, _, _, _, g, r, r2 => by cases r; cases q <;> simp only [PV.toD, PV.goodN, Bool.false_eq_true] at r2 g <;> cases r2; rfl
  | .int _, q, _, _, _, _, _, _, _, g, r, r2 => by cases r; cases q <;> simp only [PV.toD, PV.goodN, Bool.false_eq_true] at r2 g <;> cases r2; rfl
  | .str _, q, _, _, _, _, _, _, _, g, r, r2 => by cases r; cases q <;> simp only [PV.toD, PV.goodN, Bool.false_eq_true] at r2 g <;> cases r2; rfl
  | .ref _, _, _, _, _, _, _, _, g, _, _, _ => by simp [PV.goodN] at g
  | .tup l, q, n, m, h, u, as, bs, g, g2, r, r2 => by
    cases r with
    | @tuple a o vs c1 _ _ ho hc hd ra =>
      cases q with
      | tup k =>
        cases r2 with
        | @tuple _ o2 vs2 c2 _ _ ho2 hc2 hd2 rb =>
          cases n with
          | zero => simp [PV.goodN] at g
          | succ n =>
            cases m with
            | zero => simp [PV.goodN] at g2
            | succ m =>
              rw [ho] at ho2; cases ho2
              rw [hd] at hd2; cases hd2
              rw [readss_inj l k n m h _ _ _ (by simpa [PV.goodN] using g) (by simpa [PV.goodN] using g2) ra rb]
      | ref _ => simp [PV.goodN] at g2
      | _ => cases r2
theorem readss_inj : ∀ (l k : List PV) (n m : Nat) (h : Heap) (us : List Value) (as bs : List Addr), PV.goodsN l n = true → PV.goodsN k m = true → ReadsAll h us (PV.toDs l) as → ReadsAll h us (PV.toDs k) bs → l = k
  | [], [], _, _, _, _, _, _, _, _, _, _ => rfl
  | [], _ :: _, _, _, _, _, _, _, _, _, r, r2 => by cases r; cases r2
  | _ :: _, [], _, _, _, _, _, _, _, _, r, r2 => by cases r2; cases r
  | p :: l, q :: k, n, m, h, us, as, bs, g, g2, r, r2 => by
    cases r with
    | cons r1 rs =>
      cases r2 with
      | cons q1 qs =>
        simp only [PV.goodsN, Bool.and_eq_true] at g g2
        rw [reads_inj p q n m h _ _ _ g.1 g2.1 r1 q1, readss_inj l k n m h _ _ _ g.2 g2.2 rs qs]
end
end PL
/-! PLd: what stands for data is read; sorted. -/
namespace PL
open PySem PySem.Spec PyProof.Rows L2

section
variable {K : PySem.W.Frag} {H H' : Hp}
/-- tuples and locked things stay -/
structure Hle (H H' : Hp) : Prop where
  tup : ∀ a xs, H a = some (.tup xs) → H' a = some (.tup xs)
  frz : ∀ a o u, H a = some (.frz o u) → H' a = some (.frz o u)
theorem Hle.refl (H : Hp) : Hle H H := ⟨fun _ _ h => h, fun _ _ _ h => h⟩
theorem Hle.trans {H1 : Hp} (a : Hle H H1) (b : Hle H1 H') : Hle H H' := ⟨fun x y h => b.tup x y (a.tup x y h), fun x y z h => b.frz x y z (a.frz x y z h)⟩
theorem Hle.new {a : Addr} {o : HO} (h : H a = none) : Hle H (upd H a o) :=
  ⟨fun b xs e => by rw [upd_ne (ne_of_none e h)]; exact e, fun b x u e => by rw [upd_ne (ne_of_none e h)]; exact e⟩
theorem Hle.mut {a : Addr} {o u : HO} (h : H a = some o) (m : Mut (some o)) : Hle H (upd H a u) :=
  ⟨fun b xs e => by
    have : b ≠ a := fun z => by subst z; rw [h] at e; cases e; exact m
    rw [upd_ne this]; exact e, fun b x z e => by
    have : b ≠ a := fun z => by subst z; rw [h] at e; cases e; exact m
    rw [upd_ne this]; exact e⟩
theorem Hle.sqT (h : Hle H H') {a : Addr} {xs : List V} (q : SqT K H a xs) : SqT K H' a xs := by
  rcases q with (q | ⟨o, q⟩) | q
  · exact .inl (.inl (h.tup _ _ q))
  · exact .inl (.inr ⟨o, h.frz _ _ _ q⟩)
  · exact .inr q
mutual
theorem Rep.le (h : Hle H H') : ∀ {p : PV} {v : V}, Rep K H p v → Rep K H' p v
  | .non, _, r => by unfold Rep at r ⊢; exact r
  | .bl _, _, r => by unfold Rep at r ⊢; exact r
  | .int _, _, r => by unfold Rep at r ⊢; exact r
  | .str _, _, r => by unfold Rep at r ⊢; exact r
  | .ref _, _, r => by unfold Rep at r ⊢; exact r
  | .tup l, v, r => by
    unfold Rep at r ⊢
    obtain ⟨a, vs, e, q, z, t⟩ := r
    exact ⟨a, vs, e, h.sqT q, z, RepL.le h t⟩
theorem RepL.le (h : Hle H H') : ∀ {l : List PV} {vs : List V}, RepL K H l vs → RepL K H' l vs
  | [], _, r => by unfold RepL at r ⊢; exact r
  | p :: l, vs, r => by
    unfold RepL at r ⊢
    obtain ⟨v, ws, e, a, b⟩ := r
    exact ⟨v, ws, e, Rep.le h a, RepL.le h b⟩
end
theorem EnvR.le (h : Hle H H') : ∀ {ρ : PEnv} {σ : L2.St}, EnvR K H ρ σ → EnvR K H' ρ σ
  | [], _, r => by unfold EnvR at r ⊢; exact r
  | o :: ρ, σ, r => by
    unfold EnvR at r ⊢
    obtain ⟨w, τ, e, a, b⟩ := r
    exact ⟨w, τ, e, fun p z => by obtain ⟨v, e2, r2⟩ := a p z; exact ⟨v, e2, r2.le h⟩, EnvR.le h b⟩
mutual
theorem rep_dp : ∀ (p : PV) (n : Nat) (v : V), p.goodN n = true → Rep K H p v → Dp K H v p.toD
  | .non, _, v, _, r => by unfold Rep at r; subst r; exact .non
  | .bl _, _, v, _, r => by unfold Rep at r; subst r; exact .bl _
  | .int _, _, v, _, r => by unfold Rep at r; subst r; exact .int _
  | .str _, _, v, _, r => by unfold Rep at r; subst r; exact .str _
  | .ref _, _, v, g, r => by simp [PV.goodN] at g
  | .tup l, 0, v, g, r => by simp [PV.goodN] at g
  | .tup l, n + 1, v, g, r => by
    unfold Rep at r
    obtain ⟨a, vs, rfl, q, _, t⟩ := r
    exact .tup q (reps_dp l n vs (by simpa [PV.goodN] using g) t)
theorem reps_dp : ∀ (l : List PV) (n : Nat) (vs : List V), PV.goodsN l n = true → RepL K H l vs → DpAll K H vs (PV.toDs l)
  | [], _, vs, _, r => by unfold RepL at r; subst r; exact .nil
  | p :: l, n, vs, g, r => by
    unfold RepL at r
    obtain ⟨v, ws, rfl, a, b⟩ := r
    simp only [PV.goodsN, Bool.and_eq_true] at g
    exact .cons (rep_dp p n v g.1 a) (reps_dp l n ws g.2 b)
end
end
section
variable {X : Cx} {pins : List (Addr × Obj)} {σ : L2.St} {H : Hp} {s : Shared}
theorem rep_reads (I : Inv X pins σ H s) {p : PV} {n : Nat} {v : V} {u : Value} (g : p.goodN n = true) (r : Rep X.K H p v) (q : RelV v u) : ∃ as, Reads s.heap u p.toD as := Dp.reads I _ _ _ (rep_dp p n v g r) q
theorem reps_reads (I : Inv X pins σ H s) {l : List PV} {n : Nat} {vs : List V} {us : List Value} (g : PV.goodsN l n = true) (r : RepL X.K H l vs) (q : Vals vs us) : ∃ as, ReadsAll s.heap us (PV.toDs l) as := Dp.readsAll I _ _ _ (reps_dp l n vs g r) q
end

/-! ### sorting by insertion -/
section
variable {α β : Type}
def ins (lt : α → α → Bool) (x : α) : List α → List α
  | [] => [x]
  | y :: l => if lt y x = true then y :: ins lt x l else x :: y :: l
def isort (lt : α → α → Bool) : List α → List α
  | [] => []
  | x :: l => ins lt x (isort lt l)
theorem ins_perm (lt : α → α → Bool) (x : α) : ∀ l : List α, (ins lt x l).Perm (x :: l)
  | [] => .refl _
  | y :: l => by
    unfold ins
    split
    · exact ((ins_perm lt x l).cons y).trans (.swap x y l)
    · exact .refl _
theorem isort_perm (lt : α → α → Bool) : ∀ l : List α, (isort lt l).Perm l
  | [] => .refl _
  | x :: l => (ins_perm lt x _).trans ((isort_perm lt l).cons x)
theorem ins_map (f : α → β) (lt : β → β → Bool) (x : α) : ∀ l : List α, ins lt (f x) (l.map f) = (ins (fun a b => lt (f a) (f b)) x l).map f
  | [] => rfl
  | y :: l => by
    simp only [List.map_cons, ins]
    split
    · rw [List.map_cons, ins_map f lt x l]
    · rfl
theorem isort_map (f : α → β) (lt : β → β → Bool) : ∀ l : List α, isort lt (l.map f) = (isort (fun a b => lt (f a) (f b)) l).map f
  | [] => rfl
  | x :: l => by
    simp only [List.map_cons, isort]
    rw [isort_map f lt l, ins_map]
/-- total and transitive where it is asked -/
structure LtOk (lt : α → α → Bool) (S : α → Prop) : Prop where
  irr : ∀ x, S x → lt x x = false
  tr : ∀ x y z, S x → S y → S z → lt x y = true → lt y z = true → lt x z = true
  tot : ∀ x y, S x → S y → lt x y = false → x = y ∨ lt y x = true
theorem LtOk.asym {lt : α → α → Bool} {S : α → Prop} (O : LtOk lt S) {x y : α} (sx : S x) (sy : S y) (h : lt x y = true) : lt y x = false := by
  cases e : lt y x with
  | false => rfl
  | true =>
    have := O.tr x y x sx sy sx h e
    rw [O.irr x sx] at this; cases this
theorem ins_sorted {lt : α → α → Bool} {S : α → Prop} (O : LtOk lt S) {x : α} (sx : S x) : ∀ {l : List α}, (∀ y ∈ l, S y) → l.Pairwise (fun a b => lt b a = false) → (ins lt x l).Pairwise (fun a b => lt b a = false)
  | [], _, _ => by simp [ins]
  | y :: l, hs, h => by
    have sy := hs y List.mem_cons_self
    have sl : ∀ z ∈ l, S z := fun z hz => hs z (List.mem_cons_of_mem _ hz)
    obtain ⟨h1, h2⟩ := List.pairwise_cons.mp h
    unfold ins
    split
    · rename_i c
      refine List.pairwise_cons.mpr ⟨fun z hz => ?_, ins_sorted O sx sl h2⟩
      rcases List.mem_cons.mp ((ins_perm lt x l).mem_iff.mp hz) with e | hz
      · subst e; exact O.asym sy sx c
      · exact h1 z hz
    · rename_i c
      have c' : lt y x = false := by simpa using c
      refine List.pairwise_cons.mpr ⟨fun z hz => ?_, h⟩
      rcases List.mem_cons.mp hz with e | hz
      · subst e; exact c'
      · cases e : lt z x with
        | false => rfl
        | true =>
          exfalso
          rcases O.tot y x sy sx c' with e2 | e2
          · subst e2
            rw [h1 z hz] at e; cases e
          · have := O.tr z x y (sl z hz) sx sy e e2
            rw [h1 z hz] at this; cases this
theorem isort_sorted {lt : α → α → Bool} {S : α → Prop} (O : LtOk lt S) : ∀ {l : List α}, (∀ y ∈ l, S y) → (isort lt l).Pairwise (fun a b => lt b a = false)
  | [], _ => by simp [isort]
  | x :: l, hs => by
    refine ins_sorted O (hs x List.mem_cons_self) (fun y hy => hs y (List.mem_cons_of_mem _ ((isort_perm lt l).mem_iff.mp hy))) (isort_sorted O fun y hy => hs y (List.mem_cons_of_mem _ hy))
theorem sorted_uniq {lt : α → α → Bool} {S : α → Prop} (O : LtOk lt S) : ∀ {l m : List α}, (∀ y ∈ l, S y) → l.Perm m → l.Pairwise (fun a b => lt b a = false) → m.Pairwise (fun a b => lt b a = false) → l = m
  | [], m, _, p, _, _ => by rw [List.nil_perm.mp p]
  | x :: l, [], _, p, _, _ => by simpa using p.length_eq
  | x :: l, y :: m, hs, p, h1, h2 => by
    have sx := hs x List.mem_cons_self
    have hm : ∀ z ∈ y :: m, S z := fun z hz => hs z (p.mem_iff.mpr hz)
    have sy := hm y List.mem_cons_self
    obtain ⟨a1, a2⟩ := List.pairwise_cons.mp h1
    obtain ⟨b1, b2⟩ := List.pairwise_cons.mp h2
    have e : x = y := by
      have hx : x ∈ y :: m := p.mem_iff.mp List.mem_cons_self
      have hy : y ∈ x :: l := p.mem_iff.mpr List.mem_cons_self
      rcases List.mem_cons.mp hx with e | hx
      · exact e
      · rcases List.mem_cons.mp hy with e | hy
        · exact e.symm
        · have c1 := a1 y hy
          have c2 := b1 x hx
          rcases O.tot y x sy sx c1 with e | e
          · exact e.symm
          · rw [c2] at e; cases e
    subst e
    rw [sorted_uniq O (fun z hz => hs z (List.mem_cons_of_mem _ hz)) (List.Perm.cons_inv p) a2 b2]
end
/-- the order of pure values; where nothing is told, false -/
def pylt (p q : PV) : Bool := (pyLt p q).getD false
def psort (l : List PV) : List PV := isort pylt l
def isI : PV → Bool | .int _ => true | _ => false
def isS : PV → Bool | .str _ => true | _ => false
def isTI : PV → Bool | .tup (.int _ :: _) => true | _ => false
def isTS : PV → Bool | .tup (.str _ :: _) => true | _ => false
def isTT : PV → Bool | .tup (.tup _ :: _) => true | _ => false
def homog (l : List PV) : Bool := l.all isI || l.all isS || l.all isTI || l.all isTS || l.all isTT
structure Sortable (l : List PV) : Prop where
  key : ∀ p ∈ l, p.key = true
  cmp : ∀ p ∈ l, ∀ q ∈ l, (pyLt p q).isSome = true
  hom : homog l = true
theorem Sortable.ltOk {l : List PV} (h : Sortable l) : LtOk pylt (fun p => p ∈ l) where
  irr := fun p hp => by
    unfold pylt
    cases e : pyLt p p with
    | none => rfl
    | some b => cases b with
      | false => rfl
      | true => exact absurd e (lt_irr p _ (h.key p hp))
  tr := fun p q r hp hq hr h1 h2 => by
    unfold pylt at h1 h2 ⊢
    cases e : pyLt p q with
    | none => rw [e] at h1; cases h1
    | some b =>
      rw [e] at h1
      cases h1
      cases e2 : pyLt q r with
      | none => rw [e2] at h2; cases h2
      | some c =>
        rw [e2] at h2
        cases h2
        rw [lt_trans' p q r _ _ _ (h.key p hp) (h.key q hq) (h.key r hr) e e2]; rfl
  tot := fun p q hp hq h1 => by
    have hc := h.cmp p hp q hq
    unfold pylt at h1 ⊢
    cases e : pyLt p q with
    | none => rw [e] at hc; cases hc
    | some b =>
      rw [e] at h1
      cases h1
      rcases lt_total p q _ _ (h.key p hp) (h.key q hq) e with e2 | e2
      · exact .inl e2
      · right; rw [e2]; rfl
theorem psort_perm (l : List PV) : (psort l).Perm l := isort_perm _ l
theorem psort_uniq {l m : List PV} (h : Sortable l) (p : m.Perm l) (hs : m.Pairwise (fun a b => pylt b a = false)) : m = psort l :=
  sorted_uniq h.ltOk (fun y hy => p.mem_iff.mp hy) (p.trans (psort_perm l).symm) hs (isort_sorted h.ltOk fun _ hy => hy)
end PL
/-! PLe: sorted(v) where v's items are known. -/
namespace PL
open PySem PySem.Spec PySem.W PyProof.Rows L2

mutual
theorem reads_keep {h h' : Heap} (k : ∀ b o vs n, h.get? b = some o → o.cls = .type "tuple" → o.data = .seq vs n → h'.get? b = some o) : ∀ (p : PV) (n : Nat) (u : Value) (as : List Addr), p.goodN n = true → Reads h u p.toD as → Reads h' u p.toD as
  | .non, _, _, _, _, r => by cases r; exact .none
  | .bl _, _, _, _, _, r => by cases r; exact .bool _
  | .int _, _, _, _, _, r => by cases r; exact .int _ _
  | .str _, _, _, _, _, r => by cases r; exact .str _ _
  | .ref _, _, _, _, g, _ => by simp [PV.goodN] at g
  | .tup l, 0, _, _, g, _ => by simp [PV.goodN] at g
  | .tup l, n + 1, u, as, g, r => by
    cases r with
    | tuple ho hc hd ra => exact .tuple (k _ _ _ _ ho hc hd) hc hd (readss_keep k l n _ _ (by simpa [PV.goodN] using g) ra)
theorem readss_keep {h h' : Heap} (k : ∀ b o vs n, h.get? b = some o → o.cls = .type "tuple" → o.data = .seq vs n → h'.get? b = some o) : ∀ (l : List PV) (n : Nat) (us : List Value) (as : List Addr), PV.goodsN l n = true → ReadsAll h us (PV.toDs l) as → ReadsAll h' us (PV.toDs l) as
  | [], _, _, _, _, r => by cases r; exact .nil
  | p :: l, n, us, as, g, r => by
    simp only [PV.goodsN, Bool.and_eq_true] at g
    cases r with
    | cons r1 r2 => exact .cons (reads_keep k p n _ _ g.1 r1) (readss_keep k l n _ _ g.2 r2)
end

/-- what a value is, of some -/
noncomputable def kOf (h : Heap) (l : List PV) (u : Value) : PV := by
  classical
  exact if x : ∃ p, p ∈ l ∧ ∃ as, Reads h u p.toD as then Classical.choose x else l.headD (.int 0)
theorem kOf_mem {h : Heap} {l : List PV} {u : Value} (hl : l ≠ []) : kOf h l u ∈ l := by
  unfold kOf
  split
  · rename_i x; exact (Classical.choose_spec x).1
  · cases l with
    | nil => exact absurd rfl hl
    | cons p l => exact List.mem_cons_self
theorem kOf_eq {h : Heap} {l : List PV} {u : Value} {p : PV} {as : List Addr} (hk : ∀ q ∈ l, q.key = true) (hp : p ∈ l) (r : Reads h u p.toD as) : kOf h l u = p := by
  unfold kOf
  have x : ∃ p, p ∈ l ∧ ∃ as, Reads h u p.toD as := ⟨p, hp, as, r⟩
  rw [dif_pos x]
  obtain ⟨hm, as', r'⟩ := Classical.choose_spec x
  exact reads_inj _ _ 7 7 h u as' as (key_good _ _ (hk _ hm)) (key_good _ _ (hk _ hp)) r' r
theorem kOf_swo {h : Heap} {l : List PV} (hs : Sortable l) : SrtO.Swo (fun u v => pylt (kOf h l u) (kOf h l v)) := by
  by_cases hl : l = []
  · subst hl
    have e : ∀ u, kOf h [] u = .int 0 := fun u => by
      unfold kOf; rw [dif_neg]; rfl
      rintro ⟨p, hp, _⟩; cases hp
    refine ⟨fun x y hxy => ?_, fun x y z _ _ => ?_⟩
    · rw [e, e]; simp [pylt, pyLt]
    · rw [e, e]; simp [pylt, pyLt]
  · have O := hs.ltOk
    have m : ∀ u, kOf h l u ∈ l := fun u => kOf_mem hl
    refine ⟨fun x y hxy => O.asym (m x) (m y) hxy, fun x y z h1 h2 => ?_⟩
    cases e : pylt (kOf h l z) (kOf h l x) with
    | false => rfl
    | true =>
      exfalso
      rcases O.tot _ _ (m y) (m x) h1 with e2 | e2
      · rw [e2] at h2; rw [h2] at e; cases e
      · have := O.tr _ _ _ (m z) (m x) (m y) e e2
        rw [h2] at this; cases this

theorem readsAll_mem {h : Heap} : ∀ {us : List Value} {l : List PV} {as : List Addr}, ReadsAll h us (PV.toDs l) as → ∀ u ∈ us, ∃ p, p ∈ l ∧ ∃ bs, Reads h u p.toD bs
  | _, [], _, r, u, hu => by cases r; cases hu
  | us, p :: l, as, r, u, hu => by
    cases r with
    | cons r1 r2 =>
      rcases List.mem_cons.mp hu with e | hu
      · subst e; exact ⟨p, List.mem_cons_self, _, r1⟩
      · obtain ⟨q, hq, bs, r⟩ := readsAll_mem r2 u hu
        exact ⟨q, List.mem_cons_of_mem _ hq, bs, r⟩
theorem readsAll_k {h : Heap} : ∀ {us : List Value} {l L : List PV} {as : List Addr}, (∀ q ∈ L, q.key = true) → (∀ q ∈ l, q ∈ L) → ReadsAll h us (PV.toDs l) as → us.map (kOf h L) = l
  | _, [], _, _, _, _, r => by cases r; rfl
  | us, p :: l, L, as, hk, hm, r => by
    cases r with
    | cons r1 r2 =>
      rw [List.map_cons, kOf_eq hk (hm p List.mem_cons_self) r1, readsAll_k hk (fun q hq => hm q (List.mem_cons_of_mem _ hq)) r2]

theorem ints_of {h : Heap} : ∀ {us : List Value} {l : List PV} {as : List Addr}, ReadsAll h us (PV.toDs l) as → l.all isI = true → ∃ ns, IntsAre us ns
  | _, [], _, r, _ => by cases r; exact ⟨_, .nil⟩
  | us, p :: l, as, r, g => by
    simp only [List.all_cons, Bool.and_eq_true] at g
    cases r with
    | cons r1 r2 =>
      obtain ⟨ns, x⟩ := ints_of r2 g.2
      cases p with
      | int i => cases r1; exact ⟨_, .cons _ _ x⟩
      | _ => exact absurd g.1 (by simp [isI])
theorem strs_of {h : Heap} : ∀ {us : List Value} {l : List PV} {as : List Addr}, ReadsAll h us (PV.toDs l) as → l.all isS = true → ∃ ns, StrsAre us ns
  | _, [], _, r, _ => by cases r; exact ⟨_, .nil⟩
  | us, p :: l, as, r, g => by
    simp only [List.all_cons, Bool.and_eq_true] at g
    cases r with
    | cons r1 r2 =>
      obtain ⟨ns, x⟩ := strs_of r2 g.2
      cases p with
      | str i => cases r1; exact ⟨_, .cons _ _ x⟩
      | _ => exact absurd g.1 (by simp [isS])
/-- the first items -/
theorem firsts_of {h : Heap} (c : PV → Bool) : ∀ {us : List Value} {l : List PV} {as : List Addr}, ReadsAll h us (PV.toDs l) as → (∀ p ∈ l, ∃ q r, p = .tup (q :: r) ∧ c q = true) →
    ∃ fs, KatTups h us fs ∧ fs.length = us.length ∧ ∀ f ∈ fs, ∃ q bs, c q = true ∧ Reads h f q.toD bs
  | _, [], _, r, _ => by cases r; exact ⟨[], .nil, rfl, fun _ hf => by cases hf⟩
  | us, p :: l, as, r, g => by
    cases r with
    | cons r1 r2 =>
      obtain ⟨fs, x, hl, hf⟩ := firsts_of c r2 fun p hp => g p (List.mem_cons_of_mem _ hp)
      obtain ⟨q, rr, rfl, hc⟩ := g p List.mem_cons_self
      cases r1 with
      | @tuple a o vs n _ _ ho hcl hd ra =>
        generalize hvs : vs.toList = vl at ra
        cases ra with
        | @cons f vr _ _ a1 a2 q1 q2 =>
          have e0 : vs[0]? = some f := by rw [← Array.getElem?_toList, hvs]; rfl
          refine ⟨f :: fs, .cons ho hcl hd e0 x, by simp [hl], fun z hz => ?_⟩
          rcases List.mem_cons.mp hz with e | hz
          · subst e; exact ⟨q, _, hc, q1⟩
          · exact hf z hz
section
variable {prog : Program} {w : World} {A : Around} {E : Value → Shared → Prop} {s : Shared}
theorem katlex_good {b : Bool} : ∀ (l k : List PV) (i n m : Nat) (us vs : List Value) (as bs : List Addr) (c : Bool) (fin : Bool) {Q : Bool → Shared → Prop}, ReadsAll s.heap us (PV.toDs l) as → ReadsAll s.heap vs (PV.toDs k) bs → PV.goodsN l n = true → PV.goodsN k m = true →
    A.units + n < cLine → pyLts l k = some c → ((us.length < vs.length ↔ fin = true)) → (b = true → i = 0 → (∀ p ∈ l.head?, ∀ q ∈ k.head?, (isI p = true ∧ isI q = true) ∨ (isS p = true ∧ isS q = true))) → Q c s → KatLex prog w A b fin Q (us.zip vs) i s
  | [], k, i, n, m, us, vs, as, bs, c, fin, Q, ra, rb, _, _, _, h, hf, _, q => by
    cases ra
    rw [List.zip_nil_left]
    refine kat_nil ?_
    have hl := readsAll_length rb
    rw [toDs_length] at hl
    cases k with
    | nil =>
      simp only [pyLts, Option.some.injEq] at h
      simp only [List.length_nil] at hl hf
      rw [hl] at hf
      have : fin = false := by cases fin; rfl; simp at hf
      rw [this, h]; exact q
    | cons x k =>
      simp only [pyLts, Option.some.injEq] at h
      have : fin = true := hf.mp (by rw [hl]; simp)
      rw [this, h]; exact q
  | p :: l, [], i, n, m, us, vs, as, bs, c, fin, Q, ra, rb, _, _, _, h, hf, _, q => by
    cases rb
    rw [List.zip_nil_right]
    refine kat_nil ?_
    simp only [pyLts, Option.some.injEq] at h
    have : fin = false := by cases fin; rfl; simp at hf
    rw [this, h]; exact q
  | p :: l, x :: k, i, n, m, us, vs, as, bs, c, fin, Q, ra, rb, g1, g2, hu, h, hf, hb, q => by
    cases ra with
    | cons a1 a2 =>
    cases rb with
    | cons b1 b2 =>
    simp only [PV.goodsN, Bool.and_eq_true] at g1 g2
    rw [List.zip_cons_cons]
    simp only [pyLts] at h
    refine kat_cons (eqBool_good a1 b1 g1.1 g2.1 hu ?_)
    by_cases e : pyEq p x = true
    · rw [e]
      rw [if_pos e] at h
      exact kat_yes (katlex_good l k (i + 1) n m _ _ _ _ c fin a2 b2 g1.2 g2.2 hu h (by simpa using hf) (fun _ z => by omega) q)
    · rw [if_neg e] at h
      have e' : pyEq p x = false := by simpa using e
      rw [e']
      refine kat_no ?_
      by_cases hbi : (b && i == 0) = true
      · rw [hbi]
        simp only [Bool.and_eq_true, beq_iff_eq] at hbi
        rcases hb hbi.1 hbi.2 p rfl x rfl with ⟨z1, z2⟩ | ⟨z1, z2⟩
        · cases p <;> simp only [isI, Bool.false_eq_true] at z1
          cases x <;> simp only [isI, Bool.false_eq_true] at z2
          cases a1; cases b1
          simp only [pyLt, Option.some.injEq] at h
          subst h
          exact oneLt_int q
        · cases p <;> simp only [isS, Bool.false_eq_true] at z1
          cases x <;> simp only [isS, Bool.false_eq_true] at z2
          cases a1; cases b1
          simp only [pyLt, Option.some.injEq] at h
          subst h
          exact oneLt_str q
      · rw [show (b && i == 0) = false by simpa using hbi]
        exact kat_one _ _ (lt_reads p x n m A s _ _ _ _ c _ a1 b1 g1.1 g2.1 hu h q)
end
end PL
/-! PLf: sorted(v), to the end. -/
namespace PL
open PySem PySem.Spec PySem.W PyProof.Rows L2

section
variable {prog : Program} {w : World} {A : Around} {E : Value → Shared → Prop} {s : Shared}
theorem goods7 {l : List PV} (hk : ∀ q ∈ l, q.key = true) : PV.goodsN l 7 = true := goodsN_mem.mpr fun p hp => key_good _ _ (hk p hp)
theorem back_true {Q : Bool → Prop} {s : Shared} {c : Bool} (h : (fun (r : Bool) (s' : Shared) => s' = s ∧ r = c) c s) : s = s ∧ c = c := ⟨rfl, rfl⟩

theorem cmp_tup {b : Bool} {p q : PV} {u v : Value} {as bs : List Addr} (hp : p.key = true) (hq : q.key = true) (rp : Reads s.heap u p.toD as) (rq : Reads s.heap v q.toD bs) (hu : A.units + 10 < cLine)
    (f1 : ∃ x r, p = .tup (x :: r)) (f2 : ∃ x r, q = .tup (x :: r)) (hb : b = true → ∀ x r y z, p = .tup (x :: r) → q = .tup (y :: z) → (isI x = true ∧ isI y = true) ∨ (isS x = true ∧ isS y = true)) (hc : (pyLt p q).isSome = true) :
    wpAny (model prog w) A (keyLt' (tuples' b) u v) (fun r s' => s' = s ∧ r = pylt p q) (fun _ _ => False) s := by
  obtain ⟨x, r, rfl⟩ := f1
  obtain ⟨y, z, rfl⟩ := f2
  have g1 := key_good _ _ hp
  have g2 := key_good _ _ hq
  cases rp with
  | @tuple a o vs n _ _ ho hcl hd ra =>
  cases rq with
  | @tuple a2 o2 vs2 n2 _ _ ho2 hcl2 hd2 rb =>
  obtain ⟨c, e⟩ := Option.isSome_iff_exists.mp hc
  have e2 : pylt (.tup (x :: r)) (.tup (y :: z)) = c := by unfold pylt; rw [e]; rfl
  simp only [pyLt] at e
  refine kat_lt ho hd ho2 hd2 ?_
  refine katlex_good (x :: r) (y :: z) 0 6 6 _ _ _ _ c _ ra rb (by simpa [PV.goodN] using g1) (by simpa [PV.goodN] using g2) (by omega) e (by simp) ?_ ⟨rfl, e2.symm⟩
  intro hb' _ p' hp' q' hq'
  simp only [List.head?_cons, Option.mem_def, Option.some.injEq] at hp' hq'
  subst hp'; subst hq'
  exact hb hb' x r y z rfl rfl

theorem looks_int {h : Heap} {f : Value} {q : PV} {bs : List Addr} (c : isI q = true) (r : Reads h f q.toD bs) : PySem.W.Looks (model prog w) h (typeOf f) (.type "int") := by
  cases q with
  | int i => cases r; exact .now
  | _ => simp [isI] at c
theorem looks_str {h : Heap} {f : Value} {q : PV} {bs : List Addr} (c : isS q = true) (r : Reads h f q.toD bs) : PySem.W.Looks (model prog w) h (typeOf f) (.type "str") := by
  cases q with
  | str i => cases r; exact .now
  | _ => simp [isS] at c
def isT : PV → Bool | .tup _ => true | _ => false
theorem looks_tup {h : Heap} {f : Value} {q : PV} {bs : List Addr} (c : isT q = true) (r : Reads h f q.toD bs) : PySem.W.Looks (model prog w) h (typeOf f) (.type "tuple") := by
  cases q with
  | tup l =>
    cases r with
    | tuple ho hc hd ra =>
      rename_i a o vs n
      have z : PySem.W.Looks (model prog w) h (typeOf (.ref a)) o.cls := (PySem.W.Looks.ld ho).andThen .now
      rw [hc] at z
      exact z
  | _ => simp [isT] at c

theorem readsAll_same {h0 h' : Heap} : ∀ {us : List Value} {l' : List PV} {as1 as2 : List Addr}, ReadsAll h0 us (PV.toDs l') as1 → ReadsAll h' us (PV.toDs l') as2 → ∀ x ∈ us, ∃ p bs cs, p ∈ l' ∧ Reads h0 x p.toD bs ∧ Reads h' x p.toD cs
  | us, [], as1, as2, q1, _, x, hx => by cases q1; cases hx
  | us, p :: l', as1, as2, q1, q2, x, hx => by
    cases q1 with
    | cons a1 a2 =>
      cases q2 with
      | cons b1 b2 =>
        rcases List.mem_cons.mp hx with e | hx
        · subst e; exact ⟨p, _, _, List.mem_cons_self, a1, b1⟩
        · obtain ⟨p, bs, cs, m, z1, z2⟩ := readsAll_same a2 b2 x hx
          exact ⟨p, bs, cs, List.mem_cons_of_mem _ m, z1, z2⟩
theorem sortableO_pv {a : Addr} {vs : List Value} {l : List PV} {as : List Addr} {h0 : Heap} (hnt : ∀ o, s.heap.get? a = some o → o.cls ≠ .type "tuple") (r0 : ReadsAll h0 vs (PV.toDs l) as) (r : ReadsAll s.heap vs (PV.toDs l) as) (hs : Sortable l) (h2 : 2 ≤ vs.length) (hu : A.units + 10 < cLine) :
    SrtO.SortableO prog w A s a vs (fun u v => pylt (kOf h0 l u) (kOf h0 l v)) := by
  intro h' kp
  have r' : ReadsAll h' vs (PV.toDs l) as := readss_keep (fun b o _ _ ho hc _ => kp b o (fun e => by subst e; exact hnt o ho hc) ho) l 7 vs as (goods7 hs.key) r
  have rd : ∀ u ∈ vs, ∃ bs, Reads h' u (kOf h0 l u).toD bs ∧ kOf h0 l u ∈ l := fun u hu' => by
    obtain ⟨p, hp, bs, rr⟩ := readsAll_mem r' u hu'
    have rr0 : ∃ cs q, q ∈ l ∧ Reads h0 u q.toD cs := by
      obtain ⟨q, hq, cs, z⟩ := readsAll_mem r0 u hu'
      exact ⟨cs, q, hq, z⟩
    obtain ⟨cs, q, hq, z⟩ := rr0
    have e := kOf_eq hs.key hq z
    rw [e]
    obtain ⟨p', b1, c1, m, z1, z2⟩ := readsAll_same r0 r' u hu'
    have e2 := kOf_eq hs.key m z1
    rw [e] at e2
    subst e2
    exact ⟨c1, z2, m⟩
  have hne : l ≠ [] := fun e => by
    subst e
    have := readsAll_length r
    rw [this] at h2
    simp [PV.toDs] at h2
  have lenv : vs.length = l.length := by rw [readsAll_length r, toDs_length]
  have hh := hs.hom
  simp only [homog, Bool.or_eq_true] at hh
  have tupcase : ∀ (c : PV → Bool) (T : Value) (hT : ∀ f q bs, c q = true → Reads h' f q.toD bs → PySem.W.Looks (model prog w) h' (typeOf f) T) (hTT : (T == T) = true), (∀ p ∈ l, ∃ q r, p = .tup (q :: r) ∧ c q = true) →
      ((T != Value.type "tuple") = true → ∀ x y, c x = true → c y = true → (isI x = true ∧ isI y = true) ∨ (isS x = true ∧ isS y = true)) →
      ∃ κ, (∀ (Q : SortKind → Shared → Prop) (E : Value → Shared → Prop), Q κ { s with heap := h' } → wpAny (model prog w) A (keyKind' vs.toArray) Q E { s with heap := h' }) ∧
        SrtO.Cmp prog w A { s with heap := h' } κ (fun p => p.1 ∈ vs) (SrtO.lt2 fun u v => pylt (kOf h0 l u) (kOf h0 l v)) := by
    intro c T hT hTT hc hcc
    obtain ⟨fs, kt, hl, hf⟩ := firsts_of c r' hc
    refine ⟨tuples' (T != Value.type "tuple"), fun Q E' q => ?_, fun p q hp hq => ?_⟩
    · refine kat_kind (s := { s with heap := h' }) (T := T) kt (by omega) (fun f hf' => ?_) hTT q
      obtain ⟨q', bs, c1, c2⟩ := hf f hf'
      exact hT f q' bs c1 c2
    · obtain ⟨b1, d1, m1⟩ := rd _ hp
      obtain ⟨b2, d2, m2⟩ := rd _ hq
      obtain ⟨x1, y1, e1, g1⟩ := hc _ m1
      obtain ⟨x2, y2, e2, g2⟩ := hc _ m2
      refine cmp_tup (s := { s with heap := h' }) (hs.key _ m1) (hs.key _ m2) d1 d2 hu ⟨_, _, e1⟩ ⟨_, _, e2⟩ (fun hb x r y z q1 q2 => ?_) (hs.cmp _ m1 _ m2)
      rw [q1] at e1; rw [q2] at e2
      obtain ⟨rfl, _⟩ : x = x1 ∧ r = y1 := by simpa using e1
      obtain ⟨rfl, _⟩ : y = x2 ∧ z = y2 := by simpa using e2
      exact hcc hb x y g1 g2
  rcases hh with (((hI | hS) | hTI) | hTS) | hTT
  · obtain ⟨ns, hI'⟩ := ints_of r' hI
    refine ⟨oneType', fun Q E' q => ?_, fun p q hp hq => ?_⟩
    · match vs, h2, hI' with
      | v1 :: v2 :: rest, _, hI' => rw [keyKind_ints hI']; exact wpAny_pure q
    · obtain ⟨b1, d1, m1⟩ := rd _ hp
      obtain ⟨b2, d2, m2⟩ := rd _ hq
      have i1 := List.all_eq_true.mp hI _ m1
      have i2 := List.all_eq_true.mp hI _ m2
      show wpAny _ _ _ (fun r s' => s' = _ ∧ r = pylt (kOf h0 l p.1) (kOf h0 l q.1)) _ _
      generalize kOf h0 l p.1 = pp at *
      generalize kOf h0 l q.1 = qq at *
      generalize p.1 = pv at *
      generalize q.1 = qv at *
      cases pp <;> simp only [isI, Bool.false_eq_true] at i1
      cases qq <;> simp only [isI, Bool.false_eq_true] at i2
      cases d1; cases d2
      exact kat_lt_int ⟨rfl, rfl⟩
  · obtain ⟨ns, hI'⟩ := strs_of r' hS
    refine ⟨oneType', fun Q E' q => ?_, fun p q hp hq => ?_⟩
    · match vs, h2, hI' with
      | v1 :: v2 :: rest, _, hI' => rw [keyKind_strs hI']; exact wpAny_pure q
    · obtain ⟨b1, d1, m1⟩ := rd _ hp
      obtain ⟨b2, d2, m2⟩ := rd _ hq
      have i1 := List.all_eq_true.mp hS _ m1
      have i2 := List.all_eq_true.mp hS _ m2
      show wpAny _ _ _ (fun r s' => s' = _ ∧ r = pylt (kOf h0 l p.1) (kOf h0 l q.1)) _ _
      generalize kOf h0 l p.1 = pp at *
      generalize kOf h0 l q.1 = qq at *
      generalize p.1 = pv at *
      generalize q.1 = qv at *
      cases pp <;> simp only [isS, Bool.false_eq_true] at i1
      cases qq <;> simp only [isS, Bool.false_eq_true] at i2
      cases d1; cases d2
      rw [keyLt'_oneType]
      exact oneLt_str ⟨rfl, rfl⟩
  · refine tupcase isI (.type "int") (fun f q bs => looks_int) rfl (fun p hp => ?_) (fun _ x y hx hy => .inl ⟨hx, hy⟩)
    have := List.all_eq_true.mp hTI _ hp
    match p, this with
    | .tup (.int i :: r), _ => exact ⟨_, _, rfl, rfl⟩
  · refine tupcase isS (.type "str") (fun f q bs => looks_str) rfl (fun p hp => ?_) (fun _ x y hx hy => .inr ⟨hx, hy⟩)
    have := List.all_eq_true.mp hTS _ hp
    match p, this with
    | .tup (.str i :: r), _ => exact ⟨_, _, rfl, rfl⟩
  · refine tupcase isT (.type "tuple") (fun f q bs => looks_tup) rfl (fun p hp => ?_) (fun e => by simp at e)
    have := List.all_eq_true.mp hTT _ hp
    match p, this with
    | .tup (.tup i :: r), _ => exact ⟨_, _, rfl, rfl⟩
end
end PL
/-! PLg: sorted as a call; what gives the items. -/
namespace PL
open PySem PySem.Spec PySem.W PyProof.Rows L2

def backP (u : Value) : V := (absV u).getD .non
theorem backP_of {x : V} {u : Value} (r : RelV x u) : backP u = x := by unfold backP; rw [r.abs]; rfl
theorem triples {K : PySem.W.Frag} {H : Hp} {h : Heap} : ∀ {l : List PV} {xs : List V} {vs : List Value} {as : List Addr}, RepL K H l xs → Vals xs vs → ReadsAll h vs (PV.toDs l) as → ∀ u ∈ vs, ∃ p x bs, p ∈ l ∧ Rep K H p x ∧ RelV x u ∧ Reads h u p.toD bs
  | [], xs, vs, as, r, v, ra, u, hu => by cases ra; cases hu
  | p :: l, xs, vs, as, r, v, ra, u, hu => by
    unfold RepL at r
    obtain ⟨x, ys, rfl, r1, r2⟩ := r
    cases v with
    | cons v1 v2 =>
      cases ra with
      | cons a1 a2 =>
        rcases List.mem_cons.mp hu with e | hu
        · subst e; exact ⟨p, x, _, List.mem_cons_self, r1, v1, a1⟩
        · obtain ⟨p, x, bs, m, z⟩ := triples r2 v2 a2 u hu
          exact ⟨p, x, bs, List.mem_cons_of_mem _ m, z⟩
theorem repl_map {K : PySem.W.Frag} {H : Hp} (k : Value → PV) : ∀ {us : List Value}, (∀ u ∈ us, ∃ x, Rep K H (k u) x ∧ RelV x u) → RepL K H (us.map k) (us.map backP) ∧ Vals (us.map backP) us
  | [], _ => by unfold RepL; exact ⟨rfl, .nil⟩
  | u :: us, h => by
    obtain ⟨x, r, v⟩ := h u List.mem_cons_self
    obtain ⟨a, b⟩ := repl_map k fun z hz => h z (List.mem_cons_of_mem _ hz)
    have e := backP_of v
    rw [List.map_cons, List.map_cons]
    unfold RepL
    exact ⟨⟨_, _, rfl, by rw [e]; exact r, a⟩, .cons (by rw [e]; exact v) b⟩

section
variable {X : Cx} {pins : List (Addr × Obj)} {σ : L2.St} {H : Hp} {s : Shared}
theorem sorted_core (I : Inv X pins σ H s) {v : Value} {l : List PV} {xs : List V} (hrep : RepL X.K H l xs) (hs : Sortable l) (hz : l.length ≤ sizeLine) (hu : X.A.units + 64 < cLine)
    (hcol : ∀ (R : List Value → Shared → Prop), (∀ vs h1 tk, Vals xs vs → (∀ b o, s.heap.get? b = some o → h1.get? b = some o) → R vs { s with heap := h1, toks := tk }) → wpAny (model X.prog X.w) X.A.in1 (collect v) R X.xe s)
    {Q : VK} (q : ∀ d ys, H d = none → RepL X.K H (psort l) ys → Q (.ref d) (upd H d (.lst ys))) :
    wpAny (model X.prog X.w) X.A (call (.builtin "sorted") [v]) (EP X pins σ Q) X.xe s := by
  refine Calls.call_function_entry PyProof.Rows.kind_sorted PyProof.Rows.plain_sorted PyProof.Rows.entry_sorted (PyProof.Rows.args_sorted1 _) ?_
  unfold Builtin.«sorted»
  refine wpAny_bind (m := checkCount "sorted" 1 1 _) (wpAny_pure ?_)
  refine wpAny_bind (hcol _ fun vs h1 tk hv kp => ?_)
  have I1 : Inv X pins σ H { s with heap := h1, toks := tk } := I.kept kp
  have hlen : vs.length = l.length := by rw [← hv.length, hrep.length]
  refine wpAny_bind (wpAny_newList ?_ (by rw [hlen]; exact hz))
  obtain ⟨as, ra⟩ := reps_reads I1 (goods7 hs.key) hrep hv
  have hoL : (h1.push (seqObj "list" vs.toArray 0)).get? h1.objs.size = some (seqObj "list" vs.toArray 0) := Heap.get?_push_size _ rfl
  have raP : ReadsAll (h1.push (seqObj "list" vs.toArray 0)) vs (PV.toDs l) as := readss_keep (fun b o _ _ ho _ _ => Heap.get?_push_of_some _ ho) l 7 _ _ (goods7 hs.key) ra
  show wpAny _ _ _ _ _ { s with heap := h1.push (seqObj "list" vs.toArray 0), toks := tk }
  refine wpAny_bind (wpAny_holding (wpAny_call_entry PyProof.Rows.slot_list_sort ⟨_, hoL, rfl⟩ PyProof.Rows.entry_list_sort
    (SrtO.list_sort_ord (s := { s with heap := h1.push (seqObj "list" vs.toArray 0), toks := tk }) (kOf_swo (h := h1) hs) hoL (by rw [hlen]; exact hz)
      (fun h2 => sortableO_pv (s := { s with heap := h1.push (seqObj "list" vs.toArray 0), toks := tk }) (fun o ho => ?_) ra raP hs h2 (by show X.A.units + 1 + 1 + 10 < cLine; omega)) fun out hso hst => ⟨_, rfl, ?_⟩) (PyProof.Rows.args_list_sort _)))
  · rw [hoL] at ho; cases ho
    intro c
    exact absurd (Value.type.inj c) (by decide)
  · have ek : out.map (kOf h1 l) = psort l := by
      have e1 : (vs.map (kOf h1 l)) = l := readsAll_k hs.key (fun _ h => h) ra
      refine psort_uniq hs ?_ ?_
      · have := hst.perm.map (kOf h1 l)
        rw [e1] at this
        exact this
      · exact List.pairwise_map.mpr hso
    obtain ⟨r1, r2⟩ := repl_map (K := X.K) (H := H) (kOf h1 l) (us := out) fun u hu' => by
      obtain ⟨p, x, bs, m, rp, rv, rr⟩ := triples hrep hv ra u (hst.perm.mem_iff.mp hu')
      rw [kOf_eq hs.key m rr]
      exact ⟨x, rp, rv⟩
    rw [ek] at r1
    obtain ⟨e, he⟩ := sortedHeap_at (out := out.toArray) hoL
    refine wpAny_pure ⟨_, rfl, .ref h1.objs.size, upd H h1.objs.size (.lst (out.map backP)), ?_, rfl, q _ _ (I1.hok.fresh (Nat.le_refl _)) r1⟩
    refine I1.laid (t' := tk) (fun b o hb => ?_) (Nat.le_refl _) ⟨?_, out, e, r2, he⟩
    · have hlt := Heap.lt_size hb
      rw [sortedHeap_old (Nat.ne_of_lt hlt) (by rw [size_push']; exact Nat.lt_succ_of_lt hlt)]
      exact Heap.get?_push_of_some _ hb
    · rw [List.length_map, hst.perm.length_eq, hlen]; exact hz
end
end PL
/-! PLh: tuples as keys of dicts; what a dict is. -/
namespace PL
open PySem PySem.Spec PySem.W PyProof.Rows L2

/-- the tuple p stands at a -/
structure IsK (h : Heap) (p : PV) (a : Addr) : Prop where
  key : p.key = true
  tup : isT p = true
  reads : ∃ as, Reads h (.ref a) p.toD as
noncomputable instance : DecidableEq PV := fun _ _ => Classical.propDecidable _
noncomputable def pvKind (prog : Program) (w : World) : HeapKind prog w PV where
  is := IsK
  hash := fun p => p.hash w
  draws := fun p => p.draws
  room := fun A => A.units + 8 < cLine
  inj := fun {h a x y} hx hy => by
    obtain ⟨as, r1⟩ := hx.reads
    obtain ⟨bs, r2⟩ := hy.reads
    exact reads_inj x y 7 7 h _ as bs (key_good _ _ hx.key) (key_good _ _ hy.key) r1 r2
  keeps := fun {h h' k a d o es ep} hx ho hd hs => by
    obtain ⟨as, r⟩ := hx.reads
    refine ⟨hx.key, hx.tup, as, reads_keep (fun b ob vs n hb hc hdd => ?_) k 7 _ _ (key_good _ _ hx.key) r⟩
    have hne : b ≠ d := by
      rintro rfl
      rw [hb] at ho; cases ho
      rw [hdd] at hd; cases hd
    exact (hs.2 b hne).trans hb
  pyHash := fun {A E s k a Q} hu hx h => by
    obtain ⟨as, r⟩ := hx.reads
    exact hash_reads k 7 A s _ as Q r hx.key (by omega) h
  eqBool := fun {A E s x y a b Q} hu hx hy h => by
    obtain ⟨as, r1⟩ := hx.reads
    obtain ⟨bs, r2⟩ := hy.reads
    refine eqBool_good r1 r2 (key_good _ _ hx.key) (key_good _ _ hy.key) (by omega) ?_
    have e := key_eq x y 7 7 hx.key hy.key
    by_cases c : x = y
    · rw [e.mpr c]; simpa [c] using h
    · have : pyEq x y = false := by cases q : pyEq x y; rfl; exact absurd (e.mp q) c
      rw [this]; simpa [c] using h
  quiet := fun {A E s k a Q} hx h => by
    obtain ⟨as, r⟩ := hx.reads
    exact quiet_reads k 7 A s _ as Q r (key_good _ _ hx.key) h
end PL
/-! PLs: the small language and what must hold ahead of it (weakest preconditions). -/
namespace PL
open PySem L2

mutual
inductive T where
  | nm (i : Nat)
  | tp (ts : Ts)
inductive Ts where
  | nil
  | cons (t : T) (r : Ts)
end
/-- built-in functions -/
inductive B where
  | len | tuple | list | sorted | dict | int | abs | max | min | all | any | minlen
  deriving DecidableEq
/-- methods -/
inductive Me where
  | append | extend | pop | get | update | index
  deriving DecidableEq
/-- what isinstance asks -/
inductive Ty where
  | int | bool | str | tuple | list
  deriving DecidableEq
mutual
inductive E where
  | c (p : PV)
  | var (i : Nat)
  | glob (x : Str)
  | tup (es : Es)
  | lst (es : Es)
  | dct (ks vs : Es)
  | bin (op : Operator) (a b : E)
  | neg (a : E)
  | not (a : E)
  | bop (isAnd : Bool) (es : Es)
  | cmp (op : CmpOp) (a b : E)
  | ife (t a b : E)
  | ix (a i : E)
  | sl (a : E) (lo hi : Eo)
  | call (f : Str) (es : Es) (ks : List Str)
  | blt (f : B) (es : Es)
  | isi (a : E) (t : Ty)
  | mth (m : Me) (o : E) (es : Es)
  | lc (elt : E) (t : T) (it : I) (cond : Es) (own : List Nat)
  | dc (k v : E) (t : T) (it : I) (cond : Es) (own : List Nat)
inductive Eo where
  | none
  | some (e : E)
inductive Es where
  | nil
  | cons (e : E) (r : Es)
inductive I where
  | ex (e : E)
  | range (es : Es)
  | enum (e : E)
  | zip (a b : E)
  | enumz (a b : E)
  | items (e : E)
end
mutual
inductive S where
  | asg (t : T) (e : E)
  | sub (o i e : E)
  | aug (i : Nat) (op : Operator) (e : E)
  | ex (e : E)
  | ifs (t : E) (a b : Ss)
  | fors (t : T) (it : I) (b : Ss)
  | whiles (t : E) (b : Ss)
  | ret (e : E)
  | retN
  | brk
  | cnt
  | pass
inductive Ss where
  | nil
  | cons (s : S) (r : Ss)
end

def ok {α : Type} (o : Option α) (f : α → Prop) : Prop := match o with
  | some a => f a
  | none => False
@[simp] theorem ok_some {α : Type} (a : α) (f : α → Prop) : ok (some a) f = f a := rfl
@[simp] theorem ok_none {α : Type} (f : α → Prop) : ok none f = False := rfl
theorem ok_of {α : Type} {o : Option α} {f : α → Prop} (h : ok o f) : ∃ a, o = some a ∧ f a := by
  cases o with
  | none => exact h.elim
  | some a => exact ⟨a, rfl, h⟩
theorem ok_mono {α : Type} {o : Option α} {f g : α → Prop} (h : ok o f) (m : ∀ a, f a → g a) : ok o g := by
  cases o with
  | none => exact h
  | some a => exact m a h

/-- a bool, a tuple: else nothing is told -/
def onB (x : PV) (k : Bool → Prop) : Prop := match x with
  | .bl c => k c
  | _ => False
@[simp] theorem onB_bl (c : Bool) (k : Bool → Prop) : onB (.bl c) k = k c := rfl
theorem onB_of {x : PV} {k : Bool → Prop} (h : onB x k) : ∃ c, x = .bl c ∧ k c := by
  cases x <;> first | exact ⟨_, rfl, h⟩ | exact h.elim
def onI (x : PV) (k : Int → Prop) : Prop := match x with
  | .int i => k i
  | _ => False
@[simp] theorem onI_int (i : Int) (k : Int → Prop) : onI (.int i) k = k i := rfl
theorem onI_of {x : PV} {k : Int → Prop} (h : onI x k) : ∃ i, x = .int i ∧ k i := by
  cases x <;> first | exact ⟨_, rfl, h⟩ | exact h.elim
def onT (x : PV) (k : List PV → Prop) : Prop := match x with
  | .tup l => k l
  | _ => False
@[simp] theorem onT_tup (l : List PV) (k : List PV → Prop) : onT (.tup l) k = k l := rfl
theorem onT_of {x : PV} {k : List PV → Prop} (h : onT x k) : ∃ l, x = .tup l ∧ k l := by
  cases x <;> first | exact ⟨_, rfl, h⟩ | exact h.elim
def LIM : Nat := 1000000

/-! ### objects -/
/-- a list's items -/
def lstOf (M : MH) (a : Addr) : Option (List PV) := match M a with
  | some (.lst l) => some l
  | some (.rol l) => some l
  | _ => none
inductive IsDct | yes | no
def dctOf (M : MH) (a : Addr) : Option (List (PV × PV)) := match M a with
  | some (.dct kvs _) => some kvs
  | _ => none
/-- the first pair of a key -/
def kget (kvs : List (PV × PV)) (k : PV) : Option PV := (kvs.find? fun x => pyEq x.1 k).map (·.2)
def khas (kvs : List (PV × PV)) (k : PV) : Bool := kvs.any fun x => pyEq x.1 k
def kput (kvs : List (PV × PV)) (k v : PV) : List (PV × PV) := if khas kvs k then kvs.map fun x => if pyEq x.1 k then (x.1, v) else x else kvs ++ [(k, v)]
def kputs (kvs more : List (PV × PV)) : List (PV × PV) := more.foldl (fun acc x => kput acc x.1 x.2) kvs
/-- an int or a text -/
def isF : PV → Bool
  | .int _ => true
  | .str _ => true
  | _ => false
/-- the key goes with the dict's -/
def kOk (kvs : List (PV × PV)) (k : PV) : Bool := k.key && ((isF k && kvs.all fun x => isF x.1) || (isT k && kvs.all fun x => isT x.1))
def pairOf : PV → Option (PV × PV)
  | .tup [k, v] => some (k, v)
  | _ => none
def pairsOfL : List PV → Option (List (PV × PV))
  | [] => some []
  | p :: l => match pairOf p, pairsOfL l with
    | some x, some r => some (x :: r)
    | _, _ => none
/-- the items of what is walked -/
def itemsOf (M : MH) : PV → Option (List PV)
  | .tup l => some l
  | .ref a => match M a with
    | some (.lst l) => some l
    | some (.rol l) => some l
    | some (.dct kvs _) => some (kvs.map (·.1))
    | none => none
  | _ => none
def lenOf (M : MH) : PV → Option Nat
  | .tup l => some l.length
  | .ref a => match M a with
    | some (.lst l) => some l.length
    | some (.rol l) => some l.length
    | some (.dct kvs _) => some kvs.length
    | none => none
  | _ => none
def getI (l : List PV) (i : Int) : Option PV := atI l i
def cutL (l : List PV) (lo hi : Option Int) : List PV := (l.drop (HT.sIx l.length 0 lo)).take (HT.sIx l.length l.length hi - HT.sIx l.length 0 lo)
/-- a list that may be changed -/
def lstM (M : MH) (a : Addr) : Option (List PV) := match M a with
  | some (.lst l) => some l
  | _ => none

/-! ### operations on values -/
def mulOk (i j : Int) : Prop := (i.natAbs < 2 ^ 4000 ∧ j.natAbs < 2 ^ 4000)
def binW (op : Operator) (x y : PV) (M : MH) (Q : WK) : Prop :=
  match op, x, y with
  | .Add, .int i, .int j => Q (.int (i + j)) M
  | .Sub, .int i, .int j => Q (.int (i - j)) M
  | .Mult, .int i, .int j => (-(2 ^ 64) < j ∧ j < 2 ^ 64) ∧ Q (.int (i * j)) M
  | .FloorDiv, .int i, .int j => (0 < j ∧ j < 1073741824) ∧ Q (.int (i / j)) M
  | .Mod, .int i, .int j => 0 < j ∧ Q (.int (i % j)) M
  | .Pow, .int i, .int j => (0 ≤ j ∧ j ≤ 64 ∧ i.natAbs < 2 ^ 32) ∧ Q (.int (i ^ j.toNat)) M
  | .Add, .tup l, .tup m => l.length + m.length ≤ LIM ∧ Q (.tup (l ++ m)) M
  | .Add, .ref a, .ref b => ok (lstM M a) fun l => ok (lstM M b) fun m => l.length + m.length ≤ LIM ∧ ∀ c, M c = none → Q (.ref c) (M.upd c (.lst (l ++ m)))
  | .Mult, .tup l, .int n => (l ≠ [] ∧ l.length ≤ 1000 ∧ 0 ≤ n ∧ n ≤ 1000) ∧ Q (.tup (List.replicate n.toNat l).flatten) M
  | .Mult, .ref a, .int n => ok (lstM M a) fun l => (-(2 ^ 62) ≤ n ∧ n ≤ LIM) ∧ l.length * n.toNat ≤ LIM ∧ ∀ c, M c = none → Q (.ref c) (M.upd c (.lst (List.replicate n.toNat l).flatten))
  | _, _, _ => False
/-- data: itself, or a list's items -/
inductive Dat where
  | pv (p : PV) | ls (l : List PV)
def datOf (M : MH) : PV → Option Dat
  | .ref a => (lstOf M a).map .ls
  | p => some (.pv p)
def datGood : Dat → Bool
  | .pv p => p.good
  | .ls l => PV.goodsN l 7
def datEq : Dat → Dat → Bool
  | .pv p, .pv q => pyEq p q
  | .ls l, .ls m => pyEqs l m
  | _, _ => false
def inOf (M : MH) (x : PV) : PV → Option Bool
  | .tup l => if x.good && PV.goodsN l 7 then some (l.any fun y => pyEq y x) else none
  | .ref a => match M a with
    | some (.lst l) => if x.good && PV.goodsN l 7 then some (l.any fun y => pyEq y x) else none
    | some (.rol l) => if x.good && PV.goodsN l 7 then some (l.any fun y => pyEq y x) else none
    | some (.dct kvs _) => if kOk kvs x then some (khas kvs x) else none
    | none => none
  | _ => none
def isNone : PV → Bool
  | .non => true
  | _ => false
def eqBl (b : Bool) : PV → Bool
  | .bl c => b == c
  | _ => false
/-- x is True, None ..: y a constant -/
def isOf (x y : PV) : Option Bool := match y with
  | .non => some (isNone x)
  | .bl b => some (eqBl b x)
  | _ => none
def cmpW (op : CmpOp) (x y : PV) (M : MH) (k : Bool → Prop) : Prop :=
  match op with
  | .Lt => match x, y with | .int i, .int j => k (decide (i < j)) | _, _ => False
  | .LtE => match x, y with | .int i, .int j => k (decide (i ≤ j)) | _, _ => False
  | .Gt => match x, y with | .int i, .int j => k (decide (j < i)) | _, _ => False
  | .GtE => match x, y with | .int i, .int j => k (decide (j ≤ i)) | _, _ => False
  | .Eq => ok (datOf M x) fun d => ok (datOf M y) fun e => (datGood d && datGood e) = true ∧ k (datEq d e)
  | .NotEq => ok (datOf M x) fun d => ok (datOf M y) fun e => (datGood d && datGood e) = true ∧ k (!datEq d e)
  | .In => ok (inOf M x y) k
  | .NotIn => ok (inOf M x y) fun b => k (!b)
  | .Is => ok (isOf x y) k
  | .IsNot => ok (isOf x y) fun b => k (!b)
def ixW (x y : PV) (M : MH) (Q : WK) : Prop :=
  match x with
  | .tup l => onI y fun i => ok (getI l i) fun v => Q v M
  | .ref a => (match M a with
    | some (.lst l) => onI y fun i => ok (getI l i) fun v => Q v M
    | some (.rol l) => onI y fun i => ok (getI l i) fun v => Q v M
    | some (.dct kvs _) => kOk kvs y = true ∧ ok (kget kvs y) fun v => Q v M
    | none => False)
  | _ => False
def slW (x : PV) (lo hi : Option Int) (M : MH) (Q : WK) : Prop :=
  match x with
  | .tup l => Q (.tup (cutL l lo hi)) M
  | .ref a => ok (lstOf M a) fun l => ∀ c, M c = none → Q (.ref c) (M.upd c (.lst (cutL l lo hi)))
  | _ => False
def intsOf : List PV → Option (List Int)
  | [] => some []
  | .int i :: l => (intsOf l).map (i :: ·)
  | _ :: _ => none
def boolsOf : List PV → Option (List Bool)
  | [] => some []
  | .bl i :: l => (boolsOf l).map (i :: ·)
  | _ :: _ => none
def maxL : List Int → Int
  | [] => 0
  | [i] => i
  | i :: l => max i (maxL l)
/-- keys that go together: all ints and texts, or all tuples -/
def allF (kvs : List (PV × PV)) : Bool := kvs.all fun x => x.1.key && isF x.1
def allT (kvs : List (PV × PV)) : Bool := kvs.all fun x => x.1.key && isT x.1
def bltW (f : B) (vs : List PV) (M : MH) (Q : WK) : Prop :=
  match f, vs with
  | .len, [x] => ok (lenOf M x) fun n => Q (.int n) M
  | .tuple, [.tup l] => Q (.tup l) M
  | .tuple, [.ref a] => ok (lstOf M a) fun l => l.length ≤ LIM ∧ Q (.tup l) M
  | .list, [x] => ok (itemsOf M x) fun l => l.length ≤ LIM ∧ ∀ c, M c = none → Q (.ref c) (M.upd c (.lst l))
  | .sorted, [x] => ok (itemsOf M x) fun l => l.length ≤ LIM ∧ Sortable l ∧ ∀ c, M c = none → Q (.ref c) (M.upd c (.lst (psort l)))
  | .dict, [.ref b] => ok (lstOf M b) fun l => ok (pairsOfL l) fun ps => ((allF ps || allT ps) = true ∧ ps.length ≤ LIM) ∧ ∀ c, M c = none → Q (.ref c) (M.upd c (.dct (kputs [] ps) 0))
  | .int, [.int i] => Q (.int i) M
  | .abs, [.int i] => Q (.int (if i < 0 then -i else i)) M
  | .max, [.int i, .int j] => Q (.int (if j > i then j else i)) M
  | .min, [.int i, .int j] => Q (.int (if j < i then j else i)) M
  | .max, [.ref a] => ok (lstOf M a) fun l => ok (intsOf l) fun ns => ns ≠ [] ∧ Q (.int (maxL ns)) M
  | .all, [.ref a] => ok (lstOf M a) fun l => ok (boolsOf l) fun bs => Q (.bl (bs.all id)) M
  | .any, [.ref a] => ok (lstOf M a) fun l => ok (boolsOf l) fun bs => Q (.bl (bs.any id)) M
  | _, _ => False
def tyOf (M : MH) : PV → Option Ty
  | .int _ => some .int
  | .bl _ => some .bool
  | .str _ => some .str
  | .tup _ => some .tuple
  | .ref a => match M a with
    | some (.lst _) => some .list
    | some (.rol _) => some .list
    | _ => none
  | .non => none
def isiOf (M : MH) (x : PV) (t : Ty) : Option Bool := match x with
  | .non => some false
  | _ => (tyOf M x).map fun u => u == t || (u == .bool && t == .int)
/-- what stands ahead of the dot -/
def tyM (m : Me) (x : PV) (M : MH) : Bool := match x with
  | .ref a => (match m, M a with
    | .append, some (.lst _) => true
    | .extend, some (.lst _) => true
    | .pop, some (.lst _) => true
    | .get, some (.dct _ _) => true
    | .update, some (.dct _ _) => true
    | _, _ => false)
  | _ => false
/-- two dicts' entries one behind the other, by a dict -/
def updD (kvs ms : List (PV × PV)) : Prop := (allF kvs = true ∧ allF ms = true) ∨ ((allT kvs = true ∧ allT ms = true) ∧ (kvs ≠ [] ∨ ∀ w : World, (ms.map fun x => x.1.hash w).Nodup))
def mthW (m : Me) (x : PV) (vs : List PV) (M : MH) (Q : WK) : Prop :=
  match m, x, vs with
  | .append, .ref a, [v] => (match M a with | some (.lst l) => l.length < LIM ∧ Q .non (M.upd a (.lst (l ++ [v]))) | _ => False)
  | .extend, .ref a, [.ref b] => (match M a with | some (.lst l) => ok (lstM M b) fun m => l.length + m.length ≤ LIM ∧ Q .non (M.upd a (.lst (l ++ m))) | _ => False)
  | .pop, .ref a, [] => (match M a with | some (.lst l) => ok (l[l.length - 1]?) fun v => Q v (M.upd a (.lst l.dropLast)) | _ => False)
  | .get, .ref a, [k] => ok (dctOf M a) fun kvs => kOk kvs k = true ∧ Q ((kget kvs k).getD .non) M
  | .update, .ref a, [.ref b] => (match M a, M b with
    | some (.dct kvs 0), some (.lst l) => ok (pairsOfL l) fun ps => ((allF kvs && allF ps || allT kvs && allT ps) = true ∧ kvs.length + ps.length ≤ LIM) ∧ Q .non (M.upd a (.dct (kputs kvs ps) 0))
    | some (.dct kvs 0), some (.dct ms _) => (a ≠ b ∧ updD kvs ms ∧ kvs.length + ms.length ≤ LIM) ∧ Q .non (M.upd a (.dct (kputs kvs ms) 0))
    | _, _ => False)
  | .get, .ref a, [k, d] => ok (dctOf M a) fun kvs => kOk kvs k = true ∧ Q ((kget kvs k).getD d) M
  | _, _, _ => False
def setW (x i v : PV) (M : MH) (k : MH → Prop) : Prop :=
  match x with
  | .ref a => (match M a with
    | some (.lst l) => onI i fun j => ok (ixN l.length j) fun n => k (M.upd a (.lst (l.set n v)))
    | some (.dct kvs 0) => kOk kvs i = true ∧ kvs.length < LIM ∧ k (M.upd a (.dct (kput kvs i v) 0))
    | _ => False)
  | _ => False

/-! ### targets -/
mutual
def wpT : T → PV → PEnv → (PEnv → Prop) → Prop
  | .nm i, v, ρ, k => k (ρ.set i (some v))
  | .tp ts, v, ρ, k => onT v fun l => wpTs ts l ρ k
def wpTs : Ts → List PV → PEnv → (PEnv → Prop) → Prop
  | .nil, l, ρ, k => match l with
    | [] => k ρ
    | _ => False
  | .cons t ts, l, ρ, k => match l with
    | p :: l => wpT t p ρ fun ρ' => wpTs ts l ρ' k
    | _ => False
end
abbrev WI := List PV → (MH → Prop) → MH → Prop
def exW (x : PV) (M : MH) (k : WI) : Prop := match x with
  | .tup l => k l (fun _ => True) M
  | .ref a => (match M a with
    | some (.lst l) => k l (fun M' => M' a = some (.lst l)) M
    | some (.rol l) => k l (fun M' => M' a = some (.rol l)) M
    | some (.dct kvs _) => allF kvs = true ∧ k (kvs.map (·.1)) (fun M' => M' a = some (.dct kvs 1)) (M.upd a (.dct kvs 1))
    | none => False)
  | _ => False
def rngW (vs : List PV) (M : MH) (k : WI) : Prop := match vs with
  | [.int n] => (-(2 ^ 62) ≤ n ∧ n < 2 ^ 62) ∧ k ((List.range n.toNat).map fun i => .int (i : Nat)) (fun _ => True) M
  | [.int a, .int n] => ((-(2 ^ 62) ≤ a ∧ a < 2 ^ 62) ∧ -(2 ^ 62) ≤ n ∧ n < 2 ^ 62) ∧ k ((List.range (n - a).toNat).map fun i => .int (a + (i : Nat))) (fun _ => True) M
  | _ => False
def enumW (x : PV) (M : MH) (k : WI) : Prop := match x with
  | .tup l => k (l.zipIdx.map fun z => .tup [.int (z.2 : Nat), z.1]) (fun _ => True) M
  | .ref a => ok (lstOf M a) fun l => k (l.zipIdx.map fun z => .tup [.int (z.2 : Nat), z.1]) (fun M' => lstOf M' a = some l) M
  | _ => False
def zipW (x y : PV) (M : MH) (k : WI) : Prop := match x, y with
  | .tup l, .tup m => k ((l.zip m).map fun z => .tup [z.1, z.2]) (fun _ => True) M
  | .ref a, .ref b => ok (lstOf M a) fun l => ok (lstOf M b) fun m => k ((l.zip m).map fun z => .tup [z.1, z.2]) (fun M' => lstOf M' a = some l ∧ lstOf M' b = some m) M
  | _, _ => False
def itemsW (x : PV) (M : MH) (k : WI) : Prop := match x with
  | .ref a => ok (dctOf M a) fun kvs => allF kvs = true ∧ k (kvs.map fun z => .tup [z.1, z.2]) (fun M' => M' a = some (.dct kvs 1)) (M.upd a (.dct kvs 1))
  | _ => False
def augW (op : Operator) (x y : PV) (k : PV → Prop) : Prop := match op, x, y with
  | .Add, .int i, .int j => k (.int (i + j))
  | .Sub, .int i, .int j => k (.int (i - j))
  | _, _, _ => False
def negW (x : PV) (M : MH) (Q : WK) : Prop := match x with
  | .int i => Q (.int (-i)) M
  | _ => False
/-- names forgotten -/
def wipeP (ρ : PEnv) : List Nat → PEnv
  | [] => ρ
  | v :: vs => (wipeP ρ vs).set v none
/-- what stands around: the defs' promises, the constants -/
abbrev FSp := List PV → MH → WK → Prop
structure Fns where
  fn : Str → Option FSp
  gl : Str → Option PV

section
variable (Φ : Fns)
mutual
def wpE : E → PEnv → MH → WK → Prop
  | .c p, _, M, Q => Q p M
  | .var i, ρ, M, Q => ok (ρ[i]?.join) fun v => Q v M
  | .glob x, _, M, Q => ok (Φ.gl x) fun v => Q v M
  | .tup es, ρ, M, Q => wpEs es ρ M fun vs M1 => vs.length ≤ LIM ∧ Q (.tup vs) M1
  | .lst es, ρ, M, Q => wpEs es ρ M fun vs M1 => vs.length ≤ LIM ∧ ∀ a, M1 a = none → Q (.ref a) (M1.upd a (.lst vs))
  | .dct ks vs, ρ, M, Q => match ks, vs with
    | .nil, .nil => ∀ a, M a = none → Q (.ref a) (M.upd a (.dct [] 0))
    | .cons k .nil, .cons v .nil => ∀ a, M a = none → wpE k ρ (M.upd a (.dct [] 0)) fun x M1 => wpE v ρ M1 fun y M2 => (M2 a = some (.dct [] 0) ∧ x.key = true ∧ isF x = true) ∧ Q (.ref a) (M2.upd a (.dct [(x, y)] 0))
    | _, _ => False
  | .bin op a b, ρ, M, Q => wpE a ρ M fun x M1 => wpE b ρ M1 fun y M2 => binW op x y M2 Q
  | .neg a, ρ, M, Q => wpE a ρ M fun x M1 => negW x M1 Q
  | .not a, ρ, M, Q => wpE a ρ M fun x M1 => onB x fun c => Q (.bl (!c)) M1
  | .bop c es, ρ, M, Q => wpBop c es ρ M Q
  | .cmp op a b, ρ, M, Q => wpE a ρ M fun x M1 => wpE b ρ M1 fun y M2 => cmpW op x y M2 fun c => Q (.bl c) M2
  | .ife t a b, ρ, M, Q => wpE t ρ M fun x M1 => onB x fun c => if c = true then wpE a ρ M1 Q else wpE b ρ M1 Q
  | .ix a i, ρ, M, Q => wpE a ρ M fun x M1 => wpE i ρ M1 fun y M2 => ixW x y M2 Q
  | .sl a lo hi, ρ, M, Q => wpE a ρ M fun x M1 => wpO lo ρ M1 fun y M2 => wpO hi ρ M2 fun z M3 => slW x y z M3 Q
  | .call f es _, ρ, M, Q => wpEs es ρ M fun vs M1 => ok (Φ.fn f) fun g => g vs M1 Q
  | .blt f es, ρ, M, Q => wpEs es ρ M fun vs M1 => bltW f vs M1 Q
  | .isi a t, ρ, M, Q => wpE a ρ M fun x M1 => ok (isiOf M1 x t) fun c => Q (.bl c) M1
  | .mth m o es, ρ, M, Q => wpE o ρ M fun x M1 => tyM m x M1 = true ∧ wpEs es ρ M1 fun vs M2 => mthW m x vs M2 Q
  | .lc elt t it cond own, ρ, M, Q => wpI it ρ M fun items St M1 => ∀ D, M1 D = none → ∃ W : Nat → MH → Prop, W 0 (M1.upd D (.lst [])) ∧
      (∀ i x M', items[i]? = some x → W i M' → St M' ∧ wpT t x (wipeP ρ own) fun ρ2 => wpBop true cond ρ2 M' fun x M2 => onB x fun c => if c = true then
          wpE elt ρ2 M2 fun y M3 => ∃ acc, M3 D = some (.lst acc) ∧ acc.length < LIM ∧ W (i + 1) (M3.upd D (.lst (acc ++ [y])))
        else W (i + 1) M2) ∧
      ∀ M', W items.length M' → St M' ∧ Q (.ref D) M'
  | .dc k v t it cond own, ρ, M, Q => wpI it ρ M fun items St M1 => ∀ D, M1 D = none → ∃ W : Nat → MH → Prop, W 0 (M1.upd D (.dct [] 0)) ∧
      (∀ i x M', items[i]? = some x → W i M' → St M' ∧ wpT t x (wipeP ρ own) fun ρ2 => wpBop true cond ρ2 M' fun x M2 => onB x fun c => if c = true then
          wpE k ρ2 M2 fun y M3 => wpE v ρ2 M3 fun z M4 => ∃ kvs, M4 D = some (.dct kvs 0) ∧ kOk kvs y = true ∧ kvs.length < LIM ∧ W (i + 1) (M4.upd D (.dct (kput kvs y z) 0))
        else W (i + 1) M2) ∧
      ∀ M', W items.length M' → St M' ∧ Q (.ref D) M'
def wpO : Eo → PEnv → MH → (Option Int → MH → Prop) → Prop
  | .none, _, M, k => k none M
  | .some e, ρ, M, k => wpE e ρ M fun x M1 => onI x fun i => k (some i) M1
def wpEs : Es → PEnv → MH → (List PV → MH → Prop) → Prop
  | .nil, _, M, Q => Q [] M
  | .cons e r, ρ, M, Q => wpE e ρ M fun x M1 => wpEs r ρ M1 fun xs M2 => Q (x :: xs) M2
-- and, or: the last one any value; of none: True
def wpBop : Bool → Es → PEnv → MH → WK → Prop
  | _, .nil, _, M, Q => Q (.bl true) M
  | c, .cons e r, ρ, M, Q => match r with
    | .nil => wpE e ρ M Q
    | .cons _ _ => wpE e ρ M fun x M1 => onB x fun b => if b = c then wpBop c r ρ M1 Q else Q (.bl b) M1
def wpI : I → PEnv → MH → (List PV → (MH → Prop) → MH → Prop) → Prop
  | .ex e, ρ, M, k => wpE e ρ M fun x M1 => exW x M1 k
  | .range es, ρ, M, k => wpEs es ρ M fun vs M1 => rngW vs M1 k
  | .enum e, ρ, M, k => wpE e ρ M fun x M1 => enumW x M1 k
  | .zip a b, ρ, M, k => wpE a ρ M fun x M1 => wpE b ρ M1 fun y M2 => zipW x y M2 k
  | .enumz a b, ρ, M, k => wpE a ρ M fun x M1 => wpE b ρ M1 fun y M2 => onT x fun l => onT y fun m => k ((l.zip m).zipIdx.map fun z => .tup [.int (z.2 : Nat), .tup [z.1.1, z.1.2]]) (fun _ => True) M2
  | .items e, ρ, M, k => wpE e ρ M fun x M1 => itemsW x M1 k
end
mutual
def wpS : S → WEnds → PEnv → MH → Prop
  | .asg t e, D, ρ, M => wpE Φ e ρ M fun v M1 => wpT t v ρ fun ρ' => D.nx ρ' M1
  | .sub o i e, D, ρ, M => wpE Φ e ρ M fun v M1 => wpE Φ o ρ M1 fun x M2 => wpE Φ i ρ M2 fun y M3 => setW x y v M3 fun M4 => D.nx ρ M4
  | .aug i op e, D, ρ, M => ok (ρ[i]?.join) fun x => wpE Φ e ρ M fun y M1 => augW op x y fun v => D.nx (ρ.set i (some v)) M1
  | .ex e, D, ρ, M => wpE Φ e ρ M fun _ M1 => D.nx ρ M1
  | .ifs t a b, D, ρ, M => wpE Φ t ρ M fun x M1 => onB x fun c => if c = true then wpSs a D ρ M1 else wpSs b D ρ M1
  | .fors t it b, D, ρ, M => wpI Φ it ρ M fun items St M1 => ∃ W : Nat → PEnv → MH → Prop, W 0 ρ M1 ∧
      (∀ i x ρ' M', items[i]? = some x → W i ρ' M' → St M' ∧ wpT t x ρ' fun ρ2 => wpSs b ⟨W (i + 1), D.rt, D.nx, W (i + 1)⟩ ρ2 M') ∧
      ∀ ρ' M', W items.length ρ' M' → St M' ∧ D.nx ρ' M'
  | .whiles t b, D, ρ, M => ∃ W : Nat → PEnv → MH → Prop, (∃ n, W n ρ M) ∧ ∀ n ρ' M', W n ρ' M' →
      wpE Φ t ρ' M' fun x M2 => onB x fun c =>
        if c = true then wpSs b ⟨fun ρ3 M3 => ∃ m, m < n ∧ W m ρ3 M3, D.rt, D.nx, fun ρ3 M3 => ∃ m, m < n ∧ W m ρ3 M3⟩ ρ' M2 else D.nx ρ' M2
  | .ret e, D, ρ, M => wpE Φ e ρ M D.rt
  | .retN, D, _, M => D.rt .non M
  | .brk, D, ρ, M => D.bk ρ M
  | .cnt, D, ρ, M => D.ct ρ M
  | .pass, D, ρ, M => D.nx ρ M
def wpSs : Ss → WEnds → PEnv → MH → Prop
  | .nil, D, ρ, M => D.nx ρ M
  | .cons s r, D, ρ, M => wpS s { D with nx := fun ρ' M' => wpSs r D ρ' M' } ρ M
end
end
end PL
/-! PLt: from preconditions over pure values to the layer's readings. -/
namespace PL
open PySem PySem.Spec PySem.W PyProof.Rows L2

def kP : Key → PV
  | .inl i => .int i
  | .inr x => .str x
def dTO (P : Program) (w : World) (d : Addr) (xs : List (PV × Addr × Value)) : HO :=
  .ext fun h => ∃ o es ep, h.get? d = some o ∧ o.ExactDict ∧ o.data = .dict es ep ∧ es.toList = xs.map (entryOfKey (pvKind P w))
section
variable (P : Program) (w : World) (K : PySem.W.Frag) (H : Hp)
def DKR : List (PV × PV) → List (Key × V) → Prop := Paired fun x y => x.1 = kP y.1 ∧ Rep K H x.2 y.2
def DTR : List (PV × PV) → List (PV × Addr × Value) → Prop := Paired fun x y => x.1 = y.1 ∧ x.1.key = true ∧ isT x.1 = true ∧ Rep K H x.1 (.ref y.2.1) ∧ ∃ v, Rep K H x.2 v ∧ RelV v y.2.2
def DRep (u : HO) (d : Addr) (kvs : List (PV × PV)) : Prop :=
  (∃ ks, u = .dK ks ∧ DKR K H kvs ks) ∨ ((d == sysModules) = false ∧ kvs ≠ [] ∧ kvs.length ≤ sizeLine ∧ ∃ xs, u = dTO P w d xs ∧ DTR K H kvs xs ∧ (xs.map (·.1)).Nodup)
def MRep (a : Addr) : MO → Prop
  | .lst l => ∃ vs, H a = some (.lst vs) ∧ RepL K H l vs
  | .rol l => ∃ vs, SqL K H a vs ∧ RepL K H l vs
  | .dct kvs ep => ∃ u, (ep = 0 → H a = some u) ∧ Rd H a u ∧ DRep P w K H u a kvs
/-- what is tracked is none of the written part -/
def Kf : Prop := ∀ b, H b ≠ none → K.lookup b = none
structure Cor (M : MH) : Prop where
  kf : Kf K H
  ok : ∀ a mo, M a = some mo → MRep P w K H a mo
end
section
variable (P : Program) (w : World) (K : PySem.W.Frag)
/-- what a value's end means -/
def Ct (H : Hp) (Q : WK) (Qv : VK) : Prop := ∀ v H' p M', Hle H H' → Rep K H' p v → Cor P w K H' M' → Q p M' → Qv v H'
def LE (t : WE) : TE := fun σ H Qv => ∃ ρ M Q, EnvR K H ρ σ ∧ Cor P w K H M ∧ t ρ M Q ∧ Ct P w K H Q Qv
def LT (t : WE) : TT := fun σ H Qb => ∃ ρ M, ∃ k : Bool → MH → Prop, EnvR K H ρ σ ∧ Cor P w K H M ∧ (t ρ M fun x M1 => onB x fun c => k c M1) ∧ ∀ c H' M', Hle H H' → Cor P w K H' M' → k c M' → Qb c H'
def CtL (H : Hp) (Q : List PV → MH → Prop) (Qv : List V → Hp → Prop) : Prop := ∀ vs H' ps M', Hle H H' → RepL K H' ps vs → Cor P w K H' M' → Q ps M' → Qv vs H'
def LA (t : WA) : TA := fun σ H Qv => ∃ ρ M Q, EnvR K H ρ σ ∧ Cor P w K H M ∧ t ρ M Q ∧ CtL P w K H Q Qv
/-- an operation on two values -/
def LO (g : PV → PV → MH → WK → Prop) : R2 := fun x y H Qv => ∃ p q M Q, Rep K H p x ∧ Rep K H q y ∧ Cor P w K H M ∧ g p q M Q ∧ Ct P w K H Q Qv
/-- a call of values -/
def LC (g : List PV → MH → WK → Prop) : List V → Hp → VK → Prop := fun xs H Qv => ∃ ps M Q, RepL K H ps xs ∧ Cor P w K H M ∧ g ps M Q ∧ Ct P w K H Q Qv
def LSp (g : FSp) : Sp := fun vs H Qv _ => LC P w K g vs H Qv
end
abbrev LEx (X : Cx) := LE X.prog X.w X.K
abbrev LTx (X : Cx) := LT X.prog X.w X.K
abbrev LAx (X : Cx) := LA X.prog X.w X.K
abbrev LOx (X : Cx) := LO X.prog X.w X.K
abbrev LCx (X : Cx) := LC X.prog X.w X.K
section
variable {P : Program} {w : World} {K : PySem.W.Frag} {H H' : Hp}
theorem Ct.le {Q : WK} {Qv : VK} (c : Ct P w K H Q Qv) (h : Hle H H') : Ct P w K H' Q Qv := fun v H2 p M' l r k q => c v H2 p M' (h.trans l) r k q
theorem Paired.mono {α β : Type} {F G : α → β → Prop} : ∀ {l₁ : List α} {l₂ : List β}, Paired F l₁ l₂ → (∀ a b, F a b → G a b) → Paired G l₁ l₂
  | _, _, .nil, _ => .nil
  | _, _, .cons r t, f => .cons (f _ _ r) (Paired.mono t f)
theorem DRep.le {u : HO} {d : Addr} {kvs : List (PV × PV)} (h : Hle H H') (r : DRep P w K H u d kvs) : DRep P w K H' u d kvs := by
  rcases r with ⟨ks, e, r⟩ | ⟨lo, ne, z, xs, e, r, n⟩
  · exact .inl ⟨ks, e, Paired.mono r fun a b q => ⟨q.1, q.2.le h⟩⟩
  · refine .inr ⟨lo, ne, z, xs, e, Paired.mono r fun a b q => ?_, n⟩
    obtain ⟨q1, q2, q3, q4, v, q5, q6⟩ := q
    exact ⟨q1, q2, q3, q4.le h, v, q5.le h, q6⟩
/-- what is known of an object stays where the object stays -/
theorem MRep.le {a : Addr} {mo : MO} (h : Hle H H') (e : ∀ u, H a = some u → H' a = some u) (r : MRep P w K H a mo) : MRep P w K H' a mo := by
  cases mo with
  | lst l => obtain ⟨vs, q, r⟩ := r; exact ⟨vs, e _ q, r.le h⟩
  | rol l =>
    obtain ⟨vs, q, r⟩ := r
    refine ⟨vs, ?_, r.le h⟩
    rcases q with (q | ⟨o, q⟩) | q
    · exact .inl (.inl (e _ q))
    · exact .inl (.inr ⟨o, e _ q⟩)
    · exact .inr q
  | dct kvs ep =>
    obtain ⟨u, q, rd, r⟩ := r
    refine ⟨u, fun z => e _ (q z), ?_, r.le h⟩
    rcases rd with rd | ⟨o, rd⟩
    · exact .inl (e _ rd)
    · exact .inr ⟨o, e _ rd⟩
theorem Kf.at {a : Addr} {o : HO} (k : Kf K (upd H a o)) : K.lookup a = none := k a (by rw [upd_same]; exact fun z => nomatch z)
/-- a new object, tracked -/
theorem Cor.new {M : MH} {a : Addr} {o : HO} {mo : MO} (c : Cor P w K H M) (kf : Kf K (upd H a o)) (hn : H a = none) (r : MRep P w K (upd H a o) a mo) : Cor P w K (upd H a o) (M.upd a mo) := ⟨kf, fun b mb e => by
  by_cases hb : b = a
  · subst hb
    rw [MH.upd_same] at e; cases e
    exact r
  · rw [MH.upd_ne hb] at e
    refine (c.ok b mb e).le (.new hn) fun u q => ?_
    rw [upd_ne hb]; exact q⟩
/-- a new object that is not looked at -/
theorem Cor.old {M : MH} {a : Addr} {o : HO} (c : Cor P w K H M) (kf : Kf K (upd H a o)) (hn : H a = none) : Cor P w K (upd H a o) M := ⟨kf, fun b mb e => by
  refine (c.ok b mb e).le (.new hn) fun u q => ?_
  rw [upd_ne (ne_of_none q hn)]; exact q⟩
theorem Kf.put {a : Addr} {u o : HO} (k : Kf K H) (h : H a = some u) : Kf K (upd H a o) := fun b hb => by
  by_cases e : b = a
  · subst e; exact k b (by rw [h]; exact fun z => nomatch z)
  · rw [upd_ne e] at hb; exact k b hb
/-- an object written -/
theorem Cor.put {M : MH} {a : Addr} {u o : HO} {mo : MO} (c : Cor P w K H M) (h : H a = some u) (mu : Mut (some u)) (r : MRep P w K (upd H a o) a mo) : Cor P w K (upd H a o) (M.upd a mo) := ⟨c.kf.put h, fun b mb e => by
  by_cases hb : b = a
  · subst hb
    rw [MH.upd_same] at e; cases e
    exact r
  · rw [MH.upd_ne hb] at e
    refine (c.ok b mb e).le (.mut h mu) fun u q => ?_
    rw [upd_ne hb]; exact q⟩
/-- where nothing is tracked nothing is known -/
theorem Cor.free {M : MH} {a : Addr} {o : HO} (c : Cor P w K H M) (kf : Kf K (upd H a o)) (hn : H a = none) : M a = none := by
  cases e : M a with
  | none => rfl
  | some mo =>
    exfalso
    have hk := kf.at
    have r := c.ok a mo e
    cases mo with
    | lst l => obtain ⟨vs, q, _⟩ := r; rw [hn] at q; cases q
    | rol l =>
      obtain ⟨vs, q, _⟩ := r
      rcases q with (q | ⟨o, q⟩) | ⟨o, _, _, q, _⟩
      · rw [hn] at q; cases q
      · rw [hn] at q; cases q
      · rw [hk] at q; cases q
    | dct kvs ep =>
      obtain ⟨u, _, rd, _⟩ := r
      rcases rd with rd | ⟨o, rd⟩ <;> (rw [hn] at rd; cases rd)
end
section
variable {X : Cx} {pins : List (Addr × Obj)} {σ : L2.St} {H : Hp} {s : Shared}
theorem inv_kf (I : Inv X pins σ H s) : Kf X.K H := fun b hb => by
  cases e : X.K.lookup b with
  | none => rfl
  | some o => exact absurd (I.bs b o (I.mod.kin b o e)).2 hb
theorem ep_free {Q : VK} {u : Value} {s' : Shared} (h : EP X pins σ (fun v H' => Kf X.K H' → Q v H') u s') : EP X pins σ Q u s' := by
  obtain ⟨v, H', I, r, q⟩ := h
  exact ⟨v, H', I, r, q (inv_kf I)⟩
theorem pe_free {e : Expr} {t : TE} (h : PE X e t) : PE X e (fun σ H Q => t σ H fun v H' => Kf X.K H' → Q v H') :=
  ⟨fun pins s σ H Q I q => thn (h.run pins s σ H _ I q) fun u s' x => ep_free x⟩
theorem opr_free {f : Value → Value → Sem Value} {r : R2} (h : OpR X f r) : OpR X f (fun x y H Q => r x y H fun v H' => Kf X.K H' → Q v H') :=
  fun pins s σ H x y v u Q I rx ry e => thn (h pins s σ H x y v u _ I rx ry e) fun u s' x => ep_free x
theorem callr_free {f : Value} {r : List V → Hp → VK → Prop} (h : CallR X f r) : CallR X f (fun xs H Q => r xs H fun v H' => Kf X.K H' → Q v H') :=
  fun pins s σ H xs us Q I rx e => thn (h pins s σ H xs us _ I rx e) fun u s' x => ep_free x
theorem mtr_free {id : String} {r : V → List V → Hp → VK → Prop} (h : MtR X id r) : MtR X id (fun x xs H Q => r x xs H fun v H' => Kf X.K H' → Q v H') :=
  fun pins s σ H x xs v us Q I rx rs e => thn (h pins s σ H x xs v us _ I rx rs e) fun u s' x => ep_free x
/-- the layer's rule, and what it asks -/
theorem pe_lift {e : Expr} {th : TE} {t : WE} (h : PE X e th)
    (hr : ∀ σ H ρ M Q Qv, EnvR X.K H ρ σ → Cor X.prog X.w X.K H M → t ρ M Q → Ct X.prog X.w X.K H Q Qv → th σ H fun v H' => Kf X.K H' → Qv v H') : PE X e (LE X.prog X.w X.K t) :=
  ⟨fun pins s σ H Qv I q => by
    obtain ⟨ρ, M, Q, er, c, tq, ct⟩ := q
    exact (pe_free h).run pins s σ H Qv I (hr σ H ρ M Q Qv er c tq ct)⟩
end
end PL
/-! PLu1: names, constants, displays, operators on ints; and, or, not; comparisons of ints. -/
namespace PL
open PySem PySem.Spec PySem.W PyProof.Rows L2

theorem lim_le : LIM ≤ sizeLine := by rw [sizeLine_eq]; decide
section
variable {X : Cx}
/-! ### constants, names -/
theorem pl_c {e : Expr} {v : V} {p : PV} (h : PE X e (tC v)) (r : ∀ H, Rep X.K H p v) : PE X e (LEx X fun _ M Q => Q p M) :=
  pe_lift h fun σ H ρ M Q Qv er c q ct => fun _ => ct v H p M (.refl _) (r H) c q
theorem pl_int {i : Int} {j : Nat} {pos : Pos} : PE X (.Constant (.int i) j pos) (LEx X fun _ M Q => Q (.int i) M) := pl_c pe_int fun _ => by unfold Rep; rfl
theorem pl_bl {i : Bool} {j : Nat} {pos : Pos} : PE X (.Constant (.bool i) j pos) (LEx X fun _ M Q => Q (.bl i) M) := pl_c pe_bl fun _ => by unfold Rep; rfl
theorem pl_non {j : Nat} {pos : Pos} : PE X (.Constant .none j pos) (LEx X fun _ M Q => Q .non M) := pl_c pe_non fun _ => by unfold Rep; rfl
theorem pl_str {i : Str} {j : Nat} {pos : Pos} : PE X (.Constant (.str i) j pos) (LEx X fun _ M Q => Q (.str i) M) := pl_c pe_str fun _ => by unfold Rep; rfl
theorem env_get {K : PySem.W.Frag} {H : Hp} : ∀ {ρ : PEnv} {σ : L2.St} {i : Nat} {p : PV}, EnvR K H ρ σ → ρ[i]? = some (some p) → ∃ v, σ[i]? = some (some v) ∧ Rep K H p v
  | [], _, _, _, _, e => by simp at e
  | o :: ρ, σ, 0, p, r, e => by
    unfold EnvR at r
    obtain ⟨w, τ, rfl, a, _⟩ := r
    simp only [List.getElem?_cons_zero, Option.some.injEq] at e
    obtain ⟨v, e2, r⟩ := a p e
    exact ⟨v, by simp [e2], r⟩
  | o :: ρ, σ, i + 1, p, r, e => by
    unfold EnvR at r
    obtain ⟨w, τ, rfl, _, b⟩ := r
    simp only [List.getElem?_cons_succ] at e
    obtain ⟨v, e2, r⟩ := env_get b e
    exact ⟨v, by simpa using e2, r⟩
theorem env_set {K : PySem.W.Frag} {H : Hp} {p : PV} {v : V} (hr : Rep K H p v) : ∀ {ρ : PEnv} {σ : L2.St} (i : Nat), EnvR K H ρ σ → EnvR K H (ρ.set i (some p)) (σ.set i (some v))
  | [], _, _, r => by unfold EnvR at r; subst r; unfold EnvR; rfl
  | o :: ρ, σ, 0, r => by
    unfold EnvR at r
    obtain ⟨w, τ, rfl, _, b⟩ := r
    simp only [List.set_cons_zero]
    unfold EnvR
    exact ⟨_, _, rfl, fun q e => ⟨v, rfl, by cases e; exact hr⟩, b⟩
  | o :: ρ, σ, i + 1, r => by
    unfold EnvR at r
    obtain ⟨w, τ, rfl, a, b⟩ := r
    simp only [List.set_cons_succ]
    unfold EnvR
    exact ⟨_, _, rfl, a, env_set hr i b⟩
theorem env_unset {K : PySem.W.Frag} {H : Hp} : ∀ {ρ : PEnv} {σ : L2.St} (i : Nat), EnvR K H ρ σ → EnvR K H (ρ.set i none) (σ.set i none)
  | [], _, _, r => by unfold EnvR at r; subst r; unfold EnvR; rfl
  | o :: ρ, σ, 0, r => by
    unfold EnvR at r
    obtain ⟨w, τ, rfl, _, b⟩ := r
    simp only [List.set_cons_zero]
    unfold EnvR
    exact ⟨_, _, rfl, fun q e => (by cases e), b⟩
  | o :: ρ, σ, i + 1, r => by
    unfold EnvR at r
    obtain ⟨w, τ, rfl, a, b⟩ := r
    simp only [List.set_cons_succ]
    unfold EnvR
    exact ⟨_, _, rfl, a, env_unset i b⟩
theorem env_wipe {K : PySem.W.Frag} {H : Hp} {ρ : PEnv} {σ : L2.St} (r : EnvR K H ρ σ) : ∀ vs : List Nat, EnvR K H (wipeP ρ vs) (wipe σ vs)
  | [] => r
  | v :: vs => env_unset v (env_wipe r vs)
theorem pl_var {e : Expr} {i : Nat} (h : PE X e (tVar i)) : PE X e (LEx X fun ρ M Q => ok (ρ[i]?.join) fun v => Q v M) :=
  pe_lift h fun σ H ρ M Q Qv er c q ct => by
    obtain ⟨p, e, q⟩ := ok_of q
    have e' : ρ[i]? = some (some p) := by
      cases z : ρ[i]? with
      | none => rw [z] at e; cases e
      | some o => rw [z] at e; simp only [Option.join_some] at e; rw [e]
    obtain ⟨v, e2, r⟩ := env_get er e'
    exact ⟨v, e2, fun _ => ct v H p M (.refl _) r c q⟩

/-! ### several -/
theorem pl_nil : PA X [] (LAx X fun _ M Q => Q [] M) := ⟨fun pos pins s σ H Qv I q => by
  obtain ⟨ρ, M, Q, er, c, tq, ct⟩ := q
  exact pa_nil.run pos pins s σ H Qv I (ct [] H [] M (.refl _) (by unfold RepL; rfl) c tq)⟩
theorem pl_cons {e : Expr} {es : List Expr} {te : WE} {t : WA} (he : PE X e (LEx X te)) (hr : PA X es (LAx X t)) (hs : starEach (e :: es) X.env = (false, eval e X.env) :: starEach es X.env) :
    PA X (e :: es) (LAx X fun ρ M Q => te ρ M fun x M1 => t ρ M1 fun xs M2 => Q (x :: xs) M2) := ⟨fun pos pins s σ H Qv I q => by
  obtain ⟨ρ, M, Q, er, c, tq, ct⟩ := q
  refine (pa_cons he hr hs).run pos pins s σ H Qv I ⟨ρ, M, _, er, c, tq, fun v H1 p M1 l r c1 q1 => ⟨ρ, M1, _, er.le l, c1, q1, fun vs H2 ps M2 l2 r2 c2 q2 => ?_⟩⟩
  exact ct (v :: vs) H2 (p :: ps) M2 (l.trans l2) (by unfold RepL; exact ⟨v, vs, rfl, r.le l2, r2⟩) c2 q2⟩
theorem pl_tup {es : List Expr} {k : Nat} {pos : Pos} {t : WA} (h : PA X es (LAx X t)) : PE X (.Tuple es k pos) (LEx X fun ρ M Q => t ρ M fun vs M1 => vs.length ≤ LIM ∧ Q (.tup vs) M1) :=
  pe_lift (pe_tup h) fun σ H ρ M Q Qv er c q ct => ⟨ρ, M, _, er, c, q, fun xs H1 ps M1 l r c1 q1 => by
    obtain ⟨hl, q1⟩ := q1
    have hl' : xs.length ≤ sizeLine := by rw [← r.length]; exact Nat.le_trans hl lim_le
    refine ⟨hl', fun p hp kf => ?_⟩
    refine ct (.ref p) _ (.tup ps) M1 (l.trans (.new hp)) ?_ (c1.old kf hp) q1
    unfold Rep
    exact ⟨p, xs, rfl, SqT.of upd_same, by rw [r.length]; exact hl', r.le (.new hp)⟩⟩
theorem pl_lst {es : List Expr} {pos : Pos} {t : WA} (h : PA X es (LAx X t)) : PE X (.List es pos) (LEx X fun ρ M Q => t ρ M fun vs M1 => vs.length ≤ LIM ∧ ∀ a, M1 a = none → Q (.ref a) (M1.upd a (.lst vs))) :=
  pe_lift (pe_lst h) fun σ H ρ M Q Qv er c q ct => ⟨ρ, M, _, er, c, q, fun xs H1 ps M1 l r c1 q1 => by
    obtain ⟨hl, q1⟩ := q1
    refine ⟨by rw [← r.length]; exact Nat.le_trans hl lim_le, fun p hp kf => ?_⟩
    exact ct (.ref p) _ (.ref p) _ (l.trans (.new hp)) (by unfold Rep; rfl) (c1.new (mo := .lst ps) kf hp ⟨xs, upd_same, r.le (.new hp)⟩) (q1 p (c1.free kf hp))⟩

/-! ### two values -/
theorem pl_bin {op : Operator} {a b : Expr} {pos : Pos} {ta tb : WE} {g : PV → PV → MH → WK → Prop} (ho : OpR X (binaryOp op) (LOx X g)) (ha : PE X a (LEx X ta)) (hb : PE X b (LEx X tb)) :
    PE X (.BinOp a op b pos) (LEx X fun ρ M Q => ta ρ M fun x M1 => tb ρ M1 fun y M2 => g x y M2 Q) :=
  ⟨fun pins s σ H Qv I q => by
    obtain ⟨ρ, M, Q, er, c, tq, ct⟩ := q
    refine (pe_op ho ha hb).run pins s σ H Qv I ⟨ρ, M, _, er, c, tq, fun v H1 p M1 l r c1 q1 => ⟨ρ, M1, _, er.le l, c1, q1, fun u H2 q M2 l2 r2 c2 q2 => ?_⟩⟩
    exact ⟨p, q, M2, Q, r.le l2, r2, c2, q2, (ct.le l).le l2⟩⟩
theorem pl_cmp {op : CmpOp} {a b : Expr} {pos : Pos} {ta tb : WE} {g : PV → PV → MH → WK → Prop} (ho : OpR X (compareOp op) (LOx X g)) (ha : PE X a (LEx X ta)) (hb : PE X b (LEx X tb)) (hm : behindInMarks op b = false) :
    PE X (.Compare a [op] [b] pos) (LEx X fun ρ M Q => ta ρ M fun x M1 => tb ρ M1 fun y M2 => g x y M2 Q) :=
  ⟨fun pins s σ H Qv I q => by
    obtain ⟨ρ, M, Q, er, c, tq, ct⟩ := q
    refine (pe_cmpR ho ha hb hm).run pins s σ H Qv I ⟨ρ, M, _, er, c, tq, fun v H1 p M1 l r c1 q1 => ⟨ρ, M1, _, er.le l, c1, q1, fun u H2 q M2 l2 r2 c2 q2 => ?_⟩⟩
    exact ⟨p, q, M2, Q, r.le l2, r2, c2, q2, (ct.le l).le l2⟩⟩
/-! ### tests -/
theorem Ct.bool {H : Hp} {k : Bool → MH → Prop} {Qb : Bool → Hp → Prop} (h : ∀ c H' M', Hle H H' → Cor X.prog X.w X.K H' M' → k c M' → Qb c H') : Ct X.prog X.w X.K H (fun x M' => onB x fun c => k c M') (fun x H' => ∃ c, x = .bl c ∧ Qb c H') := by
  intro v H' p M' l r c q
  obtain ⟨b, rfl, q⟩ := onB_of q
  unfold Rep at r
  exact ⟨b, r, h b H' M' l c q⟩
theorem pl_test {e : Expr} {t : WE} (h : PE X e (LEx X t)) (he : ∀ whole, isTrue e X.env whole = (do let v ← whole; standAt e.pos; holding [v] (truthy v))) : PT X e (LTx X t) :=
  ⟨fun pins s σ H Qb I q => by
    obtain ⟨ρ, M, k, er, c, tq, ct⟩ := q
    exact (pt_val h he).run pins s σ H Qb I ⟨ρ, M, _, er, c, tq, Ct.bool ct⟩⟩
theorem pl_tcmp {op : CmpOp} {a b : Expr} {pos : Pos} {ta tb : WE} {g : PV → PV → MH → WK → Prop} (ho : OpR X (compareOp op) (LOx X g)) (ha : PE X a (LEx X ta)) (hb : PE X b (LEx X tb)) (hm : behindInMarks op b = false) :
    PT X (.Compare a [op] [b] pos) (LTx X fun ρ M Q => ta ρ M fun x M1 => tb ρ M1 fun y M2 => g x y M2 Q) :=
  ⟨fun pins s σ H Qb I q => by
    obtain ⟨ρ, M, k, er, c, tq, ct⟩ := q
    refine (pt_cmpR ho ha hb hm).run pins s σ H Qb I ⟨ρ, M, _, er, c, tq, fun v H1 p M1 l r c1 q1 => ⟨ρ, M1, _, er.le l, c1, q1, fun u H2 q M2 l2 r2 c2 q2 => ?_⟩⟩
    exact ⟨p, q, M2, _, r.le l2, r2, c2, q2, Ct.bool fun c H' M' l3 => ct c H' M' ((l.trans l2).trans l3)⟩⟩
theorem pl_not {a : Expr} {pos : Pos} {t : WE} (h : PE X a (LEx X t)) : PE X (.UnaryOp .Not a pos) (LEx X fun ρ M Q => t ρ M fun x M1 => onB x fun c => Q (.bl (!c)) M1) :=
  pe_lift (pe_not h) fun σ H ρ M Q Qv er c q ct => ⟨ρ, M, _, er, c, q, fun v H1 p M1 l r c1 q1 => by
    obtain ⟨b, rfl, q1⟩ := onB_of q1
    unfold Rep at r
    exact ⟨b, r, fun _ => ct (.bl (!b)) H1 (.bl (!b)) M1 l (by unfold Rep; rfl) c1 q1⟩⟩
theorem pl_tnot {a : Expr} {pos : Pos} {t : WE} (h : PT X a (LTx X t)) : PT X (.UnaryOp .Not a pos) (LTx X fun ρ M Q => t ρ M fun x M1 => onB x fun c => Q (.bl (!c)) M1) :=
  ⟨fun pins s σ H Qb I q => by
    obtain ⟨ρ, M, k, er, c, tq, ct⟩ := q
    exact (pt_not h).run pins s σ H Qb I ⟨ρ, M, fun c M' => k (!c) M', er, c, tq, fun c H' M' l c1 q1 => ct (!c) H' M' l c1 q1⟩⟩
theorem pl_and1 {a : Expr} {pos : Pos} {op : BoolOp} {t : WE} (h : PE X a (LEx X t)) : PE X (.BoolOp op [a] pos) (LEx X t) := pe_one h
theorem pl_and {a b : Expr} {rest : List Expr} {pos : Pos} {ta tb : WE} (ha : PE X a (LEx X ta)) (hb : PE X (.BoolOp .And (b :: rest) pos) (LEx X tb)) :
    PE X (.BoolOp .And (a :: b :: rest) pos) (LEx X fun ρ M Q => ta ρ M fun x M1 => onB x fun c => if c = true then tb ρ M1 Q else Q (.bl c) M1) :=
  ⟨fun pins s σ H Qv I q => by
    obtain ⟨ρ, M, Q, er, c, tq, ct⟩ := q
    refine (pe_and ha hb).run pins s σ H Qv I ⟨ρ, M, _, er, c, tq, fun v H1 p M1 l r c1 q1 => ?_⟩
    obtain ⟨d, rfl, q1⟩ := onB_of q1
    unfold Rep at r
    refine ⟨d, r, ?_⟩
    cases d with
    | true => exact iteT ⟨ρ, M1, Q, er.le l, c1, q1, ct.le l⟩
    | false => exact iteF (ct (.bl false) H1 (.bl false) M1 l (by unfold Rep; rfl) c1 q1)⟩
theorem pl_or {a b : Expr} {rest : List Expr} {pos : Pos} {ta tb : WE} (ha : PE X a (LEx X ta)) (hb : PE X (.BoolOp .Or (b :: rest) pos) (LEx X tb)) :
    PE X (.BoolOp .Or (a :: b :: rest) pos) (LEx X fun ρ M Q => ta ρ M fun x M1 => onB x fun c => if c = false then tb ρ M1 Q else Q (.bl c) M1) :=
  ⟨fun pins s σ H Qv I q => by
    obtain ⟨ρ, M, Q, er, c, tq, ct⟩ := q
    refine (pe_or ha hb).run pins s σ H Qv I ⟨ρ, M, _, er, c, tq, fun v H1 p M1 l r c1 q1 => ?_⟩
    obtain ⟨d, rfl, q1⟩ := onB_of q1
    unfold Rep at r
    refine ⟨d, r, ?_⟩
    cases d with
    | true => exact iteT (ct (.bl true) H1 (.bl true) M1 l (by unfold Rep; rfl) c1 q1)
    | false => exact iteF ⟨ρ, M1, Q, er.le l, c1, q1, ct.le l⟩⟩
theorem pl_tand1 {a : Expr} {pos : Pos} {t : WE} (h : PT X a (LTx X t)) : PW X (.BoolOp .And [a] pos) (LTx X t) := pw_and1 h
theorem pl_tor1 {a : Expr} {pos : Pos} {t : WE} (h : PT X a (LTx X t)) : PW X (.BoolOp .Or [a] pos) (LTx X t) := pw_or1 h
theorem pl_tand {a b : Expr} {rest : List Expr} {pos : Pos} {ta tb : WE} (ha : PT X a (LTx X ta)) (hb : PW X (.BoolOp .And (b :: rest) pos) (LTx X tb)) :
    PW X (.BoolOp .And (a :: b :: rest) pos) (LTx X fun ρ M Q => ta ρ M fun x M1 => onB x fun c => if c = true then tb ρ M1 Q else Q (.bl c) M1) :=
  ⟨fun wh pins s σ H Qb I q => by
    obtain ⟨ρ, M, k, er, c, tq, ct⟩ := q
    refine (pw_and ha hb).run wh pins s σ H Qb I ⟨ρ, M, fun c M1 => if c = true then tb ρ M1 (fun x M2 => onB x fun c => k c M2) else k c M1, er, c, tq, fun d H1 M1 l c1 q1 => ?_⟩
    cases d with
    | true => exact iteT ⟨ρ, M1, k, er.le l, c1, q1, fun c H' M' l2 => ct c H' M' (l.trans l2)⟩
    | false => exact iteF (ct false H1 M1 l c1 q1)⟩
theorem pl_tor {a b : Expr} {rest : List Expr} {pos : Pos} {ta tb : WE} (ha : PT X a (LTx X ta)) (hb : PW X (.BoolOp .Or (b :: rest) pos) (LTx X tb)) :
    PW X (.BoolOp .Or (a :: b :: rest) pos) (LTx X fun ρ M Q => ta ρ M fun x M1 => onB x fun c => if c = false then tb ρ M1 Q else Q (.bl c) M1) :=
  ⟨fun wh pins s σ H Qb I q => by
    obtain ⟨ρ, M, k, er, c, tq, ct⟩ := q
    refine (pw_or ha hb).run wh pins s σ H Qb I ⟨ρ, M, fun c M1 => if c = false then tb ρ M1 (fun x M2 => onB x fun c => k c M2) else k c M1, er, c, tq, fun d H1 M1 l c1 q1 => ?_⟩
    cases d with
    | true => exact iteT (ct true H1 M1 l c1 q1)
    | false => exact iteF ⟨ρ, M1, k, er.le l, c1, q1, fun c H' M' l2 => ct c H' M' (l.trans l2)⟩⟩
theorem pl_ife {t a b : Expr} {pos : Pos} {tt ta tb : WE} (ht : PT X t (LTx X tt)) (ha : PE X a (LEx X ta)) (hb : PE X b (LEx X tb)) :
    PE X (.IfExp t a b pos) (LEx X fun ρ M Q => tt ρ M fun x M1 => onB x fun c => if c = true then ta ρ M1 Q else tb ρ M1 Q) :=
  ⟨fun pins s σ H Qv I q => by
    obtain ⟨ρ, M, Q, er, c, tq, ct⟩ := q
    refine (pe_ifExp ht ha hb).run pins s σ H Qv I ⟨ρ, M, fun c M1 => if c = true then ta ρ M1 Q else tb ρ M1 Q, er, c, tq, fun d H1 M1 l c1 q1 => ?_⟩
    cases d with
    | true => exact iteT ⟨ρ, M1, Q, er.le l, c1, q1, ct.le l⟩
    | false => exact iteF ⟨ρ, M1, Q, er.le l, c1, q1, ct.le l⟩⟩
theorem pl_neg {a : Expr} {pos : Pos} {t : WE} (h : PE X a (LEx X t)) : PE X (.UnaryOp .USub a pos) (LEx X fun ρ M Q => t ρ M fun x M1 => negW x M1 Q) :=
  pe_lift (pe_un un_neg h) fun σ H ρ M Q Qv er c q ct => ⟨ρ, M, _, er, c, q, fun v H1 p M1 l r c1 q1 => by
    cases p <;> first | exact q1.elim | skip
    unfold Rep at r
    exact ⟨_, r, fun _ => ct _ H1 _ M1 l (by unfold Rep; rfl) c1 q1⟩⟩
end
end PL
/-! PLu2: + - * // % ** of values. -/
namespace PL
open PySem PySem.Spec PySem.W PyProof.Rows L2
open PySem.AutoSeq1 (wpAny_loadPart')
open PySem.MeetsSeq PySem.MeetsSeq2 PySem.MeetsSeq3

theorem tuple_mulW0 (l : Addr) (items : Array Value) (n : Nat) (dd : Option Addr) (sl : Array (Option Value)) (x : Int) (u : Tok) (c0 : (decide (x < -(2 ^ 63)) || decide (x ≥ 2 ^ 63)) = false) (c1 : (items.isEmpty || x == 1) = false) (c2 : (decide (x ≤ 0) || items.isEmpty) = true) :
    Meets (Builtin.«tuple.__mul__» ⟨[.ref l, .int x u], []⟩) (fun _ R s => s.heap.get? l = some { cls := .type "tuple", dict := dd, data := .seq items n, slots := sl } ∧
      R (.ok (.ret (Value.ref s.heap.objs.size))) { s with heap := s.heap.push { cls := Value.type "tuple", data := Data.seq #[] }, toks := s.toks }) :=
  .of_wp fun prog w A R s h => by
    obtain ⟨hp, g, d, tk, os⟩ := s
    obtain ⟨hl, h⟩ := h
    have f1 := AutoSeq1.idx_int
    wp_walk using wpAny_loadPart' hl
    repeat (first
      | (refine wpAny_ite_false (decide_eq_false (by rw [c0]; exact Bool.false_ne_true)) ?_; wp_walk using wpAny_loadPart' hl)
      | (refine wpAny_ite_false (decide_eq_false (by rw [c1]; exact Bool.false_ne_true)) ?_; wp_walk using wpAny_loadPart' hl)
      | (refine wpAny_ite_true (decide_eq_true (by rw [c2])) ?_; wp_walk using wpAny_loadPart' hl))
    exact ⟨_, rfl, h⟩
theorem tuple_mulW1 (l : Addr) (items : Array Value) (n : Nat) (dd : Option Addr) (sl : Array (Option Value)) (x : Int) (u : Tok) (c0 : (decide (x < -(2 ^ 63)) || decide (x ≥ 2 ^ 63)) = false) (c1 : (items.isEmpty || x == 1) = true) :
    Meets (Builtin.«tuple.__mul__» ⟨[.ref l, .int x u], []⟩) (fun _ R s => s.heap.get? l = some { cls := .type "tuple", dict := dd, data := .seq items n, slots := sl } ∧
      R (.ok (.ret (Value.ref l))) { s with heap := s.heap, toks := s.toks }) :=
  .of_wp fun prog w A R s h => by
    obtain ⟨hp, g, d, tk, os⟩ := s
    obtain ⟨hl, h⟩ := h
    have f1 := AutoSeq1.idx_int
    have f2 := AutoSeq1.sub_tuple_tuple
    wp_walk using wpAny_loadPart' hl
    repeat (first
      | (refine wpAny_ite_false (decide_eq_false (by rw [c0]; exact Bool.false_ne_true)) ?_; wp_walk using wpAny_loadPart' hl)
      | (refine wpAny_ite_true (decide_eq_true (by rw [c1])) ?_; wp_walk using wpAny_loadPart' hl))
    exact ⟨_, rfl, h⟩
section
variable {X : Cx} {pins : List (Addr × Obj)} {σ : L2.St} {H : Hp} {s : Shared}
/-- t + u -/
def rCat3 (K : PySem.W.Frag) : R2 := fun x y H Q => ∃ a b xs ys, x = .ref a ∧ y = .ref b ∧ SqT K H a xs ∧ SqT K H b ys ∧ xs.length + ys.length ≤ sizeLine ∧
  (xs = [] → Q (.ref b) H) ∧ (ys = [] → Q (.ref a) H) ∧ ∀ p, H p = none → Q (.ref p) (upd H p (.tup (xs ++ ys)))
theorem op_cat3 : OpR X (binaryOp .Add) (rCat3 X.K) := by
  intro pins s σ H x y v u Q I rx ry h
  obtain ⟨a, b, xs, ys, ex, ey, ha, hb, hz, q0, q1, q2⟩ := h
  by_cases e : xs = []
  · subst ex; subst ey
    cases rx
    cases ry
    obtain ⟨its, r1, p1, _⟩ := I.tuple ha
    obtain ⟨its2, r2, p2, _⟩ := I.tuple hb
    obtain ⟨⟨cls, dd, data, sl⟩, ho, hc, n, hd⟩ := id p1
    obtain ⟨⟨cls2, dd2, data2, sl2⟩, ho2, hc2, n2, hd2⟩ := id p2
    simp only at hc hd hc2 hd2
    subst hc hd hc2 hd2
    subst e
    cases r1
    exact concat_meets ⟨_, ho, rfl⟩ ⟨_, ho2, rfl⟩ noFill_tuple_add seq_tuple_add PySem.F.slot_tuple_add PySem.F.entry_tuple_add (PySem.F.args_tuple_add_2 _ _)
      (tuple_addW0 a b _ its2.toArray n n2 dd dd2 sl sl2 (by simp)) ⟨ho, ho2, .ref b, H, I, rfl, q0 rfl⟩
  · exact op_catT pins s σ H x y v u Q I rx ry ⟨a, b, xs, ys, ex, ey, ha, hb, e, hz, q1, fun _ => q2⟩
/-- t * n -/
def rRep3 (K : PySem.W.Frag) : R2 := fun x y H Q => ∃ l k xs, x = .ref l ∧ y = .int k ∧ SqT K H l xs ∧ xs ≠ [] ∧ -(2 ^ 62) ≤ k ∧ k ≤ 1000 ∧ xs.length ≤ 1000 ∧ (k = 1 → Q (.ref l) H) ∧ ∀ p, H p = none → Q (.ref p) (upd H p (.tup (List.replicate k.toNat xs).flatten))
theorem op_rep3 : OpR X (binaryOp .Mult) (rRep3 X.K) := by
  intro pins s σ H x y v u Q I rx ry h
  obtain ⟨l, k, xs, ex, ey, hT, hne, h0, h2, hz, q1, q⟩ := h
  by_cases c : 2 ≤ k
  · exact op_repT pins s σ H x y v u Q I rx ry ⟨l, k, xs, ex, ey, hT, hne, c, h2, hz, q⟩
  · subst ex; subst ey
    cases rx
    obtain ⟨t, rfl⟩ := ry
    obtain ⟨its, r, ⟨⟨cls, dd, data, sl⟩, ho, hc, n, hd⟩, hs⟩ := I.tuple hT
    simp only at hc hd
    subst hc hd
    have hn : its ≠ [] := fun e => hne (by
      have hle : its.length = xs.length := r.length.symm
      rw [e] at hle
      exact List.eq_nil_of_length_eq_zero hle.symm)
    have hi : its.toArray.isEmpty = false := by
      cases its with
      | nil => exact absurd rfl hn
      | cons a b => rfl
    have c0 : (decide (k < -(2 ^ 63)) || decide (k ≥ 2 ^ 63)) = false := by
      rw [decide_eq_false (by omega), decide_eq_false (by omega)] <;> rfl
    refine wpAny_binaryOp_repeat_ref (T := "tuple") (U := "int") (by decide) ⟨_, ho, rfl⟩ (fun s' => typeIs_int s' k t) noFill_tuple_mul F.fills_int_mul F.slot_int_rmul repeat_tuple F.slot_int_index.lookup
      (call_meets F.slot_int_rmul (typeIs_int s k t) F.entry_int_rmul (F.args_int_rmul_2 _ _) (int_rmul_tuple k t l its.toArray n dd sl)
        ⟨ho, rfl, ⟨_, ho, rfl⟩, ?_⟩)
    by_cases e : k = 1
    · exact call_meets F.slot_tuple_mul ⟨_, ho, rfl⟩ F.entry_tuple_mul (F.args_tuple_mul_2 _ _) (tuple_mulW1 l its.toArray n dd sl k t c0 (by rw [hi, e]; rfl)) ⟨ho, .ref l, H, I, rfl, q1 e⟩
    · refine call_meets F.slot_tuple_mul ⟨_, ho, rfl⟩ F.entry_tuple_mul (F.args_tuple_mul_2 _ _) (tuple_mulW0 l its.toArray n dd sl k t c0 (by rw [hi, Bool.false_or]; exact beq_eq_false_iff_ne.mpr e) (by rw [hi, Bool.or_false]; exact decide_eq_true (by omega))) ⟨ho, ?_⟩
      have ek : k.toNat = 0 := by omega
      refine ⟨.ref s.heap.objs.size, _, I.laid (t' := s.toks) (o := .tup (List.replicate k.toNat xs).flatten) (fun b ob q => Heap.get?_push_of_some _ q) (Nat.le_refl _) ?_, rfl, q _ (I.hok.fresh (Nat.le_refl _))⟩
      rw [ek]
      exact ⟨Nat.zero_le _, [], .nil, IsTup.new _ _⟩

theorem repl_append {K : PySem.W.Frag} {H : Hp} : ∀ {l m : List PV} {vs us : List V}, RepL K H l vs → RepL K H m us → RepL K H (l ++ m) (vs ++ us)
  | [], m, vs, us, r, q => by unfold RepL at r; subst r; exact q
  | p :: l, m, vs, us, r, q => by
    unfold RepL at r
    obtain ⟨v, ws, rfl, a, b⟩ := r
    rw [List.cons_append, List.cons_append]
    unfold RepL
    exact ⟨v, _, rfl, a, repl_append b q⟩
theorem repl_rep {K : PySem.W.Frag} {H : Hp} {l : List PV} {vs : List V} (r : RepL K H l vs) : ∀ n : Nat, RepL K H (List.replicate n l).flatten (List.replicate n vs).flatten
  | 0 => by simp only [List.replicate_zero, List.flatten_nil]; unfold RepL; rfl
  | n + 1 => by
    simp only [List.replicate_succ, List.flatten_cons]
    exact repl_append r (repl_rep r n)
theorem lstM_of {M : MH} {a : Addr} {l : List PV} (h : lstM M a = some l) : M a = some (.lst l) := by
  unfold lstM at h
  split at h
  · rename_i e; cases h; exact e
  · cases h
theorem cor_lst {P : Program} {w : World} {K : PySem.W.Frag} {H : Hp} {M : MH} {a : Addr} {l : List PV} (c : Cor P w K H M) (h : M a = some (.lst l)) : ∃ vs, H a = some (.lst vs) ∧ RepL K H l vs := c.ok a _ h
theorem len_rep {α : Type} (l : List α) (n : Nat) : (List.replicate n l).flatten.length = n * l.length := by
  induction n with
  | zero => simp
  | succ n ih => rw [List.replicate_succ, List.flatten_cons, List.length_append, ih, Nat.succ_mul, Nat.add_comm]

theorem op_binW (op : Operator) : OpR X (binaryOp op) (LOx X (binW op)) := by
  intro pins s σ H x y v u Q I rx ry h
  obtain ⟨p, q, M, Qk, rp, rq, c, g, ct⟩ := h
  have fin : ∀ k : Int, Qk (.int k) M → Q (.int k) H := fun k g => ct _ H _ M (.refl _) (by unfold Rep; rfl) c g
  unfold binW at g
  split at g
  · unfold Rep at rp rq
    exact op_add pins s σ H x y v u Q I rx ry ⟨_, _, rp, rq, fin _ g⟩
  · unfold Rep at rp rq
    exact op_sub pins s σ H x y v u Q I rx ry ⟨_, _, rp, rq, fin _ g⟩
  · unfold Rep at rp rq
    exact op_mul pins s σ H x y v u Q I rx ry ⟨_, _, rp, rq, .inr g.1, fin _ g.2⟩
  · unfold Rep at rp rq
    exact op_fdiv pins s σ H x y v u Q I rx ry ⟨_, _, rp, rq, g.1, fin _ g.2⟩
  · unfold Rep at rp rq
    exact op_mod pins s σ H x y v u Q I rx ry ⟨_, _, rp, rq, g.1, fin _ g.2⟩
  · unfold Rep at rp rq
    obtain ⟨⟨g1, g2, g3⟩, g⟩ := g
    exact op_pow pins s σ H x y v u Q I rx ry ⟨_, _, rp, rq, ⟨g1, by omega, by omega⟩, fin _ g⟩
  · -- tuples
    rename_i l m
    obtain ⟨hl, g⟩ := g
    have rp0 := rp
    have rq0 := rq
    unfold Rep at rp rq
    obtain ⟨a, xs, rfl, ha, _, ra⟩ := rp
    obtain ⟨b, ys, rfl, hb, _, rb⟩ := rq
    have hz : xs.length + ys.length ≤ sizeLine := by rw [← ra.length, ← rb.length]; exact Nat.le_trans hl lim_le
    refine opr_free op_cat3 pins s σ H _ _ v u Q I rx ry ⟨a, b, xs, ys, rfl, rfl, ha, hb, hz, fun e _ => ?_, fun e _ => ?_, fun p hp kf => ?_⟩
    · subst e
      have : l = [] := List.eq_nil_of_length_eq_zero (by rw [ra.length]; rfl)
      subst this
      exact ct _ H _ M (.refl _) rq0 c (by simpa using g)
    · subst e
      have : m = [] := List.eq_nil_of_length_eq_zero (by rw [rb.length]; rfl)
      subst this
      exact ct _ H _ M (.refl _) rp0 c (by simpa using g)
    · refine ct (.ref p) _ _ M (.new hp) ?_ (c.old kf hp) g
      unfold Rep
      exact ⟨p, _, rfl, SqT.of upd_same, by rw [List.length_append, ra.length, rb.length]; exact hz, (repl_append ra rb).le (.new hp)⟩
  · -- lists
    rename_i a b
    obtain ⟨l, e1, g⟩ := ok_of g
    obtain ⟨m, e2, hl, g⟩ := ok_of g
    obtain ⟨xs, ha, ra⟩ := cor_lst c (lstM_of e1)
    obtain ⟨ys, hb, rb⟩ := cor_lst c (lstM_of e2)
    unfold Rep at rp rq
    have hz : xs.length + ys.length ≤ sizeLine := by rw [← ra.length, ← rb.length]; exact Nat.le_trans hl lim_le
    refine opr_free op_cat pins s σ H x y v u Q I rx ry ⟨a, b, xs, ys, rp, rq, ha, hb, hz, fun p hp kf => ?_⟩
    exact ct (.ref p) _ (.ref p) _ (.new hp) (by unfold Rep; rfl) (c.new (mo := .lst (l ++ m)) kf hp ⟨_, upd_same, (repl_append ra rb).le (.new hp)⟩) (g p (c.free kf hp))
  · -- tuple * int
    rename_i l n
    obtain ⟨⟨h1, h2, h0, h3⟩, g⟩ := g
    have rp0 := rp
    unfold Rep at rp rq
    obtain ⟨a, xs, rfl, ha, _, ra⟩ := rp
    refine opr_free op_rep3 pins s σ H _ y v u Q I rx ry ⟨a, n, xs, rfl, rq, ha, fun e => h1 ?_, by omega, h3, by rw [← ra.length]; exact h2, fun e _ => ?_, fun p hp kf => ?_⟩
    · subst e
      exact List.eq_nil_of_length_eq_zero (by rw [ra.length]; rfl)
    · subst e
      exact ct _ H _ M (.refl _) rp0 c (by simpa using g)
    · refine ct (.ref p) _ _ M (.new hp) ?_ (c.old kf hp) g
      unfold Rep
      refine ⟨p, _, rfl, SqT.of upd_same, ?_, (repl_rep ra _).le (.new hp)⟩
      rw [len_rep, sizeLine_eq]
      have : n.toNat * l.length ≤ 1000 * 1000 := Nat.mul_le_mul (by omega) h2
      omega
  · rename_i a n
    obtain ⟨l, e1, ⟨h1, h2⟩, h3, g⟩ := ok_of g
    obtain ⟨xs, ha, ra⟩ := cor_lst c (lstM_of e1)
    unfold Rep at rp rq
    have hl : LIM ≤ 2 ^ 62 := by decide
    refine opr_free op_rep pins s σ H x y v u Q I rx ry ⟨a, n, xs, rp, rq, ha, by omega, by omega, by rw [← ra.length]; exact Nat.le_trans h3 lim_le, fun p hp kf => ?_⟩
    exact ct (.ref p) _ (.ref p) _ (.new hp) (by unfold Rep; rfl) (c.new (mo := .lst (List.replicate n.toNat l).flatten) kf hp ⟨_, upd_same, (repl_rep ra _).le (.new hp)⟩) (g p (c.free kf hp))
  · exact g.elim
end
end PL
/-! PLu3: comparisons of values (in, not in of dicts apart). -/
namespace PL
open PySem PySem.Spec PySem.W PyProof.Rows L2
section
variable {X : Cx} {pins : List (Addr × Obj)} {σ : L2.St} {H : Hp} {s : Shared}

def dD : Dat → PyData
  | .pv p => p.toD
  | .ls l => .list (PV.toDs l)
theorem lstOf_cor {P : Program} {w : World} {K : PySem.W.Frag} {M : MH} {a : Addr} {l : List PV} (c : Cor P w K H M) (h : lstOf M a = some l) : ∃ vs, SqL K H a vs ∧ RepL K H l vs := by
  unfold lstOf at h
  split at h
  · rename_i e; cases h
    obtain ⟨vs, q, r⟩ := c.ok a _ e
    exact ⟨vs, SqL.of q, r⟩
  · rename_i e; cases h
    exact c.ok a _ e
  · cases h
theorem dat_dp {P : Program} {w : World} {M : MH} {p : PV} {x : V} {d : Dat} (c : Cor P w X.K H M) (rp : Rep X.K H p x) (h : datOf M p = some d) (g : datGood d = true) : Dp X.K H x (dD d) ∧ SeqAt.shaped (dD d) = true := by
  have pv : d = .pv p → Dp X.K H x (dD d) ∧ SeqAt.shaped (dD d) = true := fun e => by
    subst e
    have g' : p.goodN 7 = true := g
    obtain ⟨h1, h2⟩ := lay_toD p 7 g'
    exact ⟨rep_dp p 7 x g' rp, by unfold SeqAt.shaped; rw [show (dD (.pv p)) = p.toD from rfl, h1]; simp; omega⟩
  cases p with
  | ref a =>
    simp only [datOf, Option.map_eq_some_iff] at h
    obtain ⟨l, hl, rfl⟩ := h
    obtain ⟨vs, q, r⟩ := lstOf_cor c hl
    unfold Rep at rp
    subst rp
    have g' : PV.goodsN l 7 = true := g
    obtain ⟨h1, h2⟩ := lays_toD l 7 g'
    refine ⟨.lst q (reps_dp l 7 vs g' r), ?_⟩
    unfold SeqAt.shaped
    simp only [dD, PyData.canLay0, PyData.depth, h1, Bool.true_and, decide_eq_true_eq]
    omega
  | _ =>
    simp only [datOf, Option.some.injEq] at h
    exact pv h.symm
theorem dat_eqv {d e : Dat} (g1 : datGood d = true) (g2 : datGood e = true) : PyData.eqv (dD d) (dD e) = datEq d e := by
  cases d with
  | pv p =>
    cases e with
    | pv q => exact eqv_toD p q 7 7 g1 g2
    | ls m =>
      cases p <;> simp [dD, PV.toD, PyData.eqv, datEq, datGood, PV.goodN] at g1 ⊢
  | ls l =>
    cases e with
    | pv q =>
      cases q <;> simp [dD, PV.toD, PyData.eqv, datEq, datGood, PV.goodN] at g2 ⊢
    | ls m => simpa [dD, PyData.eqv, datEq] using eqvs_toD l m 7 7 g1 g2
theorem any_toD {x : PV} (hx : x.goodN 7 = true) : ∀ {l : List PV}, PV.goodsN l 7 = true → ((PV.toDs l).any fun z => PyData.eqv z x.toD) = l.any fun y => pyEq y x
  | [], _ => rfl
  | p :: l, g => by
    simp only [PV.goodsN, Bool.and_eq_true] at g
    simp only [PV.toDs, List.any_cons]
    rw [eqv_toD p x 7 7 g.1 hx, any_toD hx g.2]

theorem is_bool_gen {M : Model} {A : Around} {E : Value → Shared → Prop} {s : Shared} {Q : Value → Shared → Prop} {v : Value} {b : Bool} (hv : ∀ n, v ≠ .builtin n) (h : Q (.bool (v == .bool b)) s) : wpAny M A (compareOp .Is v (.bool b)) Q E s := by
  cases v <;> first | exact wpAny_pure h | exact absurd rfl (hv _)
theorem isnot_bool_gen {M : Model} {A : Around} {E : Value → Shared → Prop} {s : Shared} {Q : Value → Shared → Prop} {v : Value} {b : Bool} (hv : ∀ n, v ≠ .builtin n) (h : Q (.bool (!(v == .bool b))) s) : wpAny M A (compareOp .IsNot v (.bool b)) Q E s := by
  cases v <;> first | exact wpAny_pure h | exact absurd rfl (hv _)
theorem not_builtin {x : V} {v : Value} (r : RelV x v) : ∀ n, v ≠ .builtin n := by
  intro n e
  subst e
  cases x <;> first | (cases r; done) | (obtain ⟨t, r⟩ := r; cases r)
theorem rep_none {K : PySem.W.Frag} {p : PV} {x : V} (r : Rep K H p x) : decide (x = .non) = isNone p := by
  cases p <;> unfold Rep at r
  case tup l => obtain ⟨a, vs, rfl, _⟩ := r; simp [isNone]
  all_goals (subst r; simp [isNone])
theorem rep_bool {K : PySem.W.Frag} {p : PV} {x : V} {v : Value} {b : Bool} (r : Rep K H p x) (q : RelV x v) : (v == Value.bool b) = eqBl b p := by
  cases p <;> unfold Rep at r
  case tup l => obtain ⟨a, vs, rfl, _⟩ := r; cases q; rfl
  case non => subst r; cases q; rfl
  case bl c => subst r; cases q; cases b <;> cases c <;> rfl
  case int i => subst r; obtain ⟨t, rfl⟩ := q; rfl
  case str i => subst r; obtain ⟨t, rfl⟩ := q; rfl
  case ref i => subst r; cases q; rfl

/-- what in asks of a dict: shown apart -/
def DictIn (X : Cx) : Prop := ∀ (neg : Bool) (pins : List (Addr × Obj)) (s : Shared) (σ : L2.St) (H : Hp) (M : MH) (k : PV) (x : V) (a : Addr) (kvs : List (PV × PV)) (ep : Nat) (v : Value) (Q : VK), Inv X pins σ H s → RelV x v → Rep X.K H k x → Cor X.prog X.w X.K H M → M a = some (.dct kvs ep) → kOk kvs k = true →
  Q (.bl (if neg then !khas kvs k else khas kvs k)) H → wpAny (model X.prog X.w) X.A (compareOp (if neg then .NotIn else .In) v (.ref a)) (EP X pins σ Q) X.xe s

theorem in_tup {neg : Bool} {x : V} {a : Addr} {v : Value} {k : PV} {l : List PV} {vs : List V} {Q : VK} (hu : X.A.units + 80 < cLine) (I : Inv X pins σ H s) (rx : RelV x v) (rk : Rep X.K H k x) (hq : SqT X.K H a vs) (rl : RepL X.K H l vs) (g1 : k.goodN 7 = true) (g2 : PV.goodsN l 7 = true)
    (q : Q (.bl (if neg then !(l.any fun y => pyEq y k) else l.any fun y => pyEq y k)) H) : wpAny (model X.prog X.w) X.A (compareOp (if neg then .NotIn else .In) v (.ref a)) (EP X pins σ Q) X.xe s := by
  obtain ⟨its, r, ht, _⟩ := I.tuple hq
  obtain ⟨as, rk'⟩ := rep_reads I g1 rk rx
  obtain ⟨bs, rl'⟩ := reps_reads I g2 rl r
  have hit : s.heap.IsTuple a its.toArray := by
    obtain ⟨o, ho, hc, n, hd⟩ := ht
    exact ⟨o, ho, hc, n, hd⟩
  -- by the items
  have key : ∃ e : Value → Bool, (∀ y, y ∈ its.toArray → SeqAt.EqAt X.A.in1 s y v (e y)) ∧ its.toArray.any e = l.any fun y => pyEq y k := by
    classical
    refine ⟨fun y => if h : ∃ p, p ∈ l ∧ ∃ cs, Reads s.heap y p.toD cs then pyEq (Classical.choose h) k else false, fun y hy => ?_, ?_⟩
    · have hy' : y ∈ its := by simpa using hy
      have h : ∃ p, p ∈ l ∧ ∃ cs, Reads s.heap y p.toD cs := by
        obtain ⟨p, hp, cs, z⟩ := readsAll_mem rl' y hy'
        exact ⟨p, hp, cs, z⟩
      show SeqAt.EqAt X.A.in1 s y v (if h : ∃ p, p ∈ l ∧ ∃ cs, Reads s.heap y p.toD cs then pyEq (Classical.choose h) k else false)
      rw [dif_pos h]
      obtain ⟨hm, cs, z⟩ := Classical.choose_spec h
      exact eqAt_good z rk' (goodsN_mem.mp g2 _ hm) g1 (by show X.A.units + 1 + 7 < cLine; omega)
    · have : ∀ {us : List Value} {m : List PV} {cs : List Addr}, (∀ z ∈ m, z ∈ l) → ReadsAll s.heap us (PV.toDs m) cs → us.any (fun y => if h : ∃ p, p ∈ l ∧ ∃ cs, Reads s.heap y p.toD cs then pyEq (Classical.choose h) k else false) = m.any fun y => pyEq y k := by
        intro us m
        induction m generalizing us with
        | nil => intro cs _ r; cases r; rfl
        | cons p m ih =>
          intro cs hm r
          cases r with
          | cons r1 r2 =>
            simp only [List.any_cons]
            rw [ih (fun z hz => hm z (List.mem_cons_of_mem _ hz)) r2]
            have h : ∃ p, p ∈ l ∧ ∃ cs, Reads s.heap _ p.toD cs := ⟨p, hm p List.mem_cons_self, _, r1⟩
            rw [dif_pos h]
            obtain ⟨hm', cs', z⟩ := Classical.choose_spec h
            have e := reads_inj _ _ 7 7 s.heap _ _ _ (goodsN_mem.mp g2 _ hm') (goodsN_mem.mp g2 _ (hm p List.mem_cons_self)) z r1
            rw [e]
      have h2 := this (fun z hz => hz) rl'
      simpa using h2
  obtain ⟨e, he, ee⟩ := key
  cases neg with
  | true => exact SeqAt.notIn_tupleAt e hit he ⟨.bl _, H, I, rfl, by rw [ee]; exact q⟩
  | false => exact SeqAt.in_tupleAt e hit he ⟨.bl _, H, I, rfl, by rw [ee]; exact q⟩

theorem inOf_run {neg : Bool} (hd : DictIn X) (hu : X.A.units + 80 < cLine) {M : MH} {p q : PV} {x y : V} {v u : Value} {Q : VK} (I : Inv X pins σ H s) (rx : RelV x v) (ry : RelV y u) (rp : Rep X.K H p x) (rq : Rep X.K H q y) (c : Cor X.prog X.w X.K H M) {b : Bool} (hb : inOf M p q = some b)
    (h : Q (.bl (if neg then !b else b)) H) : wpAny (model X.prog X.w) X.A (compareOp (if neg then .NotIn else .In) v u) (EP X pins σ Q) X.xe s := by
  have lst : ∀ {a : Addr} {l : List PV} {vs : List V}, y = .ref a → SqL X.K H a vs → RepL X.K H l vs → (if p.good && PV.goodsN l 7 then some (l.any fun y => pyEq y p) else none) = some b →
      wpAny (model X.prog X.w) X.A (compareOp (if neg then .NotIn else .In) v u) (EP X pins σ Q) X.xe s := by
    intro a l vs ey hq rl hb
    split at hb
    · rename_i g
      rw [Bool.and_eq_true] at g
      cases hb
      have d1 := dat_dp (d := .pv p) c rp (by cases p <;> first | rfl | (simp [PV.goodN] at g)) g.1
      obtain ⟨h1, h2⟩ := lays_toD l 7 g.2
      have sh : SeqAt.shaped (.list (PV.toDs l)) = true := by
        unfold SeqAt.shaped
        simp only [PyData.canLay0, PyData.depth, h1, Bool.true_and, decide_eq_true_eq]
        exact decide_eq_true (by omega)
      have dl : Dp X.K H y (.list (PV.toDs l)) := by rw [ey]; exact .lst hq (reps_dp l 7 vs g.2 rl)
      cases neg with
      | true => exact op_notInD (by omega) pins s σ H x y v u Q I rx ry ⟨_, _, d1.1, dl, d1.2, sh, by rw [show dD (.pv p) = p.toD from rfl, any_toD g.1 g.2]; exact h⟩
      | false => exact op_inD (by omega) pins s σ H x y v u Q I rx ry ⟨_, _, d1.1, dl, d1.2, sh, by rw [show dD (.pv p) = p.toD from rfl, any_toD g.1 g.2]; exact h⟩
    · cases hb
  cases q with
  | tup l =>
    simp only [inOf] at hb
    split at hb
    · rename_i g
      rw [Bool.and_eq_true] at g
      cases hb
      unfold Rep at rq
      obtain ⟨a, vs, rfl, hq, _, rl⟩ := rq
      cases ry
      exact in_tup hu I rx rp hq rl g.1 g.2 h
    · cases hb
  | ref a =>
    simp only [inOf] at hb
    unfold Rep at rq
    split at hb
    · rename_i l e
      obtain ⟨vs, q, r⟩ := c.ok a _ e
      exact lst rq (SqL.of q) r hb
    · rename_i l e
      obtain ⟨vs, q, r⟩ := c.ok a _ e
      exact lst rq q r hb
    · rename_i kvs ep e
      split at hb
      · rename_i g
        cases hb
        subst rq
        cases ry
        exact hd neg pins s σ H M p x a kvs ep v Q I rx rp c e g h
      · cases hb
    · cases hb
  | _ => simp [inOf] at hb

theorem op_cmpW (hd : DictIn X) (hu : X.A.units + 80 < cLine) (op : CmpOp) : OpR X (compareOp op) (LOx X fun p q M Q => cmpW op p q M fun c => Q (.bl c) M) := by
  intro pins s σ H x y v u Q I rx ry h
  obtain ⟨p, q, M, Qk, rp, rq, c, g, ct⟩ := h
  have fin : ∀ k : Bool, Qk (.bl k) M → Q (.bl k) H := fun k g => ct _ H _ M (.refl _) (by unfold Rep; rfl) c g
  cases op with
  | Lt =>
    simp only [cmpW] at g
    split at g
    · unfold Rep at rp rq
      exact op_lt pins s σ H x y v u Q I rx ry ⟨_, _, rp, rq, fin _ g⟩
    · exact g.elim
  | LtE =>
    simp only [cmpW] at g
    split at g
    · unfold Rep at rp rq
      exact op_le pins s σ H x y v u Q I rx ry ⟨_, _, rp, rq, fin _ g⟩
    · exact g.elim
  | Gt =>
    simp only [cmpW] at g
    split at g
    · unfold Rep at rp rq
      exact op_gt pins s σ H x y v u Q I rx ry ⟨_, _, rp, rq, fin _ g⟩
    · exact g.elim
  | GtE =>
    simp only [cmpW] at g
    split at g
    · unfold Rep at rp rq
      exact op_ge pins s σ H x y v u Q I rx ry ⟨_, _, rp, rq, fin _ g⟩
    · exact g.elim
  | Eq =>
    obtain ⟨d, e1, g⟩ := ok_of (show ok (datOf M p) _ from g)
    obtain ⟨e, e2, gd, g⟩ := ok_of g
    rw [Bool.and_eq_true] at gd
    obtain ⟨d1, s1⟩ := dat_dp c rp e1 gd.1
    obtain ⟨d2, s2⟩ := dat_dp c rq e2 gd.2
    exact op_eqD (by omega) pins s σ H x y v u Q I rx ry ⟨_, _, d1, d2, s1, s2, by rw [dat_eqv gd.1 gd.2]; exact fin _ g⟩
  | NotEq =>
    obtain ⟨d, e1, g⟩ := ok_of (show ok (datOf M p) _ from g)
    obtain ⟨e, e2, gd, g⟩ := ok_of g
    rw [Bool.and_eq_true] at gd
    obtain ⟨d1, s1⟩ := dat_dp c rp e1 gd.1
    obtain ⟨d2, s2⟩ := dat_dp c rq e2 gd.2
    exact op_neD (by omega) pins s σ H x y v u Q I rx ry ⟨_, _, d1, d2, s1, s2, by rw [dat_eqv gd.1 gd.2]; exact fin _ g⟩
  | In =>
    obtain ⟨b, e, g⟩ := ok_of (show ok (inOf M p q) _ from g)
    exact inOf_run (neg := false) hd hu I rx ry rp rq c e (fin _ g)
  | NotIn =>
    obtain ⟨b, e, g⟩ := ok_of (show ok (inOf M p q) _ from g)
    exact inOf_run (neg := true) hd hu I rx ry rp rq c e (fin _ g)
  | Is =>
    obtain ⟨b, e, g'⟩ := ok_of (show ok (isOf p q) _ from g)
    cases q <;> simp only [isOf, reduceCtorEq, Option.some.injEq] at e <;> unfold Rep at rq
    · subst e
      exact op_isN pins s σ H x y v u Q I rx ry ⟨rq, by rw [rep_none rp]; exact fin _ g'⟩
    · subst rq
      cases ry
      refine is_bool_gen (not_builtin rx) ⟨.bl _, H, I, rfl, ?_⟩
      rw [rep_bool rp rx, e]
      exact fin _ g'
  | IsNot =>
    obtain ⟨b, e, g'⟩ := ok_of (show ok (isOf p q) _ from g)
    cases q <;> simp only [isOf, reduceCtorEq, Option.some.injEq] at e <;> unfold Rep at rq
    · subst e
      exact op_notN pins s σ H x y v u Q I rx ry ⟨rq, by rw [rep_none rp]; exact fin _ g'⟩
    · subst rq
      cases ry
      refine isnot_bool_gen (not_builtin rx) ⟨.bl _, H, I, rfl, ?_⟩
      rw [rep_bool rp rx, e]
      exact fin _ g'
end
end PL
/-! PLu4: subscripts, slices, isinstance, built-in functions (those of dicts apart). -/
namespace PL
open PySem PySem.Spec PySem.W PyProof.Rows L2
section
variable {X : Cx} {pins : List (Addr × Obj)} {σ : L2.St} {H : Hp} {s : Shared}

theorem repl_get {K : PySem.W.Frag} {H : Hp} : ∀ {l : List PV} {vs : List V} {i : Nat} {p : PV}, RepL K H l vs → l[i]? = some p → ∃ v, vs[i]? = some v ∧ Rep K H p v
  | [], _, _, _, _, e => by simp at e
  | q :: l, vs, 0, p, r, e => by
    unfold RepL at r
    obtain ⟨v, ws, rfl, a, _⟩ := r
    simp only [List.getElem?_cons_zero, Option.some.injEq] at e
    subst e
    exact ⟨v, rfl, a⟩
  | q :: l, vs, i + 1, p, r, e => by
    unfold RepL at r
    obtain ⟨v, ws, rfl, _, b⟩ := r
    simp only [List.getElem?_cons_succ] at e ⊢
    exact repl_get b e
theorem repl_atI {K : PySem.W.Frag} {H : Hp} {l : List PV} {vs : List V} {i : Int} {p : PV} (r : RepL K H l vs) (h : getI l i = some p) : ∃ v, atI vs i = some v ∧ Rep K H p v := by
  unfold getI atI at h
  unfold atI
  rw [← r.length]
  cases e : ixN l.length i with
  | none => rw [e] at h; cases h
  | some j =>
    rw [e] at h
    exact repl_get r h
/-- d[k] of a dict -/
def DictGet (X : Cx) : Prop := ∀ (value slice : Expr) (pins : List (Addr × Obj)) (s : Shared) (σ : L2.St) (H : Hp) (M : MH) (k p : PV) (y : V) (a : Addr) (kvs : List (PV × PV)) (ep : Nat) (u : Value) (Q : VK), Inv X pins σ H s → RelV y u → Rep X.K H k y → Cor X.prog X.w X.K H M → M a = some (.dct kvs ep) → kOk kvs k = true →
  kget kvs k = some p → (∀ v, Rep X.K H p v → Q v H) → subscripted slice false (.ref a) u = operate [.ref a, u] (getItem (.ref a) u) → wpAny (model X.prog X.w) X.A (subscriptTail value slice (.ref a) u) (EP X pins σ Q) X.xe s
theorem ix_W (hd : DictGet X) : IxR X (LOx X ixW) := by
  intro value slice pins s σ H x y v u Q I rx ry h hs
  obtain ⟨p, q, M, Qk, rp, rq, c, g, ct⟩ := h
  have lst : ∀ {a : Addr} {l : List PV} {vs : List V}, x = .ref a → SqL X.K H a vs → RepL X.K H l vs → (onI q fun i => ok (getI l i) fun v => Qk v M) →
      wpAny (model X.prog X.w) X.A (subscriptTail value slice v u) (EP X pins σ Q) X.xe s := by
    intro a l vs ex hq rl g
    obtain ⟨i, rfl, g⟩ := onI_of g
    obtain ⟨z, e, g⟩ := ok_of g
    obtain ⟨zv, e2, rz⟩ := repl_atI rl e
    unfold Rep at rq
    exact ix_list value slice pins s σ H x y v u Q I rx ry ⟨a, vs, _, zv, ex, rq, hq, e2, ct zv H z M (.refl _) rz c g⟩ hs
  cases p with
  | tup l =>
    simp only [ixW] at g
    obtain ⟨i, rfl, g⟩ := onI_of g
    obtain ⟨z, e, g⟩ := ok_of g
    unfold Rep at rp rq
    obtain ⟨a, vs, ex, hq, _, rl⟩ := rp
    obtain ⟨zv, e2, rz⟩ := repl_atI rl e
    exact ix_tup value slice pins s σ H x y v u Q I rx ry ⟨a, vs, _, zv, ex, rq, hq, e2, ct zv H z M (.refl _) rz c g⟩ hs
  | ref a =>
    simp only [ixW] at g
    unfold Rep at rp
    split at g
    · rename_i l e
      obtain ⟨vs, q', r⟩ := c.ok a _ e
      exact lst rp (SqL.of q') r g
    · rename_i l e
      obtain ⟨vs, q', r⟩ := c.ok a _ e
      exact lst rp q' r g
    · rename_i kvs ep e
      obtain ⟨g1, g⟩ := g
      obtain ⟨z, e2, g⟩ := ok_of g
      subst rp
      cases rx
      exact hd value slice pins s σ H M q z y a kvs ep u Q I ry rq c e g1 e2 (fun v rz => ct v H z M (.refl _) rz c g) hs
    · exact g.elim
  | _ => exact g.elim
theorem pl_ix {a b : Expr} {pos : Pos} {ta tb : WE} (hd : DictGet X) (ha : PE X a (LEx X ta)) (hb : PE X b (LEx X tb)) (hs : PlainIx b) :
    PE X (.Subscript a b pos) (LEx X fun ρ M Q => ta ρ M fun x M1 => tb ρ M1 fun y M2 => ixW x y M2 Q) :=
  ⟨fun pins s σ H Qv I q => by
    obtain ⟨ρ, M, Q, er, c, tq, ct⟩ := q
    refine (pe_ix (ix_W hd) ha hb hs).run pins s σ H Qv I ⟨ρ, M, _, er, c, tq, fun v H1 p M1 l r c1 q1 => ⟨ρ, M1, _, er.le l, c1, q1, fun u H2 q M2 l2 r2 c2 q2 => ?_⟩⟩
    exact ⟨p, q, M2, Q, r.le l2, r2, c2, q2, (ct.le l).le l2⟩⟩

/-! ### slices -/
theorem repl_take {K : PySem.W.Frag} {H : Hp} : ∀ {l : List PV} {vs : List V} (n : Nat), RepL K H l vs → RepL K H (l.take n) (vs.take n)
  | [], vs, n, r => by unfold RepL at r; subst r; simp only [List.take_nil]; unfold RepL; rfl
  | p :: l, vs, 0, r => by simp only [List.take_zero]; unfold RepL; rfl
  | p :: l, vs, n + 1, r => by
    unfold RepL at r
    obtain ⟨v, ws, rfl, a, b⟩ := r
    simp only [List.take_succ_cons]
    unfold RepL
    exact ⟨v, _, rfl, a, repl_take n b⟩
theorem repl_drop {K : PySem.W.Frag} {H : Hp} : ∀ {l : List PV} {vs : List V} (n : Nat), RepL K H l vs → RepL K H (l.drop n) (vs.drop n)
  | [], vs, n, r => by unfold RepL at r; subst r; simp only [List.drop_nil]; unfold RepL; rfl
  | p :: l, vs, 0, r => by simpa using r
  | p :: l, vs, n + 1, r => by
    unfold RepL at r
    obtain ⟨v, ws, rfl, a, b⟩ := r
    simp only [List.drop_succ_cons]
    exact repl_drop n b
theorem repl_cut {K : PySem.W.Frag} {H : Hp} {l : List PV} {vs : List V} (lo hi : Option Int) (r : RepL K H l vs) : RepL K H (cutL l lo hi) (cutV vs lo hi) := by
  unfold cutL cutV
  rw [r.length]
  exact repl_take _ (repl_drop _ r)
theorem cut_whole {α : Type} (l : List α) {n : Nat} (h : n = l.length) : (l.drop 0).take (n - 0) = l := by subst h; simp
/-- t[lo:hi] that is the whole of t: t itself -/
theorem getItem_tuple_all {prog : Program} {w : World} {A : Around} {E : Value → Shared → Prop} {s : Shared} {t sl : Addr} {items : Array Value} {vl vu : Value} {lo hi : Option Int} {Q : Value → Shared → Prop} (ht : IsTup s.heap t items) (hs : s.heap.IsSliceOf sl vl vu .none) (pl : IsPart vl lo) (pu : IsPart vu hi)
    (hw : HT.sIx items.size 0 lo = 0 ∧ HT.sIx items.size items.size hi = items.size) (h : Q (.ref t) s) : wpAny (model prog w) A (getItem (.ref t) (.ref sl)) Q E s := by
  obtain ⟨os, hos, hcs, hds⟩ := id hs
  have hTs : s.TypeIs (.ref sl) "slice" := ⟨os, hos, hcs⟩
  unfold getItem
  try with_reducible refine wpAny_holding ?_
  first | refine wpAny_bind (wpAny_pure ?_) | skip
  refine wpAny_bind (wpAny_sequenceKey ht.typeIs (by decide) ?_)
  refine wpAny_bind (wpAny_callSpecial?_slot (name := Str.ofString "__getitem__") ht.typeIs PyProof.Rows.slot_tuple_getitem
    (wpAny_call_entry PyProof.Rows.slot_tuple_getitem ht.typeIs entry_tuple_getitem ?_ (args_tuple_getitem _ _)))
  show wpAny _ _ (Builtin.Tuple.tupleItemsOf (.ref t) >>= _) _ _ s
  refine wpAny_bind (tupleItemsOf_ ht ?_)
  refine wpAny_bind (wpAny_typeOf hTs ?_)
  rw [if_pos (by decide)]
  refine wpAny_bind (HT.sliceApplied_gen hs pl pu ?_)
  have hyes : ((((HT.sIx items.size 0 lo : Nat) : Int) == 0 && (1 : Int) == 1 && (HT.sIx items.size items.size hi - HT.sIx items.size 0 lo) == items.size) = true) := by
    rw [hw.1, hw.2]; simp
  show wpAny _ _ (if (((HT.sIx items.size 0 lo : Nat) : Int) == 0 && (1 : Int) == 1 && (HT.sIx items.size items.size hi - HT.sIx items.size 0 lo) == items.size) = true then _ else _) _ _ s
  rw [if_pos hyes]
  refine wpAny_bind ?_
  unfold Builtin.Tuple.tupleIsExact
  refine wpAny_bind (wpAny_typeOf ht.typeIs (wpAny_pure ?_))
  rw [if_pos (by decide)]
  refine wpAny_bind (wpAny_rule ?_)
  exact wpAny_pure ⟨_, rfl, wpAny_pure h⟩
def rSlT2 (K : PySem.W.Frag) : V → Option Int → Option Int → Hp → VK → Prop := fun x lo hi H Q => ∃ a xs, x = .ref a ∧ SqT K H a xs ∧
  ((HT.sIx xs.length 0 lo = 0 ∧ HT.sIx xs.length xs.length hi = xs.length) → Q (.ref a) H) ∧ ∀ p, H p = none → Q (.ref p) (upd H p (.tup (cutV xs lo hi)))
theorem sl_tup2 : SlR X (rSlT2 X.K) := by
  intro pins s σ H x v vl vu lo hi sl Q I rx hs pl pu h
  obtain ⟨a, xs, rfl, hx, q1, q2⟩ := h
  by_cases hw : HT.sIx xs.length 0 lo = 0 ∧ HT.sIx xs.length xs.length hi = xs.length
  · cases rx
    obtain ⟨its, r, ht, hz⟩ := I.tuple hx
    have hlen : its.toArray.size = xs.length := by rw [List.size_toArray]; exact r.length.symm
    exact ⟨"tuple", _, PyProof.Rows.slot_tuple_getitem.lookup, ht.typeIs, getItem_tuple_all ht hs pl pu (by rw [hlen]; exact hw) ⟨.ref a, H, I, rfl, q1 hw⟩⟩
  · exact sl_tup pins s σ H _ v vl vu lo hi sl Q I rx hs pl pu ⟨a, xs, rfl, hx, hw, q2⟩
theorem slr_free {r : V → Option Int → Option Int → Hp → VK → Prop} (h : SlR X r) : SlR X (fun x lo hi H Q => r x lo hi H fun v H' => Kf X.K H' → Q v H') := by
  intro pins s σ H x v vl vu lo hi sl Q I rx hs pl pu q
  obtain ⟨T, id, h1, h2, h3⟩ := h pins s σ H x v vl vu lo hi sl _ I rx hs pl pu q
  exact ⟨T, id, h1, h2, thn h3 fun u s' x => ep_free x⟩
def LSl (P : Program) (w : World) (K : PySem.W.Frag) : V → Option Int → Option Int → Hp → VK → Prop := fun x lo hi H Qv => ∃ p M Q, Rep K H p x ∧ Cor P w K H M ∧ Ct P w K H Q Qv ∧
  ((∃ l, p = .tup l ∧ Q (.tup (cutL l lo hi)) M) ∨ ∃ a l, p = .ref a ∧ lstOf M a = some l ∧ ∀ c, M c = none → Q (.ref c) (M.upd c (.lst (cutL l lo hi))))
theorem sl_W : SlR X (LSl X.prog X.w X.K) := by
  intro pins s σ H x v vl vu lo hi sl Q I rx hs pl pu h
  obtain ⟨p, M, Qk, rp, c, ct, h⟩ := h
  rcases h with ⟨l, rfl, g⟩ | ⟨a, l, rfl, e, g⟩
  · have rp0 := rp
    unfold Rep at rp
    obtain ⟨a, xs, rfl, hq, hz, rl⟩ := rp
    refine slr_free sl_tup2 pins s σ H _ v vl vu lo hi sl Q I rx hs pl pu ⟨a, xs, rfl, hq, fun hw _ => ?_, fun p hp kf => ?_⟩
    · refine ct _ H (.tup (cutL l lo hi)) M (.refl _) ?_ c g
      have e : cutL l lo hi = l := by
        unfold cutL
        rw [rl.length, hw.1, hw.2]
        exact cut_whole l rl.length.symm
      rw [e]; exact rp0
    · refine ct (.ref p) _ _ M (.new hp) ?_ (c.old kf hp) g
      unfold Rep
      refine ⟨p, _, rfl, SqT.of upd_same, ?_, (repl_cut lo hi rl).le (.new hp)⟩
      unfold cutL
      rw [List.length_take, List.length_drop]
      omega
  · obtain ⟨xs, hq, rl⟩ := lstOf_cor c e
    unfold Rep at rp
    refine slr_free sl_list pins s σ H x v vl vu lo hi sl Q I rx hs pl pu ⟨a, xs, rp, hq, fun p hp kf => ?_⟩
    exact ct (.ref p) _ (.ref p) _ (.new hp) (by unfold Rep; rfl) (c.new (mo := .lst (cutL l lo hi)) kf hp ⟨_, upd_same, (repl_cut lo hi rl).le (.new hp)⟩) (g p (c.free kf hp))
/-- a slice's part -/
abbrev WO := PEnv → MH → (Option Int → MH → Prop) → Prop
def LPo (P : Program) (w : World) (K : PySem.W.Frag) (t : WO) : TO := fun σ H Qo => ∃ ρ M k, EnvR K H ρ σ ∧ Cor P w K H M ∧ t ρ M k ∧ ∀ o H' M', Hle H H' → Cor P w K H' M' → k o M' → Qo o H'
theorem pl_po {e : Expr} {t : WE} (h : PE X e (LEx X t)) : PO X (some e) (LPo X.prog X.w X.K fun ρ M k => t ρ M fun x M1 => onI x fun i => k (some i) M1) :=
  ⟨fun pins s σ H Qo I q => by
    obtain ⟨ρ, M, k, er, c, tq, ct⟩ := q
    refine (po_some h).run pins s σ H Qo I ⟨ρ, M, _, er, c, tq, fun v H1 p M1 l r c1 q1 => ?_⟩
    obtain ⟨i, rfl, q1⟩ := onI_of q1
    unfold Rep at r
    exact ⟨i, r, ct (some i) H1 M1 l c1 q1⟩⟩
theorem pl_po0 : PO X none (LPo X.prog X.w X.K fun _ M k => k none M) :=
  ⟨fun pins s σ H Qo I q => by
    obtain ⟨ρ, M, k, er, c, tq, ct⟩ := q
    exact po_none.run pins s σ H Qo I (ct none H M (.refl _) c tq)⟩
theorem pl_sl {e : Expr} {lo hi : Option Expr} {p2 pos : Pos} {te : WE} {tl th : WO} (he : PE X e (LEx X te)) (hl : PO X lo (LPo X.prog X.w X.K tl)) (hh : PO X hi (LPo X.prog X.w X.K th)) :
    PE X (.Subscript e (.Slice lo hi none p2) pos) (LEx X fun ρ M Q => te ρ M fun x M1 => tl ρ M1 fun i M2 => th ρ M2 fun j M3 => slW x i j M3 Q) :=
  ⟨fun pins s σ H Qv I q => by
    obtain ⟨ρ, M, Q, er, c, tq, ct⟩ := q
    refine (pe_slice sl_W he hl hh).run pins s σ H Qv I ⟨ρ, M, _, er, c, tq, fun v H1 p M1 l r c1 q1 => ⟨ρ, M1, _, er.le l, c1, q1, fun o H2 M2 l2 c2 q2 => ⟨ρ, M2, _, (er.le l).le l2, c2, q2, fun o2 H3 M3 l3 c3 q3 => ?_⟩⟩⟩
    refine ⟨p, M3, Q, (r.le l2).le l3, c3, ((ct.le l).le l2).le l3, ?_⟩
    cases p with
    | tup l => exact .inl ⟨l, rfl, q3⟩
    | ref a =>
      obtain ⟨l, e, q3⟩ := ok_of (show ok (lstOf M3 a) _ from q3)
      exact .inr ⟨a, l, rfl, e, q3⟩
    | _ => exact q3.elim⟩

/-! ### isinstance -/
def tyS : Ty → String
  | .int => "int"
  | .bool => "bool"
  | .str => "str"
  | .tuple => "tuple"
  | .list => "list"
theorem kit_ty {K : PySem.W.Frag} (t u : Ty) : PySem.W.kitOne K (.type (tyS t)) (.type (tyS u)) = some (t == u || (t == .bool && u == .int)) := by
  cases t <;> cases u <;> rfl
theorem kit_none {K : PySem.W.Frag} (u : Ty) : PySem.W.kitOne K (.type "NoneType") (.type (tyS u)) = some false := by
  cases u <;> rfl
theorem tyX_of {P : Program} {w : World} {M : MH} {p : PV} {x : V} {t : Ty} (c : Cor P w X.K H M) (r : Rep X.K H p x) (h : tyOf M p = some t) : TyX X.K H x (.type (tyS t)) := by
  have lst : ∀ {a : Addr} {vs : List V}, SqL X.K H a vs → TyX X.K H (.ref a) (.type "list") := by
    intro a vs q
    rcases q with (q | ⟨o, q⟩) | ⟨o, its, n, q, hc, _⟩
    · exact .base (.lst q)
    · exact .base (.frz q)
    · exact .kList q hc
  cases p <;> simp only [tyOf, reduceCtorEq, Option.some.injEq] at h <;> unfold Rep at r
  case bl b => subst h; subst r; exact .base (.bl b)
  case int i => subst h; subst r; exact .base (.int i)
  case str i => subst h; subst r; exact .base (.str i)
  case tup l =>
    subst h
    obtain ⟨a, vs, rfl, q, _⟩ := r
    rcases q with (q | ⟨o, q⟩) | ⟨o, its, n, q, hc, _⟩
    · exact .base (.tup q)
    · exact .fTuple q
    · exact .kTuple q hc
  case ref a =>
    subst r
    split at h
    · rename_i l e
      cases h
      obtain ⟨vs, q, r⟩ := c.ok a _ e
      exact lst (SqL.of q)
    · rename_i l e
      cases h
      obtain ⟨vs, q, r⟩ := c.ok a _ e
      exact lst q
    · cases h
theorem pl_isi {a : Expr} {x n : Str} {p p2 pos : Pos} {ta : WE} {t : Ty} (ha : PE X a (LEx X ta)) (hg : Gl X "isinstance") (hm : X.mg "isinstance" = none) (hg2 : Gl X n) (hm2 : X.mg n = none) (hv2 : bootBuiltins n = some (.type (tyS t)))
    (hn2 : n ≠ "__name__") (hd2 : (n == ("__debug__" : Str)) = false) (hs : ∀ e es, e :: es = [a, .Name n p2] ∨ e :: es = [.Name n p2] → starEach (e :: es) X.env = (false, eval e X.env) :: starEach es X.env) (hpl : (backTo pos (starEach [.Name n p2] X.env)).any (·.1) = false) :
    PE X (.Call (.Name "isinstance" p) [a, .Name n p2] [] pos) (LEx X fun ρ M Q => ta ρ M fun x M1 => ok (isiOf M1 x t) fun c => Q (.bl c) M1) :=
  pe_lift (pe_callB call_isi hg hm (by decide +kernel) (pa_cons ha (pa_cons (pe_bltn (v := .ty (tyS t)) hg2 hm2 hv2 rfl hn2 hd2) pa_nil (hs _ _ (.inr rfl))) (hs _ _ (.inl rfl))) (he := hs _ _ (.inl rfl)) (hpl := hpl))
    fun σ H ρ M Q Qv er c q ct => ⟨ρ, M, _, er, c, q, fun v H1 p M1 l r c1 q1 => by
      obtain ⟨b, e, q1⟩ := ok_of q1
      have fin : Kf X.K H1 → Qv (.bl b) H1 := fun _ => ct (.bl b) H1 (.bl b) M1 l (by unfold Rep; rfl) c1 q1
      cases p with
      | non =>
        simp only [isiOf, Option.some.injEq] at e
        subst e
        unfold Rep at r
        subst r
        exact ⟨.non, .ty (tyS t), .type "NoneType", .type (tyS t), false, rfl, .ty _, .base .non, kit_none t, fin⟩
      | _ =>
        simp only [isiOf, Option.map_eq_some_iff] at e
        obtain ⟨u, e1, rfl⟩ := e
        exact ⟨v, .ty (tyS t), .type (tyS u), .type (tyS t), _, rfl, .ty _, tyX_of c1 r e1, kit_ty u t, fin⟩⟩

/-! ### built-in functions -/
def bName : B → Str
  | .len => "len" | .tuple => "tuple" | .list => "list" | .sorted => "sorted" | .dict => "dict" | .int => "int" | .abs => "abs" | .max => "max" | .min => "min" | .all => "all" | .any => "any" | .minlen => "min"
def bVal : B → Value
  | .len => .builtin "len" | .tuple => .type "tuple" | .list => .type "list" | .sorted => .builtin "sorted" | .dict => .type "dict" | .int => .type "int" | .abs => .builtin "abs" | .max => .builtin "max" | .min => .builtin "min" | .all => .builtin "all" | .any => .builtin "any" | .minlen => .builtin "min"
theorem bVal_boot : ∀ b : B, bootBuiltins (bName b) = some (bVal b) := by
  intro b; cases b <;> decide +kernel
/-- of dicts: len, list, sorted, dict(..): shown apart -/
structure DictCalls (X : Cx) : Prop where
  len : ∀ (pins : List (Addr × Obj)) (s : Shared) (σ : L2.St) (H : Hp) (M : MH) (a : Addr) (kvs : List (PV × PV)) (ep : Nat) (Q : VK), Inv X pins σ H s → Cor X.prog X.w X.K H M → M a = some (.dct kvs ep) → Q (.int kvs.length) H →
    wpAny (model X.prog X.w) X.A (call (.builtin "len") [.ref a]) (EP X pins σ Q) X.xe s
  list : ∀ (pins : List (Addr × Obj)) (s : Shared) (σ : L2.St) (H : Hp) (M : MH) (a : Addr) (kvs : List (PV × PV)) (ep : Nat) (Q : VK), Inv X pins σ H s → Cor X.prog X.w X.K H M → M a = some (.dct kvs ep) → kvs.length ≤ LIM →
    (∀ l vs, H l = none → RepL X.K H (kvs.map (·.1)) vs → Q (.ref l) (upd H l (.lst vs))) →
    wpAny (model X.prog X.w) X.A (call (.type "list") [.ref a]) (EP X pins σ Q) X.xe s
  coll : ∀ (pins : List (Addr × Obj)) (s : Shared) (σ : L2.St) (H : Hp) (M : MH) (a : Addr) (kvs : List (PV × PV)) (ep : Nat), Inv X pins σ H s → Cor X.prog X.w X.K H M → M a = some (.dct kvs ep) → kvs.length ≤ LIM →
    ∃ vs, RepL X.K H (kvs.map (·.1)) vs ∧ ∀ R : List Value → Shared → Prop, (∀ us h1 tk, Vals vs us → (∀ b o, s.heap.get? b = some o → h1.get? b = some o) → R us { s with heap := h1, toks := tk }) → wpAny (model X.prog X.w) X.A.in1 (collect (.ref a)) R X.xe s
  dict : ∀ (pins : List (Addr × Obj)) (s : Shared) (σ : L2.St) (H : Hp) (M : MH) (b : Addr) (l : List PV) (ps : List (PV × PV)) (Q : VK), Inv X pins σ H s → Cor X.prog X.w X.K H M → lstOf M b = some l → pairsOfL l = some ps → (allF ps || allT ps) = true → ps.length ≤ LIM →
    (∀ d u, H d = none → MRep X.prog X.w X.K (upd H d u) d (.dct (kputs [] ps) 0) → Q (.ref d) (upd H d u)) → wpAny (model X.prog X.w) X.A (call (.type "dict") [.ref b]) (EP X pins σ Q) X.xe s
theorem repl_one {K : PySem.W.Frag} {H : Hp} {p : PV} {xs : List V} (r : RepL K H [p] xs) : ∃ x, xs = [x] ∧ Rep K H p x := by
  unfold RepL at r
  obtain ⟨x, ws, rfl, a, b⟩ := r
  unfold RepL at b
  subst b
  exact ⟨x, rfl, a⟩
theorem repl_two {K : PySem.W.Frag} {H : Hp} {p q : PV} {xs : List V} (r : RepL K H [p, q] xs) : ∃ x y, xs = [x, y] ∧ Rep K H p x ∧ Rep K H q y := by
  unfold RepL at r
  obtain ⟨x, ws, rfl, a, b⟩ := r
  obtain ⟨y, e, b'⟩ := repl_one b
  subst e
  exact ⟨x, y, rfl, a, b'⟩
theorem ints_rep {K : PySem.W.Frag} {H : Hp} : ∀ {l : List PV} {ns : List Int} {vs : List V}, intsOf l = some ns → RepL K H l vs → vs = ns.map V.int
  | [], ns, vs, e, r => by
    simp only [intsOf, Option.some.injEq] at e
    subst e
    unfold RepL at r
    subst r; rfl
  | p :: l, ns, vs, e, r => by
    cases p with
    | int i =>
      simp only [intsOf, Option.map_eq_some_iff] at e
      obtain ⟨m, e, rfl⟩ := e
      unfold RepL at r
      obtain ⟨v, ws, rfl, a, b⟩ := r
      unfold Rep at a
      rw [a, ints_rep e b]; rfl
    | _ => simp [intsOf] at e
theorem bools_rep {K : PySem.W.Frag} {H : Hp} : ∀ {l : List PV} {ns : List Bool} {vs : List V}, boolsOf l = some ns → RepL K H l vs → vs = ns.map V.bl
  | [], ns, vs, e, r => by
    simp only [boolsOf, Option.some.injEq] at e
    subst e
    unfold RepL at r
    subst r; rfl
  | p :: l, ns, vs, e, r => by
    cases p with
    | bl i =>
      simp only [boolsOf, Option.map_eq_some_iff] at e
      obtain ⟨m, e, rfl⟩ := e
      unfold RepL at r
      obtain ⟨v, ws, rfl, a, b⟩ := r
      unfold Rep at a
      rw [a, bools_rep e b]; rfl
    | _ => simp [boolsOf] at e
theorem maxL_mem : ∀ {l : List Int}, l ≠ [] → maxL l ∈ l ∧ ∀ y ∈ l, y ≤ maxL l
  | [], h => absurd rfl h
  | [i], _ => by simp [maxL]
  | i :: j :: l, _ => by
    obtain ⟨h1, h2⟩ := maxL_mem (l := j :: l) (by simp)
    simp only [maxL]
    refine ⟨?_, fun y hy => ?_⟩
    · by_cases c : maxL (j :: l) ≤ i
      · rw [Int.max_eq_left c]; exact List.mem_cons_self
      · rw [Int.max_eq_right (by omega)]; exact List.mem_cons_of_mem _ h1
    · rcases List.mem_cons.mp hy with e | hy
      · subst e; omega
      · have := h2 y hy; omega
theorem max_uniq {l : List Int} {m : Int} (h : l ≠ []) (hm : m ∈ l) (h2 : ∀ y ∈ l, y ≤ m) : m = maxL l := by
  obtain ⟨a, b⟩ := maxL_mem h
  have := h2 _ a
  have := b _ hm
  omega
theorem call_bltW (dc : DictCalls X) (hc : X.calm = true) (hu : X.A.units + 80 < cLine) (f : B) : CallR X (bVal f) (LCx X (bltW f)) := by
  intro pins s σ H xs us Q I r h
  obtain ⟨ps, M, Qk, rp, c, g, ct⟩ := h
  have fin : ∀ k : Int, Qk (.int k) M → Q (.int k) H := fun k g => ct _ H _ M (.refl _) (by unfold Rep; rfl) c g
  have finB : ∀ k : Bool, Qk (.bl k) M → Q (.bl k) H := fun k g => ct _ H _ M (.refl _) (by unfold Rep; rfl) c g
  have newL : ∀ (l : Addr) (vs : List V) (ps : List PV), RepL X.K H ps vs → H l = none → (∀ a, M a = none → Qk (.ref a) (M.upd a (.lst ps))) → Kf X.K (upd H l (.lst vs)) → Q (.ref l) (upd H l (.lst vs)) := fun l vs ps r hl g kf =>
    ct (.ref l) _ (.ref l) _ (.new hl) (by unfold Rep; rfl) (c.new (mo := .lst ps) kf hl ⟨_, upd_same, r.le (.new hl)⟩) (g l (c.free kf hl))
  unfold bltW at g
  split at g
  · -- len
    rename_i p
    obtain ⟨x, rfl, rx⟩ := repl_one rp
    obtain ⟨n, e, g⟩ := ok_of g
    cases p with
    | tup l =>
      simp only [lenOf, Option.some.injEq] at e
      subst e
      unfold Rep at rx
      obtain ⟨a, vs, rfl, q, _, rl⟩ := rx
      exact call_len pins s σ H _ us Q I r ⟨_, l.length, rfl, .inr ⟨vs, q, rl.length⟩, fin _ g⟩
    | ref a =>
      unfold Rep at rx
      subst rx
      simp only [lenOf] at e
      split at e
      · rename_i l e1
        cases e
        obtain ⟨vs, q, rl⟩ := c.ok a _ e1
        exact call_len pins s σ H _ us Q I r ⟨_, l.length, rfl, .inl ⟨vs, SqL.of q, rl.length⟩, fin _ g⟩
      · rename_i l e1
        cases e
        obtain ⟨vs, q, rl⟩ := c.ok a _ e1
        exact call_len pins s σ H _ us Q I r ⟨_, l.length, rfl, .inl ⟨vs, q, rl.length⟩, fin _ g⟩
      · rename_i kvs ep e1
        cases e
        obtain ⟨u, rfl, ru⟩ := vals1 r
        cases ru
        exact dc.len pins s σ H M a kvs ep Q I c e1 (fin _ g)
      · cases e
    | _ => simp [lenOf] at e
  · -- tuple of a tuple
    obtain ⟨x, rfl, rx⟩ := repl_one rp
    have rx0 := rx
    unfold Rep at rx
    obtain ⟨a, vs, rfl, q, _, rl⟩ := rx
    exact call_tuple_of pins s σ H _ us Q I r ⟨a, vs, rfl, .inr ⟨q, ct _ H _ M (.refl _) rx0 c g⟩⟩
  · -- of a list
    obtain ⟨x, rfl, rx⟩ := repl_one rp
    unfold Rep at rx
    subst rx
    obtain ⟨l, e, hl, g⟩ := ok_of g
    obtain ⟨vs, q, rl⟩ := lstOf_cor c e
    refine callr_free call_tuple_of pins s σ H _ us Q I r ⟨_, vs, rfl, .inl ⟨q, fun p hp kf => ?_⟩⟩
    refine ct (.ref p) _ (.tup l) M (.new hp) ?_ (c.old kf hp) g
    unfold Rep
    exact ⟨p, vs, rfl, SqT.of upd_same, Nat.le_trans hl lim_le, rl.le (.new hp)⟩
  · -- list
    rename_i p
    obtain ⟨x, rfl, rx⟩ := repl_one rp
    obtain ⟨l, e, hl, g2⟩ := ok_of g
    clear g
    have g := g2
    clear g2
    cases p with
    | tup l' =>
      simp only [itemsOf, Option.some.injEq] at e
      subst e
      unfold Rep at rx
      obtain ⟨a, vs, rfl, q, _, rl⟩ := rx
      exact callr_free call_list_of pins s σ H _ us Q I r ⟨a, vs, rfl, .inr q, fun p hp kf => newL p vs _ rl hp g kf⟩
    | ref a =>
      unfold Rep at rx
      subst rx
      simp only [itemsOf] at e
      split at e
      · rename_i l' e1
        cases e
        obtain ⟨vs, q, rl⟩ := c.ok a _ e1
        exact callr_free call_list_of pins s σ H _ us Q I r ⟨a, vs, rfl, .inl (SqL.of q), fun p hp kf => newL p vs _ rl hp g kf⟩
      · rename_i l' e1
        cases e
        obtain ⟨vs, q, rl⟩ := c.ok a _ e1
        exact callr_free call_list_of pins s σ H _ us Q I r ⟨a, vs, rfl, .inl q, fun p hp kf => newL p vs _ rl hp g kf⟩
      · rename_i kvs ep e1
        cases e
        obtain ⟨u, rfl, ru⟩ := vals1 r
        cases ru
        refine thn (dc.list pins s σ H M a kvs ep (fun v H' => Kf X.K H' → Q v H') I c e1 (by simpa using hl) fun l vs hn rl kf => newL l vs _ rl hn g kf) fun u s' x => ep_free x
      · cases e
    | _ => simp [itemsOf] at e
  · -- sorted
    rename_i p
    obtain ⟨x, rfl, rx⟩ := repl_one rp
    obtain ⟨l, e, hl, hs, g⟩ := ok_of g
    have hz := Nat.le_trans hl lim_le
    obtain ⟨u, rfl, ru⟩ := vals1 r
    have tail : ∀ vs : List V, RepL X.K H l vs → (∀ (R : List Value → Shared → Prop), (∀ us h1 tk, Vals vs us → (∀ b o, s.heap.get? b = some o → h1.get? b = some o) → R us { s with heap := h1, toks := tk }) → wpAny (model X.prog X.w) X.A.in1 (collect u) R X.xe s) →
        wpAny (model X.prog X.w) X.A (call (.builtin "sorted") [u]) (EP X pins σ Q) X.xe s := fun vs rl hcol =>
      thn (sorted_core I rl hs hz (by omega) hcol (Q := fun v H' => Kf X.K H' → Q v H') fun d ys hd ry kf => newL d ys _ ry hd g kf) fun u s' x => ep_free x
    have lst : ∀ {a : Addr} {vs : List V}, u = .ref a → SqL X.K H a vs → RepL X.K H l vs → wpAny (model X.prog X.w) X.A (call (.builtin "sorted") [u]) (EP X pins σ Q) X.xe s := fun {a vs} eu q rl => by
      subst eu
      obtain ⟨its, rv, pl, hz2⟩ := I.list q
      refine tail vs rl fun R hR => ?_
      refine collect_list (vs := its) pl.isList (hR its _ _ rv fun b o hb => ?_) (by rw [← rv.length]; exact hz2)
      have hlt := Heap.lt_size hb
      rw [Heap.get?_update_ne _ _ _ _ (Nat.ne_of_lt hlt)]
      exact Heap.get?_push_of_some _ hb
    cases p with
    | tup l' =>
      simp only [itemsOf, Option.some.injEq] at e
      subst e
      unfold Rep at rx
      obtain ⟨a, vs, rfl, q, _, rl⟩ := rx
      cases ru
      obtain ⟨its, rv, ⟨o, ho, hcl, n, hd⟩, hz2⟩ := I.tuple q
      refine tail vs rl fun R hR => ?_
      refine wpAny_collect_seq _ (.inr rfl) ho hcl hd (fun h' kp => ?_) (by rw [List.size_toArray, ← rv.length]; exact hz2)
      exact hR its h' s.toks rv kp
    | ref a =>
      unfold Rep at rx
      subst rx
      cases ru
      simp only [itemsOf] at e
      split at e
      · rename_i l' e1
        cases e
        obtain ⟨vs, q, rl⟩ := c.ok a _ e1
        exact lst rfl (SqL.of q) rl
      · rename_i l' e1
        cases e
        obtain ⟨vs, q, rl⟩ := c.ok a _ e1
        exact lst rfl q rl
      · rename_i kvs ep e1
        cases e
        obtain ⟨vs, rl, hcol⟩ := dc.coll pins s σ H M a kvs ep I c e1 (by simpa using hl)
        exact tail vs rl hcol
      · cases e
    | _ => simp [itemsOf] at e
  · -- dict
    obtain ⟨x, rfl, rx⟩ := repl_one rp
    unfold Rep at rx
    subst rx
    obtain ⟨u, rfl, ru⟩ := vals1 r
    cases ru
    obtain ⟨l, e, g⟩ := ok_of g
    obtain ⟨ps, e2, ⟨g1, g2⟩, g⟩ := ok_of g
    refine thn (dc.dict pins s σ H M _ l ps (fun v H' => Kf X.K H' → Q v H') I c e e2 g1 g2 fun d u hd mr kf => ?_) fun u s' x => ep_free x
    exact ct (.ref d) _ (.ref d) _ (.new hd) (by unfold Rep; rfl) (c.new kf hd mr) (g d (c.free kf hd))
  · obtain ⟨x, rfl, rx⟩ := repl_one rp
    unfold Rep at rx
    subst rx
    exact call_int1 pins s σ H _ us Q I r (.inl ⟨_, rfl, fin _ g⟩)
  · obtain ⟨x, rfl, rx⟩ := repl_one rp
    unfold Rep at rx
    subst rx
    exact call_abs pins s σ H _ us Q I r ⟨_, rfl, fin _ g⟩
  · obtain ⟨x, y, rfl, rx, ry⟩ := repl_two rp
    unfold Rep at rx ry
    subst rx; subst ry
    exact call_max2 hc pins s σ H _ us Q I r ⟨_, _, rfl, fin _ g⟩
  · obtain ⟨x, y, rfl, rx, ry⟩ := repl_two rp
    unfold Rep at rx ry
    subst rx; subst ry
    exact call_min2 hc pins s σ H _ us Q I r ⟨_, _, rfl, fin _ g⟩
  · obtain ⟨x, rfl, rx⟩ := repl_one rp
    unfold Rep at rx
    subst rx
    obtain ⟨l, e, g⟩ := ok_of g
    obtain ⟨ns, e2, hne, g⟩ := ok_of g
    obtain ⟨vs, q, rl⟩ := lstOf_cor c e
    have := ints_rep e2 rl
    subst this
    exact cr_max hc pins s σ H _ us Q I r ⟨_, ns, rfl, q, List.length_pos_iff.mpr hne, fun m hm h2 => by rw [max_uniq hne hm h2]; exact fin _ g⟩
  · obtain ⟨x, rfl, rx⟩ := repl_one rp
    unfold Rep at rx
    subst rx
    obtain ⟨l, e, g⟩ := ok_of g
    obtain ⟨ns, e2, g⟩ := ok_of g
    obtain ⟨vs, q, rl⟩ := lstOf_cor c e
    have := bools_rep e2 rl
    subst this
    exact cr_all hc pins s σ H _ us Q I r ⟨_, ns, rfl, q, finB _ g⟩
  · obtain ⟨x, rfl, rx⟩ := repl_one rp
    unfold Rep at rx
    subst rx
    obtain ⟨l, e, g⟩ := ok_of g
    obtain ⟨ns, e2, g⟩ := ok_of g
    obtain ⟨vs, q, rl⟩ := lstOf_cor c e
    have := bools_rep e2 rl
    subst this
    exact cr_any hc pins s σ H _ us Q I r ⟨_, ns, rfl, q, finB _ g⟩
  · exact g.elim
end
end PL
/-! PLu5: dicts: in, get, set, len, what is collected. -/
namespace PL
open PySem PySem.Spec PySem.W PyProof.Rows L2

theorem pyEq_kP (a b : Key) : pyEq (kP a) (kP b) = decide (a = b) := by
  cases a <;> cases b <;> simp [kP, pyEq] <;> (try rw [Bool.beq_eq_decide_eq])
theorem isF_kP (a : Key) : isF (kP a) = true ∧ isT (kP a) = false := by cases a <;> exact ⟨rfl, rfl⟩
theorem isF_of {k : PV} (h : isF k = true) : ∃ a, k = kP a := by
  cases k with
  | int i => exact ⟨.inl i, rfl⟩
  | str x => exact ⟨.inr x, rfl⟩
  | _ => simp [isF] at h
theorem isF_T {k : PV} (h : isF k = true) (h2 : isT k = true) : False := by cases k <;> simp_all [isF, isT]
theorem rep_kP {K : PySem.W.Frag} {H : Hp} {a : Key} {y : V} (r : Rep K H (kP a) y) : y = kV a := by
  cases a <;> (unfold kP at r; unfold Rep at r; exact r)
section
variable {K : PySem.W.Frag} {H : Hp}
theorem dk_get : ∀ {kvs : List (PV × PV)} {ks : List (Key × V)} (a : Key), DKR K H kvs ks → (∀ p, kget kvs (kP a) = some p → ∃ v, valV ks a = some v ∧ Rep K H p v) ∧ (kget kvs (kP a) = none → valV ks a = none) ∧ khas kvs (kP a) = (valV ks a).isSome := by
  intro kvs ks a r
  unfold DKR at r
  induction r with
  | nil => simp [kget, khas, valV]
  | @cons x y l m h t ih =>
    obtain ⟨h1, h2⟩ := h
    have e : pyEq x.1 (kP a) = decide (y.1 = a) := by rw [h1, pyEq_kP]
    by_cases c : y.1 = a
    · have e2 : pyEq x.1 (kP a) = true := by rw [e]; simp [c]
      refine ⟨fun p hp => ?_, fun hp => ?_, ?_⟩
      · simp only [kget, List.find?_cons, e2, Option.map_some, Option.some.injEq] at hp
        subst hp
        exact ⟨y.2, by simp [valV, List.find?_cons, c], h2⟩
      · simp [kget, List.find?_cons, e2] at hp
      · simp [khas, valV, List.find?_cons, c, e2]
    · have e2 : pyEq x.1 (kP a) = false := by rw [e]; simp [c]
      obtain ⟨i1, i2, i3⟩ := ih
      have kg : kget (x :: l) (kP a) = kget l (kP a) := by simp [kget, List.find?_cons, e2]
      have kv : valV (y :: m) a = valV m a := by simp [valV, List.find?_cons, c]
      refine ⟨fun p hp => ?_, fun hp => ?_, ?_⟩
      · rw [kv]; exact i1 p (by rw [← kg]; exact hp)
      · rw [kv]; exact i2 (by rw [← kg]; exact hp)
      · rw [kv, ← i3]; simp [khas, e2]
theorem dt_get : ∀ {kvs : List (PV × PV)} {xs : List (PV × Addr × Value)} {k : PV}, k.key = true → DTR K H kvs xs → (∀ p, kget kvs k = some p → ∃ q v, atKey xs k = some q ∧ Rep K H p v ∧ RelV v q.2) ∧ (kget kvs k = none → atKey xs k = none) ∧ khas kvs k = (atKey xs k).isSome := by
  intro kvs xs k hk r
  unfold DTR at r
  induction r with
  | nil => simp [kget, khas, atKey]
  | @cons x y l m h t ih =>
    obtain ⟨h1, h2, h3, h4, v, h5, h6⟩ := h
    have e := key_eq x.1 k 7 7 h2 hk
    by_cases c : y.1 = k
    · have e2 : pyEq x.1 k = true := e.mpr (h1.trans c)
      refine ⟨fun p hp => ?_, fun hp => ?_, ?_⟩
      · simp only [kget, List.find?_cons, e2, Option.map_some, Option.some.injEq] at hp
        subst hp
        exact ⟨y.2, v, by simp [atKey, List.find?_cons, c], h5, h6⟩
      · simp [kget, List.find?_cons, e2] at hp
      · simp [khas, atKey, List.find?_cons, c, e2]
    · have e2 : pyEq x.1 k = false := by
        cases q : pyEq x.1 k with
        | false => rfl
        | true => exact absurd (h1.symm.trans (e.mp q)) c
      obtain ⟨i1, i2, i3⟩ := ih
      have kg : kget (x :: l) k = kget l k := by simp [kget, List.find?_cons, e2]
      have kv : atKey (y :: m) k = atKey m k := by simp [atKey, List.find?_cons, c]
      refine ⟨fun p hp => ?_, fun hp => ?_, ?_⟩
      · rw [kv]; exact i1 p (by rw [← kg]; exact hp)
      · rw [kv]; exact i2 (by rw [← kg]; exact hp)
      · rw [kv, ← i3]; simp [khas, e2]
end
section
variable {X : Cx} {pins : List (Addr × Obj)} {σ : L2.St} {H : Hp} {s : Shared}
theorem dt_is (I : Inv X pins σ H s) : ∀ {kvs : List (PV × PV)} {xs : List (PV × Addr × Value)}, DTR X.K H kvs xs → ∀ x ∈ xs, (pvKind X.prog X.w).is s.heap x.1 x.2.1 := by
  intro kvs xs r
  unfold DTR at r
  induction r with
  | nil => intro x hx; cases hx
  | @cons z y l m h t ih =>
    intro x hx
    rcases List.mem_cons.mp hx with e | hx
    · subst e
      obtain ⟨h1, h2, h3, h4, _⟩ := h
      rw [h1] at h2 h3 h4
      obtain ⟨as, rr⟩ := rep_reads I (u := .ref x.2.1) (key_good _ _ h2) h4 rfl
      exact ⟨h2, h3, as, rr⟩
    · exact ih x hx
theorem ext_rd {a : Addr} {φ : Heap → Prop} (I : Inv X pins σ H s) (r : Rd H a (.ext φ)) : φ s.heap := by
  obtain ⟨h, _⟩ := (show ObjOk X.prog X.w H s.heap a (.ext φ) from r.ok I.hok)
  exact h
theorem dt_dict (I : Inv X pins σ H s) {a : Addr} {kvs : List (PV × PV)} {xs : List (PV × Addr × Value)} (r : Rd H a (dTO X.prog X.w a xs)) (t : DTR X.K H kvs xs) (n : (xs.map (·.1)).Nodup) : s.heap.DictOfH (pvKind X.prog X.w) a xs := by
  obtain ⟨o, es, ep, h1, h2, h3, h4⟩ := ext_rd I r
  exact ⟨o, es, ep, h1, h2, h3, h4, dt_is I t, n⟩
theorem dk_nil (I : Inv X pins σ H s) {a : Addr} (r : Rd H a (.dK [])) : (a == sysModules) = false ∧ s.heap.DictOfH (pvKind X.prog X.w) a [] := by
  obtain ⟨_, lo, vs, rel, dd⟩ := dk_rd I.hok r
  cases rel
  obtain ⟨o, es, ep, h1, h2, h3, _, h5, _⟩ := dd
  have h6 : es.toList = [] := by
    generalize es.toList = l at h5
    cases h5; rfl
  exact ⟨lo, o, es, ep, h1, h2, h3, by rw [h6]; rfl, fun x hx => (by cases hx), List.nodup_nil⟩
/-- what a dict is, by the kind of a key that goes with it -/
theorem dct_view (I : Inv X pins σ H s) {M : MH} {a : Addr} {kvs : List (PV × PV)} {ep : Nat} {k : PV} (c : Cor X.prog X.w X.K H M) (e : M a = some (.dct kvs ep)) (hk : kOk kvs k = true) :
    (∃ b ks, k = kP b ∧ Rd H a (.dK ks) ∧ (ep = 0 → H a = some (.dK ks)) ∧ DKR X.K H kvs ks) ∨ (k.key = true ∧ isT k = true ∧ (a == sysModules) = false ∧ ∃ xs, s.heap.DictOfH (pvKind X.prog X.w) a xs ∧ DTR X.K H kvs xs ∧ kvs.length ≤ sizeLine ∧ (ep = 0 → Mut (H a))) := by
  obtain ⟨u, h0, rd, dr⟩ := c.ok a _ e
  unfold kOk at hk
  simp only [Bool.and_eq_true, Bool.or_eq_true] at hk
  obtain ⟨hkey, hk⟩ := hk
  rcases hk with ⟨hf, hall⟩ | ⟨ht, hall⟩
  · obtain ⟨b, rfl⟩ := isF_of hf
    left
    rcases dr with ⟨ks, rfl, r⟩ | ⟨lo, ne, z, xs, rfl, r, n⟩
    · exact ⟨b, ks, rfl, rd, h0, r⟩
    · exfalso
      cases r with
      | nil => exact ne rfl
      | @cons x y l m h t =>
        simp only [List.all_cons, Bool.and_eq_true] at hall
        exact isF_T hall.1 h.2.2.1
  · right
    rcases dr with ⟨ks, rfl, r⟩ | ⟨lo, ne, z, xs, rfl, r, n⟩
    · cases r with
      | nil =>
        obtain ⟨lo, dd⟩ := dk_nil I rd
        exact ⟨hkey, ht, lo, [], dd, .nil, Nat.zero_le _, fun z => by rw [h0 z]; trivial⟩
      | @cons x y l m h t =>
        exfalso
        simp only [List.all_cons, Bool.and_eq_true] at hall
        have q := (isF_kP y.1).2
        rw [← h.1] at q
        rw [hall.1] at q
        cases q
    · exact ⟨hkey, ht, lo, xs, dt_dict I rd r n, r, z, fun z => by rw [h0 z]; trivial⟩
theorem key_at (I : Inv X pins σ H s) {k : PV} {y : V} {u : Value} (hk : k.key = true) (ht : isT k = true) (r : Rep X.K H k y) (ry : RelV y u) : ∃ b, u = .ref b ∧ y = .ref b ∧ (pvKind X.prog X.w).is s.heap k b := by
  cases k with
  | tup l =>
    have r0 := r
    unfold Rep at r
    obtain ⟨b, vs, rfl, _⟩ := r
    cases ry
    obtain ⟨as, rr⟩ := rep_reads I (key_good _ _ hk) r0 rfl
    exact ⟨b, rfl, rfl, hk, ht, as, rr⟩
  | _ => simp [isT] at ht
theorem room_pv {A : Around} (hu : A.units + 80 < cLine) : (pvKind X.prog X.w).room A.in1 := by show A.units + 1 + 8 < cLine; omega
theorem dict_in (hu : X.A.units + 80 < cLine) : DictIn X := by
  intro neg pins s σ H M k x a kvs ep v Q I rx rk c e hk q
  rcases dct_view I c e hk with ⟨b, ks, rfl, rd, _, r⟩ | ⟨hkey, ht, lo, xs, dd, r, _⟩
  · have ey := rep_kP rk
    have g : DGet H a x (valV ks b) := .inl ⟨ks, b, rd, ey, rfl⟩
    rw [(dk_get b r).2.2] at q
    cases neg with
    | true => exact d_notIn (by omega) I g rx fun s' I' => ⟨.bl _, H, I', rfl, q⟩
    | false => exact d_in (by omega) I g rx fun s' I' => ⟨.bl _, H, I', rfl, q⟩
  · obtain ⟨b, rfl, _, ki⟩ := key_at I hkey ht rk rx
    rw [(dt_get hkey r).2.2] at q
    cases neg with
    | true => exact wpAny_notIn_heap (room_pv hu) ki lo dd ⟨.bl _, H, I.tok _, rfl, q⟩
    | false => exact wpAny_in_heap (room_pv hu) ki lo dd ⟨.bl _, H, I.tok _, rfl, q⟩
/-- where the step behind a subscript's value goes to getItem -/
theorem dict_get (hu : X.A.units + 80 < cLine) : DictGet X := by
  intro value slice pins s σ H M k p y a kvs ep u Q I ry rk c e hk hp q hs
  have fin : (∀ T : s.TypeIs (.ref a) "dict", wpAny (model X.prog X.w) X.A (getItem (.ref a) u) (EP X pins σ Q) X.xe s) → s.TypeIs (.ref a) "dict" → wpAny (model X.prog X.w) X.A (subscriptTail value slice (.ref a) u) (EP X pins σ Q) X.xe s := fun f T => by
    unfold subscriptTail
    refine wpAny_bind ?_
    rw [getitemInPython_of_ne T.not_modules]
    refine wpAny_bind (wpAny_specialOf T PySem.F.slot_dict_getitem.lookup ?_)
    have fin : wpAny (model X.prog X.w) X.A (subscripted slice false (.ref a) u) (fun r s₃ => wpAny (model X.prog X.w) X.A (letTemporaryGo value (.ref a) r >>= fun _ => pure r) (EP X pins σ Q) X.xe s₃) X.xe s := by
      rw [hs]
      exact wpAny_operating (wpAny_mono (f T) (fun r s₃ h₃ => wpAny_bind (wpAny_letTemporaryGo (wpAny_pure h₃))) fun _ _ x => x)
    first
      | exact wpAny_pure (wpAny_bind fin)
      | exact wpAny_bind (wpAny_pure (wpAny_bind fin))
      | exact wpAny_bind fin
  rcases dct_view I c e hk with ⟨b, ks, rfl, rd, _, r⟩ | ⟨hkey, ht, lo, xs, dd, r, _⟩
  · have ey := rep_kP rk
    obtain ⟨v, hv, rv⟩ := (dk_get b r).1 p hp
    have g : DGet H a y (some v) := .inl ⟨ks, b, rd, ey, hv.symm⟩
    refine fin (fun _ => d_getItem (by omega) I g ry fun w' s' I' rw' => ⟨v, H, I', rw', q v rv⟩) (dict_typeIs I g)
  · obtain ⟨b, rfl, _, ki⟩ := key_at I hkey ht rk ry
    obtain ⟨q', v, hq, rv, rv'⟩ := (dt_get hkey r).1 p hp
    refine fin (fun _ => wpAny_getItem_heap (room_pv hu) ki dd hq ⟨v, H, I.tok _, rv', q v rv⟩) dd.typeIs
/-- the entries of a dict's object -/
def ER (K : PySem.W.Frag) (H : Hp) : List (PV × PV) → List DictEntry → Prop := Paired fun x e => (∃ v, Rep K H x.1 v ∧ RelV v e.key) ∧ ∃ v, Rep K H x.2 v ∧ RelV v e.val
theorem er_keys {K : PySem.W.Frag} {H : Hp} : ∀ {kvs : List (PV × PV)} {el : List DictEntry}, ER K H kvs el → ∃ us, RepL K H (kvs.map (·.1)) us ∧ Vals us (el.map (·.key)) := by
  intro kvs el r
  unfold ER at r
  induction r with
  | nil => exact ⟨[], by simp only [List.map_nil]; unfold RepL; rfl, .nil⟩
  | @cons x e l m h t ih =>
    obtain ⟨us, r1, r2⟩ := ih
    obtain ⟨⟨v, h1, h2⟩, _⟩ := h
    refine ⟨v :: us, ?_, .cons h2 r2⟩
    rw [List.map_cons]
    unfold RepL
    exact ⟨v, us, rfl, h1, r1⟩
theorem kP_rep (K : PySem.W.Frag) (H : Hp) (a : Key) : Rep K H (kP a) (kV a) := by cases a <;> (unfold kP kV Rep; rfl)
theorem er_dk {K : PySem.W.Frag} {H : Hp} {prog : Program} {w : World} : ∀ {kvs : List (PV × PV)} {ks : List (Key × V)} {vs : List (Key × Value)} {el : List DictEntry}, DKR K H kvs ks → KV ks vs → Pairs (mixKind prog w) el vs → ER K H kvs el := by
  intro kvs ks vs el r
  unfold DKR at r
  induction r generalizing vs el with
  | nil => intro k p; cases k; cases p; exact .nil
  | @cons x y l m h t ih =>
    intro k p
    cases k with
    | cons k1 k2 =>
      cases p with
      | cons p1 p2 p3 =>
        refine .cons ⟨⟨kV y.1, ?_, ?_⟩, y.2, h.2, ?_⟩ (ih k2 p3)
        · rw [h.1]; exact kP_rep K H y.1
        · rw [k1.1]; exact relV_key p1
        · rw [p2]; exact k1.2
theorem er_dt {K : PySem.W.Frag} {H : Hp} {prog : Program} {w : World} : ∀ {kvs : List (PV × PV)} {xs : List (PV × Addr × Value)}, DTR K H kvs xs → ER K H kvs (xs.map (entryOfKey (pvKind prog w))) := by
  intro kvs xs r
  unfold DTR at r
  induction r with
  | nil => exact .nil
  | @cons x y l m h t ih =>
    obtain ⟨h1, h2, h3, h4, v, h5, h6⟩ := h
    exact .cons ⟨⟨.ref y.2.1, h4, rfl⟩, v, h5, h6⟩ ih
theorem dict_raw (I : Inv X pins σ H s) {M : MH} {a : Addr} {kvs : List (PV × PV)} {ep : Nat} (c : Cor X.prog X.w X.K H M) (e : M a = some (.dct kvs ep)) :
    ∃ es ep', PySem.Heap.DictRaw s.heap a es ep' ∧ (a == sysModules) = false ∧ es.size = kvs.length ∧ kvs.length ≤ sizeLine ∧ ER X.K H kvs es.toList := by
  obtain ⟨u, h0, rd, dr⟩ := c.ok a _ e
  rcases dr with ⟨ks, rfl, r⟩ | ⟨lo, ne, z, xs, rfl, r, n⟩
  · obtain ⟨z, lo, vs, rel, o, es, ep', h1, h2, h3, _, h5, _⟩ := dk_rd I.hok rd
    have er : ER X.K H kvs es.toList := er_dk r rel h5
    have l1 := Paired.length er
    rw [Array.length_toList] at l1
    have l2 := Paired.length r
    exact ⟨es, ep', ⟨o, h1, h2, h3⟩, lo, l1.symm, by omega, er⟩
  · obtain ⟨o, es, ep', h1, h2, h3, h4⟩ := ext_rd I rd
    have er : ER X.K H kvs es.toList := by rw [h4]; exact er_dt r
    have l1 := Paired.length er
    rw [Array.length_toList] at l1
    exact ⟨es, ep', ⟨o, h1, h2, h3⟩, lo, l1.symm, z, er⟩
theorem dict_coll (hc : X.calm = true) (I : Inv X pins σ H s) {M : MH} {a : Addr} {kvs : List (PV × PV)} {ep : Nat} (c : Cor X.prog X.w X.K H M) (e : M a = some (.dct kvs ep)) :
    ∃ vs, RepL X.K H (kvs.map (·.1)) vs ∧ ∀ (A : Around) (E : Value → Shared → Prop) (R : List Value → Shared → Prop), A.handled = none → (∀ us h1 tk, Vals vs us → (∀ b o, s.heap.get? b = some o → h1.get? b = some o) → R us { s with heap := h1, toks := tk }) → wpAny (model X.prog X.w) A (collect (.ref a)) R E s := by
  obtain ⟨es, ep', raw, lo, hsz, hz, er⟩ := dict_raw I c e
  obtain ⟨vs, r1, r2⟩ := er_keys er
  refine ⟨vs, r1, fun A E R hh hR => ?_⟩
  refine PySem.W.kdu_collect (PySem.KdlSrc.rawDict (es := es) (ep := ep') lo) hh raw (by omega) fun h' tk acc hk hacc => ?_
  have : acc.toList = es.toList.map (·.key) := by
    apply List.ext_getElem?
    intro i
    by_cases hi : i < es.size
    · have hi2 : i < acc.size := by rw [hacc.1]; exact hi
      have e1 : acc[i]? = some acc[i] := by simp [hi2]
      obtain ⟨hi3, e2⟩ := hacc.2 i _ e1
      rw [Array.getElem?_toList, e1, e2]
      simp [hi]
    · rw [List.getElem?_eq_none (by rw [Array.length_toList, hacc.1]; omega), List.getElem?_eq_none (by simp; omega)]
  exact hR _ h' tk (by rw [this]; exact r2) hk
theorem dict_len (hc : X.calm = true) {pins : List (Addr × Obj)} {s : Shared} {σ : L2.St} {H : Hp} {M : MH} {a : Addr} {kvs : List (PV × PV)} {ep : Nat} {Q : VK} (I : Inv X pins σ H s) (c : Cor X.prog X.w X.K H M) (e : M a = some (.dct kvs ep)) (q : Q (.int kvs.length) H) :
    wpAny (model X.prog X.w) X.A (call (.builtin "len") [.ref a]) (EP X pins σ Q) X.xe s := by
  obtain ⟨es, ep', raw, lo, hsz, hz, er⟩ := dict_raw I c e
  refine Calls.call_function_entry kind_len plain_len entry_len (args_len1 _) ?_
  have hfit : (es.size : Int) < 2 ^ 63 := by
    have := line63
    omega
  unfold Builtin.«len»
  refine wpAny_bind (m := oneArg "len" _) (wpAny_pure ?_)
  refine wpAny_bind (m := callSpecial? (.ref a) (Str.ofString "__len__")) (wpAny_callSpecial?_slot (name := Str.ofString "__len__") raw.typeIs F.slot_dict_len
    (call_len_raw lo raw ?_))
  show wpAny _ _ _ _ _ { s with toks := s.toks + 1 }
  refine wpAny_bind (wpAny_holding (wpAny_pure ?_))
  refine wpAny_bind (wpAny_letGo ?_)
  show wpAny _ _ (if ((es.size : Nat) : Int) < 0 then _ else _) _ _ _
  rw [if_neg (by omega)]
  show wpAny _ _ (if ((es.size : Nat) : Int) ≥ 2 ^ 63 then _ else _) _ _ _
  rw [if_neg (by omega)]
  exact wpAny_bind (wpAny_mkInt (wpAny_pure ⟨_, rfl, .int kvs.length, H, I.tok _, ⟨_, by rw [hsz]⟩, q⟩))
theorem dict_list (hc : X.calm = true) {pins : List (Addr × Obj)} {s : Shared} {σ : L2.St} {H : Hp} {M : MH} {a : Addr} {kvs : List (PV × PV)} {ep : Nat} {Q : VK} (I : Inv X pins σ H s) (c : Cor X.prog X.w X.K H M) (e : M a = some (.dct kvs ep))
    (q : ∀ l vs, H l = none → RepL X.K H (kvs.map (·.1)) vs → Q (.ref l) (upd H l (.lst vs))) :
    wpAny (model X.prog X.w) X.A (call (.type "list") [.ref a]) (EP X pins σ Q) X.xe s := by
  obtain ⟨es, ep', raw, lo, hsz, hz, er⟩ := dict_raw I c e
  obtain ⟨vs, r1, r2⟩ := er_keys er
  refine PySem.W.kdl_call (PySem.KdlSrc.rawDict (es := es) (ep := ep') lo) (I.ok.hd hc) raw (by omega) fun h' tk acc c' hk hS hacc => ?_
  have ea : acc.toList = es.toList.map (·.key) := by
    apply List.ext_getElem?
    intro i
    by_cases hi : i < es.size
    · have hi2 : i < acc.size := by rw [hacc.1]; exact hi
      have e1 : acc[i]? = some acc[i] := by simp [hi2]
      obtain ⟨hi3, e2⟩ := hacc.2 i _ e1
      rw [Array.getElem?_toList, e1, e2]
      simp [hi]
    · rw [List.getElem?_eq_none (by rw [Array.length_toList, hacc.1]; omega), List.getElem?_eq_none (by simp; omega)]
  refine ⟨.ref s.heap.objs.size, upd H s.heap.objs.size (.lst vs), I.laid (t' := tk) hk (Nat.le_refl _) ⟨?_, acc.toList, c', by rw [ea]; exact r2, hS⟩, rfl, q _ vs (I.hok.fresh (Nat.le_refl _)) r1⟩
  rw [← r1.length, List.length_map]; exact hz
theorem dk_put {K : PySem.W.Frag} {H : Hp} {kvs : List (PV × PV)} {ks : List (Key × V)} {b : Key} {v : PV} {x : V} (r : DKR K H kvs ks) (rv : Rep K H v x) : DKR K H (kput kvs (kP b) v) (putK ks b x) := by
  have hh := (dk_get b r).2.2
  unfold kput putK
  have e2 : (ks.any fun kv => decide (kv.1 = b)) = (valV ks b).isSome := by
    unfold valV
    rw [Option.isSome_map]
    clear hh r
    induction ks with
    | nil => rfl
    | cons y m ih =>
      simp only [List.any_cons, List.find?_cons, ih]
      cases decide (y.1 = b) <;> rfl
  rw [hh, e2]
  split
  · unfold DKR at r ⊢
    clear hh e2
    rename_i hs
    clear hs
    induction r with
    | nil => exact .nil
    | @cons z y l m h t ih =>
      simp only [List.map_cons]
      refine .cons ?_ ih
      have e : pyEq z.1 (kP b) = decide (y.1 = b) := by rw [h.1, pyEq_kP]
      by_cases c : y.1 = b
      · rw [if_pos (by rw [e]; simp [c]), if_pos c]; exact ⟨h.1, rv⟩
      · rw [if_neg (by rw [e]; simp [c]), if_neg c]; exact h
  · have app : ∀ {l : List (PV × PV)} {m : List (Key × V)}, DKR K H l m → DKR K H (l ++ [(kP b, v)]) (m ++ [(b, x)]) := by
      intro l m q
      unfold DKR at q ⊢
      induction q with
      | nil => exact .cons ⟨rfl, rv⟩ .nil
      | cons h t ih => exact .cons h ih
    exact app r
theorem dt_put {K : PySem.W.Frag} {H : Hp} {kvs : List (PV × PV)} {xs : List (PV × Addr × Value)} {k v : PV} {b : Addr} {x : V} {u : Value} (hk : k.key = true) (ht : isT k = true) (rk : Rep K H k (.ref b)) (r : DTR K H kvs xs) (rv : Rep K H v x) (ru : RelV x u) : DTR K H (kput kvs k v) (storedH xs k b u) := by
  have hh := (dt_get hk r).2.2
  unfold kput storedH
  rw [hh]
  split
  · unfold DTR at r ⊢
    clear hh
    rename_i hs
    clear hs
    induction r with
    | nil => exact .nil
    | @cons z y l m h t ih =>
      simp only [List.map_cons]
      refine .cons ?_ ih
      obtain ⟨h1, h2, h3, h4, v', h5, h6⟩ := h
      have e := key_eq z.1 k 7 7 h2 hk
      unfold putAt
      by_cases c : y.1 = k
      · rw [if_pos (e.mpr (h1.trans c)), if_pos c]; exact ⟨h1, h2, h3, h4, x, rv, ru⟩
      · rw [if_neg (fun z' => c (h1.symm.trans (e.mp z'))), if_neg c]; exact ⟨h1, h2, h3, h4, v', h5, h6⟩
  · have app : ∀ {l : List (PV × PV)} {m : List (PV × Addr × Value)}, DTR K H l m → DTR K H (l ++ [(k, v)]) (m ++ [(k, b, u)]) := by
      intro l m q
      unfold DTR at q ⊢
      induction q with
      | nil => exact .cons ⟨rfl, hk, ht, rk, x, rv, ru⟩ .nil
      | cons h t ih => exact .cons h ih
    exact app r
theorem kput_len (kvs : List (PV × PV)) (k v : PV) : (kput kvs k v).length ≤ kvs.length + 1 := by
  unfold kput; split <;> simp
theorem kput_ne (kvs : List (PV × PV)) (k v : PV) : kput kvs k v ≠ [] := by
  unfold kput khas; split
  · rename_i h
    cases kvs with
    | nil => simp at h
    | cons a b => simp
  · simp
theorem DKR.le {K : PySem.W.Frag} {H H' : Hp} {kvs : List (PV × PV)} {ks : List (Key × V)} (h : Hle H H') (r : DKR K H kvs ks) : DKR K H' kvs ks := Paired.mono r fun a b q => ⟨q.1, q.2.le h⟩
theorem DTR.le {K : PySem.W.Frag} {H H' : Hp} {kvs : List (PV × PV)} {ks : List (PV × Addr × Value)} (h : Hle H H') (r : DTR K H kvs ks) : DTR K H' kvs ks := Paired.mono r fun a b q => by
  obtain ⟨q1, q2, q3, q4, v, q5, q6⟩ := q
  exact ⟨q1, q2, q3, q4.le h, v, q5.le h, q6⟩
theorem ext_ok {P : Program} {w : World} {H' : Hp} {h' : Heap} {a : Addr} {xs : List (PV × Addr × Value)} (dd : h'.DictOfH (pvKind P w) a xs) : ObjOk P w H' h' a (dTO P w a xs) := by
  obtain ⟨o, es, ep, h1, h2, h3, h4, _⟩ := dd
  refine ⟨⟨o, es, ep, h1, h2, h3, h4⟩, ⟨o, h1⟩, fun g1 g2 ⟨o', es', ep', p1, p2, p3, p4⟩ k => ⟨o', es', ep', k _ p1, p2, p3, p4⟩⟩
theorem dict_set (hu : X.A.units + 80 < cLine) {M : MH} {a : Addr} {kvs : List (PV × PV)} {k v : PV} {y x : V} {u r : Value} {E : Value → Shared → Prop} {Q : Unit → Shared → Prop} (I : Inv X pins σ H s) (c : Cor X.prog X.w X.K H M) (e : M a = some (.dct kvs 0)) (hk : kOk kvs k = true)
    (rk : Rep X.K H k y) (ry : RelV y u) (rv : Rep X.K H v x) (rx : RelV x r) (hl : kvs.length < LIM)
    (h : ∀ s' H', Inv X pins σ H' s' → Hle H H' → Cor X.prog X.w X.K H' (M.upd a (.dct (kput kvs k v) 0)) → Q () s') : wpAny (model X.prog X.w) X.A (setItem (.ref a) u r) Q E s := by
  have hz := Nat.lt_of_lt_of_le hl lim_le
  rcases dct_view I c e hk with ⟨b, ks, rfl, rd, h0, rr⟩ | ⟨hkey, ht, lo, xs, dd, rr, _, hm⟩
  · have ey := rep_kP rk
    have h0 := h0 rfl
    have hlen := Paired.length rr
    refine d_setItem (by omega) I (.inl ⟨ks, b, h0, ey, by omega, rfl⟩) ry rx fun s' I' => ?_
    have hle : Hle H (upd H a (.dK (putK ks b x))) := .mut h0 trivial
    refine h s' _ I' hle (c.put h0 trivial ⟨_, fun _ => upd_same, .inl upd_same, .inl ⟨_, rfl, (dk_put rr rv).le hle⟩⟩)
  · obtain ⟨b, rfl, rfl, ki⟩ := key_at I hkey ht rk ry
    have hm := hm rfl
    have hlen := Paired.length rr
    refine wpAny_setItem_heap (hsz := by omega) (room_pv hu) ki dd fun h' dd' hs => ?_
    cases hH : H a with
    | none => rw [hH] at hm; exact hm.elim
    | some uo =>
      rw [hH] at hm
      have hle : Hle H (upd H a (dTO X.prog X.w a (storedH xs k b r))) := .mut hH hm
      obtain ⟨o', es', ep', g1, g2, g3, g4, g5, g6⟩ := id dd'
      refine h _ _ (d_write I (by rw [hH]; exact hm) hs ⟨o', g1⟩ (ext_ok dd')) hle (c.put hH hm ?_)
      refine ⟨_, fun _ => upd_same, .inl upd_same, .inr ⟨lo, kput_ne _ _ _, ?_, _, rfl, (dt_put hkey ht rk rr rv rx).le hle, g6⟩⟩
      have := kput_len kvs k v
      omega
end
end PL
/-! PLu6: dicts of pairs, of dicts; methods; displays. -/
namespace PL
open PySem PySem.Spec PySem.W PyProof.Rows L2

/-- a pair as it stands -/
def PR (K : PySem.W.Frag) (H : Hp) (h : Heap) (x : PV × PV) (t : Addr × Value × Value) : Prop := PairAt h t.1 t.2.1 t.2.2 ∧ (∃ v, Rep K H x.1 v ∧ RelV v t.2.1) ∧ ∃ v, Rep K H x.2 v ∧ RelV v t.2.2
section
variable {X : Cx} {pins : List (Addr × Obj)} {σ : L2.St} {H : Hp} {s : Shared}
theorem pairs_of (I : Inv X pins σ H s) : ∀ {l : List PV} {vs : List V} {its : List Value} {ps : List (PV × PV)}, RepL X.K H l vs → Vals vs its → pairsOfL l = some ps → ∃ tl : List (Addr × Value × Value), its = tl.map (fun t => Value.ref t.1) ∧ Paired (PR X.K H s.heap) ps tl
  | [], vs, its, ps, r, q, e => by
    unfold RepL at r
    subst r
    cases q
    simp only [pairsOfL, Option.some.injEq] at e
    subst e
    exact ⟨[], rfl, .nil⟩
  | p :: l, vs, its, ps, r, q, e => by
    unfold RepL at r
    obtain ⟨v, ws, rfl, rp, r⟩ := r
    cases q with
    | @cons _ u _ us q1 q2 =>
      simp only [pairsOfL] at e
      split at e
      · rename_i x rr e1 e2
        cases e
        obtain ⟨tl, et, pt⟩ := pairs_of I r q2 e2
        have : ∃ k v', p = .tup [k, v'] ∧ x = (k, v') := by
          unfold pairOf at e1
          split at e1
          · cases e1; exact ⟨_, _, rfl, rfl⟩
          · cases e1
        obtain ⟨k, v', rfl, rfl⟩ := this
        unfold Rep at rp
        obtain ⟨a, vs2, rfl, sq, _, rl⟩ := rp
        cases q1
        obtain ⟨y, z, rfl, ry, rz⟩ : ∃ y z, vs2 = [y, z] ∧ Rep X.K H k y ∧ Rep X.K H v' z := repl_two rl
        obtain ⟨its2, rv, ⟨o, ho, hcl, n, hd⟩, _⟩ := I.tuple sq
        obtain ⟨u1, u2, rfl, r1, r2⟩ : ∃ u1 u2, its2 = [u1, u2] ∧ RelV y u1 ∧ RelV z u2 := by
          cases rv with
          | cons h1 t => cases t with
            | cons h2 t => cases t; exact ⟨_, _, rfl, h1, h2⟩
        exact ⟨(a, u1, u2) :: tl, by rw [et]; rfl, .cons ⟨.inl ⟨o, ho, hcl, n, hd⟩, ⟨y, ry, r1⟩, z, rz, r2⟩ pt⟩
      · cases e
theorem paired_get {α β : Type} {F : α → β → Prop} : ∀ {l₁ : List α} {l₂ : List β}, Paired F l₁ l₂ → ∀ {i : Nat} {b : β}, l₂[i]? = some b → ∃ a, l₁[i]? = some a ∧ F a b
  | _, _, .nil, i, b, e => by simp at e
  | _, _, .cons h t, 0, b, e => by simp at e; subst e; exact ⟨_, rfl, h⟩
  | _, _, .cons h t, i + 1, b, e => by
    simp only [List.getElem?_cons_succ] at e ⊢
    exact paired_get t e
theorem paired_get' {α β : Type} {F : α → β → Prop} : ∀ {l₁ : List α} {l₂ : List β}, Paired F l₁ l₂ → ∀ {i : Nat} {a : α}, l₁[i]? = some a → ∃ b, l₂[i]? = some b ∧ F a b
  | _, _, .nil, i, b, e => by simp at e
  | _, _, .cons h t, 0, b, e => by simp at e; subst e; exact ⟨_, rfl, h⟩
  | _, _, .cons h t, i + 1, b, e => by
    simp only [List.getElem?_cons_succ] at e ⊢
    exact paired_get' t e
/-- the argument of dict(..), .update(..) -/
theorem pairs_arg {ps : List (PV × PV)} {tl : List (Addr × Value × Value)} (pt : Paired (PR X.K H s.heap) ps tl) : PairItems s.heap (tl.map (fun t => Value.ref t.1)).toArray (fun j => ((tl[j]?).map (·.1)).getD 0) (tl.map (·.2)) := by
  refine ⟨by simp, fun j k v hj => ?_⟩
  rw [List.getElem?_map] at hj
  cases e : tl[j]? with
  | none => rw [e] at hj; cases hj
  | some t =>
    rw [e] at hj
    simp only [Option.map_some, Option.some.injEq] at hj
    obtain ⟨x, hx, f⟩ := paired_get pt e
    refine ⟨by simp [e], ?_⟩
    have := f.1
    rw [hj] at this
    show PairAt s.heap ((Option.map (·.1) tl[j]?).getD 0) k v
    rw [e]
    exact this
theorem allF_split {ps : List (PV × PV)} {tl : List (Addr × Value × Value)} {h : Heap} (pt : Paired (PR X.K H h) ps tl) (hf : allF ps = true) : ∃ (ks : List (Key × V)) (rs : List (Key × Value)), DKR X.K H ps ks ∧ KV ks rs ∧ Paired (fun (t : Addr × Value × Value) (r : Key × Value) => r.2 = t.2.2 ∧ (mixKind X.prog X.w).is r.1 t.2.1 = true) tl rs := by
  induction pt with
  | nil => exact ⟨[], [], .nil, .nil, .nil⟩
  | @cons x t l m h t' ih =>
    simp only [allF, List.all_cons, Bool.and_eq_true] at hf
    obtain ⟨⟨hk, hx⟩, hf⟩ := hf
    obtain ⟨ks, rs, i1, i2, i3⟩ := ih hf
    obtain ⟨b, hb⟩ := isF_of hx
    obtain ⟨h1, ⟨v, h2, h3⟩, w', h4, h5⟩ := h
    rw [hb] at h2
    have ev := rep_kP h2
    subst ev
    exact ⟨(b, w') :: ks, (b, t.2.2) :: rs, .cons ⟨hb, h4⟩ i1, .cons ⟨rfl, h5⟩ i2, .cons ⟨rfl, kV_is h3⟩ i3⟩
theorem allT_split {ps : List (PV × PV)} {tl : List (Addr × Value × Value)} {h : Heap} (pt : Paired (PR X.K H h) ps tl) (hf : allT ps = true) : ∃ xs : List (PV × Addr × Value), DTR X.K H ps xs ∧ Paired (fun (t : Addr × Value × Value) (x : PV × Addr × Value) => t.2.1 = .ref x.2.1 ∧ t.2.2 = x.2.2) tl xs := by
  induction pt with
  | nil => exact ⟨[], .nil, .nil⟩
  | @cons x t l m h t' ih =>
    simp only [allT, List.all_cons, Bool.and_eq_true] at hf
    obtain ⟨⟨hk, hx⟩, hf⟩ := hf
    obtain ⟨xs, i1, i2⟩ := ih hf
    obtain ⟨h1, ⟨v, h2, h3⟩, w', h4, h5⟩ := h
    obtain ⟨a, ha⟩ : ∃ a, v = .ref a := by
      cases e : x.1 with
      | tup l =>
        rw [e] at h2
        unfold Rep at h2
        obtain ⟨a, _, rfl, _⟩ := h2
        exact ⟨a, rfl⟩
      | _ => rw [e] at hx; simp [isT] at hx
    subst ha
    exact ⟨(x.1, a, t.2.2) :: xs, .cons ⟨rfl, hk, hx, h2, w', h4, h5⟩ i1, .cons ⟨h3, rfl⟩ i2⟩
theorem kputs_cons (kvs : List (PV × PV)) (x : PV × PV) (ps : List (PV × PV)) : kputs kvs (x :: ps) = kputs (kput kvs x.1 x.2) ps := rfl
theorem kputs_len : ∀ (ps kvs : List (PV × PV)), (kputs kvs ps).length ≤ kvs.length + ps.length
  | [], kvs => by show kvs.length ≤ _; omega
  | x :: ps, kvs => by
    have h1 := kputs_len ps (kput kvs x.1 x.2)
    have h2 := kput_len kvs x.1 x.2
    rw [kputs_cons, List.length_cons]
    omega
theorem kputs_ne : ∀ (ps kvs : List (PV × PV)), kvs ≠ [] ∨ ps ≠ [] → kputs kvs ps ≠ []
  | [], kvs, h => by
    rcases h with h | h
    · exact h
    · exact absurd rfl h
  | x :: ps, kvs, h => by
    rw [kputs_cons]
    exact kputs_ne ps _ (.inl (kput_ne _ _ _))
theorem dk_puts {K : PySem.W.Frag} {H : Hp} {ps : List (PV × PV)} {ms : List (Key × V)} (q : DKR K H ps ms) : ∀ {kvs : List (PV × PV)} {ks : List (Key × V)}, DKR K H kvs ks → DKR K H (kputs kvs ps) (mergeK ks ms) := by
  unfold DKR at q
  induction q with
  | nil => intro kvs ks r; exact r
  | @cons x y l m h t ih =>
    intro kvs ks r
    rw [kputs_cons]
    have := dk_put (b := y.1) r h.2
    rw [← h.1] at this
    exact ih this
theorem dt_puts {K : PySem.W.Frag} {H : Hp} {ps : List (PV × PV)} {ms : List (PV × Addr × Value)} (q : DTR K H ps ms) : ∀ {kvs : List (PV × PV)} {xs : List (PV × Addr × Value)}, DTR K H kvs xs → DTR K H (kputs kvs ps) (storedAllH xs ms) := by
  unfold DTR at q
  induction q with
  | nil => intro kvs ks r; exact r
  | @cons x y l m h t ih =>
    intro kvs ks r
    rw [kputs_cons]
    obtain ⟨h1, h2, h3, h4, v, h5, h6⟩ := h
    have := dt_put (k := x.1) (v := x.2) (b := y.2.1) h2 h3 h4 r h5 h6
    have e : storedAllH ks (y :: m) = storedAllH (storedH ks x.1 y.2.1 y.2.2) m := by rw [h1]; rfl
    rw [e]
    exact ih this
theorem isk_keep {h h' : Heap} {p : PV} {a : Addr} (x : IsK h p a) (k : ∀ b o vs n, h.get? b = some o → o.cls = .type "tuple" → o.data = .seq vs n → h'.get? b = some o) : IsK h' p a :=
  ⟨x.key, x.tup, let ⟨as, r⟩ := x.reads; ⟨as, reads_keep k p 7 _ as (key_good _ _ x.key) r⟩⟩
theorem have_F {tl : List (Addr × Value × Value)} {rs : List (Key × Value)} (i3 : Paired (fun (t : Addr × Value × Value) (r : Key × Value) => r.2 = t.2.2 ∧ (mixKind X.prog X.w).is r.1 t.2.1 = true) tl rs) : PairsHave (mixKind X.prog X.w) (tl.map (·.2)).length (PairRel (tl.map (·.2))) rs := by
  refine ⟨by rw [List.length_map]; exact (Paired.length i3).symm, fun i key v hr => ?_⟩
  unfold PairRel at hr
  rw [List.getElem?_map] at hr
  cases e : tl[i]? with
  | none => rw [e] at hr; cases hr
  | some t =>
    rw [e] at hr
    simp only [Option.map_some, Option.some.injEq] at hr
    obtain ⟨r, hr2, f1, f2⟩ := paired_get' i3 e
    rw [hr] at f1 f2
    exact ⟨r.1, by rw [hr2]; congr 1; exact Prod.ext rfl f1, f2⟩
theorem have_T {tl : List (Addr × Value × Value)} {xs : List (PV × Addr × Value)} (i3 : Paired (fun (t : Addr × Value × Value) (x : PV × Addr × Value) => t.2.1 = .ref x.2.1 ∧ t.2.2 = x.2.2) tl xs) : PairsHaveH (pvKind X.prog X.w) (tl.map (·.2)).length (PairRel (tl.map (·.2))) xs := by
  refine ⟨by rw [List.length_map]; exact (Paired.length i3).symm, fun i key v hr => ?_⟩
  unfold PairRel at hr
  rw [List.getElem?_map] at hr
  cases e : tl[i]? with
  | none => rw [e] at hr; cases hr
  | some t =>
    rw [e] at hr
    simp only [Option.map_some, Option.some.injEq] at hr
    obtain ⟨r, hr2, f1, f2⟩ := paired_get' i3 e
    rw [hr] at f1 f2
    refine ⟨r.1, r.2.1, ?_, f1⟩
    rw [hr2]
    have : v = r.2.2 := f2
    rw [this]
theorem vals_keep {h h' : Heap} {xs : List (PV × Addr × Value)} (q : ∀ x ∈ xs, IsK h x.1 x.2.1) (k : ∀ b o vs n, h.get? b = some o → o.cls = .type "tuple" → o.data = .seq vs n → h'.get? b = some o) : ∀ x ∈ xs, IsK h' x.1 x.2.1 := fun x hx => isk_keep (q x hx) k
/-- a list's object as the pairs' rule wants it -/
theorem lst_plain (I : Inv X pins σ H s) {a : Addr} {vs : List V} (q : SqL X.K H a vs) : ∃ its, Vals vs its ∧ vs.length ≤ sizeLine ∧ PlainSeq "list" s.heap a its.toArray := by
  obtain ⟨its, rv, ⟨o, n, ho, hc, hd, hdat⟩, hz⟩ := I.list q
  exact ⟨its, rv, hz, o, n, ho, hc, hd, hdat⟩
theorem mrep_F {K : PySem.W.Frag} {H' : Hp} {a : Addr} {kvs : List (PV × PV)} {ks : List (Key × V)} (r : DKR K H' kvs ks) (e : H' a = some (.dK ks)) : MRep X.prog X.w K H' a (.dct kvs 0) := ⟨_, fun _ => e, .inl e, .inl ⟨_, rfl, r⟩⟩
theorem mrep_T {K : PySem.W.Frag} {H' : Hp} {a : Addr} {kvs : List (PV × PV)} {xs : List (PV × Addr × Value)} (lo : (a == sysModules) = false) (ne : kvs ≠ []) (hz : kvs.length ≤ sizeLine) (r : DTR K H' kvs xs) (n : (xs.map (·.1)).Nodup) (e : H' a = some (dTO X.prog X.w a xs)) : MRep X.prog X.w K H' a (.dct kvs 0) :=
  ⟨_, fun _ => e, .inl e, .inr ⟨lo, ne, hz, _, rfl, r, n⟩⟩
theorem allF_nil {ps : List (PV × PV)} (h : ps = []) : allF ps = true := by subst h; rfl
/-- dict(list of pairs) -/
theorem dict_dict (hc : X.calm = true) (hu : X.A.units + 80 < cLine) {M : MH} {b : Addr} {l : List PV} {ps : List (PV × PV)} {Q : VK} (I : Inv X pins σ H s) (c : Cor X.prog X.w X.K H M) (e : lstOf M b = some l) (e2 : pairsOfL l = some ps) (hk : (allF ps || allT ps) = true) (hl : ps.length ≤ LIM)
    (q : ∀ d u, H d = none → MRep X.prog X.w X.K (upd H d u) d (.dct (kputs [] ps) 0) → Q (.ref d) (upd H d u)) : wpAny (model X.prog X.w) X.A (call (.type "dict") [.ref b]) (EP X pins σ Q) X.xe s := by
  obtain ⟨vs, sq, rl⟩ := lstOf_cor c e
  obtain ⟨its, rv, hz, pl⟩ := lst_plain I sq
  obtain ⟨tl, rfl, pt⟩ := pairs_of I rl rv e2
  have pa := pairs_arg pt
  have hlen := Paired.length pt
  have hlz := Nat.le_trans hl lim_le
  have hnew : H s.heap.objs.size = none := I.hok.fresh (Nat.le_refl _)
  have P := PairArg.list (prog := X.prog) (w := X.w) b (tl.map (fun t => Value.ref t.1)).toArray (fun j => ((tl[j]?).map (·.1)).getD 0) (tl.map (·.2))
  have hpz : (kputs [] ps).length ≤ sizeLine := by
    have h1 := kputs_len ps []
    simp only [List.length_nil, Nat.zero_add] at h1
    omega
  have lo : (s.heap.objs.size == sysModules) = false := beq_eq_false_iff_ne.mpr (Ne.symm (Nat.ne_of_lt I.big))
  by_cases hF : allF ps = true
  · obtain ⟨ks, rs, i1, i2, i3⟩ := allF_split pt hF
    refine PySem.call_dict_pairs P (I.ok.hd hc) ⟨pl, pa⟩ (have_F i3) (by rw [List.length_map]; omega) fun h' tk dd hkp => ?_
    have kv : KV (mergeK [] ks) (merged [] rs) := i2.merge .nil
    have hz2 : (mergeK [] ks).length ≤ sizeLine := by
      have h1 := length_mergeK ks []
      have h2 := Paired.length i1
      simp only [List.length_nil, Nat.zero_add] at h1
      omega
    have I' : Inv X pins σ (upd H s.heap.objs.size (.dK (mergeK [] ks))) { s with heap := h', toks := tk } := I.laid (t' := tk) (fun b o ho => hkp b o (by simp) ho) (Nat.le_refl _) (dk_new hz2 lo kv dd)
    exact ⟨.ref s.heap.objs.size, _, I', rfl, q _ _ hnew (mrep_F ((dk_puts i1 .nil).le (.new hnew)) upd_same)⟩
  · have hT : allT ps = true := by simpa [hF] using hk
    obtain ⟨xs, i1, i3⟩ := allT_split pt hT
    have hne : ps ≠ [] := fun z => hF (allF_nil z)
    refine PySem.call_dict_pairsH P (I.ok.hd hc) (by show X.A.units + 1 + 1 + 8 < cLine; omega) ⟨pl, pa⟩ (have_T i3) (fun h' hk2 => vals_keep (dt_is I i1) fun b o vs n hb _ _ => hk2 b o (Nat.ne_of_lt (Heap.lt_size hb)) (by simp) hb) (by rw [List.length_map]; omega) fun h' tk dd hkp => ?_
    obtain ⟨o', es', ep', g1, g2, g3, g4, g5, g6⟩ := id dd
    have I' : Inv X pins σ (upd H s.heap.objs.size (dTO X.prog X.w s.heap.objs.size (storedAllH [] xs))) { s with heap := h', toks := tk } := I.laid (t' := tk) (fun b o ho => hkp b o (by simp) ho) (Nat.le_refl _) (ext_ok dd)
    exact ⟨.ref s.heap.objs.size, _, I', rfl, q _ _ hnew (mrep_T lo (kputs_ne ps [] (.inr hne)) hpz ((dt_puts i1 .nil).le (.new hnew)) g6 upd_same)⟩
theorem dcalls (hc : X.calm = true) (hu : X.A.units + 80 < cLine) : DictCalls X := ⟨fun pins s σ H M a kvs ep Q I c e q => dict_len hc I c e q, fun pins s σ H M a kvs ep Q I c e hl q => dict_list hc I c e q, fun pins s σ H M a kvs ep I c e hl => by
    obtain ⟨vs, r, h⟩ := dict_coll hc I c e
    exact ⟨vs, r, fun R hR => h _ _ _ (I.ok.hd hc) hR⟩, fun pins s σ H M b l ps Q I c e e2 hk hl q => dict_dict hc hu I c e e2 hk hl q⟩
/-- a dict that is written: by the kind of the keys to come -/
theorem dct_open (I : Inv X pins σ H s) {M : MH} {a : Addr} {kvs : List (PV × PV)} (c : Cor X.prog X.w X.K H M) (e : M a = some (.dct kvs 0)) :
    (allF kvs = true → ∃ ks, H a = some (.dK ks) ∧ DKR X.K H kvs ks) ∧ (allT kvs = true → (a == sysModules) = false ∧ ∃ xs, s.heap.DictOfH (pvKind X.prog X.w) a xs ∧ DTR X.K H kvs xs ∧ Mut (H a)) ∧ kvs.length ≤ sizeLine := by
  obtain ⟨u, h0, rd, dr⟩ := c.ok a _ e
  have h0 := h0 rfl
  rcases dr with ⟨ks, rfl, r⟩ | ⟨lo, ne, z, xs, rfl, r, n⟩
  · refine ⟨fun _ => ⟨ks, h0, r⟩, fun ht => ?_, ?_⟩
    · cases r with
      | nil =>
        obtain ⟨lo, dd⟩ := dk_nil I rd
        exact ⟨lo, [], dd, .nil, by rw [h0]; trivial⟩
      | @cons x y l m h t =>
        exfalso
        simp only [allT, List.all_cons, Bool.and_eq_true] at ht
        have q := (isF_kP y.1).2
        rw [← h.1] at q
        rw [ht.1.2] at q
        cases q
    · obtain ⟨z, _⟩ := dk_rd I.hok rd
      have := Paired.length r
      omega
  · refine ⟨fun hf => ?_, fun _ => ⟨lo, xs, dt_dict I rd r n, r, by rw [h0]; trivial⟩, z⟩
    exfalso
    cases r with
    | nil => exact ne rfl
    | @cons x y l m h t =>
      simp only [allF, List.all_cons, Bool.and_eq_true] at hf
      exact isF_T hf.1.2 h.2.2.1
/-- d.update(list of pairs) -/
theorem dict_updL (hc : X.calm = true) (hu : X.A.units + 80 < cLine) {M : MH} {a b : Addr} {kvs : List (PV × PV)} {l : List PV} {ps : List (PV × PV)} {Q : VK} (I : Inv X pins σ H s) (c : Cor X.prog X.w X.K H M) (ea : M a = some (.dct kvs 0)) (e : M b = some (.lst l)) (e2 : pairsOfL l = some ps)
    (hk : (allF kvs && allF ps || allT kvs && allT ps) = true) (hl : kvs.length + ps.length ≤ LIM)
    (q : ∀ H', Hle H H' → Cor X.prog X.w X.K H' (M.upd a (.dct (kputs kvs ps) 0)) → Q .non H') : wpAny (model X.prog X.w) X.A (call (.builtin "dict.update") [.ref a, .ref b]) (EP X pins σ Q) X.xe s := by
  obtain ⟨vs, hb, rl⟩ := c.ok b _ e
  obtain ⟨its, rv, hz, pl⟩ := lst_plain I (SqL.of hb)
  obtain ⟨tl, rfl, pt⟩ := pairs_of I rl rv e2
  have pa := pairs_arg pt
  have hlen := Paired.length pt
  have hlz := Nat.le_trans hl lim_le
  have P := PairArg.list (prog := X.prog) (w := X.w) b (tl.map (fun t => Value.ref t.1)).toArray (fun j => ((tl[j]?).map (·.1)).getD 0) (tl.map (·.2))
  have there := P.there _ ⟨pl, pa⟩
  obtain ⟨vF, vT, vz⟩ := dct_open I c ea
  have hpz : (kputs kvs ps).length ≤ sizeLine := by
    have h1 := kputs_len ps kvs
    omega
  -- the dict is none of what is read
  have hdf : ∀ (o : Obj), s.heap.get? a = some o → o.cls = .type "dict" → a ∉ b :: (List.range (tl.map (·.2)).length).map (fun j => ((tl[j]?).map (·.1)).getD 0) := by
    intro o ho hcl hm
    rcases List.mem_cons.mp hm with rfl | hm
    · obtain ⟨o2, n, h1, h2, _⟩ := pl
      rw [ho] at h1; cases h1
      rw [hcl] at h2
      exact absurd h2 (by decide)
    · obtain ⟨j, hj, e3⟩ := List.mem_map.mp hm
      rw [List.mem_range] at hj
      have hj' : j < (tl.map (·.2)).length := hj
      obtain ⟨⟨k, v⟩, e4⟩ : ∃ p, (tl.map (·.2))[j]? = some p := ⟨_, List.getElem?_eq_getElem hj'⟩
      obtain ⟨o2, h1, h2⟩ := (pa.2 j k v e4).2.there
      have e3' : ((tl[j]?).map (·.1)).getD 0 = a := e3
      have h1' : s.heap.get? (((tl[j]?).map (·.1)).getD 0) = some o2 := h1
      rw [e3', ho] at h1'
      cases h1'
      rw [hcl] at h2
      exact absurd h2 (by decide)
  by_cases hF : (allF kvs && allF ps) = true
  · simp only [Bool.and_eq_true] at hF
    obtain ⟨ks0, h0, r0⟩ := vF hF.1
    obtain ⟨z, lo, vs0, rel0, dd0⟩ := dk_of I.hok h0
    obtain ⟨ks, rs, i1, i2, i3⟩ := allF_split pt hF.2
    obtain ⟨o0, _, _, g1, g2, _⟩ := id dd0
    have e0 := Paired.length r0
    have e1 := Paired.length rel0
    refine PySem.call_update_pairs P (I.ok.hd hc) ⟨pl, pa⟩ (hdf o0 g1 g2.1) (have_F i3) dd0 (by rw [List.length_map]; omega) fun h' tk dd hkp => ?_
    have hz2 : (mergeK ks0 ks).length ≤ sizeLine := by
      have h1 := length_mergeK ks ks0
      have h2 := Paired.length i1
      omega
    have he : ∃ q, h'.get? a = some q := let ⟨q, _, _, hq, _⟩ := dd; ⟨q, hq⟩
    have I' : Inv X pins σ (upd H a (.dK (mergeK ks0 ks))) { s with heap := h', toks := tk } := I.write (x := a) (e := a) (t' := tk) (by rw [h0]; trivial) (.inl rfl) (fun b q hb z => hkp b q hb (by simp) z) he (dk_new hz2 lo (i2.merge rel0) dd)
    have hle : Hle H (upd H a (.dK (mergeK ks0 ks))) := .mut h0 trivial
    exact ⟨.non, _, I', rfl, q _ hle (c.put h0 trivial (mrep_F ((dk_puts i1 r0).le hle) upd_same))⟩
  · have hT : allT kvs = true ∧ allT ps = true := by simpa [hF] using hk
    obtain ⟨lo, xs0, dd0, r0, hm⟩ := vT hT.1
    obtain ⟨xs, i1, i3⟩ := allT_split pt hT.2
    obtain ⟨o0, _, _, g1, g2, gd, _⟩ := id dd0
    have e0 := Paired.length r0
    have hne : kvs ≠ [] ∨ ps ≠ [] := by
      by_cases z1 : kvs = []
      · by_cases z2 : ps = []
        · subst z1 z2; exact absurd rfl hF
        · exact .inr z2
      · exact .inl z1
    refine PySem.call_update_pairsH P (I.ok.hd hc) (room_pv hu) ⟨pl, pa⟩ (hdf o0 g1 g2.1) (have_T i3) (fun h' hk2 x hx => ?_) dd0 (by rw [List.length_map]; omega) fun h' tk dd hkp => ?_
    · have all : ∀ x ∈ xs0 ++ xs, IsK s.heap x.1 x.2.1 := fun x hx => by
        rcases List.mem_append.mp hx with hx | hx
        · exact dt_is I r0 x hx
        · exact dt_is I i1 x hx
      refine vals_keep all (fun b o vs n hb hcl _ => hk2 b o (fun e => ?_) (by simp) hb) x hx
      subst e
      rw [hb] at g1; cases g1
      rw [g2.1] at hcl
      exact absurd hcl (by decide)
    · cases hH : H a with
      | none => rw [hH] at hm; exact hm.elim
      | some uo =>
        rw [hH] at hm
        obtain ⟨o', es', ep', g1', g2', g3', g4', g5', g6'⟩ := id dd
        have I' : Inv X pins σ (upd H a (dTO X.prog X.w a (storedAllH xs0 xs))) { s with heap := h', toks := tk } := I.write (x := a) (e := a) (t' := tk) (by rw [hH]; exact hm) (.inl rfl) (fun b q hb z => hkp b q hb (by simp) z) ⟨o', g1'⟩ (ext_ok dd)
        have hle : Hle H (upd H a (dTO X.prog X.w a (storedAllH xs0 xs))) := .mut hH hm
        exact ⟨.non, _, I', rfl, q _ hle (c.put hH hm (mrep_T lo (kputs_ne ps kvs hne) hpz ((dt_puts i1 r0).le hle) g6' upd_same))⟩
end
end PL
/-! PLu7: methods; displays of dicts. -/
namespace PL
open PySem PySem.Spec PySem.W PyProof.Rows L2

section
variable {X : Cx} {pins : List (Addr × Obj)} {σ : L2.St} {H : Hp} {s : Shared}
theorem dct_any (I : Inv X pins σ H s) {M : MH} {a : Addr} {kvs : List (PV × PV)} {ep : Nat} (c : Cor X.prog X.w X.K H M) (e : M a = some (.dct kvs ep)) :
    (allF kvs = true → ∃ ks rs, KV ks rs ∧ DKR X.K H kvs ks ∧ s.heap.DictOf (mixKind X.prog X.w) a rs) ∧ (allT kvs = true → ∃ xs, s.heap.DictOfH (pvKind X.prog X.w) a xs ∧ DTR X.K H kvs xs) ∧ (a == sysModules) = false := by
  obtain ⟨u, h0, rd, dr⟩ := c.ok a _ e
  rcases dr with ⟨ks, rfl, r⟩ | ⟨lo, ne, z, xs, rfl, r, n⟩
  · obtain ⟨_, lo, vs, rel, dd⟩ := dk_rd I.hok rd
    refine ⟨fun _ => ⟨ks, vs, rel, r, dd⟩, fun ht => ?_, lo⟩
    cases r with
    | nil =>
      obtain ⟨lo, dd⟩ := dk_nil I rd
      exact ⟨[], dd, .nil⟩
    | @cons x y l m h t =>
      exfalso
      simp only [allT, List.all_cons, Bool.and_eq_true] at ht
      have q := (isF_kP y.1).2
      rw [← h.1] at q
      rw [ht.1.2] at q
      cases q
  · refine ⟨fun hf => ?_, fun _ => ⟨xs, dt_dict I rd r n, r⟩, lo⟩
    exfalso
    cases r with
    | nil => exact ne rfl
    | @cons x y l m h t =>
      simp only [allF, List.all_cons, Bool.and_eq_true] at hf
      exact isF_T hf.1.2 h.2.2.1
theorem isk_type {p : PV} {a : Addr} (x : IsK s.heap p a) : s.TypeIs (.ref a) "tuple" := by
  obtain ⟨hk, ht, as, r⟩ := x
  cases p with
  | tup l =>
    rw [PV.toD] at r
    cases r with
    | tuple h1 h2 => exact ⟨_, h1, h2⟩
  | _ => simp [isT] at ht
theorem dtr_hash {K : PySem.W.Frag} {H : Hp} {w : World} {kvs : List (PV × PV)} {xs : List (PV × Addr × Value)} (r : DTR K H kvs xs) : (xs.map fun x => x.1.hash w) = kvs.map fun x => x.1.hash w := by
  unfold DTR at r
  induction r with
  | nil => rfl
  | cons h t ih => rw [List.map_cons, List.map_cons, ih, h.1]
theorem dict_updD (hc : X.calm = true) (hu : X.A.units + 80 < cLine) {M : MH} {a b : Addr} {kvs ms : List (PV × PV)} {ep : Nat} {Q : VK} (I : Inv X pins σ H s) (c : Cor X.prog X.w X.K H M) (ea : M a = some (.dct kvs 0)) (e : M b = some (.dct ms ep)) (hab : a ≠ b)
    (hk : updD kvs ms) (hl : kvs.length + ms.length ≤ LIM)
    (q : ∀ H', Hle H H' → Cor X.prog X.w X.K H' (M.upd a (.dct (kputs kvs ms) 0)) → Q .non H') : wpAny (model X.prog X.w) X.A (call (.builtin "dict.update") [.ref a, .ref b]) (EP X pins σ Q) X.xe s := by
  obtain ⟨vF, vT, vz⟩ := dct_open I c ea
  obtain ⟨wF, wT, wlo⟩ := dct_any I c e
  have hlz := Nat.le_trans hl lim_le
  have hpz : (kputs kvs ms).length ≤ sizeLine := by
    have h1 := kputs_len ms kvs
    omega
  have doF : allF kvs = true → allF ms = true → wpAny (model X.prog X.w) X.A (call (.builtin "dict.update") [.ref a, .ref b]) (EP X pins σ Q) X.xe s := fun h1 h2 => by
    obtain ⟨ks0, h0, r0⟩ := vF h1
    obtain ⟨z, lo, vs0, rel0, dd0⟩ := dk_of I.hok h0
    obtain ⟨ks, rs, i2, i1, dd1⟩ := wF h2
    have e0 := Paired.length r0
    have e1 := Paired.length rel0
    have e2 := Paired.length i1
    have e3 := Paired.length i2
    refine call_meetsIn PySem.F.slot_dict_update dd0.typeIs PySem.F.entry_dict_update (PySem.F.args_dict_update_2 _ _) (meets_dict_update (mixKind X.prog X.w) a b hab wlo) ⟨_, _, dd0, dd1, by omega, fun h' dd _ hs => ?_⟩
    have hz2 : (mergeK ks0 ks).length ≤ sizeLine := by
      have h1 := length_mergeK ks ks0
      omega
    have he : ∃ q, h'.get? a = some q := let ⟨q, _, _, hq, _⟩ := dd; ⟨q, hq⟩
    have I' : Inv X pins σ (upd H a (.dK (mergeK ks0 ks))) { s with heap := h' } := d_write (t' := s.toks) I (by rw [h0]; trivial) hs he (dk_new hz2 lo (i2.merge rel0) dd)
    have hle : Hle H (upd H a (.dK (mergeK ks0 ks))) := .mut h0 trivial
    exact ⟨.non, _, I', rfl, q _ hle (c.put h0 trivial (mrep_F ((dk_puts i1 r0).le hle) upd_same))⟩
  rcases hk with ⟨h1, h2⟩ | ⟨⟨h1, h2⟩, h3⟩
  · exact doF h1 h2
  · by_cases hne : kvs ≠ [] ∨ ms ≠ []
    · obtain ⟨lo, xs0, dd0, r0, hm⟩ := vT h1
      obtain ⟨xs, dd1, i1⟩ := wT h2
      have e0 := Paired.length r0
      have e2 := Paired.length i1
      refine PySem.call_update_dictH (knd := pvKind X.prog X.w) (room_pv hu) hab wlo dd0 dd1 ?_ (by omega) fun h' dd _ hs => ?_
      · rcases h3 with h3 | h3
        · left
          intro z
          apply h3
          subst z
          cases r0; rfl
        · right
          refine ⟨fun x hx => isk_type (dt_is I i1 x hx), ?_⟩
          have := h3 X.w
          rw [← dtr_hash i1] at this
          exact this
      · cases hH : H a with
        | none => rw [hH] at hm; exact hm.elim
        | some uo =>
          rw [hH] at hm
          obtain ⟨o', es', ep', g1', g2', g3', g4', g5', g6'⟩ := id dd
          have I' : Inv X pins σ (upd H a (dTO X.prog X.w a (storedAllH xs0 xs))) { s with heap := h' } := d_write (t' := s.toks) I (by rw [hH]; exact hm) hs ⟨o', g1'⟩ (ext_ok dd)
          have hle : Hle H (upd H a (dTO X.prog X.w a (storedAllH xs0 xs))) := .mut hH hm
          exact ⟨.non, _, I', rfl, q _ hle (c.put hH hm (mrep_T lo (kputs_ne ms kvs hne) hpz ((dt_puts i1 r0).le hle) g6' upd_same))⟩
    · have z1 : kvs = [] := Classical.byContradiction fun z => hne (.inl z)
      have z2 : ms = [] := Classical.byContradiction fun z => hne (.inr z)
      exact doF (allF_nil z1) (allF_nil z2)

/-! ### methods -/
def mT : Me → String
  | .append => "list" | .extend => "list" | .pop => "list" | .get => "dict" | .update => "dict" | .index => "list"
def mName : Me → Str
  | .append => "append" | .extend => "extend" | .pop => "pop" | .get => "get" | .update => "update" | .index => "index"
def mId : Me → String
  | .append => "list.append" | .extend => "list.extend" | .pop => "list.pop" | .get => "dict.get" | .update => "dict.update" | .index => "list.index"
theorem m_plain : ∀ m, PlainAttrs (mT m)
  | .append => PySem.F.plainAttrs_list | .extend => PySem.F.plainAttrs_list | .pop => PySem.F.plainAttrs_list | .index => PySem.F.plainAttrs_list
  | .get => PySem.F.plainAttrs_dict | .update => PySem.F.plainAttrs_dict
theorem m_slot : ∀ m, Slot (mT m) (mName m) (mId m)
  | .append => PySem.F.slot_list_append | .extend => PySem.F.slot_list_extend | .pop => PySem.F.slot_list_pop | .index => PySem.F.slot_list_index
  | .get => PySem.F.slot_dict_get | .update => PySem.F.slot_dict_update
theorem m_type : ∀ m, typeOf (.builtin (mId m)) = pure (.type "method_descriptor")
  | .append => PySem.F.type_list_append | .extend => PySem.F.type_list_extend | .pop => PySem.F.type_list_pop | .index => PySem.F.type_list_index
  | .get => PySem.F.type_dict_get | .update => PySem.F.type_dict_update
theorem tyM_is (I : Inv X pins σ H s) {M : MH} {m : Me} {p : PV} {x : V} {v : Value} (c : Cor X.prog X.w X.K H M) (rp : Rep X.K H p x) (rv : RelV x v) (h : tyM m p M = true) :
    s.TypeIs v (mT m) ∧ ∀ a, v = .ref a → ∃ ob, s.heap.get? a = some ob ∧ ob.dict = none := by
  have lst : ∀ {a : Addr} {l : List PV}, M a = some (.lst l) → s.TypeIs (.ref a) "list" ∧ ∀ a', Value.ref a = .ref a' → ∃ ob, s.heap.get? a' = some ob ∧ ob.dict = none := fun {a l} e => by
    obtain ⟨vs, q, _⟩ := c.ok a _ e
    obtain ⟨its, _, pl, _⟩ := I.list (SqL.of q)
    refine ⟨pl.isList.typeIs, fun a' e => ?_⟩
    cases e
    obtain ⟨o, n, e, c, hd, _⟩ := pl
    exact ⟨o, e, hd⟩
  have dct : ∀ {a : Addr} {kvs : List (PV × PV)} {ep : Nat}, M a = some (.dct kvs ep) → s.TypeIs (.ref a) "dict" ∧ ∀ a', Value.ref a = .ref a' → ∃ ob, s.heap.get? a' = some ob ∧ ob.dict = none := fun {a kvs ep} e => by
    obtain ⟨es, ep', ⟨o, h1, h2, h3⟩, _⟩ := dict_raw I c e
    refine ⟨⟨o, h1, h2.1⟩, fun a' e => ?_⟩
    cases e
    exact ⟨o, h1, h2.2.1⟩
  unfold tyM at h
  split at h
  · unfold Rep at rp
    subst rp
    cases rv
    split at h
    · rename_i e; exact lst e
    · rename_i e; exact lst e
    · rename_i e; exact lst e
    · rename_i e; exact dct e
    · rename_i e; exact dct e
    · cases h
  · cases h
/-- where a dict is asked -/
theorem dct_get1 (hu : X.A.units + 80 < cLine) {M : MH} {a : Addr} {kvs : List (PV × PV)} {ep : Nat} {k : PV} {y : V} {u : Value} {Q : VK} (I : Inv X pins σ H s) (c : Cor X.prog X.w X.K H M) (e : M a = some (.dct kvs ep)) (hk : kOk kvs k = true) (rk : Rep X.K H k y) (ry : RelV y u)
    (q : ∀ p v, p = (kget kvs k).getD .non → Rep X.K H p v → Q v H) : wpAny (model X.prog X.w) X.A (call (.builtin "dict.get") [.ref a, u]) (EP X pins σ Q) X.xe s := by
  rcases dct_view I c e hk with ⟨b, ks, rfl, rd, _, r⟩ | ⟨hkey, ht, lo, xs, dd, r, _⟩
  · have ey := rep_kP rk
    refine d_get1 (o := valV ks b) (by omega) I (.inl ⟨ks, b, rd, ey, rfl⟩) ry fun w' s' I' rw' => ⟨_, H, I', rw', ?_⟩
    cases hg : kget kvs (kP b) with
    | none =>
      rw [(dk_get b r).2.1 hg]
      exact q .non _ (by rw [hg]; rfl) (by unfold Rep; rfl)
    | some p =>
      obtain ⟨v, hv, rv⟩ := (dk_get b r).1 p hg
      rw [hv]
      exact q p _ (by rw [hg]; rfl) rv
  · obtain ⟨b, rfl, _, ki⟩ := key_at I hkey ht rk ry
    refine call_meetsIn PySem.F.slot_dict_get dd.typeIs PySem.F.entry_dict_get (PySem.F.args_dict_get_2 _ _) (meetsH_dict_get (pvKind X.prog X.w) a b lo) ⟨room_pv hu, k, xs, ki, dd, ?_⟩
    cases hg : kget kvs k with
    | none =>
      rw [(dt_get hkey r).2.1 hg]
      exact ⟨.non, H, I.tok _, rfl, q .non _ (by rw [hg]; rfl) (by unfold Rep; rfl)⟩
    | some p =>
      obtain ⟨q', v, hq, rv, rv'⟩ := (dt_get hkey r).1 p hg
      rw [hq]
      exact ⟨v, H, I.tok _, rv', q p _ (by rw [hg]; rfl) rv⟩
theorem dct_get2 (hu : X.A.units + 80 < cLine) {M : MH} {a : Addr} {kvs : List (PV × PV)} {ep : Nat} {k d : PV} {y z : V} {u r0 : Value} {Q : VK} (I : Inv X pins σ H s) (c : Cor X.prog X.w X.K H M) (e : M a = some (.dct kvs ep)) (hk : kOk kvs k = true) (rk : Rep X.K H k y) (ry : RelV y u) (rd : Rep X.K H d z) (rz : RelV z r0)
    (q : ∀ p v, p = (kget kvs k).getD d → Rep X.K H p v → Q v H) : wpAny (model X.prog X.w) X.A (call (.builtin "dict.get") [.ref a, u, r0]) (EP X pins σ Q) X.xe s := by
  rcases dct_view I c e hk with ⟨b, ks, rfl, rd', _, r⟩ | ⟨hkey, ht, lo, xs, dd, r, _⟩
  · have ey := rep_kP rk
    refine d_get2 (o := valV ks b) (by omega) I (.inl ⟨ks, b, rd', ey, rfl⟩) ry rz fun w' s' I' rw' => ⟨_, H, I', rw', ?_⟩
    cases hg : kget kvs (kP b) with
    | none =>
      rw [(dk_get b r).2.1 hg]
      exact q d _ (by rw [hg]; rfl) rd
    | some p =>
      obtain ⟨v, hv, rv⟩ := (dk_get b r).1 p hg
      rw [hv]
      exact q p _ (by rw [hg]; rfl) rv
  · obtain ⟨b, rfl, _, ki⟩ := key_at I hkey ht rk ry
    refine call_meetsIn PySem.F.slot_dict_get dd.typeIs PySem.F.entry_dict_get (PySem.F.args_dict_get_3 _ _ _) (meetsH_dict_get_default (pvKind X.prog X.w) a b lo r0) ⟨room_pv hu, k, xs, ki, dd, ?_⟩
    cases hg : kget kvs k with
    | none =>
      rw [(dt_get hkey r).2.1 hg]
      exact ⟨z, H, I.tok _, rz, q d _ (by rw [hg]; rfl) rd⟩
    | some p =>
      obtain ⟨q', v, hq, rv, rv'⟩ := (dt_get hkey r).1 p hg
      rw [hq]
      exact ⟨v, H, I.tok _, rv', q p _ (by rw [hg]; rfl) rv⟩
theorem RepL.cat {K : PySem.W.Frag} {H : Hp} : ∀ {l m : List PV} {xs ys : List V}, RepL K H l xs → RepL K H m ys → RepL K H (l ++ m) (xs ++ ys)
  | [], m, xs, ys, r, q => by unfold RepL at r; subst r; exact q
  | p :: l, m, xs, ys, r, q => by
    unfold RepL at r
    obtain ⟨v, ws, rfl, a, b⟩ := r
    rw [List.cons_append, List.cons_append]
    unfold RepL
    exact ⟨v, ws ++ ys, rfl, a, RepL.cat b q⟩
theorem RepL.at {K : PySem.W.Frag} {H : Hp} : ∀ {l : List PV} {xs : List V} {i : Nat} {p : PV}, RepL K H l xs → l[i]? = some p → ∃ v, xs[i]? = some v ∧ Rep K H p v
  | [], xs, i, p, r, e => by simp at e
  | q :: l, xs, 0, p, r, e => by
    unfold RepL at r
    obtain ⟨v, ws, rfl, a, b⟩ := r
    simp at e; subst e
    exact ⟨v, rfl, a⟩
  | q :: l, xs, i + 1, p, r, e => by
    unfold RepL at r
    obtain ⟨v, ws, rfl, a, b⟩ := r
    simp only [List.getElem?_cons_succ] at e ⊢
    exact RepL.at b e
theorem RepL.dropLast {K : PySem.W.Frag} {H : Hp} : ∀ {l : List PV} {xs : List V}, RepL K H l xs → RepL K H l.dropLast xs.dropLast
  | [], xs, r => by unfold RepL at r; subst r; unfold RepL; rfl
  | [p], xs, r => by
    obtain ⟨v, rfl, _⟩ := repl_one r
    unfold RepL; rfl
  | p :: q :: l, xs, r => by
    unfold RepL at r
    obtain ⟨v, ws, rfl, a, b⟩ := r
    have b0 := b
    unfold RepL at b
    obtain ⟨v2, ws2, rfl, a2, b2⟩ := b
    rw [List.dropLast_cons_cons, List.dropLast_cons_cons]
    unfold RepL
    exact ⟨v, _, rfl, a, RepL.dropLast b0⟩
def LMt (X : Cx) (m : Me) : Prop := MtR X (mId m) fun x xs H Qv => ∃ p ps M Q, Rep X.K H p x ∧ RepL X.K H ps xs ∧ Cor X.prog X.w X.K H M ∧ mthW m p ps M Q ∧ Ct X.prog X.w X.K H Q Qv
theorem mt_all (hc : X.calm = true) (hu : X.A.units + 80 < cLine) (m : Me) : LMt X m := by
  intro pins s σ H x xs v us Q I rx rs h
  obtain ⟨p, ps, M, Qk, rp, rps, c, g, ct⟩ := h
  unfold mthW at g
  split at g
  · -- append
    unfold Rep at rp
    subst rp
    have rx0 := rx
    cases rx
    obtain ⟨y, rfl, ry⟩ := repl_one rps
    split at g
    · rename_i l e
      obtain ⟨vs, q, rl⟩ := c.ok _ _ e
      have hle : Hle H (upd H _ (.lst (vs ++ [y]))) := .mut q trivial
      refine mt_append pins s σ H _ _ _ us Q I rx0 rs ⟨_, vs, y, rfl, rfl, q, by rw [← rl.length]; exact Nat.lt_of_lt_of_le g.1 lim_le, ?_⟩
      refine ct .non _ .non _ hle (by unfold Rep; rfl) (c.put (mo := .lst _) q trivial ⟨_, upd_same, ?_⟩) g.2
      exact (rl.cat (by unfold RepL; exact ⟨y, [], rfl, ry, by unfold RepL; rfl⟩)).le hle
    · exact g.elim
  · -- extend
    unfold Rep at rp
    subst rp
    have rx0 := rx
    cases rx
    obtain ⟨y, rfl, ry⟩ := repl_one rps
    unfold Rep at ry
    subst ry
    split at g
    · rename_i l e
      obtain ⟨m, e2, hl, g⟩ := ok_of g
      obtain ⟨vs, q, rl⟩ := c.ok _ _ e
      have e3 := e2
      unfold lstM at e3
      split at e3
      · rename_i m' e4
        cases e3
        obtain ⟨ws, q2, rl2⟩ := c.ok _ _ e4
        have hle : Hle H (upd H _ (.lst (vs ++ ws))) := .mut q trivial
        refine mt_extend pins s σ H _ _ _ us Q I rx0 rs ⟨_, _, vs, ws, rfl, rfl, q, q2, by rw [← rl.length, ← rl2.length]; exact Nat.le_trans hl lim_le, ?_⟩
        exact ct .non _ .non _ hle (by unfold Rep; rfl) (c.put (mo := .lst _) q trivial ⟨_, upd_same, (rl.cat rl2).le hle⟩) g
      · cases e3
    · exact g.elim
  · -- pop
    unfold Rep at rp
    subst rp
    have rx0 := rx
    cases rx
    unfold RepL at rps
    subst rps
    split at g
    · rename_i l e
      obtain ⟨y, e2, g⟩ := ok_of g
      obtain ⟨vs, q, rl⟩ := c.ok _ _ e
      obtain ⟨z, e3, rz⟩ := rl.at e2
      have hle : Hle H (upd H _ (.lst vs.dropLast)) := .mut q trivial
      refine mt_pop pins s σ H _ _ _ us Q I rx0 rs ⟨_, vs, z, rfl, rfl, q, by rw [← rl.length]; exact e3, ?_⟩
      exact ct z _ y _ hle (rz.le hle) (c.put (mo := .lst _) q trivial ⟨_, upd_same, rl.dropLast.le hle⟩) g
    · exact g.elim
  · -- get
    unfold Rep at rp
    subst rp
    cases rx
    obtain ⟨y, rfl, ry⟩ := repl_one rps
    obtain ⟨kvs, e, hk, g⟩ := ok_of g
    unfold dctOf at e
    split at e
    · rename_i kvs' ep e1
      cases e
      obtain ⟨u, rfl, ru⟩ := vals1 rs
      exact dct_get1 hu I c e1 hk ry ru fun p v ep' rv => ct v H p M (.refl _) rv c (by rw [ep']; exact g)
    · cases e
  · -- update
    unfold Rep at rp
    subst rp
    cases rx
    obtain ⟨y, rfl, ry⟩ := repl_one rps
    unfold Rep at ry
    subst ry
    obtain ⟨u, rfl, ru⟩ := vals1 rs
    cases ru
    split at g
    · rename_i kvs l e1 e2
      obtain ⟨prs, e3, ⟨g1, g2⟩, g⟩ := ok_of g
      exact dict_updL hc hu I c e1 e2 e3 g1 g2 fun H' hle c' => ct .non H' .non _ hle (by unfold Rep; rfl) c' g
    · rename_i kvs ms ep e1 e2
      obtain ⟨⟨g1, g2, g3⟩, g⟩ := g
      exact dict_updD hc hu I c e1 e2 g1 g2 g3 fun H' hle c' => ct .non H' .non _ hle (by unfold Rep; rfl) c' g
    · exact g.elim
  · -- get
    unfold Rep at rp
    subst rp
    cases rx
    obtain ⟨y, z, rfl, ry, rz⟩ := repl_two rps
    obtain ⟨kvs, e, hk, g⟩ := ok_of g
    unfold dctOf at e
    split at e
    · rename_i kvs' ep e1
      cases e
      cases rs with
      | cons r1 t => cases t with
        | cons r2 t =>
          cases t
          exact dct_get2 hu I c e1 hk ry r1 rz r2 fun p v ep' rv => ct v H p M (.refl _) rv c (by rw [ep']; exact g)
    · cases e
  · exact g.elim
end

section
variable {X : Cx} {o e : Expr} {es : List Expr} {apos cpos : Pos} {to : WE} {t : WA}
theorem pl_mth0 (m : Me) (hm : LMt X m) (ho : PE X o (LEx X to)) (hbase : attributeBase o (mName m) X.env (eval o X.env) = eval o X.env) (hline : (apos.endLine == cpos.line) = true) :
    PE X (.Call (.Attribute o (mName m) apos) [] [] cpos) (LEx X fun ρ M Q => to ρ M fun x M1 => tyM m x M1 = true ∧ mthW m x [] M1 Q) :=
  ⟨fun pins s σ H Qv I q => by
    obtain ⟨ρ, M, Q, er, c, tq, ct⟩ := q
    refine wpAny_Call_method0_late hbase hline (thn (ho.run pins s σ H _ I ⟨ρ, M, _, er, c, tq, fun v H1 p M1 l r c1 q1 => (⟨p, M1, l, r, c1, q1⟩ : ∃ p M1, Hle H H1 ∧ Rep X.K H1 p v ∧ Cor X.prog X.w X.K H1 M1 ∧ tyM m p M1 = true ∧ mthW m p [] M1 Q)⟩) fun v s1 ⟨x, H1, I1, r1, p, M1, l, rp, c1, ty, q1⟩ => ?_)
    obtain ⟨h1, h2⟩ := tyM_is I1 c1 rp r1 ty
    exact ⟨mT m, mId m, m_plain m, m_slot m, m_type m, h1, h2, Calls.callWith_builtin rfl (PySem.evalArgs_none (hm pins s1 σ H1 x [] v [] Qv I1 r1 .nil ⟨p, [], M1, Q, rp, by unfold RepL; rfl, c1, q1, ct.le l⟩))⟩⟩
theorem pl_mth (m : Me) (hm : LMt X m) (ho : PE X o (LEx X to)) (ha : PA X (e :: es) (LAx X t)) (hbase : attributeBase o (mName m) X.env (eval o X.env) = eval o X.env)
    (hfew : ((backTo cpos (starEach (e :: es) X.env)).all (fun x => !x.1) && (backToKw cpos (keywordEach [] X.env)).all (fun x => x.1.isSome)
      && decide ((e :: es).length + ([] : List Keyword).length + (if ([] : List Keyword).isEmpty then 0 else 1) < 30)) = true)
    (hline : (apos.endLine == cpos.line) = true) (hs : starEach (e :: es) X.env = (false, eval e X.env) :: starEach es X.env) (hplain : (backTo cpos (starEach es X.env)).any (·.1) = false) :
    PE X (.Call (.Attribute o (mName m) apos) (e :: es) [] cpos) (LEx X fun ρ M Q => to ρ M fun x M1 => tyM m x M1 = true ∧ t ρ M1 fun vs M2 => mthW m x vs M2 Q) :=
  ⟨fun pins s σ H Qv I q => by
    obtain ⟨ρ, M, Q, er, c, tq, ct⟩ := q
    refine wpAny_Call_method_late hbase hfew hline rfl (thn (ho.run pins s σ H _ I ⟨ρ, M, _, er, c, tq, fun v H1 p M1 l r c1 q1 => (⟨p, M1, l, r, c1, q1⟩ : ∃ p M1, Hle H H1 ∧ Rep X.K H1 p v ∧ Cor X.prog X.w X.K H1 M1 ∧ tyM m p M1 = true ∧ t ρ M1 fun vs M2 => mthW m p vs M2 Q)⟩) fun v s1 ⟨x, H1, I1, r1, p, M1, l, rp, c1, ty, q1⟩ => ?_)
    obtain ⟨h1, h2⟩ := tyM_is I1 c1 rp r1 ty
    refine ⟨mT m, mId m, m_plain m, m_slot m, m_type m, h1, h2, ?_⟩
    have hA := ha.run cpos pins s1 σ H1 _ I1 ⟨ρ, M1, _, er.le l, c1, q1, fun vs H2 ps M2 l2 r2 c2 q2 => (⟨ps, M2, l2, r2, c2, q2⟩ : ∃ ps M2, Hle H1 H2 ∧ RepL X.K H2 ps vs ∧ Cor X.prog X.w X.K H2 M2 ∧ mthW m p ps M2 Q)⟩
    rw [hs] at hA ⊢
    refine Calls.callWith_builtin (by show (false || (backTo cpos (starEach es X.env)).any (·.1)) = false; rw [hplain] <;> rfl) (Calls.evalArgs_plain ?_)
    exact thn hA fun us s2 ⟨vs, H2, I2, r2, ps, M2, l2, rp2, c2, q2⟩ => hm pins s2 σ H2 x vs v us Qv I2 r1 r2 ⟨p, ps, M2, Q, rp.le l2, rp2, c2, q2, (ct.le l).le l2⟩⟩

/-! ### displays -/
theorem pl_d0 {pos : Pos} : PE X (.Dict [] [] pos) (LEx X fun _ M Q => ∀ a, M a = none → Q (.ref a) (M.upd a (.dct [] 0))) :=
  pe_lift pe_dnewK fun σ H ρ M Q Qv er c q ct => fun p hp kf => ct (.ref p) _ (.ref p) _ (.new hp) (by unfold Rep; rfl) (c.new (mo := .dct [] 0) kf hp (mrep_F .nil upd_same)) (q p (c.free kf hp))
theorem pl_d1 {pos : Pos} {k v : Expr} {tk tv : WE} (hk : PE X k (LEx X tk)) (hv : PE X v (LEx X tv)) :
    PE X (.Dict [some k] [v] pos) (LEx X fun ρ M Q => ∀ a, M a = none → tk ρ (M.upd a (.dct [] 0)) fun x M1 => tv ρ M1 fun y M2 => (M2 a = some (.dct [] 0) ∧ x.key = true ∧ isF x = true) ∧ Q (.ref a) (M2.upd a (.dct [(x, y)] 0))) := by
  refine ⟨fun pins s σ H Qv I q => ?_⟩
  obtain ⟨ρ, M, Q, er, c, tq, ct⟩ := q
  have hn := I.hok.fresh (Nat.le_refl s.heap.objs.size)
  have I1 := I.laid (a := s.heap.objs.size) (o := .dK []) (h' := s.heap.push { cls := .type "dict", data := .dict #[] }) (t' := s.toks) (fun _ _ q => Heap.get?_push_of_some _ q) (Nat.le_refl _) (dk_empty s.heap I.big)
  have kf := inv_kf I1
  have c1 : Cor X.prog X.w X.K (upd H s.heap.objs.size (.dK [])) (M.upd s.heap.objs.size (.dct [] 0)) := c.new kf hn (mrep_F .nil upd_same)
  have hN : Hle H (upd H s.heap.objs.size (.dK [])) := .new hn
  refine wpAny_Dict_walk (knd := mixKind X.prog X.w) rfl rfl (by simp) (by show 1 ≤ 15; decide) ?_
  refine thn ((pps_cons hk hv pps_nil).run (pos := pos) pins _ σ _ (fun ps H' => ∃ x y u1 u2 M2, ps = [(u1, u2)] ∧ Hle (upd H s.heap.objs.size (.dK [])) H' ∧ Rep X.K H' x u1 ∧ Rep X.K H' y u2 ∧ Cor X.prog X.w X.K H' M2 ∧ (M2 s.heap.objs.size = some (.dct [] 0) ∧ x.key = true ∧ isF x = true) ∧ Q (.ref s.heap.objs.size) (M2.upd s.heap.objs.size (.dct [(x, y)] 0))) I1
    ⟨ρ, _, _, er.le hN, c1, tq _ (c.free kf hn), fun v1 H1 p M1 l r c1 q1 => ⟨ρ, M1, _, (er.le hN).le l, c1, q1, fun v2 H2 p2 M2 l2 r2 c2 q2 => ⟨p, p2, v1, v2, M2, rfl, l.trans l2, r.le l2, r2, c2, q2⟩⟩⟩) fun ws s2 ⟨ps, H2, I2, rel, x, y, u1, u2, M2, eps, l2, rx, ry, c2, ⟨e2, hk2, hf⟩, q2⟩ => ?_
  subst eps
  obtain ⟨b, rfl⟩ := isF_of hf
  have ev := rep_kP rx
  subst ev
  obtain ⟨rs, cc, rk⟩ := carries_of (P := X.prog) (w := X.w) (kvs := [(b, u2)]) rel
  obtain ⟨u, h0, rd, dr⟩ := c2.ok _ _ e2
  have h0 := h0 rfl
  obtain ⟨ks, rfl, r0⟩ : ∃ ks, u = .dK ks ∧ DKR X.K H2 [] ks := by
    rcases dr with q | ⟨_, ne, _⟩
    · exact q
    · exact absurd rfl ne
  cases r0
  obtain ⟨z, hd, vs0, r1, dd⟩ := dk_of I2.hok h0
  cases r1
  refine ⟨rs, cc, dd, fun h' dd' hs => ?_⟩
  have hz : (mergeK [] [(b, u2)]).length ≤ sizeLine := by
    rw [sizeLine_eq]; show 1 ≤ _; decide
  have he : ∃ q, h'.get? s.heap.objs.size = some q := let ⟨q, _, _, hq, _⟩ := dd'; ⟨q, hq⟩
  have I3 : Inv X pins σ (upd H2 s.heap.objs.size (.dK (mergeK [] [(b, u2)]))) { s2 with heap := h', toks := s2.toks + ws.length } := d_write (t' := s2.toks + ws.length) I2 (by rw [h0]; exact True.intro) hs he (dk_new hz hd (rk.merge .nil) dd')
  have hle : Hle H2 (upd H2 s.heap.objs.size (.dK (mergeK [] [(b, u2)]))) := .mut h0 trivial
  refine ⟨.ref s.heap.objs.size, _, I3, rfl, ct _ _ (.ref s.heap.objs.size) _ ((hN.trans l2).trans hle) (by unfold Rep; rfl) (c2.put (mo := .dct _ 0) h0 trivial (mrep_F ?_ upd_same)) q2⟩
  exact .cons ⟨rfl, ry.le hle⟩ .nil
end
end PL
/-! PLu8: targets; what is walked: lists, tuples, ranges, enumerate, zip; comprehensions of lists. -/
namespace PL
open PySem PySem.Spec PySem.W PyProof.Rows L2

/-! ### targets -/
/-- but for some slots the same -/
def Off (vs : List Nat) (σ σ' : L2.St) : Prop := σ'.length = σ.length ∧ ∀ j, j ∉ vs → σ'[j]? = σ[j]?
theorem Off.refl (vs : List Nat) (σ : L2.St) : Off vs σ σ := ⟨rfl, fun _ _ => rfl⟩
theorem Off.trans {vs ws : List Nat} {a b c : L2.St} (h : Off vs a b) (g : Off ws b c) : Off (vs ++ ws) a c :=
  ⟨g.1.trans h.1, fun j hj => (g.2 j fun z => hj (List.mem_append_right _ z)).trans (h.2 j fun z => hj (List.mem_append_left _ z))⟩
theorem wipe_at {σ : L2.St} {i : Nat} : ∀ {vs : List Nat}, i ∈ vs → i < σ.length → (wipe σ vs)[i]? = some none
  | v :: vs, h, hl => by
    show ((wipe σ vs).set v none)[i]? = some none
    by_cases e : v = i
    · subst e
      rw [List.getElem?_set_self (by rw [wipe_length]; exact hl)]
    · rw [List.getElem?_set_ne e]
      exact wipe_at ((List.mem_cons.mp h).resolve_left fun z => e z.symm) hl
theorem Off.wipe {vs ws : List Nat} {σ σ' : L2.St} (h : Off vs σ σ') (s : ∀ j ∈ vs, j ∈ ws) : wipe σ' ws = wipe σ ws := by
  apply List.ext_getElem?
  intro j
  by_cases hj : j ∈ ws
  · by_cases hl : j < σ.length
    · rw [wipe_at hj hl, wipe_at hj (by rw [h.1]; exact hl)]
    · rw [List.getElem?_eq_none (by rw [wipe_length, h.1]; omega), List.getElem?_eq_none (by rw [wipe_length]; omega)]
  · rw [wipe_out hj, wipe_out hj]
    exact h.2 j fun z => hj (s j z)
theorem wipe_wipe (σ : L2.St) (ws : List Nat) : L2.wipe (L2.wipe σ ws) ws = L2.wipe σ ws := by
  have : Off ws σ (L2.wipe σ ws) := ⟨wipe_length _ _, fun j hj => wipe_out hj⟩
  exact this.wipe fun _ h => h
abbrev WG := PV → PEnv → (PEnv → Prop) → Prop
abbrev WGs := List PV → PEnv → (PEnv → Prop) → Prop
def GT (K : PySem.W.Frag) (vs : List Nat) (g : WG) : TG := fun v σ H Q => ∃ ρ p k, EnvR K H ρ σ ∧ Rep K H p v ∧ g p ρ k ∧ ∀ σ' ρ', Off vs σ σ' → EnvR K H ρ' σ' → k ρ' → Q σ' H
def GTs (K : PySem.W.Frag) (vs : List Nat) (g : WGs) : TGs := fun v σ H Q => ∃ ρ p k, EnvR K H ρ σ ∧ RepL K H p v ∧ g p ρ k ∧ ∀ σ' ρ', Off vs σ σ' → EnvR K H ρ' σ' → k ρ' → Q σ' H
section
variable {X : Cx}
theorem pgl_nm {e : Expr} {i : Nat} (h : PG X e (gName i)) : PG X e (GT X.K [i] fun v ρ k => k (ρ.set i (some v))) :=
  ⟨fun pins s σ H v u Q I r ⟨ρ, p, k, er, rp, g, ct⟩ => h.run pins s σ H v u Q I r
    (ct _ _ ⟨List.length_set .., fun j hj => List.getElem?_set_ne fun e => hj (by simp [e])⟩ (env_set rp i er) g : Q (σ.set i (some v)) H)⟩
theorem pgl_nil : PGs X [] (GTs X.K [] fun l ρ k => match l with | [] => k ρ | _ => False) :=
  ⟨fun pins s σ H vs us Q I r ⟨ρ, l, k, er, rl, g, ct⟩ => by
    cases l with
    | nil =>
      unfold RepL at rl
      subst rl
      exact pgs_nil.run pins s σ H [] us Q I r ⟨rfl, ct _ _ (Off.refl _ _) er g⟩
    | cons p l => exact g.elim⟩
theorem pgl_cons {e : Expr} {es : List Expr} {vs ws : List Nat} {t : WG} {u : WGs} (h1 : PG X e (GT X.K vs t)) (h2 : PGs X es (GTs X.K ws u)) (hs : (assignEach (e :: es) X.env).map (·.2) = assign e X.env :: (assignEach es X.env).map (·.2)) :
    PGs X (e :: es) (GTs X.K (vs ++ ws) fun l ρ k => match l with | p :: l => t p ρ fun ρ' => u l ρ' k | _ => False) :=
  ⟨fun pins s σ H xs us Q I r ⟨ρ, l, k, er, rl, g, ct⟩ => by
    cases l with
    | nil => exact g.elim
    | cons p l =>
      unfold RepL at rl
      obtain ⟨v, ys, rfl, rp, rl⟩ := rl
      exact (pgs_cons h1 h2 hs).run pins s σ H (v :: ys) us Q I r ⟨v, ys, rfl, ρ, p, _, er, rp, g, fun σ1 ρ1 o1 e1 g1 => ⟨ρ1, l, k, e1, rl, g1, fun σ2 ρ2 o2 e2 k2 => ct σ2 ρ2 (o1.trans o2) e2 k2⟩⟩⟩
theorem pgl_tup {es : List Expr} {kk : Nat} {pos : Pos} {vs : List Nat} {u : WGs} {n : Nat} (hc : X.calm = true) (h : PGs X es (GTs X.K vs u)) (hl : ∀ l ρ k, u l ρ k → l.length = n)
    (hn : (assignEach es X.env).length = n) (hst : (assignEach es X.env).findIdx? (·.1) = none) : PG X (.Tuple es kk pos) (GT X.K vs fun v ρ k => onT v fun l => u l ρ k) :=
  ⟨fun pins s σ H v w Q I r ⟨ρ, p, k, er, rp, g, ct⟩ => by
    obtain ⟨l, rfl, g⟩ := onT_of g
    unfold Rep at rp
    obtain ⟨a, xs, rfl, sq, _, rl⟩ := rp
    exact (pg_tup hc h hn hst).run pins s σ H (.ref a) w Q I r ⟨a, xs, rfl, sq, by rw [← rl.length]; exact hl l ρ k g, ρ, l, k, er, rl, g, ct⟩⟩
end
mutual
def T.slots : T → List Nat
  | .nm i => [i]
  | .tp ts => ts.slots
def Ts.slots : Ts → List Nat
  | .nil => []
  | .cons t ts => t.slots ++ ts.slots
end
def Ts.len : Ts → Nat
  | .nil => 0
  | .cons _ ts => ts.len + 1
theorem wpTs_len : ∀ (ts : Ts) (l : List PV) (ρ : PEnv) (k : PEnv → Prop), wpTs ts l ρ k → l.length = ts.len
  | .nil, [], _, _, _ => rfl
  | .nil, _ :: _, _, _, h => by simp [wpTs] at h
  | .cons t ts, [], _, _, h => by simp [wpTs] at h
  | .cons t ts, p :: l, ρ, k, h => by
    simp only [wpTs] at h
    have mono : ∀ (t : T) (p : PV) (ρ : PEnv) (f : PEnv → Prop), wpT t p ρ f → ∃ ρ', f ρ' := by
      intro t
      apply T.rec (motive_1 := fun t => ∀ (p : PV) (ρ : PEnv) (f : PEnv → Prop), wpT t p ρ f → ∃ ρ', f ρ') (motive_2 := fun ts => ∀ (l : List PV) (ρ : PEnv) (f : PEnv → Prop), wpTs ts l ρ f → ∃ ρ', f ρ') ?_ ?_ ?_ ?_ t
      · intro i p ρ f h
        simp only [wpT] at h
        exact ⟨_, h⟩
      · intro ts ih p ρ f h
        simp only [wpT] at h
        obtain ⟨l, rfl, h⟩ := onT_of h
        exact ih l ρ f h
      · intro l ρ f h
        cases l with
        | nil => simp only [wpTs] at h; exact ⟨_, h⟩
        | cons p l => simp [wpTs] at h
      · intro t ts ih1 ih2 l ρ f h
        cases l with
        | nil => simp [wpTs] at h
        | cons p l =>
          simp only [wpTs] at h
          obtain ⟨ρ', h⟩ := ih1 p ρ _ h
          exact ih2 l ρ' f h
    obtain ⟨ρ', h⟩ := mono t p ρ _ h
    rw [List.length_cons, wpTs_len ts l ρ' k h]
    rfl

/-! ### iterators -/
/-- what the heap's shape tells at each turn -/
def KF (K : PySem.W.Frag) (J : It) : It := ⟨fun i H => Kf K H → J.go i H, fun i H x H' => J.yld i H x H' ∧ Kf K H', fun i H => Kf K H → J.stop i H⟩
theorem turn_kf {P : Program} {w : World} {K : PySem.W.Frag} {tg : Expr} {J : It} {fp : List Addr} {it : Addr} {tn : Nat → Heap → Prop} (t : Turn P w K tg J fp it tn) : Turn P w K tg (KF K J) fp it tn where
  mem := t.mem
  obj := t.obj
  keep := t.keep
  item := fun X hP hw hK hc i pins s σ H E I hf st hg => by
    subst hK
    exact thn (t.item X hP hw rfl hc i pins s σ H E I hf st (hg (inv_kf I))) fun r s1 ⟨u, hr, h1⟩ => ⟨u, hr, thn h1 fun _ s2 ⟨x, H', I', rx, y, st', n⟩ => ⟨x, H', I', rx, ⟨y, inv_kf I'⟩, st', n⟩⟩
  done := fun X hP hw hK hc i pins s σ H E I hf st hg => by
    subst hK
    exact t.done X hP hw rfl hc i pins s σ H E I hf st (hg (inv_kf I))
  self := t.self
section
variable {X : Cx} {pins : List (Addr × Obj)} {σ : L2.St} {H : Hp} {s : Shared} {tg : Expr}
theorem pie_kf {R : It → Hp → Prop} {v : Value} (h : PIE X pins σ tg (fun J H' => Kf X.K H' → R (KF X.K J) H') v s) : PIE X pins σ tg R v s := by
  obtain ⟨it, fp, tn, J, H', e, I', t, st, f, r⟩ := h
  exact ⟨it, fp, tn, KF X.K J, H', e, I', turn_kf t, st, f, r (inv_kf I')⟩
/-- an iterator over these items -/
structure ItOk (P : Program) (w : World) (K : PySem.W.Frag) (H0 : Hp) (J : It) (items : List PV) (St : MH → Prop) : Prop where
  go : ∀ i H M, Hle H0 H → Cor P w K H M → St M → i < items.length → J.go i H
  yld : ∀ i H x H' M, Hle H0 H → Cor P w K H M → St M → J.yld i H x H' → i < items.length → Hle H H' ∧ Cor P w K H' M ∧ ∃ p, items[i]? = some p ∧ Rep K H' p x
  stop : ∀ i H M, Hle H0 H → Cor P w K H M → St M → items.length = i → J.stop i H
def LI (P : Program) (w : World) (K : PySem.W.Frag) (t : PEnv → MH → WI → Prop) : TI := fun σ H R => ∃ ρ M k, EnvR K H ρ σ ∧ Cor P w K H M ∧ t ρ M k ∧ ∀ J H' M' items St, Hle H H' → Cor P w K H' M' → ItOk P w K H' (KF K J) items St → k items St M' → R (KF K J) H'
abbrev LIx (X : Cx) := LI X.prog X.w X.K
theorem it_list {P : Program} {w : World} {K : PySem.W.Frag} {H0 : Hp} {a : Addr} {l : List PV} {St : MH → Prop} (hs : ∀ H M, Cor P w K H M → St M → ∃ vs, SqL K H a vs ∧ RepL K H l vs) : ItOk P w K H0 (KF K (Itl K a)) l St where
  go := fun i H M hl c st hi kf => by
    obtain ⟨vs, q, rl⟩ := hs H M c st
    obtain ⟨v, e, _⟩ := rl.at (List.getElem?_eq_getElem hi)
    exact ⟨vs, v, q, e⟩
  yld := fun i H x H' M hl c st hy hi => by
    obtain ⟨⟨rfl, y⟩, _⟩ := hy
    obtain ⟨vs, q, rl⟩ := hs _ M c st
    obtain ⟨v, e, rv⟩ := rl.at (List.getElem?_eq_getElem hi)
    have := y vs q
    rw [e] at this
    cases this
    exact ⟨.refl _, c, _, List.getElem?_eq_getElem hi, rv⟩
  stop := fun i H M hl c st hi kf => by
    obtain ⟨vs, q, rl⟩ := hs H M c st
    exact ⟨vs, q, by rw [← rl.length]; exact Nat.le_of_eq hi⟩
theorem it_tup {P : Program} {w : World} {K : PySem.W.Frag} {H0 : Hp} {a : Addr} {l : List PV} {St : MH → Prop} (r : Rep K H0 (.tup l) (.ref a)) : ItOk P w K H0 (KF K (Itt K a)) l St := by
  have hs : ∀ H, Hle H0 H → ∃ vs, SqT K H a vs ∧ RepL K H l vs := fun H hl => by
    have r := r.le hl
    unfold Rep at r
    obtain ⟨b, vs, e, q, _, rl⟩ := r
    cases e
    exact ⟨vs, q, rl⟩
  refine ⟨fun i H M hl c st hi kf => ?_, fun i H x H' M hl c st hy hi => ?_, fun i H M hl c st hi kf => ?_⟩
  · obtain ⟨vs, q, rl⟩ := hs H hl
    obtain ⟨v, e, _⟩ := rl.at (List.getElem?_eq_getElem hi)
    exact ⟨vs, v, q, e⟩
  · obtain ⟨⟨rfl, y⟩, _⟩ := hy
    obtain ⟨vs, q, rl⟩ := hs _ hl
    obtain ⟨v, e, rv⟩ := rl.at (List.getElem?_eq_getElem hi)
    have := y vs q
    rw [e] at this
    cases this
    exact ⟨.refl _, c, _, List.getElem?_eq_getElem hi, rv⟩
  · obtain ⟨vs, q, rl⟩ := hs H hl
    exact ⟨vs, q, by rw [← rl.length]; exact Nat.le_of_eq hi⟩
theorem it_rng {P : Program} {w : World} {K : PySem.W.Frag} {H0 : Hp} {lo : Int} {n : Nat} {l : List PV} {St : MH → Prop} (hn : l.length = n) (hl : ∀ i, i < n → l[i]? = some (.int (lo + (i : Nat)))) : ItOk P w K H0 (KF K (Itr lo n)) l St := by
  refine ⟨fun i H M _ c st hi kf => ?_, fun i H x H' M _ c st hy hi => ?_, fun i H M _ c st hi kf => ?_⟩
  · show i < n
    omega
  · obtain ⟨⟨rfl, rfl⟩, _⟩ := hy
    exact ⟨.refl _, c, _, hl i (by omega), by unfold Rep; rfl⟩
  · show n ≤ i
    omega
/-- a pair of values, new -/
theorem rep_pair {K : PySem.W.Frag} {H : Hp} {tt : Addr} {p q : PV} {x y : V} (hn : H tt = none) (rp : Rep K H p x) (rq : Rep K H q y) : Rep K (upd H tt (.tup [x, y])) (.tup [p, q]) (.ref tt) := by
  unfold Rep
  refine ⟨tt, [x, y], rfl, SqT.of upd_same, by show 2 ≤ sizeLine; decide, ?_⟩
  unfold RepL
  refine ⟨x, [y], rfl, rp.le (.new hn), ?_⟩
  unfold RepL
  exact ⟨y, [], rfl, rq.le (.new hn), by unfold RepL; rfl⟩
theorem enum_get {l : List PV} {i : Nat} (hi : i < l.length) : (l.zipIdx.map fun z => PV.tup [.int (z.2 : Nat), z.1])[i]? = some (.tup [.int (i : Nat), l[i]]) := by
  simp [hi]
theorem it_enumL {P : Program} {w : World} {K : PySem.W.Frag} {H0 : Hp} {a : Addr} {l : List PV} {St : MH → Prop} (hs : ∀ H M, Cor P w K H M → St M → ∃ vs, SqL K H a vs ∧ RepL K H l vs) : ItOk P w K H0 (KF K (Ite K a)) (l.zipIdx.map fun z => PV.tup [.int (z.2 : Nat), z.1]) St := by
  have hlen : (l.zipIdx.map fun z => PV.tup [.int (z.2 : Nat), z.1]).length = l.length := by simp
  refine ⟨fun i H M hl c st hi kf => ?_, fun i H x H' M hl c st hy hi => ?_, fun i H M hl c st hi kf => ?_⟩
  · rw [hlen] at hi
    obtain ⟨vs, q, rl⟩ := hs H M c st
    obtain ⟨v, e, _⟩ := rl.at (List.getElem?_eq_getElem hi)
    exact ⟨vs, v, q, e⟩
  · rw [hlen] at hi
    obtain ⟨⟨tt, y, rfl, hn, rfl, hy⟩, kf⟩ := hy
    obtain ⟨vs, q, rl⟩ := hs _ M c st
    obtain ⟨v, e, rv⟩ := rl.at (List.getElem?_eq_getElem hi)
    have := hy vs q
    rw [e] at this
    cases this
    exact ⟨.new hn, c.old kf hn, _, enum_get hi, rep_pair hn (by unfold Rep; rfl) rv⟩
  · rw [hlen] at hi
    obtain ⟨vs, q, rl⟩ := hs H M c st
    exact ⟨vs, q, by rw [← rl.length]; exact Nat.le_of_eq hi⟩
/-- enumerate of a tuple -/
def ItE (K : PySem.W.Frag) (a : Addr) : It :=
  ⟨fun i H => ∃ (xs : List V) (x : V), SqT K H a xs ∧ xs[i]? = some x, fun i H v H' => ∃ tt x, v = .ref tt ∧ H tt = none ∧ H' = upd H tt (.tup [.int (i : Nat), x]) ∧ ∀ xs, SqT K H a xs → xs[i]? = some x, fun i H => ∃ xs : List V, SqT K H a xs ∧ xs.length = i⟩
theorem it_enumT {P : Program} {w : World} {K : PySem.W.Frag} {H0 : Hp} {a : Addr} {l : List PV} {St : MH → Prop} (r : Rep K H0 (.tup l) (.ref a)) : ItOk P w K H0 (KF K (ItE K a)) (l.zipIdx.map fun z => PV.tup [.int (z.2 : Nat), z.1]) St := by
  have hlen : (l.zipIdx.map fun z => PV.tup [.int (z.2 : Nat), z.1]).length = l.length := by simp
  have hs : ∀ H, Hle H0 H → ∃ vs, SqT K H a vs ∧ RepL K H l vs := fun H hl => by
    have r := r.le hl
    unfold Rep at r
    obtain ⟨b, vs, e, q, _, rl⟩ := r
    cases e
    exact ⟨vs, q, rl⟩
  refine ⟨fun i H M hl c st hi kf => ?_, fun i H x H' M hl c st hy hi => ?_, fun i H M hl c st hi kf => ?_⟩
  · rw [hlen] at hi
    obtain ⟨vs, q, rl⟩ := hs H hl
    obtain ⟨v, e, _⟩ := rl.at (List.getElem?_eq_getElem hi)
    exact ⟨vs, v, q, e⟩
  · rw [hlen] at hi
    obtain ⟨⟨tt, y, rfl, hn, rfl, hy⟩, kf⟩ := hy
    obtain ⟨vs, q, rl⟩ := hs _ hl
    obtain ⟨v, e, rv⟩ := rl.at (List.getElem?_eq_getElem hi)
    have := hy vs q
    rw [e] at this
    cases this
    exact ⟨.new hn, c.old kf hn, _, enum_get hi, rep_pair hn (by unfold Rep; rfl) rv⟩
  · rw [hlen] at hi
    obtain ⟨vs, q, rl⟩ := hs H hl
    exact ⟨vs, q, by rw [← rl.length]; exact hi⟩
theorem zip_get {l m : List PV} {i : Nat} (h1 : i < l.length) (h2 : i < m.length) : ((l.zip m).map fun z => PV.tup [z.1, z.2])[i]? = some (.tup [l[i], m[i]]) := by
  rw [List.getElem?_map, List.getElem?_eq_getElem (show i < (l.zip m).length by rw [List.length_zip]; omega)]
  simp
theorem it_zipT {P : Program} {w : World} {K : PySem.W.Frag} {H0 : Hp} {a b : Addr} {l m : List PV} {St : MH → Prop} (r : Rep K H0 (.tup l) (.ref a)) (r2 : Rep K H0 (.tup m) (.ref b)) : ItOk P w K H0 (KF K (RZ.ItzT K a b)) ((l.zip m).map fun z => PV.tup [z.1, z.2]) St := by
  have hlen : ((l.zip m).map fun z => PV.tup [z.1, z.2]).length = min l.length m.length := by simp
  have hs : ∀ {a : Addr} {l : List PV} (_ : Rep K H0 (.tup l) (.ref a)) H, Hle H0 H → ∃ vs, SqT K H a vs ∧ RepL K H l vs := fun {a l} r H hl => by
    have r := r.le hl
    unfold Rep at r
    obtain ⟨b, vs, e, q, _, rl⟩ := r
    cases e
    exact ⟨vs, q, rl⟩
  refine ⟨fun i H M hl c st hi kf => ?_, fun i H x H' M hl c st hy hi => ?_, fun i H M hl c st hi kf => ?_⟩
  · rw [hlen] at hi
    obtain ⟨vs, q, rl⟩ := hs r H hl
    obtain ⟨ws, q2, rl2⟩ := hs r2 H hl
    obtain ⟨v, e, _⟩ := rl.at (List.getElem?_eq_getElem (show i < l.length by omega))
    obtain ⟨v2, e2, _⟩ := rl2.at (List.getElem?_eq_getElem (show i < m.length by omega))
    exact ⟨vs, ws, v, v2, q, q2, e, e2⟩
  · rw [hlen] at hi
    obtain ⟨⟨tt, y, z, rfl, hn, rfl, hy, hz⟩, kf⟩ := hy
    obtain ⟨vs, q, rl⟩ := hs r _ hl
    obtain ⟨ws, q2, rl2⟩ := hs r2 _ hl
    obtain ⟨v, e, rv⟩ := rl.at (List.getElem?_eq_getElem (show i < l.length by omega))
    obtain ⟨v2, e2, rv2⟩ := rl2.at (List.getElem?_eq_getElem (show i < m.length by omega))
    have h1 := hy vs q
    have h2 := hz ws q2
    rw [e] at h1
    rw [e2] at h2
    cases h1
    cases h2
    exact ⟨.new hn, c.old kf hn, _, zip_get (show i < l.length by omega) (show i < m.length by omega), rep_pair hn rv rv2⟩
  · rw [hlen] at hi
    obtain ⟨vs, q, rl⟩ := hs r H hl
    obtain ⟨ws, q2, rl2⟩ := hs r2 H hl
    refine ⟨vs, ws, q, q2, ?_⟩
    rw [← rl.length, ← rl2.length]
    omega
theorem it_zipL {P : Program} {w : World} {K : PySem.W.Frag} {H0 : Hp} {a b : Addr} {l m : List PV} {St : MH → Prop} (hs : ∀ H M, Cor P w K H M → St M → (∃ vs, SqL K H a vs ∧ RepL K H l vs) ∧ ∃ vs, SqL K H b vs ∧ RepL K H m vs) : ItOk P w K H0 (KF K (Itz K a b)) ((l.zip m).map fun z => PV.tup [z.1, z.2]) St := by
  have hlen : ((l.zip m).map fun z => PV.tup [z.1, z.2]).length = min l.length m.length := by simp
  refine ⟨fun i H M hl c st hi kf => ?_, fun i H x H' M hl c st hy hi => ?_, fun i H M hl c st hi kf => ?_⟩
  · rw [hlen] at hi
    obtain ⟨⟨vs, q, rl⟩, ws, q2, rl2⟩ := hs H M c st
    obtain ⟨v, e, _⟩ := rl.at (List.getElem?_eq_getElem (show i < l.length by omega))
    obtain ⟨v2, e2, _⟩ := rl2.at (List.getElem?_eq_getElem (show i < m.length by omega))
    exact ⟨vs, ws, v, v2, q, q2, e, e2⟩
  · rw [hlen] at hi
    obtain ⟨⟨tt, y, z, rfl, hn, rfl, hy, hz⟩, kf⟩ := hy
    obtain ⟨⟨vs, q, rl⟩, ws, q2, rl2⟩ := hs _ M c st
    obtain ⟨v, e, rv⟩ := rl.at (List.getElem?_eq_getElem (show i < l.length by omega))
    obtain ⟨v2, e2, rv2⟩ := rl2.at (List.getElem?_eq_getElem (show i < m.length by omega))
    have h1 := hy vs q
    have h2 := hz ws q2
    rw [e] at h1
    rw [e2] at h2
    cases h1
    cases h2
    exact ⟨.new hn, c.old kf hn, _, zip_get (show i < l.length by omega) (show i < m.length by omega), rep_pair hn rv rv2⟩
  · rw [hlen] at hi
    obtain ⟨⟨vs, q, rl⟩, ws, q2, rl2⟩ := hs H M c st
    refine ⟨vs, ws, q, q2, ?_⟩
    rw [← rl.length, ← rl2.length]
    omega
end
end PL
/-! PLu9: the iterators begin. -/
namespace PL
open PySem PySem.Spec PySem.W PyProof.Rows L2

section
variable {X : Cx} {pins : List (Addr × Obj)} {σ : L2.St} {H : Hp} {s : Shared} {tg : Expr}
/-- iter of a list -/
theorem walk_list {E : Value → Shared → Prop} {R : It → Hp → Prop} {a : Addr} {xs : List V} (I : Inv X pins σ H s) (hq : SqL X.K H a xs) (q : R (Itl X.K a) H) : wpAny (model X.prog X.w) X.A (pyIter (.ref a)) (PIE X pins σ tg R) E s := by
  obtain ⟨its, rv, pl, hz⟩ := I.list hq
  have hn : H s.heap.objs.size = none := I.hok.fresh (Nat.le_refl _)
  have turn := turn_list (P := X.prog) (w := X.w) (K := X.K) (tg := tg) a s.heap.objs.size
  exact wpAny_pyIter_list pl.isList ⟨s.heap.objs.size, [s.heap.objs.size], _, _, H, rfl, I.kept (t' := s.toks) (fun b o e => Heap.get?_push_of_some _ e), turn, ⟨_, Heap.get?_push_size _ rfl, rfl, rfl⟩,
    (fun b hb => by rw [List.mem_singleton.mp hb]; exact I.fpOk (Nat.le_refl _) hn), q⟩
theorem walk_tup {E : Value → Shared → Prop} {R : It → Hp → Prop} {a : Addr} {xs : List V} (I : Inv X pins σ H s) (hq : SqT X.K H a xs) (q : R (Itt X.K a) H) : wpAny (model X.prog X.w) X.A (pyIter (.ref a)) (PIE X pins σ tg R) E s := by
  obtain ⟨its, rv, pl, hz⟩ := I.tuple hq
  have hn : H s.heap.objs.size = none := I.hok.fresh (Nat.le_refl _)
  have turn := turn_tuple (P := X.prog) (w := X.w) (K := X.K) (tg := tg) a s.heap.objs.size
  have pl' : s.heap.IsTuple a its.toArray := pl
  exact wpAny_pyIter_tuple pl' ⟨s.heap.objs.size, [s.heap.objs.size], _, _, H, rfl, I.kept (t' := s.toks) (fun b o e => Heap.get?_push_of_some _ e), turn, ⟨_, Heap.get?_push_size _ rfl, rfl, rfl⟩,
    (fun b hb => by rw [List.mem_singleton.mp hb]; exact I.fpOk (Nat.le_refl _) hn), q⟩
/-- what a run's value leaves: the pure one, the heap's -/
def Got (X : Cx) (H : Hp) (v : V) (H1 : Hp) (f : PV → MH → Prop) : Prop := ∃ p M1, Hle H H1 ∧ Rep X.K H1 p v ∧ Cor X.prog X.w X.K H1 M1 ∧ f p M1
theorem sq_lst {M : MH} {H1 : Hp} {a : Addr} {l : List PV} (c : Cor X.prog X.w X.K H1 M) (e : M a = some (.lst l)) : ∃ vs, SqL X.K H1 a vs ∧ RepL X.K H1 l vs := by
  obtain ⟨vs, q, rl⟩ := c.ok a _ e
  exact ⟨vs, SqL.of q, rl⟩
theorem sq_rol {M : MH} {H1 : Hp} {a : Addr} {l : List PV} (c : Cor X.prog X.w X.K H1 M) (e : M a = some (.rol l)) : ∃ vs, SqL X.K H1 a vs ∧ RepL X.K H1 l vs := c.ok a _ e
/-- a dict of ints and texts, locked -/
theorem walk_dct {E : Value → Shared → Prop} {R : It → Hp → Prop} {M : MH} {a : Addr} {kvs : List (PV × PV)} {ep : Nat} (I : Inv X pins σ H s) (c : Cor X.prog X.w X.K H M) (e : M a = some (.dct kvs ep)) (hf : allF kvs = true)
    (q : ∀ J H', Hle H H' → Cor X.prog X.w X.K H' (M.upd a (.dct kvs 1)) → ItOk X.prog X.w X.K H' (KF X.K J) (kvs.map (·.1)) (fun M' => M' a = some (.dct kvs 1)) → R (KF X.K J) H') : wpAny (model X.prog X.w) X.A (pyIter (.ref a)) (PIE X pins σ tg R) E s := by
  obtain ⟨u, h0, rd, dr⟩ := c.ok a _ e
  obtain ⟨ks, rfl, r⟩ : ∃ ks, u = .dK ks ∧ DKR X.K H kvs ks := by
    rcases dr with z | ⟨lo, ne, z, xs, rfl, r, n⟩
    · exact z
    · exfalso
      cases r with
      | nil => exact ne rfl
      | @cons x y l m h t =>
        simp only [allF, List.all_cons, Bool.and_eq_true] at hf
        exact isF_T hf.1.2 h.2.2.1
  -- the locked heap
  have lock : ∃ od H', Inv X pins σ H' s ∧ H' a = some (.frz od (.dK ks)) ∧ Hle H H' ∧ Cor X.prog X.w X.K H' (M.upd a (.dct kvs 1)) := by
    rcases rd with rd | ⟨od, rd⟩
    · obtain ⟨od, I2⟩ := I.lock rd trivial
      have hle : Hle H (upd H a (.frz od (.dK ks))) := .mut rd trivial
      exact ⟨od, _, I2, upd_same, hle, c.put rd trivial ⟨_, fun z => (by cases z), .inr ⟨od, upd_same⟩, .inl ⟨_, rfl, r.le hle⟩⟩⟩
    · refine ⟨od, H, I, rd, .refl _, c.kf, fun b mb hb => ?_⟩
      by_cases z : b = a
      · subst z
        rw [MH.upd_same] at hb
        cases hb
        exact ⟨_, fun z => (by cases z), .inr ⟨od, rd⟩, .inl ⟨_, rfl, r⟩⟩
      · rw [MH.upd_ne z] at hb
        exact c.ok b mb hb
  obtain ⟨od, H', I2, hd, hle, c2⟩ := lock
  obtain ⟨hs, hgd, hx, es, ep2, vs, hdt, hsz, kv, hm⟩ := I2.frzK hd
  refine thn (Q := PIE X pins σ tg fun J H' => Kf X.K H' → R (KF X.K J) H') ?_ fun v s' h => pie_kf h
  refine iter_keys hs hgd hx hdt (pi_one (tk := s.toks) I2 _ (turn_keys (tg := tg) (d := a) (kvs := ks) s.heap.objs.size hdt) ⟨_, Heap.get?_push_size _ rfl, rfl, ?_⟩ fun _ => q (Itk a od ks) H' hle c2 ?_)
  · rw [hsz] <;> rfl
  · have ln : kvs.length = ks.length := Paired.length r
    have fr : ∀ H2 M', Cor X.prog X.w X.K H2 M' → M' a = some (.dct kvs 1) → Hle H' H2 → H2 a = some (.frz od (.dK ks)) := fun H2 M' _ _ hl => hl.frz _ _ _ hd
    refine ⟨fun i H2 M' hl c' st hi kf => ?_, fun i H2 x H3 M' hl c' st hy hi => ?_, fun i H2 M' hl c' st hi kf => ?_⟩
    · rw [List.length_map] at hi
      exact ⟨fr H2 M' c' st hl, by omega⟩
    · rw [List.length_map] at hi
      obtain ⟨⟨rfl, k, v, e1, rfl⟩, _⟩ := hy
      obtain ⟨x, e2, e3, _⟩ := paired_get r e1
      exact ⟨.refl _, c', kP k, by rw [List.getElem?_map, e2, Option.map_some, e3], kP_rep _ _ _⟩
    · rw [List.length_map] at hi
      exact ⟨fr H2 M' c' st hl, by omega⟩
/-- for .. in a value -/
theorem pl_iex {e : Expr} {te : WE} (he : PE X e (LEx X te)) : PI X tg e (LIx X fun ρ M k => te ρ M fun x M1 => exW x M1 k) :=
  ⟨fun pins s σ H R I ⟨ρ, M, k, er, c, g, ct⟩ => by
    refine thn (he.run pins s σ H (fun v H1 => Got X H v H1 fun p M1 => exW p M1 k) I ⟨ρ, M, _, er, c, g, fun v H1 p M1 l r c1 q1 => ⟨p, M1, l, r, c1, q1⟩⟩) fun u s1 ⟨v, H1, I1, rv, p, M1, l, rp, c1, q1⟩ => ?_
    have q1 : exW p M1 k := q1
    unfold exW at q1
    split at q1
    · have rp0 := rp
      unfold Rep at rp
      obtain ⟨a, xs, rfl, q, _, rl⟩ := rp
      cases rv
      refine thn (Q := PIE X pins σ tg fun J H' => Kf X.K H' → R (KF X.K J) H') (walk_tup I1 q fun _ => ?_) fun v s' h => pie_kf h
      exact ct _ H1 M1 _ _ l c1 (it_tup rp0) q1
    · unfold Rep at rp
      subst rp
      cases rv
      split at q1
      · rename_i e1
        obtain ⟨vs, q, rl⟩ := sq_lst c1 e1
        refine thn (Q := PIE X pins σ tg fun J H' => Kf X.K H' → R (KF X.K J) H') (walk_list I1 q fun _ => ?_) fun v s' h => pie_kf h
        exact ct _ H1 M1 _ _ l c1 (it_list fun H M c st => sq_lst c st) q1
      · rename_i e1
        obtain ⟨vs, q, rl⟩ := sq_rol c1 e1
        refine thn (Q := PIE X pins σ tg fun J H' => Kf X.K H' → R (KF X.K J) H') (walk_list I1 q fun _ => ?_) fun v s' h => pie_kf h
        exact ct _ H1 M1 _ _ l c1 (it_list fun H M c st => sq_rol c st) q1
      · rename_i e1
        exact walk_dct I1 c1 e1 q1.1 fun J H' l2 c2 io => ct J H' _ _ _ (l.trans l2) c2 io q1.2
      · exact q1.elim
    · exact q1.elim⟩
def on1 (vs : List PV) (f : PV → Prop) : Prop := match vs with
  | [x] => f x
  | _ => False
theorem on1_of {vs : List PV} {f : PV → Prop} (h : on1 vs f) : ∃ x, vs = [x] ∧ f x := by
  unfold on1 at h
  split at h
  · exact ⟨_, rfl, h⟩
  · exact h.elim
def on2 (vs : List PV) (f : PV → PV → Prop) : Prop := match vs with
  | [x, y] => f x y
  | _ => False
theorem on2_of {vs : List PV} {f : PV → PV → Prop} (h : on2 vs f) : ∃ x y, vs = [x, y] ∧ f x y := by
  unfold on2 at h
  split at h
  · exact ⟨_, _, rfl, h⟩
  · exact h.elim
/-- .. in range(n) -/
theorem pl_irng1 {a : Expr} {p pos : Pos} {ta : WE} (hg : Gl X "range") (hm : X.mg "range" = none) (ha : PE X a (LEx X ta)) (hs : starEach [a] X.env = [(false, eval a X.env)]) (hs1 : starEach [a] X.env = (false, eval a X.env) :: starEach [] X.env) :
    PI X tg (.Call (.Name "range" p) [a] [] pos) (LIx X fun ρ M k => ta ρ M fun x M1 => rngW [x] M1 k) :=
  ⟨fun pins s σ H R I ⟨ρ, M, k, er, c, g, ct⟩ => by
    refine thn ((pi_range1 (tg := tg) hg hm (pl_cons ha pl_nil hs1) hs).run pins s σ H (fun J H' => Kf X.K H' → R (KF X.K J) H') I ⟨ρ, M, fun vs M1 => on1 vs fun x => rngW [x] M1 k, er, c, g, fun vs H1 ps M1 l r c1 q1 => ?_⟩) fun u s1 h => thn h fun v s' h => pie_kf h
    obtain ⟨x, rfl, q2⟩ := on1_of q1
    clear q1
    have q1 : rngW [x] M1 k := q2
    clear q2
    unfold rngW at q1
    split at q1
    · rename_i n e
      cases e
      obtain ⟨x, rfl, rx⟩ := repl_one r
      unfold Rep at rx
      subst rx
      obtain ⟨⟨b1, b2⟩, q1⟩ := q1
      refine ⟨n, rfl, b1, b2, fun _ => ct _ H1 M1 _ _ l c1 (it_rng (by simp) fun i hi => ?_) q1⟩
      rw [List.getElem?_map, List.getElem?_range hi]
      simp
    · rename_i e
      cases e
    · exact q1.elim⟩
theorem pl_irng2 {a b : Expr} {p pos : Pos} {ta tb : WE} (hg : Gl X "range") (hm : X.mg "range" = none) (ha : PE X a (LEx X ta)) (hb : PE X b (LEx X tb)) (hs : starEach [a, b] X.env = [(false, eval a X.env), (false, eval b X.env)]) (hs2 : starEach [b] X.env = [(false, eval b X.env)])
    (hs3 : starEach [a, b] X.env = (false, eval a X.env) :: starEach [b] X.env) (hs4 : starEach [b] X.env = (false, eval b X.env) :: starEach [] X.env) :
    PI X tg (.Call (.Name "range" p) [a, b] [] pos) (LIx X fun ρ M k => ta ρ M fun x M1 => tb ρ M1 fun y M2 => rngW [x, y] M2 k) :=
  ⟨fun pins s σ H R I ⟨ρ, M, k, er, c, g, ct⟩ => by
    refine thn ((pi_range2 (tg := tg) hg hm (pl_cons ha (pl_cons hb pl_nil hs4) hs3) hs hs2).run pins s σ H (fun J H' => Kf X.K H' → R (KF X.K J) H') I ⟨ρ, M, fun vs M1 => on2 vs fun x y => rngW [x, y] M1 k, er, c, g, fun vs H1 ps M1 l r c1 q1 => ?_⟩) fun u s1 h => thn h fun v s' h => pie_kf h
    obtain ⟨x, y, rfl, q2⟩ := on2_of q1
    clear q1
    have q1 : rngW [x, y] M1 k := q2
    clear q2
    unfold rngW at q1
    split at q1
    · rename_i e
      cases e
    · rename_i a b e
      cases e
      obtain ⟨x, y, rfl, rx, ry⟩ := repl_two r
      unfold Rep at rx ry
      subst rx; subst ry
      obtain ⟨⟨⟨b1, b2⟩, b3, b4⟩, q1⟩ := q1
      refine ⟨a, b, rfl, ⟨b1, b2, b3, b4⟩, fun _ => ct _ H1 M1 _ _ l c1 (it_rng (by simp) fun i hi => ?_) q1⟩
      rw [List.getElem?_map, List.getElem?_range hi]
      simp
    · exact q1.elim⟩
end
/-- zip of two tuples, of two lists -/
theorem pl_izip {X : Cx} {a b : Expr} {p pos tpos : Pos} {elts : List Expr} {kk : Nat} {ta tb : WE} (hg : Gl X "zip") (hm : X.mg "zip" = none) (ha : PE X a (LEx X ta)) (hb : PE X b (LEx X tb))
    (hs : starEach [a, b] X.env = (false, eval a X.env) :: starEach [b] X.env) (hpl : (backTo pos (starEach [b] X.env)).any (·.1) = false) (hs4 : starEach [b] X.env = (false, eval b X.env) :: starEach [] X.env) :
    PI X (.Tuple elts kk tpos) (.Call (.Name "zip" p) [a, b] [] pos) (LIx X fun ρ M k => ta ρ M fun x M1 => tb ρ M1 fun y M2 => zipW x y M2 k) :=
  ⟨fun pins s σ H R I ⟨ρ, M, k, er, c, g, ct⟩ => by
    refine thn ((RZ.pi_zipA (elts := elts) (kk := kk) (tpos := tpos) hg hm (pl_cons ha (pl_cons hb pl_nil hs4) hs) hs hpl).run pins s σ H (fun J H' => Kf X.K H' → R (KF X.K J) H') I ⟨ρ, M, fun vs M1 => on2 vs fun x y => zipW x y M1 k, er, c, g, fun vs H1 ps M1 l r c1 q1 => ?_⟩) fun u s1 h => thn h fun v s' h => pie_kf h
    obtain ⟨x, y, rfl, q2⟩ := on2_of q1
    clear q1
    have q1 : zipW x y M1 k := q2
    clear q2
    obtain ⟨v1, v2, rfl, rx, ry⟩ := repl_two r
    unfold zipW at q1
    split at q1
    · have rx0 := rx
      have ry0 := ry
      unfold Rep at rx ry
      obtain ⟨a1, xs, rfl, sx, _, _⟩ := rx
      obtain ⟨a2, ys, rfl, sy, _, _⟩ := ry
      exact ⟨a1, a2, xs, ys, rfl, .inr ⟨sx, sy, fun _ => ct _ H1 M1 _ _ l c1 (it_zipT rx0 ry0) q1⟩⟩
    · unfold Rep at rx ry
      subst rx; subst ry
      obtain ⟨l1, e1, q1⟩ := ok_of q1
      obtain ⟨l2, e2, q1⟩ := ok_of q1
      obtain ⟨xs, sx, _⟩ := lstOf_cor c1 e1
      obtain ⟨ys, sy, _⟩ := lstOf_cor c1 e2
      exact ⟨_, _, xs, ys, rfl, .inl ⟨sx, sy, fun _ => ct _ H1 M1 _ _ l c1 (it_zipL fun H M c st => ⟨lstOf_cor c st.1, lstOf_cor c st.2⟩) q1⟩⟩
    · exact q1.elim⟩

/-! ### enumerate -/
/-- enumerate(v) of what begins -/
theorem enum_new {v : Value} {o : Obj} {F : Heap → Prop} (B : Begins v o F) :
    Meets (Builtin.«enumerate.__new__» ⟨[.type "enumerate", v], []⟩) (fun _ R s => F s.heap ∧
      R (.ok (.ret (.ref (s.heap.push o).objs.size))) { s with heap := (s.heap.push o).push { cls := .type "enumerate", data := .fields #[.none, .bool false, .ref s.heap.objs.size, rawInt 0, .none, .none] } }) :=
  .of_wp fun prog w A R s h => by
    obtain ⟨hp, gs, dr, tk, os⟩ := s
    obtain ⟨hF, h⟩ := h
    have hsub := sub_enumerate
    have begin1 : ∀ {A' : Around} {E : Value → Shared → Prop} {Q : Value → Shared → Prop}, Q (.ref hp.objs.size) ⟨hp.push o, gs, dr, tk, os⟩ → wpAny (model prog w) A' (pyIter v) Q E ⟨hp, gs, dr, tk, os⟩ :=
      fun q => B.iter prog w _ _ _ _ hF q
    wp_walk using begin1
    refine wpAny_stack_any fun st => wpAny_pure ?_
    split
    · rename_i c _ _ _ _ _
      rcases (c == Value.type "enumerate") with _ | _ <;> wp_walk using begin1 <;> exact ⟨_, rfl, h⟩
    · wp_walk using begin1
      exact ⟨_, rfl, h⟩
theorem enum_begun {prog : Program} {w : World} {A : Around} {E : Value → Shared → Prop} {s : Shared} {a : Addr} {items : Array Value} {Q : Value → Shared → Prop} (ht : s.heap.IsTuple a items)
    (h : ∀ h', IsEnum h' (s.heap.objs.size + 1) s.heap.objs.size 0 .none → h'.IsTupleIter s.heap.objs.size a 0 → (∀ b o, s.heap.get? b = some o → h'.get? b = some o) → Q (.ref (s.heap.objs.size + 1)) { s with heap := h' }) :
    wpAny (model prog w) A (call (.type "enumerate") [.ref a]) Q E s := by
  refine callType_new F.called_enumerate (by decide) (F.typeCall_enumerate_1 _) (F.newCall_enumerate_1 _) (fun obj => F.args_object_init_2 obj _) F.entry_enumerate_new (enum_new (begins_tuple a items)) ⟨ht, ?_⟩
  generalize ho : ({ cls := .type "tuple_iterator", data := .fields #[.ref a, .int 0 0] } : Obj) = o
  have hz : (s.heap.push o).objs.size = s.heap.objs.size + 1 := Heap.size_push ..
  show _ ∧ _
  rw [hz]
  have hf : o.isFreed = false := by rw [← ho]; rfl
  generalize hr : ({ cls := .type "enumerate", data := .fields #[.none, .bool false, .ref s.heap.objs.size, rawInt 0, .none, .none] } : Obj) = r
  have he : ((s.heap.push o).push r).get? (s.heap.objs.size + 1) = some r := by
    rw [← hz]
    exact Heap.get?_push_size _ (by rw [← hr]; rfl)
  have hi : ((s.heap.push o).push r).get? s.heap.objs.size = some o := Heap.get?_push_of_some _ (Heap.get?_push_size _ hf)
  refine ⟨⟨r, he, by rw [← hr]⟩, h _ (by rw [← hr] at he ⊢; exact he) ⟨o, hi, by rw [← ho], by rw [← ho]; rfl⟩ fun b ob x => Heap.get?_push_of_some _ (Heap.get?_push_of_some _ x)⟩
theorem turn_enumT {P : Program} {w : World} {K : PySem.W.Frag} {elts : List Expr} {kk : Nat} {tpos : Pos} (a e it : Addr) :
    Turn P w K (.Tuple elts kk tpos) (ItE K a) [e, it] e (fun i h => (∃ old, IsEnum h e it ((i : Nat) : Int) old) ∧ h.IsTupleIter it a i ∧ e ≠ it) where
  mem := List.mem_cons_self
  obj := fun i h ⟨⟨old, he⟩, ⟨o, ho, hc, hd⟩, _⟩ b hb => by
    rcases List.mem_cons.mp hb with z | hb
    · subst z; exact ⟨_, he, fun v q => nomatch q⟩
    · rw [List.mem_singleton.mp hb]; exact ⟨o, ho, fun v q => by rw [hd] at q; cases q⟩
  keep := fun i h h' ⟨⟨old, he⟩, hi, hne⟩ k => ⟨⟨old, k e (by simp) _ he⟩, hi.at fun o q => k it (by simp) o q, hne⟩
  item := by
    intro X hP hw hK hc i pins s σ H E I hf ⟨⟨old, he⟩, hit, hne⟩ ⟨xs, x, hq, hx⟩
    subst hP hw hK
    obtain ⟨its, rv, pl, hz⟩ := I.tuple hq
    have pl' : s.heap.IsTuple a its.toArray := pl
    obtain ⟨u, hu, ru⟩ := rv.get hx
    obtain ⟨oa, ha1, ha2, _⟩ := id pl'
    obtain ⟨oi, hi1, hi2, hi3⟩ := id hit
    have ai : a ≠ it := fun z => by
      subst z
      rw [ha1] at hi1; cases hi1
      rw [ha2] at hi2
      exact absurd hi2 (by decide)
    have ae : e ∉ [it, a] := by
      simp only [List.mem_cons, List.not_mem_nil, or_false, not_or]
      refine ⟨hne, fun z => ?_⟩
      subst z
      have he2 : s.heap.get? e = some _ := he
      rw [ha1] at he2; cases he2
      exact absurd (show Value.type "enumerate" = Value.type "tuple" from ha2) (by decide)
    have lt : i < its.toArray.size := by
      rw [List.size_toArray]
      exact (List.getElem?_eq_some_iff.mp hu).1
    refine wpAny_pyNext_enum_itemD (Draws.tuple (A := X.A.in1) (show X.A.in1.handled = none from I.ok.hd hc) it a ai its.toArray) he ⟨hit, pl'⟩ lt hne ae fun y h' tk hy ho hst' hT hsz hk => ?_
    have hyu : y = u := by
      have h2 : its.toArray[i]? = some y := hy
      rw [List.getElem?_toArray, hu] at h2
      cases h2; rfl
    subst hyu
    refine ⟨_, rfl, wpAny_letOwnedTupleGo_enum (s := { s with heap := h', toks := tk + 1 }) ho fun h2 he' sb => ?_⟩
    have el : e < s.heap.objs.size := Heap.lt_size he
    have il : it < s.heap.objs.size := Heap.lt_size hi1
    have hT2 : h2.get? s.heap.objs.size = some { cls := .type "tuple", data := .seq #[.int i tk, y] } := (sb.2 _ (Nat.ne_of_gt el)).trans hT
    have new : ObjOk X.prog X.w (upd H s.heap.objs.size (.tup [.int (i : Nat), x])) h2 s.heap.objs.size (.tup [.int (i : Nat), x]) :=
      ⟨show 2 ≤ sizeLine by decide, [.int i tk, y], .cons ⟨_, rfl⟩ (.cons ru .nil), _, hT2, rfl, _, rfl⟩
    have I1 := I.turnedNew (t' := tk + 1) (ch := [e, it]) (h' := h2) (fun b o hb q => (sb.2 b fun z => hb (by simp [z])).trans (hk b o (fun z => hb (by simp [z])) (fun z => hb (by simp [z])) q)) hf (Nat.le_refl _) new
    refine ⟨.ref s.heap.objs.size, _, I1, rfl, ⟨_, x, rfl, I.hok.fresh (Nat.le_refl _), rfl, fun ys hy => by rw [I.tuple_inj hy hq]; exact hx⟩, ⟨⟨y, ?_⟩, hst'.1.at fun o q => (sb.2 it (Ne.symm hne)).trans q, hne⟩, fun b hb => ?_⟩
    · rw [Int.natCast_add]; exact he'
    · have lb : b < s.heap.objs.size := by
        rcases List.mem_cons.mp hb with z | hb
        · subst z; exact el
        · rw [List.mem_singleton.mp hb]; exact il
      rw [upd_ne (Nat.ne_of_lt lb)]
      exact (hf b hb).1
  done := by
    intro X hP hw hK hc i pins s σ H E I hf ⟨⟨old, he⟩, hit, hne⟩ ⟨xs, hq, hx⟩
    subst hP hw hK
    obtain ⟨its, rv, pl, hz⟩ := I.tuple hq
    have pl' : s.heap.IsTuple a its.toArray := pl
    obtain ⟨oa, ha1, ha2, _⟩ := id pl'
    obtain ⟨oi, hi1, hi2, hi3⟩ := id hit
    have ai : a ≠ it := fun z => by
      subst z
      rw [ha1] at hi1; cases hi1
      rw [ha2] at hi2
      exact absurd hi2 (by decide)
    have hn : its.toArray.size = i := by rw [List.size_toArray, ← rv.length]; exact hx
    subst hn
    obtain ⟨f0, f1, f2, f3, f4, f5⟩ := hf it (by simp)
    exact wpAny_pyNext_enum_endD (Draws.tuple (A := X.A.in1) (show X.A.in1.handled = none from I.ok.hd hc) it a ai its.toArray) he ⟨hit, pl'⟩ fun h' eb => ⟨rfl, I.turned (t' := s.toks) (fun b o hb q => eb b o hb q) f0 f1 f3 f4 f5⟩
  self := fun A i s Q E ⟨⟨_, he⟩, _⟩ h => wpAny_pyIter_enum he h
/-- enumerate of a tuple, of a list -/
theorem pl_ienum {X : Cx} {a : Expr} {p pos tpos : Pos} {elts : List Expr} {kk : Nat} {ta : WE} (hg : Gl X "enumerate") (hm : X.mg "enumerate" = none) (ha : PE X a (LEx X ta))
    (hs : starEach [a] X.env = [(false, eval a X.env)]) (hs1 : starEach [a] X.env = (false, eval a X.env) :: starEach [] X.env) :
    PI X (.Tuple elts kk tpos) (.Call (.Name "enumerate" p) [a] [] pos) (LIx X fun ρ M k => ta ρ M fun x M1 => enumW x M1 k) :=
  ⟨fun pins s σ H R I ⟨ρ, M, k, er, c, g, ct⟩ => by
    refine Call_ (ld_blt I hg hm boot_enumerate (PyProof.Rows.callWith_type1 (thn ((pl_cons ha pl_nil hs1).run pos pins s σ H (fun vs H1 => ∃ x v, vs = [v] ∧ Got X H v H1 fun q M1 => q = x ∧ enumW x M1 k) I ⟨ρ, M, fun vs M1 => on1 vs fun x => enumW x M1 k, er, c, g, fun vs H1 ps M1 l r c1 q1 => ?_⟩) fun us s1 ⟨vs, H1, I1, r1, q1⟩ => ?_) hs rfl))
    · obtain ⟨x, rfl, q2⟩ := on1_of q1
      obtain ⟨v, rfl, rv⟩ := repl_one r
      exact ⟨x, v, rfl, x, M1, l, rv, c1, rfl, q2⟩
    · obtain ⟨x, v, rfl, _, M1, l, rp, c1, rfl, q1⟩ := q1
      obtain ⟨u, rfl, ru⟩ := vals1 r1
      unfold enumW at q1
      split at q1
      · have rp0 := rp
        unfold Rep at rp
        obtain ⟨b, xs, rfl, sq, _, _⟩ := rp
        cases ru
        obtain ⟨its, rv, pl, hz⟩ := I1.tuple sq
        refine enum_begun (show s1.heap.IsTuple b its.toArray from pl) fun h' he hi hk => wpAny_pyIter_enum he (pie_kf ?_)
        refine ⟨s1.heap.objs.size + 1, [s1.heap.objs.size + 1, s1.heap.objs.size], _, _, H1, rfl, I1.kept (t' := s1.toks) hk, turn_enumT b _ s1.heap.objs.size, ⟨⟨.none, he⟩, hi, Nat.succ_ne_self _⟩, fun c hcm => ?_, fun _ => ct _ H1 M1 _ _ l c1 (it_enumT rp0) q1⟩
        have le : s1.heap.objs.size ≤ c := by
          rcases List.mem_cons.mp hcm with z | hcm
          · rw [z]; exact Nat.le_succ _
          · rw [List.mem_singleton.mp hcm]; exact Nat.le_refl _
        exact I1.fpOk le (I1.hok.fresh le)
      · unfold Rep at rp
        subst rp
        cases ru
        obtain ⟨l1, e1, q1⟩ := ok_of q1
        obtain ⟨xs, sq, _⟩ := lstOf_cor c1 e1
        obtain ⟨its, rv, pl, hz⟩ := I1.list sq
        refine call_enumerate_list pl.isList fun h' he hi _ hk => wpAny_pyIter_enum he (pie_kf ?_)
        refine ⟨s1.heap.objs.size + 1, [s1.heap.objs.size + 1, s1.heap.objs.size], _, _, H1, rfl, I1.kept (t' := s1.toks) hk, turn_enum _ _ s1.heap.objs.size, ⟨⟨.none, he⟩, hi, Nat.succ_ne_self _⟩, fun c hcm => ?_, fun _ => ct _ H1 M1 _ _ l c1 (it_enumL fun H M c st => lstOf_cor c st) q1⟩
        have le : s1.heap.objs.size ≤ c := by
          rcases List.mem_cons.mp hcm with z | hcm
          · rw [z]; exact Nat.le_succ _
          · rw [List.mem_singleton.mp hcm]; exact Nat.le_refl _
        exact I1.fpOk le (I1.hok.fresh le)
      · exact q1.elim⟩
end PL
/-! PLuA: comprehensions of lists. -/
namespace PL
open PySem PySem.Spec PySem.W PyProof.Rows L2

/-- what a comprehension asks -/
def lcW (wi : PEnv → MH → WI → Prop) (g : WG) (tt te : WE) (own : List Nat) : WE := fun ρ M Q => wi ρ M fun items St M1 => ∀ D, M1 D = none → ∃ W : Nat → MH → Prop, W 0 (M1.upd D (.lst [])) ∧
  (∀ i x M', items[i]? = some x → W i M' → St M' ∧ g x (wipeP ρ own) fun ρ2 => tt ρ2 M' fun x M2 => onB x fun c => if c = true then
      te ρ2 M2 fun y M3 => ∃ acc, M3 D = some (.lst acc) ∧ acc.length < LIM ∧ W (i + 1) (M3.upd D (.lst (acc ++ [y])))
    else W (i + 1) M2) ∧
  ∀ M', W items.length M' → St M' ∧ Q (.ref D) M'
section
variable {P : Program} {w : World} {K : PySem.W.Frag} {H : Hp} {σ : L2.St}
theorem repl_nil (K : PySem.W.Frag) (H : Hp) : RepL K H [] [] := by unfold RepL; rfl
theorem repl_snoc {l : List PV} {vs : List V} {p : PV} {v : V} (r : RepL K H l vs) (q : Rep K H p v) : RepL K H (l ++ [p]) (vs ++ [v]) := r.cat (by unfold RepL; exact ⟨v, [], rfl, q, repl_nil K H⟩)
theorem Kf.add {a : Addr} {o : HO} (k : Kf K H) (h : K.lookup a = none) : Kf K (upd H a o) := fun b hb => by
  by_cases e : b = a
  · subst e; exact h
  · rw [upd_ne e] at hb; exact k b hb
theorem lc_pre {wi : PEnv → MH → WI → Prop} {g : WG} {tt te : WE} {own vs : List Nat} {ρ : PEnv} {M : MH} {Q : WK} {Qv : VK} (sub : ∀ j ∈ vs, j ∈ own) (er : EnvR K H ρ σ) (c : Cor P w K H M) (h : lcW wi g tt te own ρ M Q)
    (ct : ∀ D H' M', Hle H H' → Cor P w K H' M' → Q (.ref D) M' → Qv (.ref D) H') : tLc (LI P w K wi) (GT K vs g) (LT P w K tt) (LE P w K te) own σ H fun v H' => Kf K H' → Qv v H' := by
  refine ⟨ρ, M, _, er, c, h, fun J H1 M1 items St l c1 io kk => ?_⟩
  intro D hD
  by_cases hK : K.lookup D = none
  · have kf : Kf K (upd H1 D (.lst [])) := c1.kf.add hK
    have l2 : Hle H1 (upd H1 D (.lst [])) := .new hD
    have c2 : Cor P w K (upd H1 D (.lst [])) (M1.upd D (.lst [])) := c1.new kf hD ⟨[], upd_same, repl_nil _ _⟩
    obtain ⟨W, w0, step, fin⟩ := kk D (c1.free kf hD)
    refine ⟨fun i m H2 => m = items.length - i ∧ i ≤ items.length ∧ ∃ M', Hle H1 H2 ∧ Cor P w K H2 M' ∧ W i M', ⟨items.length, rfl, Nat.zero_le _, _, l2, c2, w0⟩, ?_⟩
    rintro i m H2 ⟨rfl, hi, M', l3, c3, w3⟩
    by_cases lt : i < items.length
    · right
      have hp := List.getElem?_eq_getElem lt
      obtain ⟨st, q⟩ := step i _ M' hp w3
      refine ⟨io.go i H2 M' l3 c3 st lt, fun H' => ∃ M'', Hle H1 H' ∧ Cor P w K H' M'' ∧ W (i + 1) M'', fun H' ⟨M'', a1, a2, a3⟩ => ⟨items.length - (i + 1), by omega, rfl, lt, M'', a1, a2, a3⟩, fun x H' y => ?_⟩
      obtain ⟨l4, c4, p', hp', rp⟩ := io.yld i H2 x H' M' l3 c3 st y lt
      rw [hp] at hp'
      cases hp'
      refine ⟨wipeP ρ own, _, _, env_wipe ((er.le l).le (l3.trans l4)) own, rp, q, fun σ' ρ' off er' k' => ⟨(off.wipe sub).trans (wipe_wipe σ own), ?_⟩⟩
      refine ⟨ρ', M', fun b M2 => if b = true then te ρ' M2 fun y M3 => ∃ acc, M3 D = some (.lst acc) ∧ acc.length < LIM ∧ W (i + 1) (M3.upd D (.lst (acc ++ [y]))) else W (i + 1) M2, er', c4, k', fun b H3 M2 l5 c5 q5 => ?_⟩
      cases b with
      | false => exact iteF ⟨M2, (l3.trans l4).trans l5, c5, q5⟩
      | true =>
        refine iteT ⟨ρ', M2, _, er'.le l5, c5, q5, fun v H4 p M3 l6 r6 c6 q6 => ?_⟩
        obtain ⟨acc, e1, e2, e3⟩ := q6
        obtain ⟨ws, e4, rl⟩ := c6.ok D _ e1
        have l7 : Hle H4 (upd H4 D (.lst (ws ++ [v]))) := .mut e4 trivial
        exact ⟨ws, e4, by rw [← rl.length]; exact Nat.lt_of_lt_of_le e2 lim_le, _, (((l3.trans l4).trans l5).trans l6).trans l7, c6.put (mo := .lst (acc ++ [p])) e4 trivial ⟨_, upd_same, (repl_snoc rl r6).le l7⟩, e3⟩
    · left
      have e : items.length = i := by omega
      subst e
      obtain ⟨st, q⟩ := fin M' w3
      exact ⟨io.stop _ H2 M' l3 c3 st rfl, fun _ => ct D H2 M' (l.trans l3) c3 q⟩
  · exact ⟨fun _ _ H2 => H2 D ≠ none, ⟨0, by show (upd H1 D (.lst [])) D ≠ none; rw [upd_same]; exact fun z => nomatch z⟩, fun i m H2 ne => .inl ⟨fun kf => absurd (kf D ne) hK, fun kf => absurd (kf D ne) hK⟩⟩
end
section
variable {X : Cx} {elt tg iter : Expr} {ifs : List Expr} {scope : Scope} {own : List (Str × Nat)} {pos : Pos} {wi : PEnv → MH → WI → Prop} {g : WG} {tt te : WE} {vs : List Nat}
theorem pl_lc (hc : X.calm = true) (hN : X.N.Nodup) (hi : PI X tg iter (LIx X wi)) (ok : BlkOk X.N X.env.scope scope own) (sub : ∀ j ∈ vs, j ∈ own.map (·.2))
    (hg : ∀ (s : Shared) (H : Hp) (C : Addr) (cl : List (Str × Addr)) (fp : List Addr), PG (X.blk s H scope (compEnvC scope cl C X.env) fp) tg (GT X.K vs g))
    (ht : ∀ (s : Shared) (H : Hp) (C : Addr) (cl : List (Str × Addr)) (fp : List Addr), PTs (X.blk s H scope (compEnvC scope cl C X.env) fp) ifs (LTx X tt))
    (he : ∀ (s : Shared) (H : Hp) (C : Addr) (cl : List (Str × Addr)) (fp : List Addr), PE (X.blk s H scope (compEnvC scope cl C X.env) fp) elt (LEx X te)) (hs : ∀ x, foldedSetIterable iter X.env x = pure x) :
    PE X (.ListComp elt [⟨tg, iter, ifs, 0⟩] scope pos) (LEx X (lcW wi g tt te (own.map (·.2)))) :=
  ⟨fun pins s σ H Qv I ⟨ρ, M, Q, er, c, q, ct⟩ => (pe_free (pe_lc hc hN hi ok hg ht he hs)).run pins s σ H Qv I (lc_pre sub er c q fun D H' M' l c' q' => ct (.ref D) H' (.ref D) M' l (by unfold Rep; rfl) c' q')⟩
/-! ### statements -/
def CtS (P : Program) (w : World) (K : PySem.W.Frag) (H : Hp) (Dw : WEnds) (D : Ends) : Prop :=
  (∀ σ' H' ρ' M', Hle H H' → EnvR K H' ρ' σ' → Cor P w K H' M' → Dw.nx ρ' M' → D.nx σ' H') ∧ Ct P w K H Dw.rt D.rt ∧
  (∀ σ' H' ρ' M', Hle H H' → EnvR K H' ρ' σ' → Cor P w K H' M' → Dw.bk ρ' M' → D.bk σ' H') ∧ ∀ σ' H' ρ' M', Hle H H' → EnvR K H' ρ' σ' → Cor P w K H' M' → Dw.ct ρ' M' → D.ct σ' H'
theorem CtS.le {P : Program} {w : World} {K : PySem.W.Frag} {H H1 : Hp} {Dw : WEnds} {D : Ends} (c : CtS P w K H Dw D) (l : Hle H H1) : CtS P w K H1 Dw D :=
  ⟨fun σ' H' ρ' M' l2 => c.1 σ' H' ρ' M' (l.trans l2), c.2.1.le l, fun σ' H' ρ' M' l2 => c.2.2.1 σ' H' ρ' M' (l.trans l2), fun σ' H' ρ' M' l2 => c.2.2.2 σ' H' ρ' M' (l.trans l2)⟩
def LS (P : Program) (w : World) (K : PySem.W.Frag) (t : WS) : TS := fun D σ H => ∃ ρ M Dw, EnvR K H ρ σ ∧ Cor P w K H M ∧ t Dw ρ M ∧ CtS P w K H Dw D
abbrev LSx (X : Cx) := LS X.prog X.w X.K
theorem ps_free {st : Stmt} {t : TS} (h : PS X st t) : PS X st (fun D σ H => t { D with nx := fun σ' H' => Kf X.K H' → D.nx σ' H' } σ H) :=
  ⟨fun pins s σ H D I q => thn (h.run pins s σ H _ I q) fun f s' z => by
    cases f with
    | next =>
      obtain ⟨σ', H', I', q⟩ := z
      exact ⟨σ', H', I', q (inv_kf I')⟩
    | _ => exact z⟩
theorem pls_setLc {i : Nat} {y : Str} {py spos : Pos} (hc : X.calm = true) (hN : X.N.Nodup) (hy : X.N[i]? = some y) (hyl : X.env.scope.names.lookup y = some .local) (hsw : swapsWith (.ListComp elt [⟨tg, iter, ifs, 0⟩] scope pos) (some (.Name y py)) spos.line X.env = pure true)
    (hi : PI X tg iter (LIx X wi)) (ok : BlkOk X.N X.env.scope scope own) (sub : ∀ j ∈ vs, j ∈ own.map (·.2))
    (hg : ∀ (s : Shared) (H : Hp) (C : Addr) (cl : List (Str × Addr)) (fp : List Addr), PG (X.blk s H scope (compEnvC scope cl C X.env) fp) tg (GT X.K vs g))
    (ht : ∀ (s : Shared) (H : Hp) (C : Addr) (cl : List (Str × Addr)) (fp : List Addr), PTs (X.blk s H scope (compEnvC scope cl C X.env) fp) ifs (LTx X tt))
    (he : ∀ (s : Shared) (H : Hp) (C : Addr) (cl : List (Str × Addr)) (fp : List Addr), PE (X.blk s H scope (compEnvC scope cl C X.env) fp) elt (LEx X te)) (hs : ∀ x, foldedSetIterable iter X.env x = pure x) :
    PS X (.Assign [.Name y py] (.ListComp elt [⟨tg, iter, ifs, 0⟩] scope pos) spos) (LSx X fun D ρ M => lcW wi g tt te (own.map (·.2)) ρ M fun v M1 => D.nx (ρ.set i (some v)) M1) :=
  ⟨fun pins s σ H D I ⟨ρ, M, Dw, er, c, q, ct⟩ => (ps_free (ps_setLc hc hN hy hyl hsw hi ok hg ht he hs)).run pins s σ H D I
    (lc_pre (Qv := fun v H' => D.nx (σ.set i (some v)) H') sub er c q fun a H' M' l c' q' => ct.1 _ H' _ M' l (env_set (by unfold Rep; rfl) i (er.le l)) c' q')⟩
end
end PL
/-! PLuB: statements. -/
namespace PL
open PySem PySem.Spec PySem.W PyProof.Rows L2

theorem repl_set {K : PySem.W.Frag} {H : Hp} : ∀ {l : List PV} {vs : List V} {p : PV} {v : V}, RepL K H l vs → (n : Nat) → Rep K H p v → RepL K H (l.set n p) (vs.set n v)
  | [], vs, p, v, r, n, q => by
    unfold RepL at r
    subst r
    exact repl_nil K H
  | a :: l, vs, p, v, r, 0, q => by
    unfold RepL at r
    obtain ⟨b, ws, rfl, r1, r2⟩ := r
    rw [List.set_cons_zero, List.set_cons_zero]
    unfold RepL
    exact ⟨v, ws, rfl, q, r2⟩
  | a :: l, vs, p, v, r, n + 1, q => by
    unfold RepL at r
    obtain ⟨b, ws, rfl, r1, r2⟩ := r
    rw [List.set_cons_succ, List.set_cons_succ]
    unfold RepL
    exact ⟨b, _, rfl, r1, repl_set r2 n q⟩
section
variable {X : Cx} {pos : Pos}
theorem pls_nil : PSs X [] (LSx X fun D ρ M => D.nx ρ M) := ⟨fun pins s σ H D I ⟨ρ, M, Dw, er, c, q, ct⟩ => pss_nil.run pins s σ H D I (ct.1 σ H ρ M (.refl _) er c q)⟩
theorem pls_cons {st : Stmt} {rest : List Stmt} {t u : WS} (h1 : PS X st (LSx X t)) (h2 : PSs X rest (LSx X u)) : PSs X (st :: rest) (LSx X fun D ρ M => t { D with nx := fun ρ' M' => u D ρ' M' } ρ M) :=
  ⟨fun pins s σ H D I ⟨ρ, M, Dw, er, c, q, ct⟩ => (pss_cons h1 h2).run pins s σ H D I
    ⟨ρ, M, _, er, c, q, fun σ' H' ρ' M' l er' c' q' => ⟨ρ', M', Dw, er', c', q', ct.le l⟩, ct.2.1, ct.2.2.1, ct.2.2.2⟩⟩
theorem pls_set {e : Expr} {te : WE} {st : Stmt} {i : Nat} (he : PS X st (tAsg (LEx X te) (gName i))) : PS X st (LSx X fun D ρ M => te ρ M fun v M1 => D.nx (ρ.set i (some v)) M1) :=
  ⟨fun pins s σ H D I ⟨ρ, M, Dw, er, c, q, ct⟩ => he.run pins s σ H D I ⟨ρ, M, _, er, c, q, fun v H' p M' l r c' q' => ct.1 _ H' _ M' l (env_set r i (er.le l)) c' q'⟩⟩
theorem pls_asg {te : WE} {g : WG} {vs : List Nat} {st : Stmt} (he : PS X st (tAsg (LEx X te) (GT X.K vs g))) : PS X st (LSx X fun D ρ M => te ρ M fun v M1 => g v ρ fun ρ' => D.nx ρ' M1) :=
  ⟨fun pins s σ H D I ⟨ρ, M, Dw, er, c, q, ct⟩ => he.run pins s σ H D I ⟨ρ, M, _, er, c, q, fun v H' p M' l r c' q' => ⟨ρ, p, _, er.le l, r, q', fun σ' ρ' _ er' k => ct.1 σ' H' ρ' M' l er' c' k⟩⟩⟩
theorem pls_par2 {ta : WA} {st : Stmt} {i j : Nat} (he : PS X st (tPar i j (LAx X ta))) : PS X st (LSx X fun D ρ M => ta ρ M fun vs M1 => vs.length ≤ LIM ∧ wpT (.tp (.cons (.nm i) (.cons (.nm j) .nil))) (.tup vs) ρ fun ρ' => D.nx ρ' M1) :=
  ⟨fun pins s σ H D I ⟨ρ, M, Dw, er, c, q, ct⟩ => he.run pins s σ H D I ⟨ρ, M, _, er, c, q, fun vs H' ps M' l r c' ⟨_, q'⟩ => by
    simp only [wpT, onT_tup] at q'
    match ps, r, q' with
    | [], _, q' => simp [wpTs] at q'
    | [a], _, q' => simp [wpTs, wpT] at q'
    | a :: b :: d :: ps, _, q' => simp [wpTs, wpT] at q'
    | [a, b], r, q' =>
      simp only [wpTs, wpT] at q'
      obtain ⟨v, w, rfl, ra, rb⟩ := repl_two r
      exact ⟨v, w, rfl, ct.1 _ H' _ M' l (env_set rb j (env_set ra i (er.le l))) c' q'⟩⟩⟩
theorem pls_par3 {ta : WA} {st : Stmt} {i j m : Nat} (he : PS X st (tPar3 i j m (LAx X ta))) : PS X st (LSx X fun D ρ M => ta ρ M fun vs M1 => vs.length ≤ LIM ∧ wpT (.tp (.cons (.nm i) (.cons (.nm j) (.cons (.nm m) .nil)))) (.tup vs) ρ fun ρ' => D.nx ρ' M1) :=
  ⟨fun pins s σ H D I ⟨ρ, M, Dw, er, c, q, ct⟩ => he.run pins s σ H D I ⟨ρ, M, _, er, c, q, fun vs H' ps M' l r c' ⟨_, q'⟩ => by
    simp only [wpT, onT_tup] at q'
    match ps, r, q' with
    | [], _, q' => simp [wpTs] at q'
    | [a], _, q' => simp [wpTs, wpT] at q'
    | [a, b], _, q' => simp [wpTs, wpT] at q'
    | a :: b :: d :: e :: ps, _, q' => simp [wpTs, wpT] at q'
    | [a, b, d], r, q' =>
      simp only [wpTs, wpT] at q'
      unfold RepL at r
      obtain ⟨u, ws, rfl, ru, r⟩ := r
      obtain ⟨v, w, rfl, ra, rb⟩ := repl_two r
      exact ⟨u, v, w, rfl, ct.1 _ H' _ M' l (env_set rb m (env_set ra j (env_set ru i (er.le l)))) c' q'⟩⟩⟩
theorem pls_sub {o i value : Expr} {pos' : Pos} {to ti tv : WE} (hu : X.A.units + 80 < cLine) (ho : PE X o (LEx X to)) (hi : PE X i (LEx X ti)) (hv : PE X value (LEx X tv)) (hs : swapsWith value (some (.Subscript o i pos')) pos.line X.env = pure false) :
    PS X (.Assign [.Subscript o i pos'] value pos) (LSx X fun D ρ M => tv ρ M fun v M1 => to ρ M1 fun x M2 => ti ρ M2 fun y M3 => setW x y v M3 fun M4 => D.nx ρ M4) :=
  ⟨fun pins s σ H D I ⟨ρ, M, Dw, er, c, q, ct⟩ => by
    refine wpAny_Assign_Subscript (thn (hv.run pins s σ H (fun v H1 => Got X H v H1 fun p M1 => to ρ M1 fun x M2 => ti ρ M2 fun y M3 => setW x y p M3 fun M4 => Dw.nx ρ M4) I ⟨ρ, M, _, er, c, q, fun v H1 p M1 l r c1 q1 => ⟨p, M1, l, r, c1, q1⟩⟩) fun r s1 ⟨v, H1, I1, rv, p, M1, l1, rp, c1, q1⟩ => ?_) hs
    refine thn (ho.run pins s1 σ H1 (fun v H2 => Got X H1 v H2 fun x M2 => ti ρ M2 fun y M3 => setW x y p M3 fun M4 => Dw.nx ρ M4) I1 ⟨ρ, M1, _, er.le l1, c1, q1, fun v H1 p M1 l r c1 q1 => ⟨p, M1, l, r, c1, q1⟩⟩) fun u s2 ⟨x, H2, I2, rx, px, M2, l2, rpx, c2, q2⟩ => ?_
    refine thn (hi.run pins s2 σ H2 (fun v H3 => Got X H2 v H3 fun y M3 => setW px y p M3 fun M4 => Dw.nx ρ M4) I2 ⟨ρ, M2, _, (er.le l1).le l2, c2, q2, fun v H1 p M1 l r c1 q1 => ⟨p, M1, l, r, c1, q1⟩⟩) fun w s3 ⟨y, H3, I3, ry, py, M3, l3, rpy, c3, q3⟩ => ?_
    have rp3 := (rp.le l2).le l3
    have rpx3 := rpx.le l3
    have l03 := (l1.trans l2).trans l3
    unfold setW at q3
    split at q3
    · unfold Rep at rpx3
      subst rpx3
      have rx0 := rx
      cases rx
      split at q3
      · rename_i l e
        obtain ⟨j, rfl, q3⟩ := onI_of q3
        unfold Rep at rpy
        subst rpy
        obtain ⟨n, en, q3⟩ := ok_of q3
        obtain ⟨vs, hh, rl⟩ := c3.ok _ _ e
        have l4 : Hle H3 (upd H3 _ (.lst (vs.set n v))) := .mut hh trivial
        refine thn (set_list pins s3 σ H3 _ _ v _ w r (fun H4 => D.nx σ H4) I3 rx0 ry rv ⟨_, vs, j, n, rfl, rfl, hh, by rw [← rl.length]; exact en, ?_⟩) fun _ s4 ⟨H4, I4, q4⟩ => ⟨σ, H4, I4, q4⟩
        refine ct.1 σ _ ρ _ (l03.trans l4) ((er.le l03).le l4) (c3.put (mo := .lst _) hh trivial ⟨_, upd_same, RepL.le l4 ?_⟩) q3
        exact repl_set rl n rp3
      · rename_i kvs e
        obtain ⟨q5, q6, q7⟩ := q3
        exact dict_set hu I3 c3 e q5 rpy ry rp3 rv q6 fun s4 H4 I4 l4 c4 => ⟨σ, H4, I4, ct.1 σ H4 ρ _ (l03.trans l4) ((er.le l03).le l4) c4 q7⟩
      · exact q3.elim
    · exact q3.elim⟩
theorem pls_aug {i : Nat} {te : WE} {st : Stmt} {op : Operator} {ti : TIp} (hti : ∀ (x y : V) (H : Hp) (Q : VK) (p q : PV) (k : PV → Prop), Rep X.K H p x → Rep X.K H q y → augW op p q k → (∀ r v, Rep X.K H r v → k r → Q v H) → ti x y H Q) (he : PS X st (tAug i (LEx X te) ti)) :
    PS X st (LSx X fun D ρ M => ok (ρ[i]?.join) fun x => te ρ M fun y M1 => augW op x y fun v => D.nx (ρ.set i (some v)) M1) :=
  ⟨fun pins s σ H D I ⟨ρ, M, Dw, er, c, q, ct⟩ => by
    obtain ⟨p, e, q⟩ := ok_of q
    have e' : ρ[i]? = some (some p) := by
      cases z : ρ[i]? with
      | none => rw [z] at e; cases e
      | some o => rw [z] at e; simp only [Option.join_some] at e; rw [e]
    obtain ⟨v, e2, r⟩ := env_get er e'
    exact he.run pins s σ H D I ⟨v, e2, ρ, M, _, er, c, q, fun y H1 p2 M1 l r1 c1 q1 => hti v y H1 _ p p2 _ (r.le l) r1 q1 fun w u ru k => ct.1 _ H1 _ M1 l (env_set ru i (er.le l)) c1 k⟩⟩
theorem aug_add (x y : V) (H : Hp) (Q : VK) (p q : PV) (k : PV → Prop) (rp : Rep X.K H p x) (rq : Rep X.K H q y) (h : augW .Add p q k) (f : ∀ r v, Rep X.K H r v → k r → Q v H) : ipI (fun i j => i + j) x y H Q := by
  unfold augW at h
  split at h
  · unfold Rep at rp rq
    exact ⟨_, _, rp, rq, f _ _ (by unfold Rep; rfl) h⟩
  · rename_i e
    cases e
  · exact h.elim
theorem aug_sub (x y : V) (H : Hp) (Q : VK) (p q : PV) (k : PV → Prop) (rp : Rep X.K H p x) (rq : Rep X.K H q y) (h : augW .Sub p q k) (f : ∀ r v, Rep X.K H r v → k r → Q v H) : ipI (fun i j => i - j) x y H Q := by
  unfold augW at h
  split at h
  · rename_i e
    cases e
  · unfold Rep at rp rq
    exact ⟨_, _, rp, rq, f _ _ (by unfold Rep; rfl) h⟩
  · exact h.elim
theorem pls_ex {te : WE} {st : Stmt} (he : PS X st (tDrop (LEx X te))) : PS X st (LSx X fun D ρ M => te ρ M fun _ M1 => D.nx ρ M1) :=
  ⟨fun pins s σ H D I ⟨ρ, M, Dw, er, c, q, ct⟩ => he.run pins s σ H D I ⟨ρ, M, _, er, c, q, fun v H' p M' l r c' q' => ct.1 _ H' _ M' l (er.le l) c' q'⟩⟩
theorem pls_ret {e : Expr} {te : WE} (he : PE X e (LEx X te)) : PS X (.Return (some e) pos) (LSx X fun D ρ M => te ρ M D.rt) :=
  ⟨fun pins s σ H D I ⟨ρ, M, Dw, er, c, q, ct⟩ => (ps_ret he).run pins s σ H D I ⟨ρ, M, _, er, c, q, ct.2.1⟩⟩
theorem pls_retN : PS X (.Return none pos) (LSx X fun D ρ M => D.rt .non M) :=
  ⟨fun pins s σ H D I ⟨ρ, M, Dw, er, c, q, ct⟩ => ps_retN.run pins s σ H D I (ct.2.1 .non H .non M (.refl _) (by unfold Rep; rfl) c q)⟩
theorem pls_brk : PS X (.Break pos) (LSx X fun D ρ M => D.bk ρ M) := ⟨fun pins s σ H D I ⟨ρ, M, Dw, er, c, q, ct⟩ => ps_break.run pins s σ H D I (ct.2.2.1 σ H ρ M (.refl _) er c q)⟩
theorem pls_cnt : PS X (.Continue pos) (LSx X fun D ρ M => D.ct ρ M) := ⟨fun pins s σ H D I ⟨ρ, M, Dw, er, c, q, ct⟩ => ps_continue.run pins s σ H D I (ct.2.2.2 σ H ρ M (.refl _) er c q)⟩
theorem pls_nx {st : Stmt} (h : PS X st tNext) : PS X st (LSx X fun D ρ M => D.nx ρ M) := ⟨fun pins s σ H D I ⟨ρ, M, Dw, er, c, q, ct⟩ => h.run pins s σ H D I (ct.1 σ H ρ M (.refl _) er c q)⟩
theorem pls_if {c : Expr} {a b : List Stmt} {tc : WE} {t u : WS} (hc : PT X c (LTx X tc)) (ha : PSs X a (LSx X t)) (hb : PSs X b (LSx X u)) : PS X (.If c a b pos) (LSx X fun D ρ M => tc ρ M fun x M1 => onB x fun c => if c = true then t D ρ M1 else u D ρ M1) :=
  ⟨fun pins s σ H D I ⟨ρ, M, Dw, er, co, q, ct⟩ => (ps_if hc ha hb).run pins s σ H D I ⟨ρ, M, fun c M1 => if c = true then t Dw ρ M1 else u Dw ρ M1, er, co, q, fun b H1 M1 l c1 q1 => by
    cases b with
    | true => exact iteT ⟨ρ, M1, Dw, er.le l, c1, q1, ct.le l⟩
    | false => exact iteF ⟨ρ, M1, Dw, er.le l, c1, q1, ct.le l⟩⟩⟩
theorem pls_while {c : Expr} {body : List Stmt} {tc : WE} {tb : WS} (hp : PassesOwn (model X.prog X.w) X.A X.env X.xe) (hc : PT X c (LTx X tc)) (hb : PSs X body (LSx X tb)) :
    PS X (.While c body [] pos) (LSx X fun D ρ M => ∃ W : Nat → PEnv → MH → Prop, (∃ n, W n ρ M) ∧ ∀ n ρ' M', W n ρ' M' →
      tc ρ' M' fun x M2 => onB x fun c => if c = true then tb ⟨fun ρ3 M3 => ∃ m, m < n ∧ W m ρ3 M3, D.rt, D.nx, fun ρ3 M3 => ∃ m, m < n ∧ W m ρ3 M3⟩ ρ' M2 else D.nx ρ' M2) :=
  ⟨fun pins s σ H D I ⟨ρ, M, Dw, er, co, ⟨W, ⟨n0, w0⟩, step⟩, ct⟩ => by
    refine (ps_while hp hc hb).run pins s σ H D I ⟨fun n σ' H' => ∃ ρ' M', Hle H H' ∧ EnvR X.K H' ρ' σ' ∧ Cor X.prog X.w X.K H' M' ∧ W n ρ' M', ⟨n0, ρ, M, .refl _, er, co, w0⟩, ?_⟩
    rintro n σ1 H1 ⟨ρ1, M1, l1, e1, c1, w1⟩
    refine ⟨ρ1, M1, fun c M2 => if c = true then tb ⟨fun ρ3 M3 => ∃ m, m < n ∧ W m ρ3 M3, Dw.rt, Dw.nx, fun ρ3 M3 => ∃ m, m < n ∧ W m ρ3 M3⟩ ρ1 M2 else Dw.nx ρ1 M2, e1, c1, step n ρ1 M1 w1, fun b H2 M2 l2 c2 q2 => ?_⟩
    cases b with
    | false => exact iteF (ct.1 σ1 H2 ρ1 M2 (l1.trans l2) (e1.le l2) c2 q2)
    | true =>
      have nxt : ∀ (σ' : L2.St) (H' : Hp) (ρ' : PEnv) (M' : MH), Hle H2 H' → EnvR X.K H' ρ' σ' → Cor X.prog X.w X.K H' M' → (∃ m, m < n ∧ W m ρ' M') → ∃ m, m < n ∧ ∃ ρ' M', Hle H H' ∧ EnvR X.K H' ρ' σ' ∧ Cor X.prog X.w X.K H' M' ∧ W m ρ' M' :=
        fun σ' H' ρ' M' l3 e3 c3 ⟨m, hm, w3⟩ => ⟨m, hm, ρ', M', (l1.trans l2).trans l3, e3, c3, w3⟩
      have ct2 := ct.le (l1.trans l2)
      exact iteT ⟨_, fun σ' H' h => h, ρ1, M2, _, e1.le l2, c2, q2, nxt, ct2.2.1, ct2.1, nxt⟩⟩
theorem pls_for {tg iter : Expr} {body : List Stmt} {wi : PEnv → MH → WI → Prop} {g : WG} {vs : List Nat} {tb : WS} (hp : PassesOwn (model X.prog X.w) X.A X.env X.xe) (hc : X.calm = true) (hi : PI X tg iter (LIx X wi)) (hg : PG X tg (GT X.K vs g)) (hb : PSs X body (LSx X tb)) (hs : ∀ x, foldedSetIterable iter X.env x = pure x) :
    PS X (.For tg iter body [] pos) (LSx X fun D ρ M => wi ρ M fun items St M1 => ∃ W : Nat → PEnv → MH → Prop, W 0 ρ M1 ∧
      (∀ i x ρ' M', items[i]? = some x → W i ρ' M' → St M' ∧ g x ρ' fun ρ2 => tb ⟨W (i + 1), D.rt, D.nx, W (i + 1)⟩ ρ2 M') ∧
      ∀ ρ' M', W items.length ρ' M' → St M' ∧ D.nx ρ' M') :=
  ⟨fun pins s σ H D I ⟨ρ, M, Dw, er, co, q, ct⟩ => by
    refine (ps_for hp hc hi hg hb hs).run pins s σ H D I ⟨ρ, M, _, er, co, q, fun J H1 M1 items St l1 c1 io ⟨W, w0, step, fin⟩ => ?_⟩
    refine ⟨fun i m σ' H' => m = items.length - i ∧ i ≤ items.length ∧ ∃ ρ' M', Hle H1 H' ∧ EnvR X.K H' ρ' σ' ∧ Cor X.prog X.w X.K H' M' ∧ W i ρ' M', ⟨_, rfl, Nat.zero_le _, ρ, M1, .refl _, er.le l1, c1, w0⟩, ?_⟩
    rintro i m σ2 H2 ⟨rfl, hi, ρ2, M2, l2, e2, c2, w2⟩
    by_cases lt : i < items.length
    · right
      have hx := List.getElem?_eq_getElem lt
      obtain ⟨st, q2⟩ := step i _ ρ2 M2 hx w2
      refine ⟨io.go i H2 M2 l2 c2 st lt, fun σ' H' => ∃ ρ' M', Hle H1 H' ∧ EnvR X.K H' ρ' σ' ∧ Cor X.prog X.w X.K H' M' ∧ W (i + 1) ρ' M', fun σ' H' ⟨ρ', M', a⟩ => ⟨items.length - (i + 1), by omega, rfl, lt, ρ', M', a⟩, fun x H3 y => ?_⟩
      obtain ⟨l3, c3, p, hp, rp⟩ := io.yld i H2 x H3 M2 l2 c2 st y lt
      rw [hx] at hp
      cases hp
      refine ⟨ρ2, _, _, e2.le l3, rp, q2, fun σ4 ρ4 _ e4 q4 => ?_⟩
      have l13 := l2.trans l3
      have nxt : ∀ (σ' : L2.St) (H' : Hp) (ρ' : PEnv) (M' : MH), Hle H3 H' → EnvR X.K H' ρ' σ' → Cor X.prog X.w X.K H' M' → W (i + 1) ρ' M' → ∃ ρ' M', Hle H1 H' ∧ EnvR X.K H' ρ' σ' ∧ Cor X.prog X.w X.K H' M' ∧ W (i + 1) ρ' M' :=
        fun σ' H' ρ' M' l e c w => ⟨ρ', M', l13.trans l, e, c, w⟩
      have ct3 := ct.le (l1.trans l13)
      exact ⟨ρ4, M2, _, e4, c3, q4, nxt, ct3.2.1, ct3.1, nxt⟩
    · left
      have e : items.length = i := by omega
      subst e
      obtain ⟨st, q2⟩ := fin ρ2 M2 w2
      exact ⟨io.stop _ H2 M2 l2 c2 st rfl, ct.1 σ2 H2 ρ2 M2 (l1.trans l2) e2 c2 q2⟩⟩
end
end PL
/-! PLuC: comprehensions of dicts, the keys ints, texts, tuples. -/
namespace PL
open PySem PySem.Spec PySem.W PyProof.Rows L2

def dcW (wi : PEnv → MH → WI → Prop) (g : WG) (tt tk tv : WE) (own : List Nat) : WE := fun ρ M Q => wi ρ M fun items St M1 => ∀ D, M1 D = none → ∃ W : Nat → MH → Prop, W 0 (M1.upd D (.dct [] 0)) ∧
  (∀ i x M', items[i]? = some x → W i M' → St M' ∧ g x (wipeP ρ own) fun ρ2 => tt ρ2 M' fun x M2 => onB x fun c => if c = true then
      tk ρ2 M2 fun y M3 => tv ρ2 M3 fun z M4 => ∃ kvs, M4 D = some (.dct kvs 0) ∧ kOk kvs y = true ∧ kvs.length < LIM ∧ W (i + 1) (M4.upd D (.dct (kput kvs y z) 0))
    else W (i + 1) M2) ∧
  ∀ M', W items.length M' → St M' ∧ Q (.ref D) M'
section
variable {X : Cx} {pins : List (Addr × Obj)} {σ : L2.St} {H : Hp} {s : Shared}
/-- a pair stored by a comprehension -/
theorem dict_note (hu : X.A.units + 80 < cLine) {M : MH} {a : Addr} {kvs : List (PV × PV)} {k v : PV} {y x : V} {u r : Value} {E : Value → Shared → Prop} {Q : Unit → Shared → Prop} (I : Inv X pins σ H s) (c : Cor X.prog X.w X.K H M) (e : M a = some (.dct kvs 0)) (hk : kOk kvs k = true)
    (rk : Rep X.K H k y) (ry : RelV y u) (rv : Rep X.K H v x) (rx : RelV x r) (hl : kvs.length < LIM)
    (h : ∀ s' H', Inv X pins σ H' s' → Hle H H' → Cor X.prog X.w X.K H' (M.upd a (.dct (kput kvs k v) 0)) → Q () s') : wpAny (model X.prog X.w) X.A (dictSet a u r) Q E s := by
  have hz := Nat.lt_of_lt_of_le hl lim_le
  rcases dct_view I c e hk with ⟨b, ks, rfl, rd, h0, rr⟩ | ⟨hkey, ht, lo, xs, dd, rr, _, hm⟩
  · have ey := rep_kP rk
    subst ey
    have h0 := h0 rfl
    have hle : Hle H (upd H a (.dK (putK ks b x))) := .mut h0 trivial
    refine d_dictSet I h0 (by have := Paired.length rr; omega) ry rx fun s' I' => h s' _ I' hle (c.put h0 trivial (mrep_F ((dk_put rr rv).le hle) upd_same))
  · obtain ⟨b, rfl, rfl, ki⟩ := key_at I hkey ht rk ry
    have hm := hm rfl
    have hlen := Paired.length rr
    refine wpAny_dictSet_heap (hsz := by omega) (show X.A.units + 8 < cLine by omega) ki dd fun h' dd' hs => ?_
    cases hH : H a with
    | none => rw [hH] at hm; exact hm.elim
    | some uo =>
      rw [hH] at hm
      have hle : Hle H (upd H a (dTO X.prog X.w a (storedH xs k b r))) := .mut hH hm
      obtain ⟨o', es', ep', g1, g2, g3, g4, g5, g6⟩ := id dd'
      have := kput_len kvs k v
      exact h _ _ (d_write I (by rw [hH]; exact hm) hs ⟨o', g1⟩ (ext_ok dd')) hle (c.put hH hm (mrep_T lo (kput_ne _ _ _) (by omega) ((dt_put hkey ht rk rr rv rx).le hle) g6 upd_same))
end
section
variable {X : Cx} {kx vx tg iter : Expr} {ifs : List Expr} {scope : Scope} {own : List (Str × Nat)} {pos : Pos} {wi : PEnv → MH → WI → Prop} {g : WG} {tt tk tv : WE} {vs : List Nat}
theorem dcl_core {pins : List (Addr × Obj)} {s : Shared} {σ : L2.St} {H : Hp} {ρ : PEnv} {M : MH} {Q : WK} {pos' : Pos} {use : Option (Value → Sem Unit)} {Qf : Value → Shared → Prop} (hu : X.A.units + 80 < cLine) (hc : X.calm = true) (hN : X.N.Nodup) (I : Inv X pins σ H s) (hi : PI X tg iter (LIx X wi)) (ok : BlkOk X.N X.env.scope scope own) (sub : ∀ j ∈ vs, j ∈ own.map (·.2))
    (hg : ∀ (s : Shared) (H : Hp) (C : Addr) (cl : List (Str × Addr)) (fp : List Addr), PG (X.blk s H scope (compEnvC scope cl C X.env) fp) tg (GT X.K vs g))
    (ht : ∀ (s : Shared) (H : Hp) (C : Addr) (cl : List (Str × Addr)) (fp : List Addr), PTs (X.blk s H scope (compEnvC scope cl C X.env) fp) ifs (LTx X tt))
    (hk : ∀ (s : Shared) (H : Hp) (C : Addr) (cl : List (Str × Addr)) (fp : List Addr), PE (X.blk s H scope (compEnvC scope cl C X.env) fp) kx (LEx X tk))
    (he : ∀ (s : Shared) (H : Hp) (C : Addr) (cl : List (Str × Addr)) (fp : List Addr), PE (X.blk s H scope (compEnvC scope cl C X.env) fp) vx (LEx X tv)) (hs : ∀ x, foldedSetIterable iter X.env x = pure x)
    (er : EnvR X.K H ρ σ) (c : Cor X.prog X.w X.K H M) (q : dcW wi g tt tk tv (own.map (·.2)) ρ M Q)
    (fin : ∀ D C s' m H' M', Inv X pins σ H' s' → Hle H H' → Cor X.prog X.w X.K H' M' → Q (.ref D) M' → s'.heap.Ns C m → FpOk X pins H' C → compPost (model X.prog X.w) X.A X.xe use Qf (.ref D) C (.ok .next) s') :
    wpAny (model X.prog X.w) X.A (comprehension (.DictComp kx vx [⟨tg, iter, ifs, 0⟩] scope pos) scope X.env pos' newDict false (eval iter X.env) use) Qf X.xe s := by
  have begun := hi.run pins s σ H (fun J H1 => ∃ items St M1, Hle H H1 ∧ Cor X.prog X.w X.K H1 M1 ∧ ItOk X.prog X.w X.K H1 J items St ∧ ∀ D, M1 D = none → ∃ W : Nat → MH → Prop, W 0 (M1.upd D (.dct [] 0)) ∧
      (∀ i x M', items[i]? = some x → W i M' → St M' ∧ g x (wipeP ρ (own.map (·.2))) fun ρ2 => tt ρ2 M' fun x M2 => onB x fun c => if c = true then
          tk ρ2 M2 fun y M3 => tv ρ2 M3 fun z M4 => ∃ kvs, M4 D = some (.dct kvs 0) ∧ kOk kvs y = true ∧ kvs.length < LIM ∧ W (i + 1) (M4.upd D (.dct (kput kvs y z) 0))
        else W (i + 1) M2) ∧ ∀ M', W items.length M' → St M' ∧ Q (.ref D) M') I ⟨ρ, M, _, er, c, q, fun J H1 M1 items St l c1 io kk => ⟨items, St, M1, l, c1, io, kk⟩⟩
  have frees : ∀ y ∈ scope.names, y.2 = .free → ∃ c, X.env.cells.lookup y.1 = some c := fun y hy e => (ok.free y hy e).elim (fun z => I.ok.has _ (.inl z)) fun z => I.ok.has _ (.inr z)
  refine wpAny_comprehension_free (use := use) rfl hs (closure_ok frees) ok.kind (fun y hy e => by rw [ok.uniq y hy, e]) (thn begun fun xv s1 hx => thn hx fun itv s2 h2 => ?_)
  obtain ⟨it, fp, tn, J, H2, rfl, I2, T, st2, f2, items, St, M2, l2, c2, io, kk⟩ := h2
  refine wpAny_newObj_type (newEnv_comp ?_)
  generalize eD : s2.heap.objs.size = D
  have fresh : H2 D = none := I2.hok.fresh (Nat.le_of_eq eD)
  generalize e3 : ({ s2 with heap := s2.heap.push { cls := .type "dict", data := .dict #[] } } : Shared) = s3
  have p3 : s3.heap = s2.heap.push { cls := .type "dict", data := .dict #[] } := by rw [← e3]
  have I3 : Inv X pins σ (upd H2 D (.dK [])) s3 := by
    subst e3 eD
    exact I2.laid (t' := s2.toks) (fun b o e => Heap.get?_push_of_some _ e) (Nat.le_refl _) (dk_empty s2.heap I2.big)
  have kf := inv_kf I3
  have l3 : Hle H2 (upd H2 D (.dK [])) := .new fresh
  have c3 : Cor X.prog X.w X.K (upd H2 D (.dK [])) (M2.upd D (.dct [] 0)) := c2.new kf fresh (mrep_F .nil upd_same)
  obtain ⟨W, w0, step, last⟩ := kk D (c2.free kf fresh)
  generalize hH3 : upd H2 D (.dK []) = H3 at I3 c3 l3 kf
  have f3 : ∀ b ∈ fp, FpOk X pins H3 b ∧ b < s3.heap.objs.size := fun b hb => by
    obtain ⟨o, e, _⟩ := T.obj _ _ st2 b hb
    have lt := Heap.lt_size e
    have ne : b ≠ D := by rw [← eD]; exact Nat.ne_of_lt lt
    refine ⟨⟨by rw [← hH3, upd_ne ne]; exact (f2 b hb).1, (f2 b hb).2⟩, ?_⟩
    rw [p3, Heap.size_push]
    exact Nat.lt_succ_of_lt lt
  have st3 : tn 0 s3.heap := T.keep _ _ _ st2 fun b _ o e => by rw [p3]; exact Heap.get?_push_of_some _ e
  have I4 := block_start I3 ok hN f3
  have pg := hg s3 H3 s3.heap.objs.size (cellsFrom (s3.heap.objs.size + 1) scope.names (cloFrom X.env.cells scope.names [])) fp
  have pt := ht s3 H3 s3.heap.objs.size (cellsFrom (s3.heap.objs.size + 1) scope.names (cloFrom X.env.cells scope.names [])) fp
  have pk := hk s3 H3 s3.heap.objs.size (cellsFrom (s3.heap.objs.size + 1) scope.names (cloFrom X.env.cells scope.names [])) fp
  have pv := he s3 H3 s3.heap.objs.size (cellsFrom (s3.heap.objs.size + 1) scope.names (cloFrom X.env.cells scope.names [])) fp
  show codeAny _ _ (.compStart (.DictComp kx vx [⟨tg, iter, ifs, 0⟩] scope pos) 0 (.ref it) (.ref D) (compEnvC scope (cellsFrom (s3.heap.objs.size + 1) scope.names (cloFrom X.env.cells scope.names [])) s3.heap.objs.size X.env))
    (compPost (model X.prog X.w) X.A X.xe use Qf (.ref D) s3.heap.objs.size) { s3 with heap := pushCells (s3.heap.push { cls := .type "dict", data := .dict #[] }) scope.names }
  generalize ece : compEnvC scope (cellsFrom (s3.heap.objs.size + 1) scope.names (cloFrom X.env.cells scope.names [])) s3.heap.objs.size X.env = ce at I4 pg pt pk pv ⊢
  have loc : ce.locals = s3.heap.objs.size := by subst ece; rfl
  generalize e4 : ({ s3 with heap := pushCells (s3.heap.push { cls := .type "dict", data := .dict #[] }) scope.names } : Shared) = s4 at I4 ⊢
  have st4 : tn 0 s4.heap := T.keep _ _ _ st3 fun b _ o e => by rw [← e4]; exact pushCells_keeps _ _ _ _ (Heap.get?_push_of_some _ e)
  have FP : ∀ {σ' : L2.St} {H' : Hp} {s' : Shared}, Inv (X.blk s3 H3 scope ce fp) [] σ' H' s' → (∀ b ∈ fp, H' b = none) → ∀ b ∈ fp, FpOk (X.blk s3 H3 scope ce fp) [] H' b := fun {σ' H' s'} I' hn b hb =>
    ⟨hn b hb, (I'.ok.exf b hb).1, I'.ok.exfs b hb, .inl hb, fun x c e => (I'.ok.exf b hb).2 x c e, fun p hp => by simp at hp⟩
  -- the state ahead of turn i
  let At : Nat → Shared → Prop := fun n s' => ∃ i H' M', n = items.length - i ∧ i ≤ items.length ∧ Inv (X.blk s3 H3 scope ce fp) [] (wipe σ (own.map (·.2))) H' s' ∧ tn i s'.heap ∧ (∀ b ∈ fp, H' b = none) ∧ Hle H2 H' ∧ Cor X.prog X.w X.K H' M' ∧ W i M'
  have loop : codeAny (model X.prog X.w) X.A (.compLoop (.DictComp kx vx [⟨tg, iter, ifs, 0⟩] scope pos) 0 (.ref it) (.ref D) ce) (compPost (model X.prog X.w) X.A X.xe use Qf (.ref D) s3.heap.objs.size) s4 := by
    refine compLoop_anyD At ?_ items.length ⟨0, H3, _, rfl, Nat.zero_le _, I4, st4, fun b hb => (f3 b hb).1.1, l3, c3, w0⟩
    rintro n s5 ⟨i, H5, M5, rfl, hi, I5, st5, n5, l5, c5, w5⟩
    by_cases lt : i < items.length
    · have hx := List.getElem?_eq_getElem lt
      obtain ⟨sti, q5⟩ := step i _ M5 hx w5
      refine thnF (T.item (X.blk s3 H3 scope ce fp) rfl rfl rfl hc i [] s5 _ H5 (fun _ _ => False) I5 (FP I5 n5) st5 (io.go i H5 M5 l5 c5 sti lt)) fun r s6 ⟨u, hr, h6⟩ => ?_
      subst hr
      refine thnF h6 fun _ s7 ⟨x, H7, I7, r7, y7, st7, n7⟩ => ?_
      have I7p := I7.pinned (FP I7 n7) (T.obj _ _ st7)
      obtain ⟨l7, c7, p, hp, rp⟩ := io.yld i H5 x H7 M5 l5 c5 sti y7 lt
      rw [hx] at hp
      cases hp
      have er7 := env_wipe (((er.le l2).le l5).le l7) (own.map (·.2))
      refine thnF (pg.run _ s7 _ H7 x u (fun σ8 H8 => H8 = H7 ∧ wipe σ8 (own.map (·.2)) = wipe σ (own.map (·.2)) ∧ ∃ ρ8, EnvR X.K H7 ρ8 σ8 ∧ tt ρ8 M5 fun x M2 => onB x fun c => if c = true then
          tk ρ8 M2 fun y M3 => tv ρ8 M3 fun z M4 => ∃ kvs, M4 D = some (.dct kvs 0) ∧ kOk kvs y = true ∧ kvs.length < LIM ∧ W (i + 1) (M4.upd D (.dct (kput kvs y z) 0))
        else W (i + 1) M2) I7p r7 ⟨_, _, _, er7, rp, q5, fun σ8 ρ8 off er8 k8 => ⟨rfl, (off.wipe sub).trans (wipe_wipe _ _), ρ8, er8, k8⟩⟩) fun _ s8 ⟨σ8, H8, I8, e8, hw8, ρ8, er8, q8⟩ => ?_
      subst e8
      have next : ∀ {s' : Shared} {H' : Hp} {M' : MH}, Inv (X.blk s3 H3 scope ce fp) ([] ++ pinsAt fp s7.heap) σ8 H' s' → Hle H8 H' → Cor X.prog X.w X.K H' M' → W (i + 1) M' → ∃ m, m < items.length - i ∧ At m s' := fun {s' H' M'} I' l' c' w' => by
        have kept : ∀ b ∈ fp, ∀ o, s7.heap.get? b = some o → s'.heap.get? b = some o ∧ H' b = none := fun b hb o e => by
          have z := I'.pin (b, o) (List.mem_append_right _ (List.mem_append_right _ (mem_pinsAt hb e)))
          exact ⟨z.1, z.2.1⟩
        refine ⟨items.length - (i + 1), by omega, i + 1, H', M', rfl, lt, (I'.unpinned (pins := [])).weak ?_ ?_, T.keep _ _ _ st7 fun b hb o e => (kept b hb o e).1, fun b hb => ?_, (l5.trans l7).trans l', c', w'⟩
        · rw [← hw8, wipe_length]
        · intro j v e
          rw [← hw8] at e
          exact (wipe_some e).1
        · obtain ⟨o, e, _⟩ := T.obj _ _ st7 b hb
          exact (kept b hb o e).2
      refine thnF (pt.run _ s8 σ8 H8 (fun b H9 => ∃ M9, Hle H8 H9 ∧ Cor X.prog X.w X.K H9 M9 ∧ if b = true then
          tk ρ8 M9 fun y M3 => tv ρ8 M3 fun z M4 => ∃ kvs, M4 D = some (.dct kvs 0) ∧ kOk kvs y = true ∧ kvs.length < LIM ∧ W (i + 1) (M4.upd D (.dct (kput kvs y z) 0))
        else W (i + 1) M9) I8 ⟨ρ8, M5, _, er8, c7, q8, fun b H9 M9 l c q => ⟨M9, l, c, q⟩⟩) fun b s9 ⟨H9, I9, M9, l9, c9, q9⟩ => ?_
      cases b with
      | false => exact next I9 l9 c9 q9
      | true =>
        have q9 : tk ρ8 M9 fun y M3 => tv ρ8 M3 fun z M4 => ∃ kvs, M4 D = some (.dct kvs 0) ∧ kOk kvs y = true ∧ kvs.length < LIM ∧ W (i + 1) (M4.upd D (.dct (kput kvs y z) 0)) := q9
        refine thnF (pk.run _ s9 σ8 H9 (fun v HA => ∃ y MA, Hle H9 HA ∧ Rep X.K HA y v ∧ Cor X.prog X.w X.K HA MA ∧ tv ρ8 MA fun z M4 => ∃ kvs, M4 D = some (.dct kvs 0) ∧ kOk kvs y = true ∧ kvs.length < LIM ∧ W (i + 1) (M4.upd D (.dct (kput kvs y z) 0)))
          I9 ⟨ρ8, M9, _, er8.le l9, c9, q9, fun v HA y MA l r c q => ⟨y, MA, l, r, c, q⟩⟩) fun kv sA ⟨vk, HA, IA, rA, y, MA, lA, ry, cA, qA⟩ => ?_
        refine thnF (pv.run _ sA σ8 HA (fun v HB => ∃ z MB, Hle HA HB ∧ Rep X.K HB z v ∧ Cor X.prog X.w X.K HB MB ∧ ∃ kvs, MB D = some (.dct kvs 0) ∧ kOk kvs y = true ∧ kvs.length < LIM ∧ W (i + 1) (MB.upd D (.dct (kput kvs y z) 0)))
          IA ⟨ρ8, MA, _, (er8.le l9).le lA, cA, qA, fun v HA y MA l r c q => ⟨y, MA, l, r, c, q⟩⟩) fun vv sB ⟨vb, HB, IB, rB, z, MB, lB, rz, cB, kvs, b1, b2, b3, b4⟩ => ?_
        exact dict_note (X := X.blk s3 H3 scope ce fp) hu IB cB b1 b2 (ry.le lB) rA rz rB b3 fun sC HC IC lC cC => next IC (((l9.trans lA).trans lB).trans lC) cC b4
    · have ei : items.length = i := by omega
      subst ei
      obtain ⟨sti, q5⟩ := last M5 w5
      refine thnF (T.done (X.blk s3 H3 scope ce fp) rfl rfl rfl hc _ [] s5 _ H5 (fun _ _ => False) I5 (FP I5 n5) st5 (io.stop _ H5 M5 l5 c5 sti rfl)) fun r s6 ⟨hr, I6⟩ => ?_
      subst hr
      have I7 : Inv X pins σ H5 s6 := I3.call' (ch := fp) I6.os I6.base I6.hok I6.bare fun b hb => let z := (f3 b hb).1; ⟨z.2.2.2.1, z.2.1, z.2.2.2.2.1, z.2.2.2.2.2⟩
      obtain ⟨m, hn, _⟩ := I6.loc
      have hn : s6.heap.Ns ce.locals m := hn
      have nC : H5 ce.locals = none := I6.free
      rw [loc] at hn nC
      exact fin D s3.heap.objs.size s6 m H5 M5 I7 (l2.trans l5) c5 q5 hn (I3.fpOk (Nat.le_refl _) nC)
  exact codeAny_compStart_dict loop (T.self X.A 0 _ _ _ st4 loop)
theorem pl_dc (hu : X.A.units + 80 < cLine) (hc : X.calm = true) (hN : X.N.Nodup) (hi : PI X tg iter (LIx X wi)) (ok : BlkOk X.N X.env.scope scope own) (sub : ∀ j ∈ vs, j ∈ own.map (·.2))
    (hg : ∀ (s : Shared) (H : Hp) (C : Addr) (cl : List (Str × Addr)) (fp : List Addr), PG (X.blk s H scope (compEnvC scope cl C X.env) fp) tg (GT X.K vs g))
    (ht : ∀ (s : Shared) (H : Hp) (C : Addr) (cl : List (Str × Addr)) (fp : List Addr), PTs (X.blk s H scope (compEnvC scope cl C X.env) fp) ifs (LTx X tt))
    (hk : ∀ (s : Shared) (H : Hp) (C : Addr) (cl : List (Str × Addr)) (fp : List Addr), PE (X.blk s H scope (compEnvC scope cl C X.env) fp) kx (LEx X tk))
    (he : ∀ (s : Shared) (H : Hp) (C : Addr) (cl : List (Str × Addr)) (fp : List Addr), PE (X.blk s H scope (compEnvC scope cl C X.env) fp) vx (LEx X tv)) (hs : ∀ x, foldedSetIterable iter X.env x = pure x) :
    PE X (.DictComp kx vx [⟨tg, iter, ifs, 0⟩] scope pos) (LEx X (dcW wi g tt tk tv (own.map (·.2)))) :=
  ⟨fun pins s σ H Qv I ⟨ρ, M, Q, er, c, q, ct⟩ => by
    rw [arm_eval_DictComp]
    exact dcl_core hu hc hN I hi ok sub hg ht hk he hs er c q fun D C s' m H' M' I' l c' q' hn ⟨f0, f1, f2, f3, f4, f5⟩ => ⟨m, hn, fun h'' sb =>
      ⟨.ref D, H', I'.turned (t' := s'.toks) (fun b o hb e => (sb.2 b hb).trans e) f0 f1 f3 f4 f5, rfl, ct (.ref D) H' (.ref D) M' l (by unfold Rep; rfl) c' q'⟩⟩⟩
theorem pls_setDc {i : Nat} {y : Str} {py spos : Pos} (hu : X.A.units + 80 < cLine) (hc : X.calm = true) (hN : X.N.Nodup) (hy : X.N[i]? = some y) (hyl : X.env.scope.names.lookup y = some .local) (hsw : swapsWith (.DictComp kx vx [⟨tg, iter, ifs, 0⟩] scope pos) (some (.Name y py)) spos.line X.env = pure true)
    (hi : PI X tg iter (LIx X wi)) (ok : BlkOk X.N X.env.scope scope own) (sub : ∀ j ∈ vs, j ∈ own.map (·.2))
    (hg : ∀ (s : Shared) (H : Hp) (C : Addr) (cl : List (Str × Addr)) (fp : List Addr), PG (X.blk s H scope (compEnvC scope cl C X.env) fp) tg (GT X.K vs g))
    (ht : ∀ (s : Shared) (H : Hp) (C : Addr) (cl : List (Str × Addr)) (fp : List Addr), PTs (X.blk s H scope (compEnvC scope cl C X.env) fp) ifs (LTx X tt))
    (hk : ∀ (s : Shared) (H : Hp) (C : Addr) (cl : List (Str × Addr)) (fp : List Addr), PE (X.blk s H scope (compEnvC scope cl C X.env) fp) kx (LEx X tk))
    (he : ∀ (s : Shared) (H : Hp) (C : Addr) (cl : List (Str × Addr)) (fp : List Addr), PE (X.blk s H scope (compEnvC scope cl C X.env) fp) vx (LEx X tv)) (hs : ∀ x, foldedSetIterable iter X.env x = pure x) :
    PS X (.Assign [.Name y py] (.DictComp kx vx [⟨tg, iter, ifs, 0⟩] scope pos) spos) (LSx X fun D ρ M => dcW wi g tt tk tv (own.map (·.2)) ρ M fun v M1 => D.nx (ρ.set i (some v)) M1) :=
  ⟨fun pins s σ H D I ⟨ρ, M, Dw, er, c, q, ct⟩ => by
    rw [exec_Assign_Name_used _ _ _ _ hsw]
    refine wpAny_bind (wpAny_standAt (wpAny_bind ?_))
    show wpAny _ X.A (comprehension (.DictComp kx vx [⟨tg, iter, ifs, 0⟩] scope pos) scope X.env (firstIterPos [⟨tg, iter, ifs, 0⟩] pos) newDict false (eval iter X.env) (some (assign (.Name y py) X.env)) >>= fun _ => pure ()) _ _ s
    refine wpAny_bind (thn (dcl_core (Qf := fun _ s' => SP X pins D .next s') hu hc hN I hi ok sub hg ht hk he hs er c q fun L C s' m H' M' I' l c' q' hn ⟨f0, f1, f2, f3, f4, f5⟩ => ?_) fun _ s' z => wpAny_pure (wpAny_pure z))
    show wpAny _ _ (assign (.Name y py) X.env (.ref L)) _ _ _
    refine wpAny_assign_Name (store_ok2 (v := V.ref L) I' hN hy (.inl hyl) rfl (fun s2 I2 ⟨a, sb, ha⟩ => ?_) (.inr hyl))
    have apart : C ≠ a := ha.elim (fun z => by rw [z]; exact f1) fun z e => f4 y a z e.symm
    exact ⟨m, hn.sameBut sb apart, fun h3 sb3 => ⟨_, H', I2.turned (t' := s2.toks) (fun b o hb e => (sb3.2 b hb).trans e) f0 f1 f3 f4 f5, ct.1 _ H' _ M' l (env_set (by unfold Rep; rfl) i (er.le l)) c' q'⟩⟩⟩
end
end PL
/-! PLuD: from the program's text to the small language. -/
namespace PL
open PySem PySem.Spec PySem.W PyProof.Rows L2

/-- what is known of a text's names: slots, scope, names that may be stored, defs that may be called, calls with keywords, constants -/
structure CS where
  N : List Str
  sc : Scope
  fn : Str → Bool
  fs : List Str
  ks : List (Str × Nat × List Str)
  gs : List Str
def slotOf : List Str → Str → Option Nat
  | [], _ => none
  | y :: r, x => if y == x then some 0 else (slotOf r x).map (· + 1)
def visB (cs : CS) (x : Str) : Bool := match cs.sc.names.lookup x with
  | some .local => true
  | some .cell => true
  | some .free => true
  | _ => false
def locB (cs : CS) (x : Str) : Bool := match cs.sc.names.lookup x with
  | some .local => true
  | some .cell => cs.fn x
  | _ => false
def glB (cs : CS) (x : Str) : Bool := match cs.sc.names.lookup x with
  | some .globalImplicit => true
  | _ => false
def okName (x : Str) : Bool := !(x == ("__debug__" : Str)) && !(x == ("__classdict__" : Str)) && !(x == ("__name__" : Str))
def pvOf : Const → Option PV
  | .none => some .non
  | .bool b => some (.bl b)
  | .int i => some (.int i)
  | .str x => some (.str x)
  | _ => none
def esOf (f : Expr → Option E) : List Expr → Option Es
  | [] => some .nil
  | e :: r => (f e).bind fun a => (esOf f r).bind fun b => some (.cons a b)
def kwOf (f : Expr → Option E) : List Keyword → Option (Es × List Str)
  | [] => some (.nil, [])
  | ⟨x, e, _⟩ :: r => x.bind fun x => (f e).bind fun a => (kwOf f r).bind fun b => some (.cons a b.1, x :: b.2)
def Es.app : Es → Es → Es
  | .nil, s => s
  | .cons a r, s => .cons a (r.app s)
def eoOf (f : Expr → Option E) : Option Expr → Option Eo
  | none => some .none
  | some e => (f e).bind fun a => some (.some a)
def tsOf (f : Expr → Option T) : List Expr → Option Ts
  | [] => some .nil
  | e :: r => (f e).bind fun a => (tsOf f r).bind fun b => some (.cons a b)
def tgOf : Nat → CS → Expr → Option T
  | 0, _, _ => none
  | n + 1, cs, e => match e with
    | .Name x _ => if locB cs x then (slotOf cs.N x).bind fun i => some (.nm i) else none
    | .Tuple es _ _ => (tsOf (tgOf n cs) es).bind fun ts => some (.tp ts)
    | _ => none
def isTupE : Expr → Bool
  | .Tuple .. => true
  | _ => false
def iOf (f : Expr → Option E) (cs : CS) (tg e : Expr) : Option I := match e with
  | .Call (.Name x _) [a] [] _ =>
    if x == ("range" : Str) then (if glB cs x then (f a).bind fun m => some (.range (.cons m .nil)) else none)
    else if x == ("enumerate" : Str) then (if glB cs x && isTupE tg then (f a).bind fun m => some (.enum m) else none)
    else (f e).bind fun m => some (.ex m)
  | .Call (.Name x _) [a, b] [] _ =>
    if x == ("range" : Str) then (if glB cs x then (f a).bind fun m => (f b).bind fun k => some (.range (.cons m (.cons k .nil))) else none)
    else if x == ("zip" : Str) then (if glB cs x && isTupE tg then (f a).bind fun m => (f b).bind fun k => some (.zip m k) else none)
    else (f e).bind fun m => some (.ex m)
  | e => (f e).bind fun m => some (.ex m)
def bOf (x : Str) : Option B :=
  if x == ("len" : Str) then some .len else if x == ("tuple" : Str) then some .tuple else if x == ("list" : Str) then some .list else if x == ("sorted" : Str) then some .sorted
  else if x == ("dict" : Str) then some .dict else if x == ("int" : Str) then some .int else if x == ("abs" : Str) then some .abs else if x == ("max" : Str) then some .max
  else if x == ("min" : Str) then some .min else if x == ("all" : Str) then some .all else if x == ("any" : Str) then some .any else none
def mOf (x : Str) : Option Me :=
  if x == ("append" : Str) then some .append else if x == ("extend" : Str) then some .extend else if x == ("pop" : Str) then some .pop
  else if x == ("get" : Str) then some .get else if x == ("update" : Str) then some .update else none
def tyOfN (x : Str) : Option Ty :=
  if x == ("int" : Str) then some .int else if x == ("bool" : Str) then some .bool else if x == ("str" : Str) then some .str else if x == ("tuple" : Str) then some .tuple
  else if x == ("list" : Str) then some .list else none
def ownOf (N : List Str) (scope : Scope) : List (Str × Nat) := scope.names.filterMap fun y => match y.2 with
  | .local => (slotOf N y.1).map fun i => (y.1, i)
  | .cell => (slotOf N y.1).map fun i => (y.1, i)
  | _ => none
def blkCS (cs : CS) (scope : Scope) : CS := { cs with sc := relS scope cs.sc, fn := fun x => scope.names.lookup x == some .cell }
/-- a plain receiver of a method -/
def rcvB : Expr → Bool
  | .Name .. => true
  | .Subscript .. => true
  | .Dict .. => true
  | .List .. => true
  | _ => false
def comp : Nat → Bool → CS → Expr → Option E
  | 0, _, _, _ => none
  | n + 1, t, cs, e => match e with
    | .Constant c _ _ => (pvOf c).bind fun p => some (.c p)
    | .Name x _ => if okName x then (if visB cs x then (slotOf cs.N x).bind fun i => some (.var i) else if glB cs x && cs.gs.contains x then some (.glob x) else none) else none
    | .Tuple es _ _ => (esOf (comp n false cs) es).bind fun m => some (.tup m)
    | .List es _ => (esOf (comp n false cs) es).bind fun m => some (.lst m)
    | .Dict [] [] _ => some (.dct .nil .nil)
    | .Dict [some k] [v] _ => (comp n false cs k).bind fun a => (comp n false cs v).bind fun b => some (.dct (.cons a .nil) (.cons b .nil))
    | .BinOp a op b _ => (comp n false cs a).bind fun x => (comp n false cs b).bind fun y => some (.bin op x y)
    | .UnaryOp .Not a _ => (comp n t cs a).bind fun x => some (.not x)
    | .UnaryOp .USub a _ => (comp n false cs a).bind fun x => some (.neg x)
    | .BoolOp op (a :: r) _ => (esOf (comp n t cs) (a :: r)).bind fun m => some (.bop (match op with | .And => true | .Or => false) m)
    | .Compare a [op] [b] _ => if behindInMarks op b then none else (comp n false cs a).bind fun x => (comp n false cs b).bind fun y => some (.cmp op x y)
    | .IfExp c a b _ => if t then none else (comp n true cs c).bind fun x => (comp n false cs a).bind fun y => (comp n false cs b).bind fun z => some (.ife x y z)
    | .Subscript a (.Slice lo hi none _) _ => (comp n false cs a).bind fun x => (eoOf (comp n false cs) lo).bind fun y => (eoOf (comp n false cs) hi).bind fun z => some (.sl x y z)
    | .Subscript a i _ => (comp n false cs a).bind fun x => (comp n false cs i).bind fun y => some (.ix x y)
    | .Call (.Name x _) args kws _ =>
      if okName x && glB cs x then
        (if cs.fs.contains x then
          (kwOf (comp n false cs) kws).bind fun k => (esOf (comp n false cs) args).bind fun m =>
            (match kws, args with
              | [], _ => some (.call x m [])
              | _ :: _, [] => none
              | _ :: _, _ :: _ => if cs.ks.contains (x, args.length, k.2) then some (.call x (m.app k.1) k.2) else none)
        else if x == ("isinstance" : Str) then
          (match args, kws with
            | [a, .Name y _], [] => if okName y && glB cs y then (tyOfN y).bind fun ty => (comp n false cs a).bind fun m => some (.isi m ty) else none
            | _, _ => none)
        else (match args, kws with
          | _ :: _, [] => (bOf x).bind fun b => (esOf (comp n false cs) args).bind fun m => some (.blt b m)
          | _, _ => none))
      else none
    | .Call (.Attribute o m apos) args [] cpos =>
      if rcvB o && (apos.endLine == cpos.line) && decide (args.length < 29) then
        (mOf m).bind fun me => (comp n false cs o).bind fun x => (esOf (comp n false cs) args).bind fun r => some (.mth me x r)
      else none
    | .ListComp elt [⟨tg, it, ifs, 0⟩] scope _ =>
      if blkC cs.N cs.sc scope (ownOf cs.N scope) && decide (ifs.length ≤ 1) then
        (tgOf n (blkCS cs scope) tg).bind fun g => (iOf (comp n false cs) cs tg it).bind fun i => (esOf (comp n true (blkCS cs scope)) ifs).bind fun c => (comp n false (blkCS cs scope) elt).bind fun m =>
          if g.slots.all fun j => ((ownOf cs.N scope).map (·.2)).contains j then some (.lc m g i c ((ownOf cs.N scope).map (·.2))) else none
      else none
    | .DictComp kx vx [⟨tg, it, ifs, 0⟩] scope _ =>
      if blkC cs.N cs.sc scope (ownOf cs.N scope) && decide (ifs.length ≤ 1) then
        (tgOf n (blkCS cs scope) tg).bind fun g => (iOf (comp n false cs) cs tg it).bind fun i => (esOf (comp n true (blkCS cs scope)) ifs).bind fun c => (comp n false (blkCS cs scope) kx).bind fun k => (comp n false (blkCS cs scope) vx).bind fun m =>
          if g.slots.all fun j => ((ownOf cs.N scope).map (·.2)).contains j then some (.dc k m g i c ((ownOf cs.N scope).map (·.2))) else none
      else none
    | _ => none
/-- a comprehension, its scope -/
def cpScope : Expr → Option Scope
  | .ListComp _ _ s _ => some s
  | .DictComp _ _ _ s _ => some s
  | .SetComp _ _ s _ => some s
  | _ => none
/-- .. whose value goes right into the name -/
def swapB (cs : CS) (x : Str) (l : Nat) (e : Expr) : Bool := match cpScope e with
  | some s => (cs.sc.names.lookup x == some .local) && (l == e.pos.line) && !(s.names.any fun (n, k) => n == x && (k == .local || k == .cell))
  | none => false
def namesL (cs : CS) (ts : List Expr) (line : Nat) : List Str := ts.filterMap fun
  | .Name id pos => if cs.sc.names.lookup id == some .local && pos.line == line then some id else none
  | _ => none
def swS (cs : CS) (ts vs : List Expr) : Option (Option (List Str)) :=
  if !(ts.length == 2 || ts.length == 3) || vs.length != ts.length then some none
  else if vs.any (fun | .Starred .. => true | _ => false) then some none
  else if (namesL cs ts ((ts.head?.map (·.pos.line)).getD 0)).length != ts.length || (namesL cs ts ((ts.head?.map (·.pos.line)).getD 0)).eraseDups.length != (namesL cs ts ((ts.head?.map (·.pos.line)).getD 0)).length then some none
  else if vs.all (foldedForSure 8) then some none
  else if vs.all (constantsAlone 8) then none
  else if !decide (namesL cs ts ((ts.head?.map (·.pos.line)).getD 0)).Nodup then none
  else some (some (namesL cs ts ((ts.head?.map (·.pos.line)).getD 0)))
def ssOf (f : Stmt → Option S) : List Stmt → Option Ss
  | [] => some .nil
  | e :: r => (f e).bind fun a => (ssOf f r).bind fun b => some (.cons a b)
def stm : Nat → CS → Stmt → Option S
  | 0, _, _ => none
  | n + 1, cs, st => match st with
    | .Assign [.Name x px] e pos => if locB cs x then (slotOf cs.N x).bind fun i => (comp (n + 1) false cs e).bind fun m => some (.asg (.nm i) m) else none
    | .Assign [.Tuple ts k p] (.Tuple vs k2 p2) pos => (swS cs ts vs).bind fun r => (tgOf n cs (.Tuple ts k p)).bind fun g => (comp n false cs (.Tuple vs k2 p2)).bind fun m => some (.asg g m)
    | .Assign [.Tuple ts k p] e pos => if isTupE e || (cpScope e).isSome then none else (tgOf n cs (.Tuple ts k p)).bind fun g => (comp n false cs e).bind fun m => some (.asg g m)
    | .Assign [.Subscript o i p] e pos => (comp n false cs o).bind fun x => (comp n false cs i).bind fun y => (comp n false cs e).bind fun z => some (.sub x y z)
    | .AugAssign (.Name x px) op e pos => if locB cs x then (match op with
        | .Add => (slotOf cs.N x).bind fun i => (comp n false cs e).bind fun m => some (.aug i .Add m)
        | .Sub => (slotOf cs.N x).bind fun i => (comp n false cs e).bind fun m => some (.aug i .Sub m)
        | _ => none) else none
    | .Expr (.Constant (.str _) _ _) _ => some .pass
    | .Expr e pos => if (cpScope e).isSome then none else (comp n false cs e).bind fun m => some (.ex m)
    | .If c a b pos => (comp n true cs c).bind fun x => (ssOf (stm n cs) a).bind fun y => (ssOf (stm n cs) b).bind fun z => some (.ifs x y z)
    | .For tg it b [] pos => (tgOf n cs tg).bind fun g => (iOf (comp n false cs) cs tg it).bind fun i => (ssOf (stm n cs) b).bind fun y => some (.fors g i y)
    | .While c b [] pos => (comp n true cs c).bind fun x => (ssOf (stm n cs) b).bind fun y => some (.whiles x y)
    | .Return (some e) _ => (comp n false cs e).bind fun m => some (.ret m)
    | .Return none _ => some .retN
    | .Break _ => some .brk
    | .Continue _ => some .cnt
    | .Pass _ => some .pass
    | _ => none
end PL
/-! PLuE: what is compiled is sound: expressions. -/
namespace PL
open PySem PySem.Spec PySem.W PyProof.Rows L2

section
variable (Φ : Fns) (X : Cx)
def Callee (f : Str) : Prop := ∃ g a fd ps k, Φ.fn f = some g ∧ FnOk X.prog X.w X.K X.mg X.base CX0 k a fd ps (LSp X.prog X.w X.K g) ∧ Room k X.A ∧ X.mg f = some (.ref a) ∧ PySem.W.keepIn X.K (.ref a) = true ∧ Binds X.K fd ps []
def CalleeK (c : Str × Nat × List Str) : Prop := ∃ g a fd ps k gR gV, Φ.fn c.1 = some g ∧ FnOk X.prog X.w X.K X.mg X.base CX0 k a fd ps (LSp X.prog X.w X.K g) ∧ Room k X.A ∧ X.mg c.1 = some (.ref a) ∧ PySem.W.keepIn X.K (.ref a) = true ∧
  KBinds X.K fd ps c.2.2 gR gV ∧ ∀ vs zs : List V, vs.length = c.2.1 → zs.length = c.2.2.length → gV vs zs = vs ++ zs
def bltNames : List Str := ["len", "tuple", "list", "sorted", "dict", "int", "abs", "max", "min", "all", "any", "bool", "str", "isinstance", "range", "enumerate", "zip"]
structure CtxOk (cs : CS) : Prop where
  N : X.N = cs.N
  sc : X.env.scope = cs.sc
  nd : X.N.Nodup
  calm : X.calm = true
  units : X.A.units + 80 < cLine
  fn : ∀ x, cs.fn x = true → X.fn x = true
  blt : ∀ x ∈ bltNames, X.mg x = none
  fs : ∀ f ∈ cs.fs, Callee Φ X f
  ks : ∀ k ∈ cs.ks, CalleeK Φ X k
  gs : ∀ g ∈ cs.gs, ∃ p v u, Φ.gl g = some p ∧ X.mg g = some u ∧ RelV v u ∧ ∀ H, Rep X.K H p v
end
section
variable {Φ : Fns} {X : Cx} {cs : CS}
theorem CtxOk.blk (c : CtxOk Φ X cs) (scope : Scope) (s : Shared) (H : Hp) (C : Addr) (cl : List (Str × Addr)) (fp : List Addr) : CtxOk Φ (X.blk s H scope (compEnvC scope cl C X.env) fp) (blkCS cs scope) where
  N := c.N
  sc := by show relS scope X.env.scope = relS scope cs.sc; rw [c.sc]
  nd := c.nd
  calm := c.calm
  units := c.units
  fn := fun x h => h
  blt := c.blt
  fs := c.fs
  ks := c.ks
  gs := c.gs
theorem slotOf_get : ∀ {N : List Str} {x : Str} {i : Nat}, slotOf N x = some i → N[i]? = some x
  | [], _, _, h => by simp [slotOf] at h
  | y :: r, x, i, h => by
    unfold slotOf at h
    split at h
    · rename_i e
      cases h
      rw [beq_iff_eq] at e
      rw [e]; rfl
    · rw [Option.map_eq_some_iff] at h
      obtain ⟨j, h, rfl⟩ := h
      rw [List.getElem?_cons_succ]
      exact slotOf_get h
theorem vis_of (c : CtxOk Φ X cs) {x : Str} (h : visB cs x = true) : Vis X.env.scope x := by
  unfold visB at h
  unfold Vis
  rw [c.sc]
  split at h
  · rename_i e; exact .inl e
  · rename_i e; exact .inr (.inl e)
  · rename_i e; exact .inr (.inr e)
  · cases h
theorem gl_of (c : CtxOk Φ X cs) {x : Str} (h : glB cs x = true) : Gl X x := by
  unfold glB at h
  unfold Gl Env.kindOf
  rw [c.sc]
  split at h
  · rename_i e; exact e
  · cases h
theorem loc_of (c : CtxOk Φ X cs) {x : Str} (h : locB cs x = true) : L2.Loc X.env.scope x ∧ (X.fn x = true ∨ X.env.scope.names.lookup x = some .local) := by
  unfold locB at h
  unfold L2.Loc
  rw [c.sc]
  split at h
  · rename_i e; exact ⟨.inl e, .inr e⟩
  · rename_i e; exact ⟨.inr e, .inl (c.fn x h)⟩
  · cases h
theorem okName_of {x : Str} (h : okName x = true) : (x == ("__debug__" : Str)) = false ∧ (x == ("__classdict__" : Str)) = false ∧ x ≠ ("__name__" : Str) := by
  unfold okName at h
  simp only [Bool.and_eq_true, Bool.not_eq_true'] at h
  obtain ⟨⟨h1, h2⟩, h3⟩ := h
  exact ⟨h1, h2, fun z => by rw [z] at h3; simp at h3⟩
/-- never a star -/
theorem comp_nostar {n : Nat} {t : Bool} {e : Expr} {m : E} (h : comp n t cs e = some m) (es : List Expr) (env : Env) : starEach (e :: es) env = (false, eval e env) :: starEach es env := by
  cases n with
  | zero => simp [comp] at h
  | succ n => cases e <;> first | rfl | (simp [comp] at h)
theorem esOf_cons {f : Expr → Option E} {e : Expr} {es : List Expr} {m : Es} (h : esOf f (e :: es) = some m) : ∃ a b, f e = some a ∧ esOf f es = some b ∧ m = .cons a b := by
  unfold esOf at h
  simp only [Option.bind_eq_some_iff, Option.some.injEq] at h
  obtain ⟨a, h1, b, h2, rfl⟩ := h
  exact ⟨a, b, h1, h2, rfl⟩
theorem esOf_nostar {n : Nat} {t : Bool} (pos : Pos) (env : Env) : ∀ {es : List Expr} {m : Es}, esOf (comp n t cs) es = some m → (backTo pos (starEach es env)).any (·.1) = false
  | [], _, _ => rfl
  | e :: es, m, h => by
    obtain ⟨a, b, h1, h2, rfl⟩ := esOf_cons h
    rw [comp_nostar h1]
    show (false || (backTo pos (starEach es env)).any (·.1)) = false
    rw [esOf_nostar pos env h2]; rfl
theorem esOf_all {n : Nat} {t : Bool} (pos : Pos) (env : Env) : ∀ {es : List Expr} {m : Es}, esOf (comp n t cs) es = some m → (backTo pos (starEach es env)).all (fun x => !x.1) = true
  | [], _, _ => rfl
  | e :: es, m, h => by
    obtain ⟨a, b, h1, h2, rfl⟩ := esOf_cons h
    rw [comp_nostar h1]
    show (!false && (backTo pos (starEach es env)).all (fun x => !x.1)) = true
    rw [esOf_all pos env h2]; rfl
/-- sound so far -/
def SE (Φ : Fns) (n : Nat) : Prop := ∀ (t : Bool) (cs : CS) (X : Cx) (e : Expr) (m : E), CtxOk Φ X cs → comp n t cs e = some m → if t = true then PT X e (LTx X (wpE Φ m)) else PE X e (LEx X (wpE Φ m))
theorem SE.val {n : Nat} (ih : SE Φ n) {e : Expr} {m : E} (c : CtxOk Φ X cs) (h : comp n false cs e = some m) : PE X e (LEx X (wpE Φ m)) := ih false cs X e m c h
theorem SE.tst {n : Nat} (ih : SE Φ n) {e : Expr} {m : E} (c : CtxOk Φ X cs) (h : comp n true cs e = some m) : PT X e (LTx X (wpE Φ m)) := ih true cs X e m c h
theorem se_args {n : Nat} (ih : SE Φ n) (c : CtxOk Φ X cs) : ∀ {es : List Expr} {m : Es}, esOf (comp n false cs) es = some m → PA X es (LAx X (wpEs Φ m))
  | [], m, h => by
    simp only [esOf, Option.some.injEq] at h
    subst h
    exact pl_nil
  | e :: es, m, h => by
    obtain ⟨a, b, h1, h2, rfl⟩ := esOf_cons h
    exact pl_cons (ih.val c h1) (se_args ih c h2) (comp_nostar h1 es X.env)
theorem se_const {v : Const} {k : Nat} {pos : Pos} {p : PV} (h : pvOf v = some p) : PE X (.Constant v k pos) (LEx X (wpE Φ (.c p))) := by
  unfold pvOf at h
  split at h <;> first | (cases h; first | exact pl_non | exact pl_bl | exact pl_int | exact pl_str) | cases h
theorem se_bopV {n : Nat} (ih : SE Φ n) (c : CtxOk Φ X cs) {op : BoolOp} {pos : Pos} : ∀ {es : List Expr} {m : Es}, es ≠ [] → esOf (comp n false cs) es = some m → PE X (.BoolOp op es pos) (LEx X (wpBop Φ (match op with | .And => true | .Or => false) m))
  | [], _, h, _ => absurd rfl h
  | [a], m, _, h => by
    obtain ⟨x, b, h1, h2, rfl⟩ := esOf_cons h
    simp only [esOf, Option.some.injEq] at h2
    subst h2
    exact pl_and1 (ih.val c h1)
  | a :: b :: r, m, _, h => by
    obtain ⟨x, y, h1, h2, rfl⟩ := esOf_cons h
    have hr := se_bopV ih c (op := op) (pos := pos) (List.cons_ne_nil b r) h2
    obtain ⟨u, v, _, _, rfl⟩ := esOf_cons h2
    cases op with
    | And => exact pl_and (ih.val c h1) hr
    | Or => exact pl_or (ih.val c h1) hr
theorem se_bopT {n : Nat} (ih : SE Φ n) (c : CtxOk Φ X cs) {op : BoolOp} {pos : Pos} : ∀ {es : List Expr} {m : Es}, es ≠ [] → esOf (comp n true cs) es = some m → PW X (.BoolOp op es pos) (LTx X (wpBop Φ (match op with | .And => true | .Or => false) m))
  | [], _, h, _ => absurd rfl h
  | [a], m, _, h => by
    obtain ⟨x, b, h1, h2, rfl⟩ := esOf_cons h
    simp only [esOf, Option.some.injEq] at h2
    subst h2
    cases op with
    | And => exact pl_tand1 (ih.tst c h1)
    | Or => exact pl_tor1 (ih.tst c h1)
  | a :: b :: r, m, _, h => by
    obtain ⟨x, y, h1, h2, rfl⟩ := esOf_cons h
    have hr := se_bopT ih c (op := op) (pos := pos) (List.cons_ne_nil b r) h2
    obtain ⟨u, v, _, _, rfl⟩ := esOf_cons h2
    cases op with
    | And => exact pl_tand (ih.tst c h1) hr
    | Or => exact pl_tor (ih.tst c h1) hr
theorem bOf_name {x : Str} {b : B} (h : bOf x = some b) : x = bName b ∧ x ∈ bltNames := by
  unfold bOf at h
  repeat' split at h
  all_goals first
    | (cases h; rename_i e; rw [beq_iff_eq] at e; subst e; exact ⟨rfl, by decide +kernel⟩)
    | cases h
theorem tyOfN_name {x : Str} {t : Ty} (h : tyOfN x = some t) : x ∈ bltNames ∧ bootBuiltins x = some (.type (tyS t)) := by
  unfold tyOfN at h
  repeat' split at h
  all_goals first
    | (cases h; rename_i e; rw [beq_iff_eq] at e; subst e; exact ⟨by decide +kernel, by decide +kernel⟩)
    | cases h
theorem mOf_name {x : Str} {m : Me} (h : mOf x = some m) : x = mName m := by
  unfold mOf at h
  repeat' split at h
  all_goals first
    | (cases h; rename_i e; rw [beq_iff_eq] at e; exact e)
    | cases h
/-- a built-in function of values -/
theorem se_blt {n : Nat} (ih : SE Φ n) (c : CtxOk Φ X cs) {x : Str} {p pos : Pos} {e : Expr} {es : List Expr} {b : B} {m : Es} (ok : okName x = true) (g : glB cs x = true) (hb : bOf x = some b) (h : esOf (comp n false cs) (e :: es) = some m) :
    PE X (.Call (.Name x p) (e :: es) [] pos) (LEx X (wpE Φ (.blt b m))) := by
  obtain ⟨e1, e2⟩ := bOf_name hb
  have hm := c.blt x e2
  obtain ⟨o1, _, o3⟩ := okName_of ok
  have ha := se_args ih c h
  obtain ⟨a, r, h1, h2, rfl⟩ := esOf_cons h
  have hv : bootBuiltins x = some (bVal b) := by rw [e1]; exact bVal_boot b
  have cr := call_bltW (dcalls c.calm c.units) c.calm c.units b
  have fin : ∀ σ H ρ M Q Qv, EnvR X.K H ρ σ → Cor X.prog X.w X.K H M → wpE Φ (.blt b (.cons a r)) ρ M Q → Ct X.prog X.w X.K H Q Qv → LAx X (wpEs Φ (.cons a r)) σ H fun vs H1 => LCx X (bltW b) vs H1 Qv := fun σ H ρ M Q Qv er co q ct =>
    ⟨ρ, M, _, er, co, q, fun vs H1 ps M1 l rl c1 q1 => ⟨ps, M1, Q, rl, c1, q1, ct.le l⟩⟩
  have bi : ∀ id, bVal b = .builtin id → PE X (.Call (.Name x p) (e :: es) [] pos) (LEx X (wpE Φ (.blt b (.cons a r)))) := fun id z => by
    rw [z] at cr hv
    exact ⟨fun pins s σ H Qv I ⟨ρ, M, Q, er, co, q, ct⟩ => (pe_callB (p := p) cr (gl_of c g) hm hv ha o3 o1 (comp_nostar h1 es X.env) (esOf_nostar pos X.env h2)).run pins s σ H Qv I (fin σ H ρ M Q Qv er co q ct)⟩
  have ty : ∀ id, bVal b = .type id → PE X (.Call (.Name x p) (e :: es) [] pos) (LEx X (wpE Φ (.blt b (.cons a r)))) := fun id z => by
    rw [z] at cr hv
    exact ⟨fun pins s σ H Qv I ⟨ρ, M, Q, er, co, q, ct⟩ => (pe_callTy (p := p) cr (gl_of c g) hm hv ha o3 o1 (comp_nostar h1 es X.env) (esOf_nostar pos X.env h2)).run pins s σ H Qv I (fin σ H ρ M Q Qv er co q ct)⟩
  cases b <;> first | exact bi _ rfl | exact ty _ rfl
end
end PL
/-! PLuF: calls, methods, subscripts, what is walked, targets. -/
namespace PL
open PySem PySem.Spec PySem.W PyProof.Rows L2

def Es.len : Es → Nat
  | .nil => 0
  | .cons _ r => r.len + 1
section
variable {Φ : Fns}
theorem wpEs_app : ∀ (a b : Es) (ρ : PEnv) (M : MH) (Q : List PV → MH → Prop), wpEs Φ (a.app b) ρ M Q = wpEs Φ a ρ M fun vs M1 => wpEs Φ b ρ M1 fun ws M2 => Q (vs ++ ws) M2
  | .nil, b, ρ, M, Q => rfl
  | .cons e r, b, ρ, M, Q => by
    show wpE Φ e ρ M (fun x M1 => wpEs Φ (r.app b) ρ M1 fun xs M2 => Q (x :: xs) M2) = wpE Φ e ρ M fun x M1 => wpEs Φ r ρ M1 fun xs M2 => wpEs Φ b ρ M2 fun ws M3 => Q (x :: xs ++ ws) M3
    congr 1
    funext x M1
    rw [wpEs_app r b ρ M1]
    rfl
theorem wpEs_congr : ∀ (a : Es) (ρ : PEnv) (M : MH) (Q Q' : List PV → MH → Prop), (∀ vs M, vs.length = a.len → Q vs M = Q' vs M) → wpEs Φ a ρ M Q = wpEs Φ a ρ M Q'
  | .nil, ρ, M, Q, Q', h => h [] M rfl
  | .cons e r, ρ, M, Q, Q', h => by
    show wpE Φ e ρ M (fun x M1 => wpEs Φ r ρ M1 fun xs M2 => Q (x :: xs) M2) = wpE Φ e ρ M fun x M1 => wpEs Φ r ρ M1 fun xs M2 => Q' (x :: xs) M2
    congr 1
    funext x M1
    exact wpEs_congr r ρ M1 _ _ fun vs M hv => h (x :: vs) M (by rw [List.length_cons, hv]; rfl)
theorem wpEs_len (a : Es) (ρ : PEnv) (M : MH) (Q : List PV → MH → Prop) : wpEs Φ a ρ M Q = wpEs Φ a ρ M fun vs M1 => vs.length = a.len ∧ Q vs M1 := wpEs_congr a ρ M _ _ fun vs M h => by simp [h]
variable {X : Cx} {cs : CS}
theorem esOf_len {f : Expr → Option E} : ∀ {es : List Expr} {m : Es}, esOf f es = some m → m.len = es.length
  | [], m, h => by
    simp only [esOf, Option.some.injEq] at h
    subst h; rfl
  | e :: es, m, h => by
    obtain ⟨a, b, h1, h2, rfl⟩ := esOf_cons h
    show b.len + 1 = es.length + 1
    rw [esOf_len h2]
/-- f(..) of one's own -/
theorem se_call0 {x : Str} {p pos : Pos} (c : CtxOk Φ X cs) (ok : okName x = true) (g : glB cs x = true) (hf : cs.fs.contains x = true) : PE X (.Call (.Name x p) [] [] pos) (LEx X (wpE Φ (.call x .nil []))) := by
  obtain ⟨f, a, fd, ps, k, e1, F, hr, hm, hk, hb⟩ := c.fs x (List.contains_iff_mem.mp hf)
  refine ⟨fun pins s σ H Qv I ⟨ρ, M, Q, er, co, q, ct⟩ => (pe_call0 (dvs := []) (E := E0) F hr (gl_of c g) hm hk hb .nil L2.pass0 (okName_of ok).1).run pins s σ H Qv I ?_⟩
  have q : PL.ok (Φ.fn x) fun g => g [] M Q := q
  rw [e1] at q
  exact ⟨[], M, Q, repl_nil _ _, co, q, ct⟩
theorem se_call {n : Nat} (ih : SE Φ n) {x : Str} {p pos : Pos} {e : Expr} {es : List Expr} {m : Es} (c : CtxOk Φ X cs) (ok : okName x = true) (g : glB cs x = true) (hf : cs.fs.contains x = true) (h : esOf (comp n false cs) (e :: es) = some m) : PE X (.Call (.Name x p) (e :: es) [] pos) (LEx X (wpE Φ (.call x m []))) := by
  obtain ⟨f, a, fd, ps, k, e1, F, hr, hm, hk, hb⟩ := c.fs x (List.contains_iff_mem.mp hf)
  have ha := se_args ih c h
  obtain ⟨a', r, h1, h2, rfl⟩ := esOf_cons h
  refine ⟨fun pins s σ H Qv I ⟨ρ, M, Q, er, co, q, ct⟩ => (pe_call (dvs := []) (E := E0) F hr (gl_of c g) hm hk hb .nil L2.pass0 ha (okName_of ok).1 (comp_nostar h1 es X.env) (esOf_nostar pos X.env h2)).run pins s σ H Qv I ?_⟩
  refine ⟨ρ, M, fun vs M1 => PL.ok (Φ.fn x) fun g => g vs M1 Q, er, co, q, fun vs H1 ps M1 l r c1 q1 => ?_⟩
  rw [e1] at q1
  exact ⟨ps, M1, Q, by rw [List.append_nil]; exact r, c1, q1, ct.le l⟩
theorem kw_facts (pos : Pos) (env : Env) {f : Expr → Option E} : ∀ {kws : List Keyword} {k : Es × List Str}, kwOf f kws = some k → (backToKw pos (keywordEach kws env)).all (·.1.isSome) = true ∧ (backToKw pos (keywordEach kws env)).filterMap (·.1) = k.2 ∧ (backToKw pos (keywordEach kws env)).any (·.1.isNone) = false ∧ k.1.len = k.2.length
  | [], k, h => by
    simp only [kwOf, Option.some.injEq] at h
    subst h
    exact ⟨rfl, rfl, rfl, rfl⟩
  | ⟨x, e, p⟩ :: r, k, h => by
    simp only [kwOf, Option.bind_eq_some_iff, Option.some.injEq] at h
    obtain ⟨y, rfl, a, h1, b, h2, rfl⟩ := h
    obtain ⟨i1, i2, i3, i4⟩ := kw_facts pos env h2
    refine ⟨?_, ?_, ?_, ?_⟩
    · show (true && _) = true
      rw [Bool.true_and]; exact i1
    · show y :: (backToKw pos (keywordEach r env)).filterMap (·.1) = y :: b.2
      rw [i2]
    · show (false || _) = false
      rw [Bool.false_or]; exact i3
    · show b.1.len + 1 = b.2.length + 1
      rw [i4]
theorem se_kws {n : Nat} (ih : SE Φ n) (c : CtxOk Φ X cs) : ∀ {kws : List Keyword} {k : Es × List Str}, kwOf (comp n false cs) kws = some k → PK X kws (LAx X (wpEs Φ k.1))
  | [], k, h => by
    simp only [kwOf, Option.some.injEq] at h
    subst h
    exact ⟨fun pos pins s σ H Qv I ⟨ρ, M, Q, er, co, q, ct⟩ => pk_nil.run pos pins s σ H Qv I (ct [] H [] M (.refl _) (repl_nil _ _) co q)⟩
  | ⟨x, e, p⟩ :: r, k, h => by
    simp only [kwOf, Option.bind_eq_some_iff, Option.some.injEq] at h
    obtain ⟨y, rfl, a, h1, b, h2, rfl⟩ := h
    have i1 := ih.val c h1
    have i2 := se_kws ih c h2
    exact ⟨fun pos pins s σ H Qv I ⟨ρ, M, Q, er, co, q, ct⟩ => (pk_cons i1 i2).run pos pins s σ H Qv I ⟨ρ, M, _, er, co, q, fun v H1 p M1 l r c1 q1 => ⟨ρ, M1, _, er.le l, c1, q1, fun vs H2 ps M2 l2 r2 c2 q2 =>
      ct (v :: vs) H2 (p :: ps) M2 (l.trans l2) (by unfold RepL; exact ⟨v, vs, rfl, r.le l2, r2⟩) c2 q2⟩⟩⟩
theorem se_callK {n : Nat} (ih : SE Φ n) {x : Str} {p pos : Pos} {e : Expr} {es : List Expr} {kws : List Keyword} {m : Es} {k : Es × List Str} (c : CtxOk Φ X cs) (ok : okName x = true) (g : glB cs x = true) (hf : cs.ks.contains (x, (e :: es).length, k.2) = true)
    (h : esOf (comp n false cs) (e :: es) = some m) (hw : kwOf (comp n false cs) kws = some k) : PE X (.Call (.Name x p) (e :: es) kws pos) (LEx X (wpE Φ (.call x (m.app k.1) k.2))) := by
  obtain ⟨f, a, fd, ps, kk, gR, gV, e1, F, hr, hm, hk, hb, hg⟩ := c.ks _ (List.contains_iff_mem.mp hf)
  have ha := se_args ih c h
  have lm := esOf_len h
  obtain ⟨a', r, h1, h2, rfl⟩ := esOf_cons h
  obtain ⟨k1, k2, k3, k4⟩ := kw_facts pos X.env hw
  have hpl : ((backTo pos (starEach (e :: es) X.env)).any (·.1) || (backToKw pos (keywordEach kws X.env)).any (·.1.isNone)) = false := by
    rw [k3, comp_nostar h1, Bool.or_false]
    show (false || (backTo pos (starEach es X.env)).any (·.1)) = false
    rw [esOf_nostar pos X.env h2]; rfl
  refine ⟨fun pins s σ H Qv I ⟨ρ, M, Q, er, co, q, ct⟩ => (pe_callK (E := E0) F hr (gl_of c g) hm hk hb L2.pass0 ha (se_kws ih c hw) k1 k2 (okName_of ok).1 (comp_nostar h1 es X.env) hpl).run pins s σ H Qv I ?_⟩
  have q : wpEs Φ ((Es.cons a' r).app k.1) ρ M (fun vs M1 => PL.ok (Φ.fn x) fun g => g vs M1 Q) := q
  rw [wpEs_app, wpEs_len] at q
  refine ⟨ρ, M, _, er, co, q, fun vs H1 ps1 M1 l r1 c1 ⟨n1, q1⟩ => ?_⟩
  rw [wpEs_len] at q1
  refine ⟨ρ, M1, _, er.le l, c1, q1, fun zs H2 ps2 M2 l2 r2 c2 ⟨n2, q2⟩ => ?_⟩
  have e1' : Φ.fn x = some f := e1
  rw [e1'] at q2
  have hv := hg vs zs (by rw [← r1.length, n1, lm]) (by rw [← r2.length, n2, k4])
  show LC X.prog X.w X.K f (gV vs zs) H2 Qv
  rw [hv]
  exact ⟨ps1 ++ ps2, M2, Q, (r1.le l2).cat r2, c2, q2, (ct.le l).le l2⟩
/-- o.m(..) -/
theorem rcv_base {o : Expr} {nm : Str} {env : Env} (h : rcvB o = true) : attributeBase o nm env (eval o env) = eval o env := by
  cases o <;> first | rfl | (simp [rcvB] at h)
theorem se_mth {n : Nat} (ih : SE Φ n) (c : CtxOk Φ X cs) {o : Expr} {me : Me} {args : List Expr} {apos cpos : Pos} {x : E} {r : Es} (hr : rcvB o = true) (hl : (apos.endLine == cpos.line) = true) (hn : args.length < 29) (ho : comp n false cs o = some x) (ha : esOf (comp n false cs) args = some r) :
    PE X (.Call (.Attribute o (mName me) apos) args [] cpos) (LEx X (wpE Φ (.mth me x r))) := by
  have mt := mt_all (X := X) c.calm c.units me
  cases args with
  | nil =>
    simp only [esOf, Option.some.injEq] at ha
    subst ha
    exact pl_mth0 me mt (ih.val c ho) (rcv_base hr) hl
  | cons e es =>
    have pa := se_args ih c ha
    have al := esOf_all cpos X.env ha
    obtain ⟨a, b, h1, h2, rfl⟩ := esOf_cons ha
    refine pl_mth me mt (ih.val c ho) pa (rcv_base hr) ?_ hl (comp_nostar h1 es X.env) (esOf_nostar cpos X.env h2)
    rw [al]
    simp only [List.length_cons, List.length_nil, List.isEmpty_nil, if_true, Bool.true_and, Bool.and_eq_true, decide_eq_true_eq]
    exact ⟨rfl, by rw [List.length_cons] at hn; omega⟩
/-- a[i], a[i:j] -/
theorem se_eo {n : Nat} (ih : SE Φ n) (c : CtxOk Φ X cs) : ∀ {o : Option Expr} {y : Eo}, eoOf (comp n false cs) o = some y → PO X o (LPo X.prog X.w X.K (wpO Φ y))
  | none, y, h => by
    simp only [eoOf, Option.some.injEq] at h
    subst h
    exact pl_po0
  | some e, y, h => by
    simp only [eoOf, Option.bind_eq_some_iff, Option.some.injEq] at h
    obtain ⟨a, h1, rfl⟩ := h
    exact pl_po (ih.val c h1)
theorem comp_plain {n : Nat} {t : Bool} {i : Expr} {y : E} (h : comp n t cs i = some y) : PlainIx i := by
  cases n with
  | zero => simp [comp] at h
  | succ n => cases i <;> first | exact fun _ _ => rfl | (simp [comp] at h)
theorem se_isi {n : Nat} (ih : SE Φ n) (c : CtxOk Φ X cs) {x y : Str} {p p2 pos : Pos} {a : Expr} {ty : Ty} {m : E} (hx : x = "isinstance") (g : glB cs x = true) (oy : okName y = true) (gy : glB cs y = true) (hy : tyOfN y = some ty) (ha : comp n false cs a = some m) :
    PE X (.Call (.Name x p) [a, .Name y p2] [] pos) (LEx X (wpE Φ (.isi m ty))) := by
  subst hx
  obtain ⟨h1, h2⟩ := tyOfN_name hy
  obtain ⟨o1, _, o3⟩ := okName_of oy
  refine pl_isi (x := y) (ih.val c ha) (gl_of c g) (c.blt _ (by decide +kernel)) (gl_of c gy) (c.blt y h1) h2 o3 o1 (fun e es he => ?_) rfl
  rcases he with z | z
  · cases z
    exact comp_nostar ha _ X.env
  · cases z
    rfl
/-! ### targets -/
theorem tsOf_cons {f : Expr → Option T} {e : Expr} {es : List Expr} {m : Ts} (h : tsOf f (e :: es) = some m) : ∃ a b, f e = some a ∧ tsOf f es = some b ∧ m = .cons a b := by
  unfold tsOf at h
  simp only [Option.bind_eq_some_iff, Option.some.injEq] at h
  obtain ⟨a, h1, b, h2, rfl⟩ := h
  exact ⟨a, b, h1, h2, rfl⟩
theorem tg_nostar {n : Nat} {e : Expr} {m : T} (h : tgOf n cs e = some m) (es : List Expr) (env : Env) : assignEach (e :: es) env = (false, assign e env) :: assignEach es env := by
  cases n with
  | zero => simp [tgOf] at h
  | succ n => cases e <;> first | rfl | (simp [tgOf] at h)
theorem tsOf_facts {n : Nat} (env : Env) : ∀ {es : List Expr} {m : Ts}, tsOf (tgOf n cs) es = some m → (assignEach es env).length = m.len ∧ (assignEach es env).findIdx? (·.1) = none
  | [], m, h => by
    simp only [tsOf, Option.some.injEq] at h
    subst h
    exact ⟨rfl, rfl⟩
  | e :: es, m, h => by
    obtain ⟨a, b, h1, h2, rfl⟩ := tsOf_cons h
    obtain ⟨i1, i2⟩ := tsOf_facts env h2
    rw [tg_nostar h1]
    refine ⟨?_, ?_⟩
    · rw [List.length_cons, i1]; rfl
    · rw [List.findIdx?_cons, i2]; rfl
theorem se_tg (c : CtxOk Φ X cs) : ∀ (n : Nat) {e : Expr} {g : T}, tgOf n cs e = some g → PG X e (GT X.K g.slots (wpT g))
  | 0, e, g, h => by simp [tgOf] at h
  | n + 1, e, g, h => by
    have ts : ∀ {es : List Expr} {m : Ts}, tsOf (tgOf n cs) es = some m → PGs X es (GTs X.K m.slots (wpTs m)) := by
      intro es
      induction es with
      | nil =>
        intro m h
        simp only [tsOf, Option.some.injEq] at h
        subst h
        exact pgl_nil
      | cons e es ihs =>
        intro m h
        obtain ⟨a, b, h1, h2, rfl⟩ := tsOf_cons h
        exact pgl_cons (se_tg c n h1) (ihs h2) (by rw [tg_nostar h1]; rfl)
    unfold tgOf at h
    split at h
    · split at h
      · rename_i hl
        simp only [Option.bind_eq_some_iff, Option.some.injEq] at h
        obtain ⟨i, h1, rfl⟩ := h
        obtain ⟨l1, l2⟩ := loc_of c hl
        exact pgl_nm (pg_name c.nd (by rw [c.N]; exact slotOf_get h1) l1 l2)
      · cases h
    · simp only [Option.bind_eq_some_iff, Option.some.injEq] at h
      obtain ⟨m, h1, rfl⟩ := h
      obtain ⟨f1, f2⟩ := tsOf_facts X.env h1
      exact pgl_tup c.calm (ts h1) (wpTs_len m) f1 f2
    · cases h
/-! ### what is walked -/
theorem comp_noset {n : Nat} {t : Bool} {e : Expr} {m : E} (h : comp n t cs e = some m) (env : Env) : ∀ x, foldedSetIterable e env x = pure x := by
  cases n with
  | zero => simp [comp] at h
  | succ n => cases e <;> first | exact fun _ => rfl | (simp [comp] at h)
theorem se_iter {n : Nat} (ih : SE Φ n) (c : CtxOk Φ X cs) {tg e : Expr} {i : I} (h : iOf (comp n false cs) cs tg e = some i) : PI X tg e (LIx X (wpI Φ i)) ∧ ∀ x, foldedSetIterable e X.env x = pure x := by
  have ex : ∀ {i : I}, ((comp n false cs e).bind fun m => some (I.ex m)) = some i → PI X tg e (LIx X (wpI Φ i)) ∧ ∀ x, foldedSetIterable e X.env x = pure x := fun {i} h => by
    simp only [Option.bind_eq_some_iff, Option.some.injEq] at h
    obtain ⟨m, h1, rfl⟩ := h
    exact ⟨pl_iex (ih.val c h1), comp_noset h1 X.env⟩
  have star1 : ∀ {a : Expr} {m : E}, comp n false cs a = some m → starEach [a] X.env = [(false, eval a X.env)] := fun h => comp_nostar h [] X.env
  unfold iOf at h
  split at h
  · split at h
    · rename_i e1
      rw [beq_iff_eq] at e1
      subst e1
      split at h
      · rename_i g
        simp only [Option.bind_eq_some_iff, Option.some.injEq] at h
        obtain ⟨m, h1, rfl⟩ := h
        exact ⟨pl_irng1 (gl_of c g) (c.blt _ (by decide +kernel)) (ih.val c h1) (star1 h1) (star1 h1), fun _ => rfl⟩
      · cases h
    · split at h
      · rename_i e1
        rw [beq_iff_eq] at e1
        subst e1
        split at h
        · rename_i g
          rw [Bool.and_eq_true] at g
          obtain ⟨g, gt⟩ := g
          simp only [Option.bind_eq_some_iff, Option.some.injEq] at h
          obtain ⟨m, h1, rfl⟩ := h
          cases tg <;> first | (simp [isTupE] at gt; done) | exact ⟨pl_ienum (gl_of c g) (c.blt _ (by decide +kernel)) (ih.val c h1) (star1 h1) (star1 h1), fun _ => rfl⟩
        · cases h
      · exact ex h
  · split at h
    · rename_i e1
      rw [beq_iff_eq] at e1
      subst e1
      split at h
      · rename_i g
        simp only [Option.bind_eq_some_iff, Option.some.injEq] at h
        obtain ⟨m, h1, k, h2, rfl⟩ := h
        exact ⟨pl_irng2 (gl_of c g) (c.blt _ (by decide +kernel)) (ih.val c h1) (ih.val c h2) ((comp_nostar h1 _ X.env).trans (by rw [star1 h2])) (star1 h2) (comp_nostar h1 _ X.env) (star1 h2), fun _ => rfl⟩
      · cases h
    · split at h
      · rename_i e1
        rw [beq_iff_eq] at e1
        subst e1
        split at h
        · rename_i g
          rw [Bool.and_eq_true] at g
          obtain ⟨g, gt⟩ := g
          simp only [Option.bind_eq_some_iff, Option.some.injEq] at h
          obtain ⟨m, h1, k, h2, rfl⟩ := h
          cases tg <;> first | (simp [isTupE] at gt; done) | exact ⟨pl_izip (gl_of c g) (c.blt _ (by decide +kernel)) (ih.val c h1) (ih.val c h2) (comp_nostar h1 _ X.env) (by rw [star1 h2]; rfl) (star1 h2), fun _ => rfl⟩
        · cases h
      · exact ex h
  · exact ex h
theorem se_ifs {n : Nat} (ih : SE Φ n) (c : CtxOk Φ X cs) {ifs : List Expr} {m : Es} (hl : ifs.length ≤ 1) (h : esOf (comp n true cs) ifs = some m) : PTs X ifs (LTx X (wpBop Φ true m)) := by
  match ifs, h with
  | [], h =>
    simp only [esOf, Option.some.injEq] at h
    subst h
    exact ⟨fun pins s σ H Qb I ⟨ρ, M, k, er, co, q, ct⟩ => pts_nil.run pins s σ H Qb I (ct true H M (.refl _) co q)⟩
  | [e], h =>
    obtain ⟨a, b, h1, h2, rfl⟩ := esOf_cons h
    simp only [esOf, Option.some.injEq] at h2
    subst h2
    exact pts_one (ih.tst c h1)
  | a :: b :: r, h => simp at hl
end
end PL
/-! PLuG: every compiled expression is sound. -/
namespace PL
open PySem PySem.Spec PySem.W PyProof.Rows L2

section
variable {Φ : Fns} {X : Cx} {cs : CS}
theorem own_sub {own : List Nat} {g : T} (h : (g.slots.all fun j => own.contains j) = true) : ∀ j ∈ g.slots, j ∈ own := fun j hj => List.contains_iff_mem.mp (List.all_eq_true.mp h j hj)
theorem se_lc {n : Nat} (ih : SE Φ n) (c : CtxOk Φ X cs) {elt tg it : Expr} {ifs : List Expr} {scope : Scope} {pos : Pos} {g : T} {i : I} {cd : Es} {m : E} (hb : blkC cs.N cs.sc scope (ownOf cs.N scope) = true) (hl : ifs.length ≤ 1)
    (h1 : tgOf n (blkCS cs scope) tg = some g) (h2 : iOf (comp n false cs) cs tg it = some i) (h3 : esOf (comp n true (blkCS cs scope)) ifs = some cd) (h4 : comp n false (blkCS cs scope) elt = some m) (h5 : (g.slots.all fun j => ((ownOf cs.N scope).map (·.2)).contains j) = true) :
    PE X (.ListComp elt [⟨tg, it, ifs, 0⟩] scope pos) (LEx X (wpE Φ (.lc m g i cd ((ownOf cs.N scope).map (·.2))))) := by
  obtain ⟨hi, hs⟩ := se_iter ih c h2
  have ok : BlkOk X.N X.env.scope scope (ownOf cs.N scope) := by rw [c.N, c.sc]; exact blkOk_by hb
  exact pl_lc c.calm c.nd hi ok (own_sub h5) (fun s H C cl fp => se_tg (c.blk scope s H C cl fp) n h1) (fun s H C cl fp => se_ifs ih (c.blk scope s H C cl fp) hl h3) (fun s H C cl fp => ih.val (c.blk scope s H C cl fp) h4) hs
theorem se_dc {n : Nat} (ih : SE Φ n) (c : CtxOk Φ X cs) {kx vx tg it : Expr} {ifs : List Expr} {scope : Scope} {pos : Pos} {g : T} {i : I} {cd : Es} {k m : E} (hb : blkC cs.N cs.sc scope (ownOf cs.N scope) = true) (hl : ifs.length ≤ 1)
    (h1 : tgOf n (blkCS cs scope) tg = some g) (h2 : iOf (comp n false cs) cs tg it = some i) (h3 : esOf (comp n true (blkCS cs scope)) ifs = some cd) (h6 : comp n false (blkCS cs scope) kx = some k) (h4 : comp n false (blkCS cs scope) vx = some m) (h5 : (g.slots.all fun j => ((ownOf cs.N scope).map (·.2)).contains j) = true) :
    PE X (.DictComp kx vx [⟨tg, it, ifs, 0⟩] scope pos) (LEx X (wpE Φ (.dc k m g i cd ((ownOf cs.N scope).map (·.2))))) := by
  obtain ⟨hi, hs⟩ := se_iter ih c h2
  have ok : BlkOk X.N X.env.scope scope (ownOf cs.N scope) := by rw [c.N, c.sc]; exact blkOk_by hb
  exact pl_dc c.units c.calm c.nd hi ok (own_sub h5) (fun s H C cl fp => se_tg (c.blk scope s H C cl fp) n h1) (fun s H C cl fp => se_ifs ih (c.blk scope s H C cl fp) hl h3) (fun s H C cl fp => ih.val (c.blk scope s H C cl fp) h6) (fun s H C cl fp => ih.val (c.blk scope s H C cl fp) h4) hs
/-- tests with a reading of their own -/
def tstB : Expr → Bool
  | .UnaryOp .Not _ _ => true
  | .BoolOp .. => true
  | .IfExp .. => true
  | .Compare .. => true
  | _ => false
theorem se_callN {n : Nat} (ih : SE Φ n) {x : Str} {p pos : Pos} {args : List Expr} {m : Es} (c : CtxOk Φ X cs) (ok : okName x = true) (g : glB cs x = true) (hf : cs.fs.contains x = true) (h : esOf (comp n false cs) args = some m) : PE X (.Call (.Name x p) args [] pos) (LEx X (wpE Φ (.call x m []))) := by
  cases args with
  | nil =>
    simp only [esOf, Option.some.injEq] at h
    subst h
    exact se_call0 c ok g hf
  | cons e es => exact se_call ih c ok g hf h
theorem se_step {n : Nat} {t : Bool} (ih : SE Φ n) (c : CtxOk Φ X cs) {e : Expr} {m : E} (ht : t = false ∨ tstB e = false) (h : comp (n + 1) t cs e = some m) : PE X e (LEx X (wpE Φ m)) := by
  unfold comp at h
  split at h
  · -- a constant
    simp only [Option.bind_eq_some_iff, Option.some.injEq] at h
    obtain ⟨p, h1, rfl⟩ := h
    exact se_const h1
  · -- a name
    split at h
    · rename_i on
      obtain ⟨o1, o2, o3⟩ := okName_of on
      split at h
      · rename_i hv
        simp only [Option.bind_eq_some_iff, Option.some.injEq] at h
        obtain ⟨i, h1, rfl⟩ := h
        exact pl_var (pe_var (by rw [c.N]; exact slotOf_get h1) (vis_of c hv) o1 o2)
      · split at h
        · rename_i hg
          rw [Bool.and_eq_true] at hg
          cases h
          obtain ⟨p, v, u, e1, hm, rv, rp⟩ := c.gs _ (List.contains_iff_mem.mp hg.2)
          refine pe_lift (pe_glob (gl_of c hg.1) hm rv o1) fun σ H ρ M Q Qv er co q ct => fun _ => ?_
          have q : PL.ok (Φ.gl _) fun v => Q v M := q
          rw [e1] at q
          exact ct v H p M (.refl _) (rp H) co q
        · cases h
    · cases h
  · simp only [Option.bind_eq_some_iff, Option.some.injEq] at h
    obtain ⟨a, h1, rfl⟩ := h
    exact pl_tup (se_args ih c h1)
  · simp only [Option.bind_eq_some_iff, Option.some.injEq] at h
    obtain ⟨a, h1, rfl⟩ := h
    exact pl_lst (se_args ih c h1)
  · cases h
    exact pl_d0
  · simp only [Option.bind_eq_some_iff, Option.some.injEq] at h
    obtain ⟨a, h1, b, h2, rfl⟩ := h
    exact pl_d1 (ih.val c h1) (ih.val c h2)
  · simp only [Option.bind_eq_some_iff, Option.some.injEq] at h
    obtain ⟨a, h1, b, h2, rfl⟩ := h
    exact pl_bin (op_binW _) (ih.val c h1) (ih.val c h2)
  · simp only [Option.bind_eq_some_iff, Option.some.injEq] at h
    obtain ⟨a, h1, rfl⟩ := h
    rcases ht with rfl | z
    · exact pl_not (ih.val c h1)
    · simp [tstB] at z
  · simp only [Option.bind_eq_some_iff, Option.some.injEq] at h
    obtain ⟨a, h1, rfl⟩ := h
    exact pl_neg (ih.val c h1)
  · simp only [Option.bind_eq_some_iff, Option.some.injEq] at h
    obtain ⟨a, h1, rfl⟩ := h
    rcases ht with rfl | z
    · exact se_bopV ih c (List.cons_ne_nil _ _) h1
    · simp [tstB] at z
  · split at h
    · cases h
    · rename_i hm
      simp only [Option.bind_eq_some_iff, Option.some.injEq] at h
      obtain ⟨a, h1, b, h2, rfl⟩ := h
      exact pl_cmp (op_cmpW (dict_in c.units) c.units _) (ih.val c h1) (ih.val c h2) (by simpa using hm)
  · have tf : t = false := by
      rcases ht with rfl | z
      · rfl
      · simp [tstB] at z
    subst tf
    simp only [Bool.false_eq_true, if_false, Option.bind_eq_some_iff, Option.some.injEq] at h
    obtain ⟨a, h1, b, h2, d, h3, rfl⟩ := h
    exact pl_ife (ih.tst c h1) (ih.val c h2) (ih.val c h3)
  · simp only [Option.bind_eq_some_iff, Option.some.injEq] at h
    obtain ⟨a, h1, b, h2, d, h3, rfl⟩ := h
    exact pl_sl (ih.val c h1) (se_eo ih c h2) (se_eo ih c h3)
  · simp only [Option.bind_eq_some_iff, Option.some.injEq] at h
    obtain ⟨a, h1, b, h2, rfl⟩ := h
    exact pl_ix (dict_get c.units) (ih.val c h1) (ih.val c h2) (comp_plain h2)
  · -- a call of a name
    split at h
    · rename_i on
      rw [Bool.and_eq_true] at on
      obtain ⟨on, hg⟩ := on
      split at h
      · rename_i hf
        simp only [Option.bind_eq_some_iff] at h
        obtain ⟨k, hk, a, ha, h⟩ := h
        split at h
        · cases h
          exact se_callN ih c on hg hf ha
        · cases h
        · split at h
          · rename_i hk2
            cases h
            exact se_callK ih c on hg hk2 ha hk
          · cases h
      · split at h
        · rename_i hx
          rw [beq_iff_eq] at hx
          split at h
          · split at h
            · rename_i hy
              rw [Bool.and_eq_true] at hy
              simp only [Option.bind_eq_some_iff, Option.some.injEq] at h
              obtain ⟨ty, h1, a, h2, rfl⟩ := h
              exact se_isi ih c hx hg hy.1 hy.2 h1 h2
            · cases h
          · cases h
        · split at h
          · simp only [Option.bind_eq_some_iff, Option.some.injEq] at h
            obtain ⟨b, h1, a, h2, rfl⟩ := h
            exact se_blt ih c on hg h1 h2
          · cases h
    · cases h
  · -- a method
    split at h
    · rename_i hr
      simp only [Bool.and_eq_true, decide_eq_true_eq] at hr
      obtain ⟨⟨hr, hl⟩, hn⟩ := hr
      simp only [Option.bind_eq_some_iff, Option.some.injEq] at h
      obtain ⟨me, h0, x, h1, r, h2, rfl⟩ := h
      rw [mOf_name h0]
      exact se_mth ih c hr hl hn h1 h2
    · cases h
  · -- comprehensions
    split at h
    · rename_i hb
      simp only [Bool.and_eq_true, decide_eq_true_eq] at hb
      simp only [Option.bind_eq_some_iff] at h
      obtain ⟨g, h1, i, h2, cd, h3, x, h4, h⟩ := h
      split at h
      · rename_i h5
        cases h
        exact se_lc ih c hb.1 hb.2 h1 h2 h3 h4 h5
      · cases h
    · cases h
  · split at h
    · rename_i hb
      simp only [Bool.and_eq_true, decide_eq_true_eq] at hb
      simp only [Option.bind_eq_some_iff] at h
      obtain ⟨g, h1, i, h2, cd, h3, k, h6, x, h4, h⟩ := h
      split at h
      · rename_i h5
        cases h
        exact se_dc ih c hb.1 hb.2 h1 h2 h3 h6 h4 h5
      · cases h
    · cases h
  · cases h
theorem isTrue_plain {e : Expr} (h : tstB e = false) (env : Env) (whole : Sem Value) : isTrue e env whole = (do let v ← whole; standAt e.pos; holding [v] (truthy v)) := by
  cases e with
  | UnaryOp op a p => cases op <;> first | rfl | (simp [tstB] at h)
  | BoolOp => simp [tstB] at h
  | IfExp => simp [tstB] at h
  | Compare => simp [tstB] at h
  | _ => rfl
theorem se_stepT {n : Nat} (ih : SE Φ n) (c : CtxOk Φ X cs) {e : Expr} {m : E} (h : comp (n + 1) true cs e = some m) : PT X e (LTx X (wpE Φ m)) := by
  by_cases hp : tstB e = false
  · exact pl_test (se_step ih c (.inr hp) h) (isTrue_plain hp X.env)
  · unfold comp at h
    split at h <;> first | (exact absurd rfl hp; done) | skip
    · simp only [Option.bind_eq_some_iff, Option.some.injEq] at h
      obtain ⟨a, h1, rfl⟩ := h
      exact pl_tnot (ih.tst c h1)
    · simp only [Option.bind_eq_some_iff, Option.some.injEq] at h
      obtain ⟨a, h1, rfl⟩ := h
      exact (se_bopT ih c (List.cons_ne_nil _ _) h1).pt
    · split at h
      · cases h
      · rename_i hm
        simp only [Option.bind_eq_some_iff, Option.some.injEq] at h
        obtain ⟨a, h1, b, h2, rfl⟩ := h
        exact pl_tcmp (op_cmpW (dict_in c.units) c.units _) (ih.val c h1) (ih.val c h2) (by simpa using hm)
    · simp at h
    · cases h
theorem se_all (Φ : Fns) : ∀ n, SE Φ n
  | 0 => fun t cs X e m c h => by simp [comp] at h
  | n + 1 => fun t cs X e m c h => by
    cases t with
    | true => exact se_stepT (se_all Φ n) c h
    | false => exact se_step (se_all Φ n) c (.inl rfl) h
end
end PL
/-! PLuH: every compiled statement is sound. -/
namespace PL
open PySem PySem.Spec PySem.W PyProof.Rows L2

section
variable {Φ : Fns} {X : Cx} {cs : CS}
theorem kind_of (c : CtxOk Φ X cs) (kd : cs.sc.kind = .function) : X.env.blockKind = .function := by
  unfold Env.blockKind
  rw [c.sc, kd]; rfl
theorem swap_comp (c : CtxOk Φ X cs) (kd : cs.sc.kind = .function) {e : Expr} {x : Str} {px : Pos} {l : Nat} {s : Scope} (he : cpScope e = some s) : swapsWith e (some (.Name x px)) l X.env = pure (swapB cs x px.line e) := by
  have hb := kind_of c kd
  have hk : X.env.kindOf x = cs.sc.names.lookup x := by unfold Env.kindOf; rw [c.sc]
  cases e <;> first | (simp [cpScope] at he; done) | skip
  all_goals
    unfold swapsWith swapB cpScope
    simp only [hb, hk]
    rfl
theorem swap_none {e : Expr} {t : Expr} {l : Nat} {env : Env} (h : cpScope e = none) : swapsWith e (some t) l env = pure false := by
  cases e <;> first | rfl | (simp [cpScope] at h)
theorem swap_sub {e o i : Expr} {p : Pos} {l : Nat} {env : Env} : swapsWith e (some (.Subscript o i p)) l env = pure false := by
  cases e <;> rfl
theorem swap_tup {e : Expr} {ts : List Expr} {k : Nat} {p : Pos} {l : Nat} {env : Env} : swapsWith e (some (.Tuple ts k p)) l env = pure false := by
  cases e <;> rfl
theorem swap_sole {e : Expr} {ts : List Expr} {k : Nat} {p : Pos} {l : Nat} {env : Env} : swapsWithSole [.Tuple ts k p] e l env = pure false := by cases e <;> rfl
theorem swap_drop {e : Expr} {l : Nat} {env : Env} (h : cpScope e = none) : swapsWith e none l env = pure false := by
  cases e <;> first | rfl | (simp [cpScope] at h)
/-- name = e -/
theorem st_set {n : Nat} (c : CtxOk Φ X cs) (kd : cs.sc.kind = .function) {x : Str} {px pos : Pos} {e : Expr} {i : Nat} {m : E} (hl : locB cs x = true) (hi : slotOf cs.N x = some i) (h : comp (n + 1) false cs e = some m) :
    PS X (.Assign [.Name x px] e pos) (LSx X (wpS Φ (.asg (.nm i) m))) := by
  have hy : X.N[i]? = some x := by rw [c.N]; exact slotOf_get hi
  obtain ⟨l1, l2⟩ := loc_of c hl
  have plain : swapsWith e (some (.Name x px)) pos.line X.env = pure false → PS X (.Assign [.Name x px] e pos) (LSx X (wpS Φ (.asg (.nm i) m))) := fun hs =>
    pls_set (e := e) (ps_set c.nd hy l1 ((se_all Φ (n + 1)).val c h) hs l2)
  cases hc : cpScope e with
  | none => exact plain (swap_none hc)
  | some s =>
    have hsw := swap_comp (l := pos.line) c kd (x := x) (px := px) hc
    cases hb : swapB cs x px.line e with
    | false => exact plain (by rw [hsw, hb])
    | true =>
      rw [hb] at hsw
      have hyl : X.env.scope.names.lookup x = some .local := by
        unfold swapB at hb
        rw [hc] at hb
        simp only [Bool.and_eq_true] at hb
        rw [c.sc]
        exact beq_iff_eq.mp hb.1.1
      unfold comp at h
      split at h <;> first | (simp [cpScope] at hc; done) | skip
      · split at h
        · rename_i hb2
          simp only [Bool.and_eq_true, decide_eq_true_eq] at hb2
          simp only [Option.bind_eq_some_iff] at h
          obtain ⟨g, h1, it, h2, cd, h3, y, h4, h⟩ := h
          split at h
          · rename_i h5
            cases h
            obtain ⟨hit, hs⟩ := se_iter (se_all Φ n) c h2
            exact pls_setLc c.calm c.nd hy hyl hsw hit (by rw [c.N, c.sc]; exact blkOk_by hb2.1) (own_sub h5) (fun s H C cl fp => se_tg (c.blk _ s H C cl fp) n h1) (fun s H C cl fp => se_ifs (se_all Φ n) (c.blk _ s H C cl fp) hb2.2 h3) (fun s H C cl fp => (se_all Φ n).val (c.blk _ s H C cl fp) h4) hs
          · cases h
        · cases h
      · split at h
        · rename_i hb2
          simp only [Bool.and_eq_true, decide_eq_true_eq] at hb2
          simp only [Option.bind_eq_some_iff] at h
          obtain ⟨g, h1, it, h2, cd, h3, k, h6, y, h4, h⟩ := h
          split at h
          · rename_i h5
            cases h
            obtain ⟨hit, hs⟩ := se_iter (se_all Φ n) c h2
            exact pls_setDc c.units c.calm c.nd hy hyl hsw hit (by rw [c.N, c.sc]; exact blkOk_by hb2.1) (own_sub h5) (fun s H C cl fp => se_tg (c.blk _ s H C cl fp) n h1) (fun s H C cl fp => se_ifs (se_all Φ n) (c.blk _ s H C cl fp) hb2.2 h3) (fun s H C cl fp => (se_all Φ n).val (c.blk _ s H C cl fp) h6) (fun s H C cl fp => (se_all Φ n).val (c.blk _ s H C cl fp) h4) hs
          · cases h
        · cases h
      · cases h
/-- a, b = c, d -/
theorem swS_eval (c : CtxOk Φ X cs) (kd : cs.sc.kind = .function) {ts vs : List Expr} {k k2 : Nat} {p p2 : Pos} {r : Option (List Str)} (h : swS cs ts vs = some r) : swappedStores [.Tuple ts k p] (.Tuple vs k2 p2) X.env = pure r := by
  have hb := kind_of c kd
  have hk : ∀ x, X.env.kindOf x = cs.sc.names.lookup x := fun x => by unfold Env.kindOf; rw [c.sc]
  unfold swS namesL at h
  unfold swappedStores
  simp only [hb, hk]
  simp only [show (ScopeKind.function != ScopeKind.function) = false from rfl, Bool.or_false]
  split at h
  · rename_i q
    cases h
    rw [if_pos q]
  · rename_i q
    rw [if_neg q]
    split at h
    · rename_i q2
      cases h
      refine (if_pos q2).trans rfl
    · rename_i q2
      refine (if_neg q2).trans ?_
      split at h
      · rename_i q3
        cases h
        refine (if_pos q3).trans rfl
      · rename_i q3
        refine (if_neg q3).trans ?_
        split at h
        · rename_i q4
          cases h
          refine (if_pos q4).trans rfl
        · rename_i q4
          refine (if_neg q4).trans ?_
          split at h
          · cases h
          · rename_i q5
            refine (if_neg q5).trans ?_
            split at h
            · cases h
            · cases h
              rfl
/-- the names of a swapped store -/
theorem swS_names {ts vs : List Expr} {r : List Str} (h : swS cs ts vs = some (some r)) : ∃ l, r = namesL cs ts l ∧ r.length = ts.length ∧ r.Nodup ∧ (ts.length = 2 ∨ ts.length = 3) ∧ vs.length = ts.length := by
  unfold swS at h
  split at h
  · cases h
  · rename_i q1
    split at h
    · cases h
    · split at h
      · cases h
      · rename_i q3
        split at h
        · cases h
        · split at h
          · cases h
          · split at h
            · cases h
            · rename_i q6
              simp only [Option.some.injEq] at h
              simp only [Bool.or_eq_true, Bool.not_eq_true', bne_iff_ne, ne_eq, not_or, Bool.or_eq_false_iff, beq_eq_false_iff_ne, not_and, Decidable.not_not, decide_eq_false_iff_not] at q1 q3 q6
              refine ⟨_, h.symm, by rw [← h]; exact q3.1, by rw [← h]; exact q6, ?_, q1.2⟩
              by_cases z : ts.length = 2
              · exact .inl z
              · exact .inr (q1.1 z)
theorem name_at {t : Expr} {line : Nat} {x : Str} (h : (match t with
    | .Name id pos => if cs.sc.names.lookup id == some .local && pos.line == line then some id else none
    | _ => none) = some x) : ∃ p, t = .Name x p ∧ cs.sc.names.lookup x = some .local := by
  split at h
  · split at h
    · rename_i q
      cases h
      rw [Bool.and_eq_true] at q
      exact ⟨_, rfl, beq_iff_eq.mp q.1⟩
    · cases h
  · cases h
theorem names_two {t1 t2 : Expr} {l : Nat} {r : List Str} (h : r = namesL cs [t1, t2] l) (hl : r.length = 2) : ∃ x y p q, t1 = .Name x p ∧ t2 = .Name y q ∧ r = [x, y] ∧ cs.sc.names.lookup x = some .local ∧ cs.sc.names.lookup y = some .local := by
  unfold namesL at h
  rw [List.filterMap_cons, List.filterMap_cons, List.filterMap_nil] at h
  split at h
  · split at h <;> (subst h; simp at hl)
  · rename_i e1
    split at h
    · subst h; simp at hl
    · rename_i e2
      obtain ⟨p, h1, h2⟩ := name_at e1
      obtain ⟨q, h3, h4⟩ := name_at e2
      exact ⟨_, _, p, q, h1, h3, h, h2, h4⟩
theorem names_three {t1 t2 t3 : Expr} {l : Nat} {r : List Str} (h : r = namesL cs [t1, t2, t3] l) (hl : r.length = 3) : ∃ x y z p q o, t1 = .Name x p ∧ t2 = .Name y q ∧ t3 = .Name z o ∧ r = [x, y, z] ∧ cs.sc.names.lookup x = some .local ∧ cs.sc.names.lookup y = some .local ∧ cs.sc.names.lookup z = some .local := by
  unfold namesL at h
  rw [List.filterMap_cons, List.filterMap_cons, List.filterMap_cons, List.filterMap_nil] at h
  split at h
  · split at h
    · split at h <;> (subst h; simp at hl)
    · split at h <;> (subst h; simp at hl)
  · rename_i e1
    split at h
    · split at h <;> (subst h; simp at hl)
    · rename_i e2
      split at h
      · subst h; simp at hl
      · rename_i e3
        obtain ⟨p, h1, h2⟩ := name_at e1
        obtain ⟨q, h3, h4⟩ := name_at e2
        obtain ⟨o, h5, h6⟩ := name_at e3
        exact ⟨_, _, _, p, q, o, h1, h3, h5, h, h2, h4, h6⟩
theorem tg_name {n : Nat} {x : Str} {p : Pos} {g : T} (h : tgOf n cs (.Name x p) = some g) : ∃ i, slotOf cs.N x = some i ∧ g = .nm i := by
  cases n with
  | zero => simp [tgOf] at h
  | succ n =>
    unfold tgOf at h
    simp only at h
    split at h
    · simp only [Option.bind_eq_some_iff, Option.some.injEq] at h
      obtain ⟨i, h1, h2⟩ := h
      exact ⟨i, h1, h2.symm⟩
    · cases h
theorem tg_tuple {n : Nat} {es : List Expr} {k : Nat} {p : Pos} {g : T} (h : tgOf n cs (.Tuple es k p) = some g) : ∃ n' ts, tsOf (tgOf n' cs) es = some ts ∧ g = .tp ts := by
  cases n with
  | zero => simp [tgOf] at h
  | succ n =>
    unfold tgOf at h
    simp only [Option.bind_eq_some_iff, Option.some.injEq] at h
    obtain ⟨ts, h1, h2⟩ := h
    exact ⟨n, ts, h1, h2.symm⟩
theorem comp_tuple {n : Nat} {es : List Expr} {k : Nat} {p : Pos} {m : E} (h : comp n false cs (.Tuple es k p) = some m) : ∃ n' r, esOf (comp n' false cs) es = some r ∧ m = .tup r := by
  cases n with
  | zero => simp [comp] at h
  | succ n =>
    unfold comp at h
    simp only [Option.bind_eq_some_iff, Option.some.injEq] at h
    obtain ⟨ts, h1, h2⟩ := h
    exact ⟨n, ts, h1, h2.symm⟩
theorem slot_ne {N : List Str} {x y : Str} {i j : Nat} (h1 : N[i]? = some x) (h2 : N[j]? = some y) (h : x ≠ y) : i ≠ j := fun e => by
  subst e
  rw [h1] at h2
  exact h (Option.some.inj h2)
theorem st_par {n n2 : Nat} (c : CtxOk Φ X cs) (kd : cs.sc.kind = .function) {ts vs : List Expr} {k k2 : Nat} {p p2 pos : Pos} {r : Option (List Str)} {g : T} {m : E} (h : swS cs ts vs = some r) (hg : tgOf n cs (.Tuple ts k p) = some g) (hm : comp n2 false cs (.Tuple vs k2 p2) = some m) :
    PS X (.Assign [.Tuple ts k p] (.Tuple vs k2 p2) pos) (LSx X (wpS Φ (.asg g m))) := by
  have ev := swS_eval (k := k) (k2 := k2) (p := p) (p2 := p2) c kd h
  cases r with
  | none => exact pls_asg (ps_asg ((se_all Φ n2).val c hm) (se_tg c n hg) swap_sole ev rfl)
  | some r =>
    obtain ⟨l, er, hl, nd, h23, hv⟩ := swS_names h
    obtain ⟨n', tt, ht, rfl⟩ := tg_tuple hg
    obtain ⟨n3, es, he, rfl⟩ := comp_tuple hm
    have pa := se_args (se_all Φ n3) c he
    rcases h23 with z | z
    · match ts, vs, z with
      | [t1, t2], [a, b], _ =>
        obtain ⟨x, y, q1, q2, rfl, rfl, rfl, lx, ly⟩ := names_two er hl
        obtain ⟨u1, w1, e1, e2, rfl⟩ := tsOf_cons ht
        obtain ⟨u2, w2, e3, e4, rfl⟩ := tsOf_cons e2
        simp only [tsOf, Option.some.injEq] at e4
        subst e4
        obtain ⟨i, i1, rfl⟩ := tg_name e1
        obtain ⟨j, j1, rfl⟩ := tg_name e3
        have hi : X.N[i]? = some x := by rw [c.N]; exact slotOf_get i1
        have hj : X.N[j]? = some y := by rw [c.N]; exact slotOf_get j1
        have xy : x ≠ y := by
          intro e; subst e
          simp at nd
        exact pls_par2 (ps_par c.calm c.nd hi hj (slot_ne hi hj xy) (by rw [c.sc]; exact lx) (by rw [c.sc]; exact ly) pa ev swap_sole)
    · match ts, vs, z with
      | [t1, t2, t3], [a, b, d], _ =>
        obtain ⟨x, y, w, q1, q2, q3, rfl, rfl, rfl, rfl, lx, ly, lw⟩ := names_three er hl
        obtain ⟨u1, w1, e1, e2, rfl⟩ := tsOf_cons ht
        obtain ⟨u2, w2, e3, e4, rfl⟩ := tsOf_cons e2
        obtain ⟨u3, w3, e5, e6, rfl⟩ := tsOf_cons e4
        simp only [tsOf, Option.some.injEq] at e6
        subst e6
        obtain ⟨i, i1, rfl⟩ := tg_name e1
        obtain ⟨j, j1, rfl⟩ := tg_name e3
        obtain ⟨o, o1, rfl⟩ := tg_name e5
        have hi : X.N[i]? = some x := by rw [c.N]; exact slotOf_get i1
        have hj : X.N[j]? = some y := by rw [c.N]; exact slotOf_get j1
        have ho : X.N[o]? = some w := by rw [c.N]; exact slotOf_get o1
        simp only [List.nodup_cons, List.mem_cons, List.not_mem_nil, or_false, not_or, not_false_eq_true, List.nodup_nil, and_true] at nd
        exact pls_par3 (ps_par3 c.calm c.nd hi hj ho (slot_ne hi hj nd.1.1) (slot_ne hi ho nd.1.2) (slot_ne hj ho nd.2) (by rw [c.sc]; exact lx) (by rw [c.sc]; exact ly) (by rw [c.sc]; exact lw) pa ev swap_sole)
/-- every statement -/
theorem st_all (kd : cs.sc.kind = .function) (c : CtxOk Φ X cs) (hp : PassesOwn (model X.prog X.w) X.A X.env X.xe) : ∀ (n : Nat) {st : Stmt} {m : S}, stm n cs st = some m → PS X st (LSx X (wpS Φ m))
  | 0, st, m, h => by simp [stm] at h
  | n + 1, st, m, h => by
    have ss : ∀ {l : List Stmt} {m : Ss}, ssOf (stm n cs) l = some m → PSs X l (LSx X (wpSs Φ m)) := by
      intro l
      induction l with
      | nil =>
        intro m h
        simp only [ssOf, Option.some.injEq] at h
        subst h
        exact pls_nil
      | cons a l ih =>
        intro m h
        simp only [ssOf, Option.bind_eq_some_iff, Option.some.injEq] at h
        obtain ⟨x, h1, y, h2, rfl⟩ := h
        exact pls_cons (t := wpS Φ x) (u := wpSs Φ y) (st_all kd c hp n h1) (ih h2)
    have E := se_all Φ n
    unfold stm at h
    split at h
    · split at h
      · rename_i hl
        simp only [Option.bind_eq_some_iff, Option.some.injEq] at h
        obtain ⟨i, h1, x, h2, rfl⟩ := h
        exact st_set c kd hl h1 h2
      · cases h
    · simp only [Option.bind_eq_some_iff, Option.some.injEq] at h
      obtain ⟨r, h1, g, h2, x, h3, rfl⟩ := h
      exact st_par c kd h1 h2 h3
    · split at h
      · cases h
      · rename_i hn
        simp only [Bool.or_eq_true, not_or, Bool.not_eq_true] at hn
        simp only [Option.bind_eq_some_iff, Option.some.injEq] at h
        obtain ⟨g, h1, x, h2, rfl⟩ := h
        refine pls_asg (ps_asg (E.val c h2) (se_tg c n h1) swap_sole ?_ rfl)
        rename_i e _ _
        cases e <;> first | rfl | (simp [isTupE] at hn)
    · simp only [Option.bind_eq_some_iff, Option.some.injEq] at h
      obtain ⟨x, h1, y, h2, z, h3, rfl⟩ := h
      exact pls_sub c.units (E.val c h1) (E.val c h2) (E.val c h3) swap_sub
    · split at h
      · rename_i hl
        obtain ⟨l1, l2⟩ := loc_of c hl
        split at h
        · simp only [Option.bind_eq_some_iff, Option.some.injEq] at h
          obtain ⟨i, h1, x, h2, rfl⟩ := h
          exact pls_aug aug_add (ps_aug c.nd (by rw [c.N]; exact slotOf_get h1) l1 (E.val c h2) ip_add l2)
        · simp only [Option.bind_eq_some_iff, Option.some.injEq] at h
          obtain ⟨i, h1, x, h2, rfl⟩ := h
          exact pls_aug aug_sub (ps_aug c.nd (by rw [c.N]; exact slotOf_get h1) l1 (E.val c h2) ip_sub l2)
        · cases h
      · cases h
    · cases h
      exact pls_nx ps_doc
    · split at h
      · cases h
      · rename_i hn
        simp only [Option.bind_eq_some_iff, Option.some.injEq] at h
        obtain ⟨x, h1, rfl⟩ := h
        exact pls_ex (ps_expr (E.val c h1) (swap_drop (by simpa using hn)))
    · simp only [Option.bind_eq_some_iff, Option.some.injEq] at h
      obtain ⟨x, h1, y, h2, z, h3, rfl⟩ := h
      exact pls_if (E.tst c h1) (ss h2) (ss h3)
    · simp only [Option.bind_eq_some_iff, Option.some.injEq] at h
      obtain ⟨g, h1, i, h2, y, h3, rfl⟩ := h
      obtain ⟨hi, hs⟩ := se_iter E c h2
      exact pls_for hp c.calm hi (se_tg c n h1) (ss h3) hs
    · simp only [Option.bind_eq_some_iff, Option.some.injEq] at h
      obtain ⟨x, h1, y, h2, rfl⟩ := h
      exact pls_while hp (E.tst c h1) (ss h2)
    · simp only [Option.bind_eq_some_iff, Option.some.injEq] at h
      obtain ⟨x, h1, rfl⟩ := h
      exact pls_ret (E.val c h1)
    · cases h; exact pls_retN
    · cases h; exact pls_brk
    · cases h; exact pls_cnt
    · cases h; exact pls_nx ps_pass
    · cases h
theorem ss_all (kd : cs.sc.kind = .function) (c : CtxOk Φ X cs) (hp : PassesOwn (model X.prog X.w) X.A X.env X.xe) (n : Nat) : ∀ {l : List Stmt} {m : Ss}, ssOf (stm n cs) l = some m → PSs X l (LSx X (wpSs Φ m))
  | [], m, h => by
    simp only [ssOf, Option.some.injEq] at h
    subst h
    exact pls_nil
  | a :: l, m, h => by
    simp only [ssOf, Option.bind_eq_some_iff, Option.some.injEq] at h
    obtain ⟨x, h1, y, h2, rfl⟩ := h
    exact pls_cons (t := wpS Φ x) (u := wpSs Φ y) (st_all kd c hp n h1) (ss_all kd c hp n h2)
end
end PL
/-! PLuI: a def keeps its promise. -/
namespace PL
open PySem PySem.Spec PySem.W PyProof.Rows L2

def startP (N : List Str) (vs : List PV) : PEnv := vs.map some ++ List.replicate (N.length - vs.length) none
theorem env_none {K : PySem.W.Frag} {H : Hp} : ∀ n : Nat, EnvR K H (List.replicate n none) (List.replicate n none)
  | 0 => by unfold EnvR; rfl
  | n + 1 => by
    rw [List.replicate_succ, List.replicate_succ]
    unfold EnvR
    exact ⟨none, _, rfl, fun p e => (by cases e), env_none n⟩
theorem env_start {K : PySem.W.Frag} {H : Hp} (n : Nat) : ∀ {ps : List PV} {vs : List V}, RepL K H ps vs → EnvR K H (ps.map some ++ List.replicate n none) (vs.map some ++ List.replicate n none)
  | [], vs, r => by
    unfold RepL at r
    subst r
    exact env_none n
  | p :: ps, vs, r => by
    unfold RepL at r
    obtain ⟨v, ws, rfl, a, b⟩ := r
    rw [List.map_cons, List.map_cons, List.cons_append, List.cons_append]
    unfold EnvR
    exact ⟨some v, _, rfl, fun q e => ⟨v, rfl, by cases e; exact a⟩, env_start n b⟩
section
variable (Φ : Fns) (P : Program) (w : World) (K : PySem.W.Frag) (mg : Str → Option Value) (base : Heap) (k : Nat)
def TCall (f : Str) : Prop := ∃ g a fd ps, Φ.fn f = some g ∧ FnOk P w K mg base CX0 k a fd ps (LSp P w K g) ∧ mg f = some (.ref a) ∧ PySem.W.keepIn K (.ref a) = true ∧ Binds K fd ps []
def TCallK (c : Str × Nat × List Str) : Prop := ∃ g a fd ps gR gV, Φ.fn c.1 = some g ∧ FnOk P w K mg base CX0 k a fd ps (LSp P w K g) ∧ mg c.1 = some (.ref a) ∧ PySem.W.keepIn K (.ref a) = true ∧
  KBinds K fd ps c.2.2 gR gV ∧ ∀ vs zs : List V, vs.length = c.2.1 → zs.length = c.2.2.length → gV vs zs = vs ++ zs
def TGlob (g : Str) : Prop := ∃ p v u, Φ.gl g = some p ∧ mg g = some u ∧ RelV v u ∧ ∀ H, Rep K H p v
end
section
variable {Φ : Fns} {P : Program} {w : World} {K : PySem.W.Frag} {mg : Str → Option Value} {base : Heap} {k : Nat} {fs : List Str} {ks : List (Str × Nat × List Str)} {gs : List Str}
theorem ctx_of {qual : Str} {st : Stmt} {f : Addr} {cdv : Value} {A : Around} {outer : List Env} {s : Shared} {H : Hp} {E : XK} {N ps : List Str} (S : FnScope N ps (defScope st)) (tb : ∀ x ∈ bltNames, mg x = none) (hf : ∀ f ∈ fs, TCall Φ P w K mg base k f) (hk : ∀ f ∈ ks, TCallK Φ P w K mg base k f) (hg : ∀ g ∈ gs, TGlob Φ K mg g)
    (hr : Room k (A.deeper (envOfC qual (defScope st) s.heap.objs.size f cdv))) : CtxOk Φ (cxOf CX0 P w K mg base N qual (defScope st) f cdv A outer s H E).nox ⟨N, defScope st, fun _ => true, fs, ks, gs⟩ where
  N := rfl
  sc := rfl
  nd := S.nd
  calm := rfl
  units := by
    have := hr.un
    show (A.deeper (envOfC qual (defScope st) s.heap.objs.size f cdv)).units + 80 < cLine
    omega
  fn := fun _ _ => rfl
  blt := tb
  fs := fun f hm => let ⟨g, a, fd, ps, h1, h2, h3, h4, h5⟩ := hf f hm; ⟨g, a, fd, ps, k, h1, h2, hr, h3, h4, h5⟩
  ks := fun f hm => let ⟨g, a, fd, ps, gR, gV, h1, h2, h3, h4, h5, h6⟩ := hk f hm; ⟨g, a, fd, ps, k, gR, gV, h1, h2, hr, h3, h4, h5, h6⟩
  gs := hg
def EndsP (Q : WK) : WEnds := ⟨fun _ M' => Q .non M', Q, fun _ _ => False, fun _ _ => False⟩
theorem def_ok {x qual : Str} {st : Stmt} {f : Addr} {fd : FuncData} {N ps : List Str} {m : Ss} {n : Nat} {g : FSp} (F : Fun K x qual st f fd) (S : FnScope N ps (defScope st)) (hm : ssOf (stm n ⟨N, defScope st, fun _ => true, fs, ks, gs⟩) (defBody st) = some m)
    (tb : ∀ x ∈ bltNames, mg x = none) (hf : ∀ f ∈ fs, TCall Φ P w K mg base k f) (hk : ∀ f ∈ ks, TCallK Φ P w K mg base k f) (hg : ∀ g ∈ gs, TGlob Φ K mg g) (gl : ∀ vs M Q, g vs M Q → vs.length = ps.length)
    (body : ∀ vs M Q, g vs M Q → wpSs Φ m (EndsP Q) (startP N vs) M) : FnOk P w K mg base CX0 (k + 1) f fd ps (LSp P w K g) := by
  refine F.ok S (fun vs H Q E h => ?_) (fun cdv A outer s H vs Q E hr h => ?_)
  · obtain ⟨pp, M, Qk, r, c, q, ct⟩ := h
    rw [← r.length]
    exact gl _ _ _ q
  · obtain ⟨pp, M, Qk, r, c, q, ct⟩ := h
    refine ⟨_, ss_all S.kind (ctx_of S tb hf hk hg hr) .never n hm, startP N pp, M, EndsP Qk, ?_, c, body pp M Qk q, fun σ' H' ρ' M' l er c' q' => ct .non H' .non M' l (by unfold Rep; rfl) c' q', ct, fun σ' H' ρ' M' l er c' q' => q'.elim, fun σ' H' ρ' M' l er c' q' => q'.elim⟩
    unfold startP L2.start
    rw [r.length]
    exact env_start _ r
/-- the law's own def: entered with a list that none of ours knows -/
def LawSp (K : PySem.W.Frag) (n : Nat) : Sp := fun vs H Q _ => ∃ (a : Addr) (ns : List Int), vs = [.ref a] ∧ ns.length ≤ n ∧ Only H ∧ SqL K H a (ns.map V.int) ∧ ∀ H', Q (.bl true) H'
theorem pss_kf {X : Cx} {l : List Stmt} {t : TS} (h : PSs X l t) : PSs X l (fun D σ H => Kf X.K H → t D σ H) := ⟨fun pins s σ H D I q => h.run pins s σ H D I (q (inv_kf I))⟩
theorem repl_ints {K : PySem.W.Frag} {H : Hp} : ∀ ns : List Int, RepL K H (ns.map PV.int) (ns.map V.int)
  | [] => repl_nil K H
  | i :: ns => by
    rw [List.map_cons, List.map_cons]
    unfold RepL
    exact ⟨.int i, _, rfl, by unfold Rep; rfl, repl_ints ns⟩
theorem law_ok {x qual p : Str} {st : Stmt} {f : Addr} {fd : FuncData} {N : List Str} {m : Ss} {n len : Nat} (F : Fun K x qual st f fd) (S : FnScope N [p] (defScope st)) (hm : ssOf (stm n ⟨N, defScope st, fun _ => true, fs, ks, gs⟩) (defBody st) = some m)
    (tb : ∀ x ∈ bltNames, mg x = none) (hf : ∀ f ∈ fs, TCall Φ P w K mg base k f) (hk : ∀ f ∈ ks, TCallK Φ P w K mg base k f) (hg : ∀ g ∈ gs, TGlob Φ K mg g)
    (body : ∀ (a : Addr) (ns : List Int), ns.length ≤ len → wpSs Φ m (EndsP fun v _ => v = .bl true) (startP N [.ref a]) (fun b => if b = a then some (.rol (ns.map PV.int)) else none)) : FnOk P w K mg base CX0 (k + 1) f fd [p] (LawSp K len) := by
  refine F.ok S (fun vs H Q E h => ?_) (fun cdv A outer s H vs Q E hr h => ?_)
  · obtain ⟨a, ns, rfl, _⟩ := h
    rfl
  · obtain ⟨a, ns, rfl, hl, _, sq, q⟩ := h
    refine ⟨_, pss_kf (ss_all S.kind (ctx_of S tb hf hk hg hr) .never n hm), fun kf => ⟨startP N [.ref a], _, EndsP fun v _ => v = .bl true, ?_, ⟨kf, fun b mo e => ?_⟩, body a ns hl, fun σ' H' ρ' M' l er c' q' => ?_, fun v H' p M' l r c' q' => ?_, fun σ' H' ρ' M' l er c' q' => q'.elim, fun σ' H' ρ' M' l er c' q' => q'.elim⟩⟩
    · unfold startP L2.start
      exact env_start (ps := [.ref a]) (vs := [.ref a]) _ (by unfold RepL; exact ⟨.ref a, [], rfl, by unfold Rep; rfl, repl_nil _ _⟩)
    · split at e
      · rename_i z
        cases e
        subst z
        exact ⟨_, sq, repl_ints ns⟩
      · cases e
    · cases (show PV.non = PV.bl true from q')
    · cases (show p = PV.bl true from q')
      unfold Rep at r
      subst r
      exact q H'
end
end PL
/-! PLuJ: reasoning over the small language: what stays, comprehensions, loops. -/
namespace PL
open PySem PySem.Spec PySem.W PyProof.Rows L2

/-- all stays but some -/
def Fr (S : List Addr) (M M' : MH) : Prop := ∀ a mo, a ∉ S → M a = some mo → M' a = some mo
abbrev Ex (M M' : MH) : Prop := Fr [] M M'
theorem Fr.refl (S : List Addr) (M : MH) : Fr S M M := fun _ _ _ h => h
theorem Fr.trans {S : List Addr} {M M1 M2 : MH} (a : Fr S M M1) (b : Fr S M1 M2) : Fr S M M2 := fun x mo n h => b x mo n (a x mo n h)
theorem Fr.new {S : List Addr} {M : MH} {a : Addr} {mo : MO} (h : M a = none) : Fr S M (M.upd a mo) := fun x m n e => by
  rw [MH.upd_ne (fun z => by rw [z, h] at e; cases e)]; exact e
theorem Fr.put {S : List Addr} {M : MH} {a : Addr} {mo : MO} (h : a ∈ S) : Fr S M (M.upd a mo) := fun x m n e => by
  rw [MH.upd_ne (fun z => n (by rw [z]; exact h))]; exact e
theorem Fr.weak {S T : List Addr} {M M' : MH} (h : Fr S M M') (s : ∀ a ∈ S, a ∈ T) : Fr T M M' := fun x m n e => h x m (fun z => n (s x z)) e
theorem Ex.fr {S : List Addr} {M M' : MH} (h : Ex M M') : Fr S M M' := fun x m n e => h x m (by simp) e
theorem Ex.at {M M' : MH} (h : Ex M M') {a : Addr} {mo : MO} (e : M a = some mo) : M' a = some mo := h a mo (by simp) e
theorem Ex.trans {M M1 M2 : MH} (a : Ex M M1) (b : Ex M1 M2) : Ex M M2 := Fr.trans a b
theorem Ex.new {M : MH} {a : Addr} {mo : MO} (h : M a = none) : Ex M (M.upd a mo) := Fr.new h
/-- a new object that was written again -/
theorem Ex.over {M M' : MH} {a : Addr} {mo : MO} (h : Ex M M') (n : M a = none) : Ex M (M'.upd a mo) := fun x m z e => by
  rw [MH.upd_ne (fun z => by rw [z, n] at e; cases e)]; exact h x m z e
theorem Fr.over {S : List Addr} {M M' : MH} {a : Addr} {mo : MO} (h : Fr S M M') (n : M a = none) : Fr S M (M'.upd a mo) := fun x m z e => by
  rw [MH.upd_ne (fun z => by rw [z, n] at e; cases e)]; exact h x m z e
theorem ne_new {M : MH} {a b : Addr} {mo : MO} (h : M a = some mo) (n : M b = none) : a ≠ b := fun z => by rw [z, n] at h; cases h

/-! ### goals that stay folded -/
def LcGoal (g : WG) (tt te : WE) (ρ0 : PEnv) (items : List PV) (St : MH → Prop) (M1 : MH) (Q : WK) : Prop := ∀ D, M1 D = none → ∃ W : Nat → MH → Prop, W 0 (M1.upd D (.lst [])) ∧
  (∀ i x M', items[i]? = some x → W i M' → St M' ∧ g x ρ0 fun ρ2 => tt ρ2 M' fun x M2 => onB x fun c => if c = true then
      te ρ2 M2 fun y M3 => ∃ acc, M3 D = some (.lst acc) ∧ acc.length < LIM ∧ W (i + 1) (M3.upd D (.lst (acc ++ [y])))
    else W (i + 1) M2) ∧
  ∀ M', W items.length M' → St M' ∧ Q (.ref D) M'
def DcGoal (g : WG) (tt tk tv : WE) (ρ0 : PEnv) (items : List PV) (St : MH → Prop) (M1 : MH) (Q : WK) : Prop := ∀ D, M1 D = none → ∃ W : Nat → MH → Prop, W 0 (M1.upd D (.dct [] 0)) ∧
  (∀ i x M', items[i]? = some x → W i M' → St M' ∧ g x ρ0 fun ρ2 => tt ρ2 M' fun x M2 => onB x fun c => if c = true then
      tk ρ2 M2 fun y M3 => tv ρ2 M3 fun z M4 => ∃ kvs, M4 D = some (.dct kvs 0) ∧ kOk kvs y = true ∧ kvs.length < LIM ∧ W (i + 1) (M4.upd D (.dct (kput kvs y z) 0))
    else W (i + 1) M2) ∧
  ∀ M', W items.length M' → St M' ∧ Q (.ref D) M'
def ForGoal (g : WG) (tb : WS) (ρ : PEnv) (items : List PV) (St : MH → Prop) (M1 : MH) (D : WEnds) : Prop := ∃ W : Nat → PEnv → MH → Prop, W 0 ρ M1 ∧
  (∀ i x ρ' M', items[i]? = some x → W i ρ' M' → St M' ∧ g x ρ' fun ρ2 => tb ⟨W (i + 1), D.rt, D.nx, W (i + 1)⟩ ρ2 M') ∧
  ∀ ρ' M', W items.length ρ' M' → St M' ∧ D.nx ρ' M'
def WhileGoal (t : WE) (tb : WS) (ρ : PEnv) (M : MH) (D : WEnds) : Prop := ∃ W : Nat → PEnv → MH → Prop, (∃ n, W n ρ M) ∧ ∀ n ρ' M', W n ρ' M' →
  t ρ' M' fun x M2 => onB x fun c => if c = true then tb ⟨fun ρ3 M3 => ∃ m, m < n ∧ W m ρ3 M3, D.rt, D.nx, fun ρ3 M3 => ∃ m, m < n ∧ W m ρ3 M3⟩ ρ' M2 else D.nx ρ' M2

/-! ### comprehensions of lists -/
section
variable {g : WG} {tt te : WE} {ρ0 : PEnv} {M1 : MH} {items : List PV} {St : MH → Prop} {Q : WK}
/-- what a turn does: the item's value, or none -/
def LcStep (g : WG) (tt te : WE) (ρ0 : PEnv) (x : PV) (M' : MH) (o : Option PV) : Prop :=
  ∀ (KT : PV → MH → Prop) (KF : MH → Prop), (∀ y M3, Ex M' M3 → o = some y → KT y M3) → (∀ M2, Ex M' M2 → o = none → KF M2) →
    g x ρ0 fun ρ2 => tt ρ2 M' fun b M2 => onB b fun c => if c = true then te ρ2 M2 KT else KF M2
theorem lc_fm (f : PV → Option PV) (hSt : ∀ M', Ex M1 M' → St M') (hl : items.length < LIM) (hs : ∀ x M', x ∈ items → Ex M1 M' → LcStep g tt te ρ0 x M' (f x)) (hq : ∀ D M', M1 D = none → Ex M1 M' → M' D = some (.lst (items.filterMap f)) → Q (.ref D) M') : LcGoal g tt te ρ0 items St M1 Q := by
  intro D hn
  refine ⟨fun i M' => Ex M1 M' ∧ M' D = some (.lst ((items.take i).filterMap f)), ⟨Ex.new hn, by rw [MH.upd_same]; rfl⟩, fun i x M' hx ⟨h1, h2⟩ => ⟨hSt M' h1, ?_⟩, fun M' ⟨h1, h2⟩ => ⟨hSt M' h1, hq D M' hn h1 (by rw [h2, List.take_length])⟩⟩
  have ti : items.take (i + 1) = items.take i ++ [x] := by rw [List.take_add_one, hx]; rfl
  refine hs x M' (List.mem_of_getElem? hx) h1 _ _ (fun y M3 e3 ey => ?_) (fun M2 e2 en => ?_)
  · refine ⟨_, e3.at h2, ?_, (Ex.trans h1 e3).over hn, ?_⟩
    · have := List.length_filterMap_le f (items.take i)
      have := List.length_take_le' i items
      omega
    · rw [MH.upd_same, ti, List.filterMap_append]
      simp [ey]
  · refine ⟨Ex.trans h1 e2, ?_⟩
    rw [e2.at h2, ti, List.filterMap_append]
    simp [en]
end
section
variable {g : WG} {tt te : WE} {ρ0 : PEnv} {M1 : MH} {items : List PV} {St : MH → Prop} {Q : WK}
/-- tuple([..]) -/
theorem lc_fmT (f : PV → Option PV) (hSt : ∀ M', Ex M1 M' → St M') (hl : items.length < LIM) (hs : ∀ x M', x ∈ items → Ex M1 M' → LcStep g tt te ρ0 x M' (f x)) (hq : ∀ M', Ex M1 M' → Q (.tup (items.filterMap f)) M') :
    LcGoal g tt te ρ0 items St M1 fun x M2 => bltW .tuple [x] M2 Q := by
  refine lc_fm f hSt hl hs fun D M' _ e h => ?_
  have hf := List.length_filterMap_le f items
  show ok (lstOf M' D) fun l => l.length ≤ LIM ∧ Q (.tup l) M'
  have : lstOf M' D = some (items.filterMap f) := by unfold lstOf; rw [h]
  rw [this]
  exact ⟨by omega, hq M' e⟩
end
/-- .. of pairs of keys and values, kept as a dict -/
def DcStep (g : WG) (tt tk tv : WE) (ρ0 : PEnv) (x : PV) (M' : MH) (o : Option (PV × PV)) : Prop :=
  ∀ (KT : PV → PV → MH → Prop) (KF : MH → Prop), (∀ y z M3, Ex M' M3 → o = some (y, z) → KT y z M3) → (∀ M2, Ex M' M2 → o = none → KF M2) →
    g x ρ0 fun ρ2 => tt ρ2 M' fun b M2 => onB b fun c => if c = true then tk ρ2 M2 fun y M3 => tv ρ2 M3 fun z M4 => KT y z M4 else KF M2
theorem kputs_app (kvs a b : List (PV × PV)) : kputs kvs (a ++ b) = kputs (kputs kvs a) b := List.foldl_append
theorem mem_kput {kvs : List (PV × PV)} {k v : PV} {x : PV × PV} (h : x ∈ kput kvs k v) : x.1 ∈ kvs.map (·.1) ∨ x = (k, v) := by
  unfold kput at h
  split at h
  · obtain ⟨y, hy, rfl⟩ := List.mem_map.mp h
    left
    split <;> exact List.mem_map.mpr ⟨y, hy, rfl⟩
  · rcases List.mem_append.mp h with h | h
    · exact .inl (List.mem_map.mpr ⟨x, h, rfl⟩)
    · exact .inr (List.mem_singleton.mp h)
theorem mem_kputs : ∀ {ps kvs : List (PV × PV)} {x : PV × PV}, x ∈ kputs kvs ps → x.1 ∈ kvs.map (·.1) ∨ x.1 ∈ ps.map (·.1)
  | [], kvs, x, h => .inl (List.mem_map.mpr ⟨x, h, rfl⟩)
  | p :: ps, kvs, x, h => by
    rw [kputs_cons] at h
    rcases mem_kputs h with h | h
    · obtain ⟨y, hy, e⟩ := List.mem_map.mp h
      rcases mem_kput hy with q | q
      · rw [← e]; exact .inl q
      · rw [← e, q]; exact .inr (by simp)
    · exact .inr (List.mem_cons_of_mem _ h)
section
variable {g : WG} {tt tk tv : WE} {ρ0 : PEnv} {M1 : MH} {items : List PV} {St : MH → Prop} {Q : WK}
theorem dc_fm (f : PV → Option (PV × PV)) (isK : PV → Bool) (hk : (∀ k, isK k = true → k.key = true ∧ isF k = true) ∨ ∀ k, isK k = true → k.key = true ∧ isT k = true) (hSt : ∀ M', Ex M1 M' → St M') (hl : items.length < LIM)
    (hf : ∀ x ∈ items, ∀ p, f x = some p → isK p.1 = true) (hs : ∀ x M', x ∈ items → Ex M1 M' → DcStep g tt tk tv ρ0 x M' (f x)) (hq : ∀ D M', M1 D = none → Ex M1 M' → M' D = some (.dct (kputs [] (items.filterMap f)) 0) → Q (.ref D) M') : DcGoal g tt tk tv ρ0 items St M1 Q := by
  intro D hn
  refine ⟨fun i M' => Ex M1 M' ∧ M' D = some (.dct (kputs [] ((items.take i).filterMap f)) 0), ⟨Ex.new hn, by rw [MH.upd_same]; rfl⟩, fun i x M' hx ⟨h1, h2⟩ => ⟨hSt M' h1, ?_⟩, fun M' ⟨h1, h2⟩ => ⟨hSt M' h1, hq D M' hn h1 (by rw [h2, List.take_length])⟩⟩
  have ti : items.take (i + 1) = items.take i ++ [x] := by rw [List.take_add_one, hx]; rfl
  have keys : ∀ z ∈ kputs [] ((items.take i).filterMap f), isK z.1 = true := fun z hz => by
    rcases mem_kputs hz with q | q
    · simp at q
    · obtain ⟨y, hy, e⟩ := List.mem_map.mp q
      obtain ⟨u, hu, e2⟩ := List.mem_filterMap.mp hy
      rw [← e]
      exact hf u (List.mem_of_mem_take hu) y e2
  refine hs x M' (List.mem_of_getElem? hx) h1 _ _ (fun y z M3 e3 ey => ?_) (fun M2 e2 en => ?_)
  · have ky := hf x (List.mem_of_getElem? hx) _ ey
    refine ⟨_, e3.at h2, ?_, ?_, (Ex.trans h1 e3).over hn, ?_⟩
    · unfold kOk
      rcases hk with hk | hk
      · obtain ⟨k1, k2⟩ := hk _ ky
        simp only [k1, k2, Bool.true_and, Bool.or_eq_true, Bool.and_eq_true]
        exact .inl (List.all_eq_true.mpr fun z hz => (hk _ (keys z hz)).2)
      · obtain ⟨k1, k2⟩ := hk _ ky
        simp only [k1, k2, Bool.true_and, Bool.or_eq_true, Bool.and_eq_true]
        exact .inr (List.all_eq_true.mpr fun z hz => (hk _ (keys z hz)).2)
    · have h3 := kputs_len ((items.take i).filterMap f) []
      have h4 := List.length_filterMap_le f (items.take i)
      have h5 := List.length_take_le' i items
      simp only [List.length_nil] at h3
      omega
    · rw [MH.upd_same, ti, List.filterMap_append, kputs_app]
      simp [ey, kputs]
  · refine ⟨Ex.trans h1 e2, ?_⟩
    rw [e2.at h2, ti, List.filterMap_append]
    simp [en]
end

/-! ### the equations -/
section
variable {Φ : Fns} {ρ : PEnv} {M : MH}
@[simp] theorem wp_c {p : PV} {Q : WK} : wpE Φ (.c p) ρ M Q = Q p M := rfl
@[simp] theorem wp_var {i : Nat} {Q : WK} : wpE Φ (.var i) ρ M Q = ok (ρ[i]?.join) fun v => Q v M := rfl
@[simp] theorem wp_glob {x : Str} {Q : WK} : wpE Φ (.glob x) ρ M Q = ok (Φ.gl x) fun v => Q v M := rfl
@[simp] theorem wp_tup {es : Es} {Q : WK} : wpE Φ (.tup es) ρ M Q = wpEs Φ es ρ M fun vs M1 => vs.length ≤ LIM ∧ Q (.tup vs) M1 := rfl
@[simp] theorem wp_lst {es : Es} {Q : WK} : wpE Φ (.lst es) ρ M Q = wpEs Φ es ρ M fun vs M1 => vs.length ≤ LIM ∧ ∀ a, M1 a = none → Q (.ref a) (M1.upd a (.lst vs)) := rfl
@[simp] theorem wp_dct0 {Q : WK} : wpE Φ (.dct .nil .nil) ρ M Q = ∀ a, M a = none → Q (.ref a) (M.upd a (.dct [] 0)) := rfl
@[simp] theorem wp_dct1 {k v : E} {Q : WK} : wpE Φ (.dct (.cons k .nil) (.cons v .nil)) ρ M Q = ∀ a, M a = none → wpE Φ k ρ (M.upd a (.dct [] 0)) fun x M1 => wpE Φ v ρ M1 fun y M2 => (M2 a = some (.dct [] 0) ∧ x.key = true ∧ isF x = true) ∧ Q (.ref a) (M2.upd a (.dct [(x, y)] 0)) := rfl
@[simp] theorem wp_bin {op : Operator} {a b : E} {Q : WK} : wpE Φ (.bin op a b) ρ M Q = wpE Φ a ρ M fun x M1 => wpE Φ b ρ M1 fun y M2 => binW op x y M2 Q := rfl
@[simp] theorem wp_neg {a : E} {Q : WK} : wpE Φ (.neg a) ρ M Q = wpE Φ a ρ M fun x M1 => negW x M1 Q := rfl
@[simp] theorem wp_not {a : E} {Q : WK} : wpE Φ (.not a) ρ M Q = wpE Φ a ρ M fun x M1 => onB x fun c => Q (.bl (!c)) M1 := rfl
@[simp] theorem wp_bop {c : Bool} {es : Es} {Q : WK} : wpE Φ (.bop c es) ρ M Q = wpBop Φ c es ρ M Q := rfl
@[simp] theorem wp_cmp {op : CmpOp} {a b : E} {Q : WK} : wpE Φ (.cmp op a b) ρ M Q = wpE Φ a ρ M fun x M1 => wpE Φ b ρ M1 fun y M2 => cmpW op x y M2 fun c => Q (.bl c) M2 := rfl
@[simp] theorem wp_ife {t a b : E} {Q : WK} : wpE Φ (.ife t a b) ρ M Q = wpE Φ t ρ M fun x M1 => onB x fun c => if c = true then wpE Φ a ρ M1 Q else wpE Φ b ρ M1 Q := rfl
@[simp] theorem wp_ix {a i : E} {Q : WK} : wpE Φ (.ix a i) ρ M Q = wpE Φ a ρ M fun x M1 => wpE Φ i ρ M1 fun y M2 => ixW x y M2 Q := rfl
@[simp] theorem wp_sl {a : E} {lo hi : Eo} {Q : WK} : wpE Φ (.sl a lo hi) ρ M Q = wpE Φ a ρ M fun x M1 => wpO Φ lo ρ M1 fun y M2 => wpO Φ hi ρ M2 fun z M3 => slW x y z M3 Q := rfl
@[simp] theorem wp_call {f : Str} {es : Es} {ks : List Str} {Q : WK} : wpE Φ (.call f es ks) ρ M Q = wpEs Φ es ρ M fun vs M1 => ok (Φ.fn f) fun g => g vs M1 Q := rfl
@[simp] theorem wp_blt {f : B} {es : Es} {Q : WK} : wpE Φ (.blt f es) ρ M Q = wpEs Φ es ρ M fun vs M1 => bltW f vs M1 Q := rfl
@[simp] theorem wp_isi {a : E} {t : Ty} {Q : WK} : wpE Φ (.isi a t) ρ M Q = wpE Φ a ρ M fun x M1 => ok (isiOf M1 x t) fun c => Q (.bl c) M1 := rfl
@[simp] theorem wp_mth {m : Me} {o : E} {es : Es} {Q : WK} : wpE Φ (.mth m o es) ρ M Q = wpE Φ o ρ M fun x M1 => tyM m x M1 = true ∧ wpEs Φ es ρ M1 fun vs M2 => mthW m x vs M2 Q := rfl
@[simp] theorem wp_lc {elt : E} {t : T} {it : I} {cd : Es} {own : List Nat} {Q : WK} : wpE Φ (.lc elt t it cd own) ρ M Q = wpI Φ it ρ M fun items St M1 => LcGoal (wpT t) (wpBop Φ true cd) (wpE Φ elt) (wipeP ρ own) items St M1 Q := rfl
@[simp] theorem wp_dc {k v : E} {t : T} {it : I} {cd : Es} {own : List Nat} {Q : WK} : wpE Φ (.dc k v t it cd own) ρ M Q = wpI Φ it ρ M fun items St M1 => DcGoal (wpT t) (wpBop Φ true cd) (wpE Φ k) (wpE Φ v) (wipeP ρ own) items St M1 Q := rfl
@[simp] theorem wp_o0 {k : Option Int → MH → Prop} : wpO Φ .none ρ M k = k none M := rfl
@[simp] theorem wp_o1 {e : E} {k : Option Int → MH → Prop} : wpO Φ (.some e) ρ M k = wpE Φ e ρ M fun x M1 => onI x fun i => k (some i) M1 := rfl
@[simp] theorem wp_nil {Q : List PV → MH → Prop} : wpEs Φ .nil ρ M Q = Q [] M := rfl
@[simp] theorem wp_cons {e : E} {r : Es} {Q : List PV → MH → Prop} : wpEs Φ (.cons e r) ρ M Q = wpE Φ e ρ M fun x M1 => wpEs Φ r ρ M1 fun xs M2 => Q (x :: xs) M2 := rfl
@[simp] theorem wp_bop0 {c : Bool} {Q : WK} : wpBop Φ c .nil ρ M Q = Q (.bl true) M := rfl
@[simp] theorem wp_bop1 {c : Bool} {e : E} {Q : WK} : wpBop Φ c (.cons e .nil) ρ M Q = wpE Φ e ρ M Q := rfl
@[simp] theorem wp_bop2 {c : Bool} {e e2 : E} {r : Es} {Q : WK} : wpBop Φ c (.cons e (.cons e2 r)) ρ M Q = wpE Φ e ρ M fun x M1 => onB x fun b => if b = c then wpBop Φ c (.cons e2 r) ρ M1 Q else Q (.bl b) M1 := rfl
@[simp] theorem wp_iex {e : E} {k : WI} : wpI Φ (.ex e) ρ M k = wpE Φ e ρ M fun x M1 => exW x M1 k := rfl
@[simp] theorem wp_irng {es : Es} {k : WI} : wpI Φ (.range es) ρ M k = wpEs Φ es ρ M fun vs M1 => rngW vs M1 k := rfl
@[simp] theorem wp_ienum {e : E} {k : WI} : wpI Φ (.enum e) ρ M k = wpE Φ e ρ M fun x M1 => enumW x M1 k := rfl
@[simp] theorem wp_izip {a b : E} {k : WI} : wpI Φ (.zip a b) ρ M k = wpE Φ a ρ M fun x M1 => wpE Φ b ρ M1 fun y M2 => zipW x y M2 k := rfl
@[simp] theorem wp_nm {i : Nat} {v : PV} {k : PEnv → Prop} : wpT (.nm i) v ρ k = k (ρ.set i (some v)) := rfl
@[simp] theorem wp_tp {ts : Ts} {l : List PV} {k : PEnv → Prop} : wpT (.tp ts) (.tup l) ρ k = wpTs ts l ρ k := rfl
@[simp] theorem wp_tnil {k : PEnv → Prop} : wpTs .nil [] ρ k = k ρ := rfl
@[simp] theorem wp_tcons {t : T} {ts : Ts} {p : PV} {l : List PV} {k : PEnv → Prop} : wpTs (.cons t ts) (p :: l) ρ k = wpT t p ρ fun ρ' => wpTs ts l ρ' k := rfl
variable {D : WEnds}
@[simp] theorem wp_asg {t : T} {e : E} : wpS Φ (.asg t e) D ρ M = wpE Φ e ρ M fun v M1 => wpT t v ρ fun ρ' => D.nx ρ' M1 := rfl
@[simp] theorem wp_sub {o i e : E} : wpS Φ (.sub o i e) D ρ M = wpE Φ e ρ M fun v M1 => wpE Φ o ρ M1 fun x M2 => wpE Φ i ρ M2 fun y M3 => setW x y v M3 fun M4 => D.nx ρ M4 := rfl
@[simp] theorem wp_aug {i : Nat} {op : Operator} {e : E} : wpS Φ (.aug i op e) D ρ M = ok (ρ[i]?.join) fun x => wpE Φ e ρ M fun y M1 => augW op x y fun v => D.nx (ρ.set i (some v)) M1 := rfl
@[simp] theorem wp_ex {e : E} : wpS Φ (.ex e) D ρ M = wpE Φ e ρ M fun _ M1 => D.nx ρ M1 := rfl
@[simp] theorem wp_ifs {t : E} {a b : Ss} : wpS Φ (.ifs t a b) D ρ M = wpE Φ t ρ M fun x M1 => onB x fun c => if c = true then wpSs Φ a D ρ M1 else wpSs Φ b D ρ M1 := rfl
@[simp] theorem wp_ret {e : E} : wpS Φ (.ret e) D ρ M = wpE Φ e ρ M D.rt := rfl
@[simp] theorem wp_retN : wpS Φ .retN D ρ M = D.rt .non M := rfl
@[simp] theorem wp_brk : wpS Φ .brk D ρ M = D.bk ρ M := rfl
@[simp] theorem wp_cnt : wpS Φ .cnt D ρ M = D.ct ρ M := rfl
@[simp] theorem wp_pass : wpS Φ .pass D ρ M = D.nx ρ M := rfl
@[simp] theorem wp_snil : wpSs Φ .nil D ρ M = D.nx ρ M := rfl
@[simp] theorem wp_scons {s : S} {r : Ss} : wpSs Φ (.cons s r) D ρ M = wpS Φ s { D with nx := fun ρ' M' => wpSs Φ r D ρ' M' } ρ M := rfl
@[simp] theorem wp_fors {t : T} {it : I} {b : Ss} : wpS Φ (.fors t it b) D ρ M = wpI Φ it ρ M fun items St M1 => ForGoal (wpT t) (wpSs Φ b) ρ items St M1 D := rfl
@[simp] theorem wp_whiles {t : E} {b : Ss} : wpS Φ (.whiles t b) D ρ M = WhileGoal (wpE Φ t) (wpSs Φ b) ρ M D := rfl
@[simp] theorem wipe_nil : wipeP ρ [] = ρ := rfl
@[simp] theorem wipe_cons {v : Nat} {vs : List Nat} : wipeP ρ (v :: vs) = (wipeP ρ vs).set v none := rfl
@[simp] theorem ix_tup {l : List PV} {i : Int} {Q : WK} : ixW (.tup l) (.int i) M Q = ok (getI l i) fun v => Q v M := rfl
@[simp] theorem getI_nat {l : List PV} {n : Nat} : getI l (n : Int) = l[n]? := by
  unfold getI L2.atI L2.ixN
  by_cases h : n < l.length
  · have h1 : ¬ ((n : Int) < 0) := by omega
    simp [h1, h]
  · rw [List.getElem?_eq_none (by omega)]
    simp [h]
@[simp] theorem getI_lit {l : List PV} {n : Nat} : getI l (no_index (OfNat.ofNat n : Int)) = l[n]? := getI_nat
@[simp] theorem isNot_non {x : PV} {k : Bool → Prop} : cmpW .IsNot x .non M k = k (!isNone x) := rfl
@[simp] theorem is_non {x : PV} {k : Bool → Prop} : cmpW .Is x .non M k = k (isNone x) := rfl
@[simp] theorem is_bl {x : PV} {b : Bool} {k : Bool → Prop} : cmpW .Is x (.bl b) M k = k (eqBl b x) := rfl
@[simp] theorem lt_int {i j : Int} {k : Bool → Prop} : cmpW .Lt (.int i) (.int j) M k = k (decide (i < j)) := rfl
@[simp] theorem le_int {i j : Int} {k : Bool → Prop} : cmpW .LtE (.int i) (.int j) M k = k (decide (i ≤ j)) := rfl
@[simp] theorem gt_int {i j : Int} {k : Bool → Prop} : cmpW .Gt (.int i) (.int j) M k = k (decide (j < i)) := rfl
@[simp] theorem ge_int {i j : Int} {k : Bool → Prop} : cmpW .GtE (.int i) (.int j) M k = k (decide (j ≤ i)) := rfl
@[simp] theorem ex_tup {l : List PV} {k : WI} : exW (.tup l) M k = k l (fun _ => True) M := rfl
@[simp] theorem add_int {i j : Int} {Q : WK} : binW .Add (.int i) (.int j) M Q = Q (.int (i + j)) M := rfl
@[simp] theorem sub_int {i j : Int} {Q : WK} : binW .Sub (.int i) (.int j) M Q = Q (.int (i - j)) M := rfl
@[simp] theorem add_tup {l m : List PV} {Q : WK} : binW .Add (.tup l) (.tup m) M Q = (l.length + m.length ≤ LIM ∧ Q (.tup (l ++ m)) M) := rfl
@[simp] theorem blt_tuple {a : Addr} {Q : WK} : bltW .tuple [.ref a] M Q = ok (lstOf M a) fun l => l.length ≤ LIM ∧ Q (.tup l) M := rfl
@[simp] theorem blt_len {x : PV} {Q : WK} : bltW .len [x] M Q = ok (lenOf M x) fun n => Q (.int n) M := rfl
theorem lstOf_lst {a : Addr} {l : List PV} (h : M a = some (.lst l)) : lstOf M a = some l := by unfold lstOf; rw [h]
theorem lstOf_rol {a : Addr} {l : List PV} (h : M a = some (.rol l)) : lstOf M a = some l := by unfold lstOf; rw [h]
end
end PL
/-! PLuK: dicts' keys, sorted lists, loops. -/
namespace PL
open PySem PySem.Spec PySem.W PyProof.Rows L2

theorem psort_same {l m : List PV} (h : Sortable l) (nl : l.Nodup) (nm : m.Nodup) (e : ∀ x, x ∈ m ↔ x ∈ l) : psort m = psort l := by
  have p : m.Perm l := (List.perm_ext_iff_of_nodup nm nl).mpr e
  have hm : Sortable m := ⟨fun x hx => h.key x ((e x).mp hx), fun x hx y hy => h.cmp x ((e x).mp hx) y ((e y).mp hy), by
    have hh := h.hom
    unfold homog at hh ⊢
    have all : ∀ f : PV → Bool, l.all f = m.all f := fun f => by
      rw [Bool.eq_iff_iff, List.all_eq_true, List.all_eq_true]
      exact ⟨fun q x hx => q x ((e x).mp hx), fun q x hx => q x ((e x).mpr hx)⟩
    rw [← all, ← all, ← all, ← all, ← all]
    exact hh⟩
  exact psort_uniq h ((psort_perm m).trans p) (isort_sorted hm.ltOk fun _ hy => hy)
/-- all keys are such -/
def Keys (kvs : List (PV × PV)) : Prop := ∀ x ∈ kvs, x.1.key = true
theorem khas_iff {kvs : List (PV × PV)} {k : PV} (h : Keys kvs) (hk : k.key = true) : khas kvs k = true ↔ k ∈ kvs.map (·.1) := by
  unfold khas
  rw [List.any_eq_true, List.mem_map]
  exact ⟨fun ⟨x, hx, e⟩ => ⟨x, hx, (key_eq x.1 k 7 7 (h x hx) hk).mp e⟩, fun ⟨x, hx, e⟩ => ⟨x, hx, (key_eq x.1 k 7 7 (h x hx) hk).mpr e⟩⟩
theorem kput_keys {kvs : List (PV × PV)} {k v : PV} (h : Keys kvs) (hk : k.key = true) : (kput kvs k v).map (·.1) = if k ∈ kvs.map (·.1) then kvs.map (·.1) else kvs.map (·.1) ++ [k] := by
  unfold kput
  have q := khas_iff h hk
  by_cases c : k ∈ kvs.map (·.1)
  · rw [if_pos (q.mpr c), if_pos c, List.map_map]
    apply List.map_congr_left
    intro x hx
    show (if pyEq x.1 k = true then (x.1, v) else x).1 = x.1
    split <;> rfl
  · rw [if_neg (fun z => c (q.mp z)), if_neg c, List.map_append]; rfl
theorem Keys.put {kvs : List (PV × PV)} {k v : PV} (h : Keys kvs) (hk : k.key = true) : Keys (kput kvs k v) := fun x hx => by
  rcases mem_kput hx with q | q
  · obtain ⟨y, hy, e⟩ := List.mem_map.mp q
    rw [← e]; exact h y hy
  · rw [q]; exact hk
/-- the keys stay each one once; which they are -/
theorem kput_nd {kvs : List (PV × PV)} {k v : PV} (h : Keys kvs) (hk : k.key = true) (n : (kvs.map (·.1)).Nodup) : ((kput kvs k v).map (·.1)).Nodup := by
  rw [kput_keys h hk]
  split
  · exact n
  · rename_i c
    rw [List.nodup_append]
    exact ⟨n, by simp, fun a ha b hb => by rw [List.mem_singleton.mp hb]; exact fun z => c (z ▸ ha)⟩
theorem kput_mem {kvs : List (PV × PV)} {k v x : PV} (h : Keys kvs) (hk : k.key = true) : x ∈ (kput kvs k v).map (·.1) ↔ x ∈ kvs.map (·.1) ∨ x = k := by
  rw [kput_keys h hk]
  split
  · rename_i c
    exact ⟨.inl, fun z => z.elim id fun e => e ▸ c⟩
  · rw [List.mem_append, List.mem_singleton]
theorem Keys.puts {ps : List (PV × PV)} : ∀ {kvs : List (PV × PV)}, Keys kvs → Keys ps → Keys (kputs kvs ps) := by
  induction ps with
  | nil => intro kvs h _; exact h
  | cons p ps ih =>
    intro kvs h hp
    rw [kputs_cons]
    exact ih (h.put (hp p List.mem_cons_self)) fun x hx => hp x (List.mem_cons_of_mem _ hx)
theorem kputs_nd {ps : List (PV × PV)} : ∀ {kvs : List (PV × PV)}, Keys kvs → Keys ps → (kvs.map (·.1)).Nodup → ((kputs kvs ps).map (·.1)).Nodup := by
  induction ps with
  | nil => intro kvs h _ n; exact n
  | cons p ps ih =>
    intro kvs h hp n
    rw [kputs_cons]
    have hk := hp p List.mem_cons_self
    exact ih (h.put hk) (fun x hx => hp x (List.mem_cons_of_mem _ hx)) (kput_nd h hk n)
theorem kputs_mem {ps : List (PV × PV)} {x : PV} : ∀ {kvs : List (PV × PV)}, Keys kvs → Keys ps → (x ∈ (kputs kvs ps).map (·.1) ↔ x ∈ kvs.map (·.1) ∨ x ∈ ps.map (·.1)) := by
  induction ps with
  | nil => intro kvs h _; simp [kputs]
  | cons p ps ih =>
    intro kvs h hp
    rw [kputs_cons]
    have hk := hp p List.mem_cons_self
    rw [ih (h.put hk) (fun x hx => hp x (List.mem_cons_of_mem _ hx)), kput_mem h hk, List.map_cons, List.mem_cons]
    exact ⟨fun z => z.elim (fun z => z.elim .inl fun z => .inr (.inl z)) fun z => .inr (.inr z), fun z => z.elim (fun z => .inl (.inl z)) fun z => z.elim (fun z => .inl (.inr z)) .inr⟩
theorem keys_nil : Keys [] := fun _ h => nomatch h
/-- what a key's entry is -/
theorem kget_put {kvs : List (PV × PV)} {k v k2 : PV} (h : Keys kvs) (hk : k.key = true) (hk2 : k2.key = true) : kget (kput kvs k v) k2 = if k2 = k then some v else kget kvs k2 := by
  unfold kput
  by_cases c : khas kvs k = true
  · rw [if_pos c]
    induction kvs with
    | nil => simp [khas] at c
    | cons y l ih =>
      have hy := h y List.mem_cons_self
      have hl : Keys l := fun x hx => h x (List.mem_cons_of_mem _ hx)
      have e1 := key_eq y.1 k 7 7 hy hk
      have e2 := key_eq y.1 k2 7 7 hy hk2
      by_cases yk : y.1 = k
      · by_cases kk : k2 = k
        · subst kk
          simp [kget, List.find?_cons, e1.mpr yk]
        · have n2 : pyEq y.1 k2 = false := by
            cases q : pyEq y.1 k2 with
            | false => rfl
            | true => exact absurd ((e2.mp q).symm.trans yk) kk
          have rest : ∀ m : List (PV × PV), Keys m → (List.find? (fun x => pyEq x.1 k2) (m.map fun x => if pyEq x.1 k = true then (x.1, v) else x)) = List.find? (fun x => pyEq x.1 k2) m := by
            intro m
            induction m with
            | nil => intro _; rfl
            | cons z m ihm =>
              intro hm
              have hz := hm z List.mem_cons_self
              have i := ihm fun x hx => hm x (List.mem_cons_of_mem _ hx)
              have f1 := key_eq z.1 k 7 7 hz hk
              have f2 := key_eq z.1 k2 7 7 hz hk2
              by_cases zk : z.1 = k
              · have n3 : pyEq z.1 k2 = false := by
                  cases q : pyEq z.1 k2 with
                  | false => rfl
                  | true => exact absurd ((f2.mp q).symm.trans zk) kk
                simp [List.find?_cons, f1.mpr zk, n3, i]
              · have n3 : pyEq z.1 k = false := by
                  cases q : pyEq z.1 k with
                  | false => rfl
                  | true => exact absurd (f1.mp q) zk
                simp [List.find?_cons, n3, i]
          have := rest l hl
          simp [kget, List.find?_cons, e1.mpr yk, n2, kk, this]
      · have n1 : pyEq y.1 k = false := by
          cases q : pyEq y.1 k with
          | false => rfl
          | true => exact absurd (e1.mp q) yk
        have cl : khas l k = true := by simpa [khas, n1] using c
        have i := ih hl cl
        unfold kget at i ⊢
        rw [List.map_cons, List.find?_cons, List.find?_cons]
        simp only [n1, Bool.false_eq_true, if_false]
        by_cases y2 : y.1 = k2
        · have kk : k2 ≠ k := fun z => yk (y2.trans z)
          simp [e2.mpr y2, kk]
        · have n2 : pyEq y.1 k2 = false := by
            cases q : pyEq y.1 k2 with
            | false => rfl
            | true => exact absurd (e2.mp q) y2
          rw [n2]
          exact i
  · rw [if_neg c]
    have c' : khas kvs k = false := by simpa using c
    unfold kget
    rw [List.find?_append]
    by_cases kk : k2 = k
    · subst kk
      have : List.find? (fun x => pyEq x.1 k2) kvs = none := by
        rw [List.find?_eq_none]
        intro x hx
        simp only [khas, List.any_eq_false] at c'
        exact c' x hx
      have r := (key_eq k2 k2 7 7 hk2 hk2).mpr rfl
      simp [this, r]
    · have n1 : pyEq k k2 = false := by
        cases q : pyEq k k2 with
        | false => rfl
        | true => exact absurd ((key_eq k k2 7 7 hk hk2).mp q).symm kk
      simp [kk, n1]

/-! ### more equations -/
section
variable {M : MH} {Q : WK} {a b : Addr} {l m : List PV} {kvs : List (PV × PV)} {ep : Nat} {x v : PV}
@[simp] theorem enum_tup {k : WI} : enumW (.tup l) M k = k (l.zipIdx.map fun z => .tup [.int (z.2 : Nat), z.1]) (fun _ => True) M := rfl
@[simp] theorem zip_tup {k : WI} : zipW (.tup l) (.tup m) M k = k ((l.zip m).map fun z => .tup [z.1, z.2]) (fun _ => True) M := rfl
theorem ty_app (h : M a = some (.lst l)) : tyM .append (.ref a) M = true := by simp only [tyM, h]
theorem ty_upd (h : M a = some (.dct kvs ep)) : tyM .update (.ref a) M = true := by simp only [tyM, h]
theorem mt_app (h : M a = some (.lst l)) (hl : l.length < LIM) (q : Q .non (M.upd a (.lst (l ++ [v])))) : mthW .append (.ref a) [v] M Q := by
  show (match M a with | some (.lst l) => l.length < LIM ∧ Q .non (M.upd a (.lst (l ++ [v]))) | _ => False)
  rw [h]
  exact ⟨hl, q⟩
theorem mt_updL {ps : List (PV × PV)} (h : M a = some (.dct kvs 0)) (h2 : M b = some (.lst l)) (hp : pairsOfL l = some ps) (hk : (allF kvs && allF ps || allT kvs && allT ps) = true) (hl : kvs.length + ps.length ≤ LIM) (q : Q .non (M.upd a (.dct (kputs kvs ps) 0))) : mthW .update (.ref a) [.ref b] M Q := by
  show (match M a, M b with
    | some (.dct kvs 0), some (.lst l) => ok (pairsOfL l) fun ps => ((allF kvs && allF ps || allT kvs && allT ps) = true ∧ kvs.length + ps.length ≤ LIM) ∧ Q .non (M.upd a (.dct (kputs kvs ps) 0))
    | some (.dct kvs 0), some (.dct ms _) => (a ≠ b ∧ updD kvs ms ∧ kvs.length + ms.length ≤ LIM) ∧ Q .non (M.upd a (.dct (kputs kvs ms) 0))
    | _, _ => False)
  rw [h, h2]
  show ok (pairsOfL l) _
  rw [hp]
  exact ⟨⟨hk, hl⟩, q⟩
theorem mt_updD {ms : List (PV × PV)} (h : M a = some (.dct kvs 0)) (h2 : M b = some (.dct ms ep)) (hab : a ≠ b) (hk : updD kvs ms) (hl : kvs.length + ms.length ≤ LIM) (q : Q .non (M.upd a (.dct (kputs kvs ms) 0))) : mthW .update (.ref a) [.ref b] M Q := by
  show (match M a, M b with
    | some (.dct kvs 0), some (.lst l) => ok (pairsOfL l) fun ps => ((allF kvs && allF ps || allT kvs && allT ps) = true ∧ kvs.length + ps.length ≤ LIM) ∧ Q .non (M.upd a (.dct (kputs kvs ps) 0))
    | some (.dct kvs 0), some (.dct ms _) => (a ≠ b ∧ updD kvs ms ∧ kvs.length + ms.length ≤ LIM) ∧ Q .non (M.upd a (.dct (kputs kvs ms) 0))
    | _, _ => False)
  rw [h, h2]
  exact ⟨⟨hab, hk, hl⟩, q⟩
theorem blt_list {items : List PV} (h : itemsOf M x = some items) (hl : items.length ≤ LIM) (q : ∀ c, M c = none → Q (.ref c) (M.upd c (.lst items))) : bltW .list [x] M Q := by
  show ok (itemsOf M x) _
  rw [h]
  exact ⟨hl, q⟩
theorem blt_sorted {items : List PV} (h : itemsOf M x = some items) (hl : items.length ≤ LIM) (hs : Sortable items) (q : ∀ c, M c = none → Q (.ref c) (M.upd c (.lst (psort items)))) : bltW .sorted [x] M Q := by
  show ok (itemsOf M x) _
  rw [h]
  exact ⟨hl, hs, q⟩
theorem items_lst (h : M a = some (.lst l)) : itemsOf M (.ref a) = some l := by simp only [itemsOf, h]
theorem items_dct (h : M a = some (.dct kvs ep)) : itemsOf M (.ref a) = some (kvs.map (·.1)) := by simp only [itemsOf, h]
theorem notIn_tup {k : Bool → Prop} (hx : x.good = true) (hl : PV.goodsN l 7 = true) : cmpW .NotIn x (.tup l) M k = k (!(l.any fun y => pyEq y x)) := by
  have e : inOf M x (.tup l) = some (l.any fun y => pyEq y x) := by
    show (if (x.good && PV.goodsN l 7) = true then some (l.any fun y => pyEq y x) else none) = _
    rw [hx, hl]; rfl
  show ok (inOf M x (.tup l)) _ = _
  rw [e]
  rfl
theorem in_tupB {k : Bool → Prop} (hx : x.good = true) (hl : PV.goodsN l 7 = true) : cmpW .In x (.tup l) M k = k (l.any fun y => pyEq y x) := by
  have e : inOf M x (.tup l) = some (l.any fun y => pyEq y x) := by
    show (if (x.good && PV.goodsN l 7) = true then some (l.any fun y => pyEq y x) else none) = _
    rw [hx, hl]; rfl
  show ok (inOf M x (.tup l)) _ = _
  rw [e]
  rfl
theorem blt_tup (h : lstOf M a = some l) (hl : l.length ≤ LIM) (q : Q (.tup l) M) : bltW .tuple [.ref a] M Q := by
  show ok (lstOf M a) _
  rw [h]
  exact ⟨hl, q⟩
/-- tuple(sorted(list(dict))) -/
theorem blt_tsl (h : M a = some (.dct kvs ep)) (hl : kvs.length ≤ LIM) (hs : Sortable (kvs.map (·.1))) (q : ∀ M', Ex M M' → Q (.tup (psort (kvs.map (·.1)))) M') : bltW .list [.ref a] M fun x M1 => bltW .sorted [x] M1 fun x M2 => bltW .tuple [x] M2 Q := by
  have hz : (kvs.map (·.1)).length ≤ LIM := by rw [List.length_map]; exact hl
  refine blt_list (items_dct h) hz fun c hc => ?_
  refine blt_sorted (items_lst (MH.upd_same ..)) hz hs fun d hd => ?_
  refine blt_tup (lstOf_lst (MH.upd_same ..)) ?_ (q _ (Ex.trans (Ex.new hc) (Ex.new hd)))
  rw [(psort_perm _).length_eq]; exact hz
/-- tuple(sorted(dict)) -/
theorem blt_ts (h : M a = some (.dct kvs ep)) (hl : kvs.length ≤ LIM) (hs : Sortable (kvs.map (·.1))) (q : ∀ M', Ex M M' → Q (.tup (psort (kvs.map (·.1)))) M') : bltW .sorted [.ref a] M fun x M2 => bltW .tuple [x] M2 Q := by
  have hz : (kvs.map (·.1)).length ≤ LIM := by rw [List.length_map]; exact hl
  refine blt_sorted (items_dct h) hz hs fun d hd => ?_
  refine blt_tup (lstOf_lst (MH.upd_same ..)) ?_ (q _ (Ex.new hd))
  rw [(psort_perm _).length_eq]; exact hz
end

/-! ### each once -/
def dd (S : List PV) : List PV := (kputs [] (S.map fun k => (k, PV.non))).map (·.1)
theorem keys_map {S : List PV} {v : PV → PV} (h : ∀ x ∈ S, x.key = true) : Keys (S.map fun k => (k, v k)) := fun x hx => by
  obtain ⟨k, hk, rfl⟩ := List.mem_map.mp hx
  exact h k hk
theorem dd_nd {S : List PV} (h : ∀ x ∈ S, x.key = true) : (dd S).Nodup := kputs_nd keys_nil (keys_map h) List.nodup_nil
theorem dd_mem {S : List PV} {x : PV} (h : ∀ x ∈ S, x.key = true) : x ∈ dd S ↔ x ∈ S := by
  unfold dd
  rw [kputs_mem keys_nil (keys_map h), List.map_map]
  simp
theorem sortable_sub {l m : List PV} (h : Sortable l) (e : ∀ x ∈ m, x ∈ l) : Sortable m := ⟨fun x hx => h.key x (e x hx), fun x hx y hy => h.cmp x (e x hx) y (e y hy), by
  have hh := h.hom
  unfold homog at hh ⊢
  have all : ∀ f : PV → Bool, l.all f = true → m.all f = true := fun f q => List.all_eq_true.mpr fun x hx => List.all_eq_true.mp q x (e x hx)
  simp only [Bool.or_eq_true] at hh ⊢
  rcases hh with (((z | z) | z) | z) | z
  · exact .inl (.inl (.inl (.inl (all _ z))))
  · exact .inl (.inl (.inl (.inr (all _ z))))
  · exact .inl (.inl (.inr (all _ z)))
  · exact .inl (.inr (all _ z))
  · exact .inr (all _ z)⟩
/-- the sorted list of a set -/
def ss (S : List PV) : List PV := psort (dd S)
theorem ss_same {S l : List PV} (h : Sortable S) (n : l.Nodup) (e : ∀ x, x ∈ l ↔ x ∈ S) : psort l = ss S := by
  have hk := h.key
  exact psort_same (sortable_sub h fun x hx => (dd_mem hk).mp hx) (dd_nd hk) n fun x => (e x).trans (dd_mem hk).symm
theorem ss_eq {S T : List PV} (h : Sortable S) (e : ∀ x, x ∈ T ↔ x ∈ S) : ss T = ss S := by
  have hT : Sortable T := sortable_sub h fun x hx => (e x).mp hx
  exact ss_same h (dd_nd hT.key) fun x => (dd_mem hT.key).trans (e x)

/-! ### lists and dicts by their place -/
section
variable {M : MH} {Q : WK} {a : Addr} {l : List PV} {kvs : List (PV × PV)} {ep : Nat} {x v : PV}
theorem ix_lst {i : Int} (h : M a = some (.lst l)) : ixW (.ref a) (.int i) M Q = ok (getI l i) fun v => Q v M := by simp only [ixW, h]; rfl
theorem ix_rol {i : Int} (h : M a = some (.rol l)) : ixW (.ref a) (.int i) M Q = ok (getI l i) fun v => Q v M := by simp only [ixW, h]; rfl
theorem ix_dct (h : M a = some (.dct kvs ep)) : ixW (.ref a) x M Q = (kOk kvs x = true ∧ ok (kget kvs x) fun v => Q v M) := by simp only [ixW, h]
theorem len_lst (h : M a = some (.lst l)) : lenOf M (.ref a) = some l.length := by simp only [lenOf, h]
theorem len_rol (h : M a = some (.rol l)) : lenOf M (.ref a) = some l.length := by simp only [lenOf, h]
theorem len_dct (h : M a = some (.dct kvs ep)) : lenOf M (.ref a) = some kvs.length := by simp only [lenOf, h]
theorem set_dct {k : MH → Prop} (h : M a = some (.dct kvs 0)) (hk : kOk kvs x = true) (hl : kvs.length < LIM) (q : k (M.upd a (.dct (kput kvs x v) 0))) : setW (.ref a) x v M k := by
  show (match M a with
    | some (.lst l) => onI x fun j => ok (L2.ixN l.length j) fun n => k (M.upd a (.lst (l.set n v)))
    | some (.dct kvs 0) => kOk kvs x = true ∧ kvs.length < LIM ∧ k (M.upd a (.dct (kput kvs x v) 0))
    | _ => False)
  rw [h]
  exact ⟨hk, hl, q⟩
theorem in_dct {k : Bool → Prop} (h : M a = some (.dct kvs ep)) (hk : kOk kvs x = true) : cmpW .In x (.ref a) M k = k (khas kvs x) := by
  have e : inOf M x (.ref a) = some (khas kvs x) := by simp only [inOf, h, hk]; rfl
  show ok (inOf M x (.ref a)) _ = _
  rw [e]
  rfl
theorem notIn_dct {k : Bool → Prop} (h : M a = some (.dct kvs ep)) (hk : kOk kvs x = true) : cmpW .NotIn x (.ref a) M k = k (!khas kvs x) := by
  have e : inOf M x (.ref a) = some (khas kvs x) := by simp only [inOf, h, hk]; rfl
  show ok (inOf M x (.ref a)) _ = _
  rw [e]
  rfl
theorem notIn_lst {k : Bool → Prop} (h : M a = some (.lst l)) (hx : x.good = true) (hl : PV.goodsN l 7 = true) : cmpW .NotIn x (.ref a) M k = k (!(l.any fun y => pyEq y x)) := by
  have e : inOf M x (.ref a) = some (l.any fun y => pyEq y x) := by simp only [inOf, h, hx, hl]; rfl
  show ok (inOf M x (.ref a)) _ = _
  rw [e]
  rfl
theorem ex_lst {k : WI} (h : M a = some (.lst l)) : exW (.ref a) M k = k l (fun M' => M' a = some (.lst l)) M := by simp only [exW, h]
end
theorem kget_of {kvs : List (PV × PV)} {k : PV} (h : khas kvs k = true) : ∃ x ∈ kvs, kget kvs k = some x.2 := by
  unfold khas at h
  rw [List.any_eq_true] at h
  obtain ⟨y, hy, e⟩ := h
  cases q : kvs.find? fun x => pyEq x.1 k with
  | none => exact absurd e (List.find?_eq_none.mp q y hy)
  | some x => exact ⟨x, List.mem_of_find?_eq_some q, by unfold kget; rw [q]; rfl⟩
end PL
namespace K74
open PySem PySem.Spec PySem.W PyProof.Rows L2 PL
abbrev N_let_deeds : List Str := ["world", "let", "board", "deed"]
def m_let_deeds : Ss := (.cons (.ret (.blt .tuple (.cons (.lc (.var 3) (.nm 3) (.ex (.ix (.var 1) (.var 2))) (.cons (.cmp .IsNot (.ix (.ix (.ix (.var 0) (.c (.int 2))) (.var 2)) (.var 3)) (.c .non)) .nil) [3]) .nil))) .nil)
abbrev N_rows_from : List Str := ["world", "let", "board", "found", "line", "spot", "here", "deed", "there"]
def m_rows_from : Ss := (.cons (.asg (.tp (.cons (.nm 3) (.cons (.nm 4) (.cons (.nm 5) .nil)))) (.tup (.cons (.dct (.cons (.var 2) .nil) (.cons (.tup .nil) .nil)) (.cons (.lst (.cons (.var 2) .nil)) (.cons (.c (.int 0)) .nil))))) (.cons (.whiles (.cmp .Lt (.var 5) (.blt .len (.cons (.var 4) .nil))) (.cons (.asg (.nm 6) (.ix (.var 4) (.var 5))) (.cons (.aug 5 .Add (.c (.int 1))) (.cons (.fors (.nm 7) (.ex (.call "let_deeds" (.cons (.var 0) (.cons (.var 1) (.cons (.var 6) .nil))) [])) (.cons (.fors (.nm 8) (.ex (.ix (.ix (.ix (.var 0) (.c (.int 2))) (.var 6)) (.var 7))) (.cons (.ifs (.cmp .NotIn (.var 8) (.var 3)) (.cons (.sub (.var 3) (.var 8) (.bin .Add (.ix (.var 3) (.var 6)) (.tup (.cons (.tup (.cons (.var 7) (.cons (.var 8) .nil))) .nil)))) (.cons (.ex (.mth .append (.var 4) (.cons (.var 8) .nil))) .nil)) .nil) .nil)) .nil)) .nil)))) (.cons (.ret (.var 3)) .nil)))
abbrev N_comes : List Str := ["world", "let"]
def m_comes : Ss := (.cons (.ret (.blt .tuple (.cons (.blt .sorted (.cons (.call "rows_from" (.cons (.var 0) (.cons (.var 1) (.cons (.c (.int 0)) .nil))) []) .nil)) .nil))) .nil)
abbrev N_sign_of : List Str := ["world", "helper", "board", "register"]
def m_sign_of : Ss := (.cons (.ret (.blt .tuple (.cons (.lc (.ix (.ix (.ix (.var 0) (.c (.int 5))) (.var 2)) (.var 3)) (.nm 3) (.ex (.ix (.ix (.var 0) (.c (.int 6))) (.var 1))) .nil [3]) .nil))) .nil)
abbrev N_along : List Str := ["log", "deed", "board"]
def m_along : Ss := (.cons (.ret (.bin .Add (.tup (.cons (.c (.int 0)) .nil)) (.blt .tuple (.cons (.lc (.var 2) (.tp (.cons (.nm 1) (.cons (.nm 2) .nil))) (.ex (.var 0)) .nil [1, 2]) .nil)))) .nil)
abbrev N_sentence_at : List Str := ["world", "board", "deed"]
def m_sentence_at : Ss := (.cons (.ret (.tup (.cons (.var 2) (.cons (.call "sign_of" (.cons (.var 0) (.cons (.ix (.ix (.var 0) (.c (.int 1))) (.var 2)) (.cons (.var 1) .nil))) []) .nil)))) .nil)
abbrev N_sentences : List Str := ["world", "let", "found", "board", "deed"]
def m_sentences : Ss := (.cons (.asg (.nm 2) (.dct .nil .nil)) (.cons (.fors (.nm 3) (.ex (.call "comes" (.cons (.var 0) (.cons (.var 1) .nil)) [])) (.cons (.ex (.mth .update (.var 2) (.cons (.dc (.call "sentence_at" (.cons (.var 0) (.cons (.var 3) (.cons (.var 4) .nil))) []) (.c (.bl true)) (.nm 4) (.ex (.call "let_deeds" (.cons (.var 0) (.cons (.var 1) (.cons (.var 3) .nil))) [])) .nil [4]) .nil))) .nil)) (.cons (.ret (.blt .tuple (.cons (.blt .sorted (.cons (.blt .list (.cons (.var 2) .nil)) .nil)) .nil))) .nil)))
abbrev N_left_out : List Str := ["world", "let", "lot", "rows", "board", "deeds", "deed"]
def m_left_out : Ss := (.cons (.asg (.nm 3) (.lst .nil)) (.cons (.fors (.tp (.cons (.nm 4) (.cons (.nm 5) .nil))) (.enum (.var 1)) (.cons (.ex (.mth .append (.var 3) (.cons (.blt .tuple (.cons (.lc (.var 6) (.nm 6) (.ex (.var 5)) (.cons (.cmp .NotIn (.call "sentence_at" (.cons (.var 0) (.cons (.var 4) (.cons (.var 6) .nil))) []) (.var 2)) .nil) [6]) .nil)) .nil))) .nil)) (.cons (.ret (.blt .tuple (.cons (.var 3) .nil))) .nil)))
abbrev N_said_in : List Str := ["world", "log", "found", "board", "deed", "there"]
def m_said_in : Ss := (.cons (.asg (.nm 2) (.dc (.call "sentence_at" (.cons (.var 0) (.cons (.var 3) (.cons (.var 4) .nil))) []) (.c (.bl true)) (.tp (.cons (.nm 3) (.cons (.tp (.cons (.nm 4) (.cons (.nm 5) .nil))) .nil))) (.zip (.call "along" (.cons (.var 1) .nil) []) (.var 1)) .nil [3, 4, 5])) (.cons (.ret (.blt .tuple (.cons (.blt .sorted (.cons (.blt .list (.cons (.var 2) .nil)) .nil)) .nil))) .nil))
abbrev N_law_box : List Str := ["script", "k", "cell", "great"]
def m_law_box : Ss := (.cons (.asg (.nm 2) (.bin .Add (.bin .Mult (.c (.int 30011)) (.var 1)) (.c (.int 8287)))) (.cons (.ifs (.cmp .Lt (.var 1) (.blt .len (.cons (.var 0) .nil))) (.cons (.asg (.nm 2) (.blt .abs (.cons (.blt .int (.cons (.ix (.var 0) (.var 1)) .nil)) .nil))) .nil) (.cons (.ifs (.cmp .Gt (.blt .len (.cons (.var 0) .nil)) (.c (.int 0))) (.cons (.asg (.nm 2) (.bin .Add (.var 2) (.bin .Mult (.bin .Mod (.blt .int (.cons (.blt .abs (.cons (.blt .int (.cons (.ix (.var 0) (.bin .Mod (.blt .int (.cons (.var 1) .nil)) (.blt .len (.cons (.var 0) .nil)))) .nil)) .nil)) .nil)) (.c (.int 2147483563))) (.c (.int 96137))))) .nil) .nil) .nil)) (.cons (.asg (.nm 3) (.ife (.cmp .GtE (.var 2) (.bin .Pow (.c (.int 10)) (.c (.int 18)))) (.var 2) (.c (.int 0)))) (.cons (.ret (.lst (.cons (.var 3) (.cons (.bin .Add (.bin .Mod (.blt .int (.cons (.bin .Add (.bin .Mult (.bin .Mod (.blt .int (.cons (.var 2) .nil)) (.c (.int 2147483563))) (.c (.int 54250027))) (.bin .Mult (.c (.int 8101)) (.var 1))) .nil)) (.c (.int 2147483563))) (.c (.int 1))) .nil)))) .nil))))
abbrev N_law_take : List Str := ["box", "many", "digit", "raw"]
def m_law_take : Ss := (.cons (.ifs (.cmp .Gt (.ix (.var 0) (.c (.int 0))) (.c (.int 0))) (.cons (.asg (.nm 2) (.bin .Mod (.blt .int (.cons (.ix (.var 0) (.c (.int 0))) .nil)) (.var 1))) (.cons (.sub (.var 0) (.c (.int 0)) (.bin .FloorDiv (.ix (.var 0) (.c (.int 0))) (.var 1))) (.cons (.ret (.var 2)) .nil))) .nil) (.cons (.asg (.nm 3) (.bin .Mod (.blt .int (.cons (.bin .Add (.bin .Mult (.ix (.var 0) (.c (.int 1))) (.c (.int 39373))) (.c (.int 229))) .nil)) (.c (.int 2147483647)))) (.cons (.sub (.var 0) (.c (.int 1)) (.bin .Add (.bin .Mod (.blt .int (.cons (.bin .Add (.bin .Mult (.var 3) (.c (.int 40692))) (.c (.int 103))) .nil)) (.c (.int 2147483563))) (.c (.int 1)))) (.cons (.ret (.bin .Mod (.blt .int (.cons (.bin .FloorDiv (.bin .Add (.bin .Mult (.var 3) (.c (.int 2147483629))) (.ix (.var 0) (.c (.int 1)))) (.c (.int 8273))) .nil)) (.var 1))) .nil))))
abbrev N_law_pick : List Str := ["box", "some"]
def m_law_pick : Ss := (.cons (.ret (.ix (.var 1) (.call "_law_take" (.cons (.var 0) (.cons (.blt .len (.cons (.var 1) .nil)) .nil)) []))) .nil)
abbrev N_law_same : List Str := ["told", "due", "one", "other"]
def m_law_same : Ss := (.cons (.ifs (.isi (.var 1) .tuple) (.cons (.ifs (.bop false (.cons (.not (.isi (.var 0) .tuple)) (.cons (.cmp .NotEq (.blt .len (.cons (.var 0) .nil)) (.blt .len (.cons (.var 1) .nil))) .nil))) (.cons (.ret (.c (.bl false))) .nil) .nil) (.cons (.fors (.tp (.cons (.nm 2) (.cons (.nm 3) .nil))) (.zip (.var 0) (.var 1)) (.cons (.ifs (.not (.call "_law_same" (.cons (.var 2) (.cons (.var 3) .nil)) [])) (.cons (.ret (.c (.bl false))) .nil) .nil) .nil)) (.cons (.ret (.c (.bl true))) .nil))) .nil) (.cons (.ifs (.cmp .Is (.var 1) (.c .non)) (.cons (.ret (.cmp .Is (.var 0) (.c .non))) .nil) .nil) (.cons (.ifs (.bop false (.cons (.cmp .Is (.var 1) (.c (.bl true))) (.cons (.cmp .Is (.var 1) (.c (.bl false))) .nil))) (.cons (.ret (.bop true (.cons (.isi (.var 0) .bool) (.cons (.cmp .Eq (.var 0) (.var 1)) .nil)))) .nil) .nil) (.cons (.ifs (.isi (.var 1) .int) (.cons (.ret (.bop true (.cons (.isi (.var 0) .int) (.cons (.not (.isi (.var 0) .bool)) (.cons (.cmp .Eq (.var 0) (.var 1)) .nil))))) .nil) .nil) (.cons (.ret (.bop true (.cons (.isi (.var 0) .str) (.cons (.isi (.var 1) .str) (.cons (.cmp .Eq (.var 0) (.var 1)) .nil))))) .nil)))))
abbrev N_law_goes : List Str := ["world", "let", "board", "deed"]
def m_law_goes : Ss := (.cons (.ret (.lc (.tup (.cons (.var 3) (.cons (.ix (.ix (.ix (.var 0) (.c (.int 2))) (.var 2)) (.var 3)) .nil))) (.nm 3) (.ex (.ix (.var 1) (.var 2))) (.cons (.cmp .IsNot (.ix (.ix (.ix (.var 0) (.c (.int 2))) (.var 2)) (.var 3)) (.c .non)) .nil) [3])) .nil)
abbrev N_law_far : List Str := ["world", "let", "board", "found", "edge", "turn", "later", "here", "deed", "lot", "there"]
def m_law_far : Ss := (.cons (.asg (.tp (.cons (.nm 3) (.cons (.nm 4) .nil))) (.tup (.cons (.dct (.cons (.var 2) .nil) (.cons (.c (.int 0)) .nil)) (.cons (.lst (.cons (.var 2) .nil)) .nil)))) (.cons (.fors (.nm 5) (.range (.cons (.blt .len (.cons (.ix (.var 0) (.c (.int 2))) .nil)) .nil)) (.cons (.asg (.nm 6) (.lst .nil)) (.cons (.fors (.nm 7) (.ex (.var 4)) (.cons (.fors (.tp (.cons (.nm 8) (.cons (.nm 9) .nil))) (.ex (.call "_law_goes" (.cons (.var 0) (.cons (.var 1) (.cons (.var 7) .nil))) [])) (.cons (.asg (.nm 6) (.bin .Add (.var 6) (.lc (.var 10) (.nm 10) (.ex (.var 9)) (.cons (.bop true (.cons (.cmp .NotIn (.var 10) (.var 3)) (.cons (.cmp .NotIn (.var 10) (.var 6)) .nil))) .nil) [10]))) .nil)) .nil)) (.cons (.ex (.mth .update (.var 3) (.cons (.lc (.tup (.cons (.var 10) (.cons (.bin .Add (.var 5) (.c (.int 1))) .nil))) (.nm 10) (.ex (.var 6)) .nil [10]) .nil))) (.cons (.asg (.nm 4) (.var 6)) .nil))))) (.cons (.ret (.var 3)) .nil)))
abbrev N_law_is_end : List Str := ["world", "board"]
def m_law_is_end : Ss := (.cons (.ret (.bop true (.cons (.ix (.ix (.var 0) (.c (.int 4))) (.var 1)) (.cons (.not (.ix (.ix (.var 0) (.c (.int 3))) (.var 1))) .nil)))) .nil)
abbrev N_law_lots_drawn : List Str := ["box", "many", "board", "found", "turn", "there"]
def m_law_lots_drawn : Ss := (.cons (.asg (.nm 3) (.dct .nil .nil)) (.cons (.fors (.nm 4) (.range (.cons (.call "_law_pick" (.cons (.var 0) (.cons (.lst (.cons (.c (.int 1)) (.cons (.c (.int 1)) (.cons (.c (.int 1)) (.cons (.c (.int 2)) (.cons (.c (.int 2)) (.cons (.c (.int 3)) .nil))))))) .nil)) []) .nil)) (.cons (.asg (.nm 5) (.ife (.bop true (.cons (.cmp .Lt (.var 2) (.bin .Sub (.var 1) (.c (.int 1)))) (.cons (.cmp .Gt (.call "_law_take" (.cons (.var 0) (.cons (.c (.int 4)) .nil)) []) (.c (.int 0))) .nil))) (.bin .Add (.bin .Add (.var 2) (.c (.int 1))) (.call "_law_take" (.cons (.var 0) (.cons (.bin .Sub (.bin .Sub (.var 1) (.var 2)) (.c (.int 1))) .nil)) [])) (.call "_law_take" (.cons (.var 0) (.cons (.var 1) .nil)) []))) (.cons (.sub (.var 3) (.var 5) (.c (.int 1))) .nil))) (.cons (.ret (.blt .tuple (.cons (.blt .sorted (.cons (.var 3) .nil)) .nil))) .nil)))
abbrev N_law_turn_world : List Str := ["box", "most", "many", "helpers", "deeds", "never", "board", "done", "moves", "lets", "row", "deed", "lot", "whose", "rows"]
def m_law_turn_world : Ss := (.cons (.asg (.tp (.cons (.nm 2) (.cons (.nm 3) (.cons (.nm 4) .nil)))) (.tup (.cons (.bin .Add (.c (.int 3)) (.call "_law_take" (.cons (.var 0) (.cons (.bin .Sub (.var 1) (.c (.int 2))) .nil)) [])) (.cons (.bin .Add (.c (.int 1)) (.call "_law_take" (.cons (.var 0) (.cons (.c (.int 3)) .nil)) [])) (.cons (.bin .Add (.c (.int 2)) (.call "_law_take" (.cons (.var 0) (.cons (.c (.int 4)) .nil)) [])) .nil))))) (.cons (.asg (.nm 5) (.lc (.bop true (.cons (.cmp .Gt (.var 6) (.c (.int 0))) (.cons (.cmp .Lt (.var 6) (.bin .Sub (.var 2) (.c (.int 1)))) (.cons (.cmp .Eq (.call "_law_take" (.cons (.var 0) (.cons (.c (.int 8)) .nil)) []) (.c (.int 0))) .nil)))) (.nm 6) (.range (.cons (.var 2) .nil)) .nil [6])) (.cons (.asg (.nm 7) (.lc (.bop false (.cons (.cmp .Eq (.var 6) (.bin .Sub (.var 2) (.c (.int 1)))) (.cons (.bop true (.cons (.cmp .Gt (.var 6) (.c (.int 0))) (.cons (.cmp .Eq (.call "_law_take" (.cons (.var 0) (.cons (.c (.int 7)) .nil)) []) (.c (.int 0))) .nil))) .nil))) (.nm 6) (.range (.cons (.var 2) .nil)) .nil [6])) (.cons (.asg (.tp (.cons (.nm 8) (.cons (.nm 9) .nil))) (.tup (.cons (.lst .nil) (.cons (.lst .nil) .nil)))) (.cons (.fors (.nm 6) (.range (.cons (.var 2) .nil)) (.cons (.asg (.nm 10) (.lc (.ife (.cmp .Eq (.call "_law_take" (.cons (.var 0) (.cons (.c (.int 4)) .nil)) []) (.c (.int 0))) (.c .non) (.call "_law_lots_drawn" (.cons (.var 0) (.cons (.var 2) (.cons (.var 6) .nil))) [])) (.nm 11) (.range (.cons (.var 4) .nil)) .nil [11])) (.cons (.asg (.nm 10) (.ife (.bop false (.cons (.ix (.var 5) (.var 6)) (.cons (.ix (.var 7) (.var 6)) .nil))) (.bin .Mult (.lst (.cons (.c .non) .nil)) (.var 4)) (.var 10))) (.cons (.ex (.mth .append (.var 8) (.cons (.blt .tuple (.cons (.var 10) .nil)) .nil))) (.cons (.ex (.mth .append (.var 9) (.cons (.blt .tuple (.cons (.lc (.var 11) (.tp (.cons (.nm 11) (.cons (.nm 12) .nil))) (.enum (.var 10)) (.cons (.bop true (.cons (.cmp .IsNot (.var 12) (.c .non)) (.cons (.cmp .Gt (.call "_law_take" (.cons (.var 0) (.cons (.c (.int 3)) .nil)) []) (.c (.int 0))) .nil))) .nil) [11, 12]) .nil)) .nil))) .nil))))) (.cons (.asg (.nm 13) (.blt .tuple (.cons (.lc (.call "_law_take" (.cons (.var 0) (.cons (.var 3) .nil)) []) (.nm 11) (.range (.cons (.var 4) .nil)) .nil [11]) .nil))) (.cons (.asg (.nm 14) (.blt .tuple (.cons (.lc (.tup (.cons (.var 6) .nil)) (.nm 6) (.range (.cons (.var 2) .nil)) .nil [6]) .nil))) (.cons (.ret (.tup (.cons (.c (.int 0)) (.cons (.var 13) (.cons (.blt .tuple (.cons (.var 8) .nil)) (.cons (.blt .tuple (.cons (.var 5) .nil)) (.cons (.blt .tuple (.cons (.var 7) .nil)) (.cons (.var 14) (.cons (.bin .Mult (.tup (.cons (.tup .nil) .nil)) (.var 3)) (.cons (.blt .tuple (.cons (.var 9) .nil)) .nil)))))))))) .nil))))))))
abbrev N_law_some_let : List Str := ["box", "world", "least", "deed", "board"]
def m_law_some_let : Ss := (.cons (.ret (.blt .tuple (.cons (.lc (.blt .tuple (.cons (.lc (.var 3) (.nm 3) (.range (.cons (.blt .len (.cons (.ix (.var 1) (.c (.int 1))) .nil)) .nil)) (.cons (.cmp .GtE (.call "_law_take" (.cons (.var 0) (.cons (.c (.int 4)) .nil)) []) (.var 2)) .nil) [3]) .nil)) (.nm 4) (.ex (.ix (.var 1) (.c (.int 2)))) .nil [4]) .nil))) .nil)
abbrev N_law_sure_let : List Str := ["box", "world", "here", "lots", "board", "turn", "later", "some", "deed", "lot", "there", "kept"]
def m_law_sure_let : Ss := (.cons (.asg (.tp (.cons (.nm 2) (.cons (.nm 3) .nil))) (.tup (.cons (.lc (.var 4) (.nm 4) (.range (.cons (.blt .len (.cons (.ix (.var 1) (.c (.int 2))) .nil)) .nil)) (.cons (.call "_law_is_end" (.cons (.var 1) (.cons (.var 4) .nil)) []) .nil) [4]) (.cons (.bin .Mult (.lst (.cons (.tup .nil) .nil)) (.blt .len (.cons (.ix (.var 1) (.c (.int 2))) .nil))) .nil)))) (.cons (.fors (.nm 5) (.range (.cons (.blt .len (.cons (.ix (.var 1) (.c (.int 2))) .nil)) .nil)) (.cons (.asg (.nm 6) (.lst .nil)) (.cons (.fors (.nm 4) (.ex (.lc (.var 4) (.nm 4) (.range (.cons (.blt .len (.cons (.ix (.var 1) (.c (.int 2))) .nil)) .nil)) (.cons (.cmp .NotIn (.var 4) (.var 2)) .nil) [4])) (.cons (.asg (.nm 7) (.lc (.var 8) (.tp (.cons (.nm 8) (.cons (.nm 9) .nil))) (.enum (.ix (.ix (.var 1) (.c (.int 2))) (.var 4))) (.cons (.bop true (.cons (.cmp .IsNot (.var 9) (.c .non)) (.cons (.cmp .Eq (.lc (.c (.int 1)) (.nm 10) (.ex (.var 9)) (.cons (.cmp .NotIn (.var 10) (.var 2)) .nil) [10]) (.lst .nil)) .nil))) .nil) [8, 9])) (.cons (.ifs (.cmp .NotEq (.var 7) (.lst .nil)) (.cons (.asg (.nm 11) (.lc (.var 8) (.nm 8) (.ex (.var 7)) (.cons (.cmp .Gt (.call "_law_take" (.cons (.var 0) (.cons (.c (.int 3)) .nil)) []) (.c (.int 0))) .nil) [8])) (.cons (.sub (.var 3) (.var 4) (.blt .tuple (.cons (.ife (.cmp .NotEq (.var 11) (.lst .nil)) (.var 11) (.lst (.cons (.call "_law_pick" (.cons (.var 0) (.cons (.var 7) .nil)) []) .nil))) .nil))) (.cons (.ex (.mth .append (.var 6) (.cons (.var 4) .nil))) .nil))) .nil) .nil))) (.cons (.asg (.nm 2) (.bin .Add (.var 2) (.var 6))) .nil)))) (.cons (.ret (.tup (.cons (.blt .tuple (.cons (.var 3) .nil)) (.cons (.var 2) .nil)))) .nil)))
abbrev N_law_near_let : List Str := ["box", "world", "let", "board", "deed", "lot", "one"]
def m_law_near_let : Ss := (.cons (.asg (.tp (.cons (.nm 3) (.cons (.nm 4) .nil))) (.tup (.cons (.call "_law_take" (.cons (.var 0) (.cons (.blt .len (.cons (.var 2) .nil)) .nil)) []) (.cons (.call "_law_take" (.cons (.var 0) (.cons (.blt .len (.cons (.ix (.var 1) (.c (.int 1))) .nil)) .nil)) []) .nil)))) (.cons (.asg (.nm 5) (.ife (.cmp .In (.var 4) (.ix (.var 2) (.var 3))) (.blt .tuple (.cons (.lc (.var 6) (.nm 6) (.ex (.ix (.var 2) (.var 3))) (.cons (.cmp .NotEq (.var 6) (.var 4)) .nil) [6]) .nil)) (.blt .tuple (.cons (.blt .sorted (.cons (.bin .Add (.ix (.var 2) (.var 3)) (.tup (.cons (.var 4) .nil))) .nil)) .nil)))) (.cons (.ret (.bin .Add (.bin .Add (.sl (.var 2) .none (.some (.var 3))) (.tup (.cons (.var 5) .nil))) (.sl (.var 2) (.some (.bin .Add (.var 3) (.c (.int 1)))) .none))) .nil)))
abbrev N_law_drawn_let : List Str := ["box", "world", "way", "let"]
def m_law_drawn_let : Ss := (.cons (.asg (.nm 2) (.call "_law_take" (.cons (.var 0) (.cons (.c (.int 5)) .nil)) [])) (.cons (.ifs (.cmp .Eq (.var 2) (.c (.int 0))) (.cons (.ret (.call "_law_some_let" (.cons (.var 0) (.cons (.var 1) (.cons (.bin .Add (.c (.int 1)) (.call "_law_take" (.cons (.var 0) (.cons (.c (.int 3)) .nil)) [])) .nil))) [])) .nil) .nil) (.cons (.ifs (.cmp .Eq (.var 2) (.c (.int 1))) (.cons (.ret (.ix (.var 1) (.c (.int 7)))) .nil) .nil) (.cons (.asg (.nm 3) (.ix (.call "_law_sure_let" (.cons (.var 0) (.cons (.var 1) .nil)) []) (.c (.int 0)))) (.cons (.ret (.ife (.cmp .Lt (.var 2) (.c (.int 4))) (.var 3) (.call "_law_near_let" (.cons (.var 0) (.cons (.var 1) (.cons (.var 3) .nil))) []))) .nil)))))
abbrev N_law_signed : List Str := ["box", "world", "rows", "board", "sees", "helper"]
def m_law_signed : Ss := (.cons (.asg (.nm 2) (.blt .tuple (.cons (.lc (.tup (.cons (.bin .Mod (.blt .int (.cons (.var 3) .nil)) (.c (.int 2))) (.cons (.bin .Mod (.blt .int (.cons (.bin .FloorDiv (.var 3) (.c (.int 2))) .nil)) (.c (.int 2))) (.cons (.var 3) .nil)))) (.nm 3) (.range (.cons (.blt .len (.cons (.ix (.var 1) (.c (.int 2))) .nil)) .nil)) .nil [3]) .nil))) (.cons (.asg (.nm 4) (.blt .tuple (.cons (.lc (.call "_law_pick" (.cons (.var 0) (.cons (.lst (.cons (.tup .nil) (.cons (.tup (.cons (.c (.int 0)) .nil)) (.cons (.tup (.cons (.c (.int 1)) .nil)) (.cons (.tup (.cons (.c (.int 0)) (.cons (.c (.int 1)) .nil))) (.cons (.tup (.cons (.c (.int 0)) (.cons (.c (.int 1)) .nil))) (.cons (.tup (.cons (.c (.int 2)) .nil)) (.cons (.tup (.cons (.c (.int 0)) (.cons (.c (.int 2)) .nil))) .nil)))))))) .nil)) []) (.nm 5) (.ex (.ix (.var 1) (.c (.int 6)))) .nil [5]) .nil))) (.cons (.ret (.bin .Add (.bin .Add (.sl (.var 1) .none (.some (.c (.int 5)))) (.tup (.cons (.var 2) (.cons (.var 4) .nil)))) (.sl (.var 1) (.some (.c (.int 7))) .none))) .nil)))
abbrev N_law_said : List Str := ["world", "board", "deed", "reg"]
def m_law_said : Ss := (.cons (.ret (.tup (.cons (.var 2) (.cons (.blt .tuple (.cons (.lc (.ix (.ix (.ix (.var 0) (.c (.int 5))) (.var 1)) (.var 3)) (.nm 3) (.ex (.ix (.ix (.var 0) (.c (.int 6))) (.ix (.ix (.var 0) (.c (.int 1))) (.var 2)))) .nil [3]) .nil)) .nil)))) .nil)
abbrev N_law_all_said : List Str := ["world", "let", "found", "board", "deed", "lot"]
def m_law_all_said : Ss := (.cons (.asg (.nm 2) (.dct .nil .nil)) (.cons (.fors (.nm 3) (.ex (.call "_law_far" (.cons (.var 0) (.cons (.var 1) (.cons (.c (.int 0)) .nil))) [])) (.cons (.ex (.mth .update (.var 2) (.cons (.lc (.tup (.cons (.call "_law_said" (.cons (.var 0) (.cons (.var 3) (.cons (.var 4) .nil))) []) (.cons (.c (.int 1)) .nil))) (.tp (.cons (.nm 4) (.cons (.nm 5) .nil))) (.ex (.call "_law_goes" (.cons (.var 0) (.cons (.var 1) (.cons (.var 3) .nil))) [])) .nil [4, 5]) .nil))) .nil)) (.cons (.ret (.blt .sorted (.cons (.var 2) .nil))) .nil)))
abbrev N_law_left_out : List Str := ["world", "let", "lot", "deed", "board", "deeds"]
def m_law_left_out : Ss := (.cons (.ret (.blt .tuple (.cons (.lc (.blt .tuple (.cons (.lc (.var 3) (.nm 3) (.ex (.var 5)) (.cons (.cmp .NotIn (.call "_law_said" (.cons (.var 0) (.cons (.var 4) (.cons (.var 3) .nil))) []) (.var 2)) .nil) [3]) .nil)) (.tp (.cons (.nm 4) (.cons (.nm 5) .nil))) (.enum (.var 1)) .nil [4, 5]) .nil))) .nil)
abbrev N_law_log_drawn : List Str := ["box", "world", "let", "many", "board", "found", "turn", "goes", "way", "some", "deed", "lot", "there"]
def m_law_log_drawn : Ss := (.cons (.asg (.tp (.cons (.nm 4) (.cons (.nm 5) .nil))) (.tup (.cons (.c (.int 0)) (.cons (.lst .nil) .nil)))) (.cons (.fors (.nm 6) (.range (.cons (.var 3) .nil)) (.cons (.asg (.nm 7) (.call "_law_goes" (.cons (.var 1) (.cons (.var 2) (.cons (.var 4) .nil))) [])) (.cons (.asg (.nm 8) (.call "_law_take" (.cons (.var 0) (.cons (.c (.int 8)) .nil)) [])) (.cons (.ifs (.bop false (.cons (.cmp .Eq (.var 7) (.lst .nil)) (.cons (.cmp .Eq (.var 8) (.c (.int 0))) .nil))) (.cons (.asg (.nm 9) (.lc (.var 10) (.tp (.cons (.nm 10) (.cons (.nm 11) .nil))) (.enum (.ix (.ix (.var 1) (.c (.int 2))) (.var 4))) (.cons (.cmp .IsNot (.var 11) (.c .non)) .nil) [10, 11])) (.cons (.asg (.nm 10) (.ife (.bop true (.cons (.cmp .NotEq (.var 9) (.lst .nil)) (.cons (.cmp .Gt (.var 8) (.c (.int 1))) .nil))) (.call "_law_pick" (.cons (.var 0) (.cons (.var 9) .nil)) []) (.call "_law_take" (.cons (.var 0) (.cons (.blt .len (.cons (.ix (.var 1) (.c (.int 1))) .nil)) .nil)) []))) (.cons (.asg (.nm 11) (.ix (.ix (.ix (.var 1) (.c (.int 2))) (.var 4)) (.var 10))) (.cons (.asg (.nm 12) (.ife (.bop true (.cons (.cmp .IsNot (.var 11) (.c .non)) (.cons (.cmp .Gt (.call "_law_take" (.cons (.var 0) (.cons (.c (.int 3)) .nil)) []) (.c (.int 0))) .nil))) (.call "_law_pick" (.cons (.var 0) (.cons (.var 11) .nil)) []) (.call "_law_take" (.cons (.var 0) (.cons (.blt .len (.cons (.ix (.var 1) (.c (.int 2))) .nil)) .nil)) []))) .nil)))) (.cons (.asg (.tp (.cons (.nm 10) (.cons (.nm 11) .nil))) (.call "_law_pick" (.cons (.var 0) (.cons (.var 7) .nil)) [])) (.cons (.asg (.nm 12) (.ife (.cmp .Gt (.var 8) (.c (.int 1))) (.call "_law_pick" (.cons (.var 0) (.cons (.var 11) .nil)) []) (.call "_law_take" (.cons (.var 0) (.cons (.blt .len (.cons (.ix (.var 1) (.c (.int 2))) .nil)) .nil)) []))) .nil))) (.cons (.ex (.mth .append (.var 5) (.cons (.tup (.cons (.var 10) (.cons (.var 12) .nil))) .nil))) (.cons (.asg (.nm 4) (.var 12)) (.cons (.ifs (.cmp .Eq (.call "_law_take" (.cons (.var 0) (.cons (.c (.int 9)) .nil)) []) (.c (.int 0))) (.cons .brk .nil) .nil) .nil))))))) (.cons (.ret (.blt .tuple (.cons (.var 5) .nil))) .nil)))
abbrev N_law_boards_along : List Str := ["log", "deed", "board"]
def m_law_boards_along : Ss := (.cons (.ret (.bin .Add (.lst (.cons (.c (.int 0)) .nil)) (.lc (.var 2) (.tp (.cons (.nm 1) (.cons (.nm 2) .nil))) (.ex (.var 0)) .nil [1, 2]))) .nil)
abbrev N_law_giver : List Str := []
def m_law_giver : Ss := (.cons (.ret (.tup (.cons (.c (.int 0)) (.cons (.tup (.cons (.c (.int 0)) (.cons (.c (.int 1)) .nil))) (.cons (.tup (.cons (.tup (.cons (.tup (.cons (.c (.int 1)) .nil)) (.cons (.tup (.cons (.c (.int 2)) .nil)) .nil))) (.cons (.tup (.cons (.c .non) (.cons (.c .non) .nil))) (.cons (.tup (.cons (.c .non) (.cons (.c .non) .nil))) .nil)))) (.cons (.tup (.cons (.c (.bl false)) (.cons (.c (.bl false)) (.cons (.c (.bl true)) .nil)))) (.cons (.tup (.cons (.c (.bl false)) (.cons (.c (.bl true)) (.cons (.c (.bl false)) .nil)))) (.cons (.tup (.cons (.tup (.cons (.c (.int 0)) .nil)) (.cons (.tup (.cons (.c (.int 1)) .nil)) (.cons (.tup (.cons (.c (.int 2)) .nil)) .nil)))) (.cons (.tup (.cons (.tup (.cons (.c (.int 0)) .nil)) (.cons (.tup .nil) .nil))) (.cons (.tup (.cons (.tup (.cons (.c (.int 0)) (.cons (.c (.int 1)) .nil))) (.cons (.tup .nil) (.cons (.tup .nil) .nil)))) .nil)))))))))) .nil)
abbrev N_law : List Str := ["script", "giver", "heard", "k", "box", "world", "turn", "let", "rows", "board", "deed", "some", "row", "lot", "log", "boards", "said", "place", "there"]
def m_law : Ss := (.cons (.asg (.nm 1) (.call "_law_giver" .nil [])) (.cons (.asg (.nm 2) (.tup (.cons (.call "sentences" (.cons (.var 1) (.cons (.ix (.var 1) (.c (.int 7))) .nil)) []) (.cons (.call "sentence_at" (.cons (.var 1) (.cons (.c (.int 2)) (.cons (.c (.int 1)) .nil))) []) (.cons (.call "sentence_at" (.cons (.var 1) (.cons (.c (.int 2)) (.cons (.c (.int 0)) .nil))) []) (.cons (.call "left_out" (.cons (.var 1) (.cons (.ix (.var 1) (.c (.int 7))) (.cons (.tup (.cons (.tup (.cons (.c (.int 1)) (.cons (.tup .nil) .nil))) .nil)) .nil))) []) (.cons (.call "said_in" (.cons (.var 1) (.cons (.tup (.cons (.tup (.cons (.c (.int 1)) (.cons (.c (.int 2)) .nil))) (.cons (.tup (.cons (.c (.int 0)) (.cons (.c (.int 1)) .nil))) .nil))) .nil)) []) (.cons (.call "sentences" (.cons (.var 1) (.cons (.tup (.cons (.tup .nil) (.cons (.tup (.cons (.c (.int 0)) .nil)) (.cons (.tup .nil) .nil)))) .nil)) []) .nil)))))))) (.cons (.ifs (.not (.call "_law_same" (.cons (.var 2) (.cons (.tup (.cons (.tup (.cons (.tup (.cons (.c (.int 0)) (.cons (.tup (.cons (.c (.int 0)) .nil)) .nil))) (.cons (.tup (.cons (.c (.int 1)) (.cons (.tup .nil) .nil))) .nil))) (.cons (.tup (.cons (.c (.int 1)) (.cons (.tup .nil) .nil))) (.cons (.tup (.cons (.c (.int 0)) (.cons (.tup (.cons (.c (.int 2)) .nil)) .nil))) (.cons (.tup (.cons (.tup (.cons (.c (.int 0)) .nil)) (.cons (.tup .nil) (.cons (.tup .nil) .nil)))) (.cons (.tup (.cons (.tup (.cons (.c (.int 0)) (.cons (.tup (.cons (.c (.int 2)) .nil)) .nil))) (.cons (.tup (.cons (.c (.int 1)) (.cons (.tup .nil) .nil))) .nil))) (.cons (.tup .nil) .nil))))))) .nil)) [])) (.cons (.ret (.c (.bl false))) .nil) .nil) (.cons (.fors (.nm 3) (.range (.cons (.blt .max (.cons (.c (.int 3)) (.cons (.blt .min (.cons (.blt .len (.cons (.var 0) .nil)) (.cons (.c (.int 7)) .nil))) .nil))) .nil)) (.cons (.asg (.nm 4) (.call "_law_box" (.cons (.var 0) (.cons (.var 3) .nil)) [])) (.cons (.asg (.nm 5) (.call "_law_signed" (.cons (.var 4) (.cons (.call "_law_turn_world" (.cons (.var 4) (.cons (.c (.int 9)) .nil)) []) .nil)) [])) (.cons (.fors (.nm 6) (.range (.cons (.c (.int 4)) .nil)) (.cons (.asg (.nm 7) (.call "_law_drawn_let" (.cons (.var 4) (.cons (.var 5) .nil)) [])) (.cons (.asg (.nm 8) (.call "_law_all_said" (.cons (.var 5) (.cons (.var 7) .nil)) [])) (.cons (.ifs (.not (.call "_law_same" (.cons (.call "sentences" (.cons (.var 5) (.cons (.var 7) .nil)) ["let"]) (.cons (.blt .tuple (.cons (.var 8) .nil)) .nil)) [])) (.cons (.ret (.c (.bl false))) .nil) .nil) (.cons (.fors (.nm 9) (.range (.cons (.blt .len (.cons (.ix (.var 5) (.c (.int 2))) .nil)) .nil)) (.cons (.fors (.nm 10) (.range (.cons (.blt .len (.cons (.ix (.var 5) (.c (.int 1))) .nil)) .nil)) (.cons (.ifs (.not (.call "_law_same" (.cons (.call "sentence_at" (.cons (.var 5) (.cons (.var 9) (.cons (.var 10) .nil))) ["deed"]) (.cons (.call "_law_said" (.cons (.var 5) (.cons (.var 9) (.cons (.var 10) .nil))) []) .nil)) [])) (.cons (.ret (.c (.bl false))) .nil) .nil) .nil)) .nil)) (.cons (.asg (.nm 11) (.bin .Add (.lc (.var 12) (.nm 12) (.ex (.var 8)) (.cons (.cmp .Eq (.call "_law_take" (.cons (.var 4) (.cons (.c (.int 3)) .nil)) []) (.c (.int 0))) .nil) [12]) (.lst (.cons (.call "_law_said" (.cons (.var 5) (.cons (.call "_law_take" (.cons (.var 4) (.cons (.blt .len (.cons (.ix (.var 5) (.c (.int 2))) .nil)) .nil)) []) (.cons (.call "_law_take" (.cons (.var 4) (.cons (.blt .len (.cons (.ix (.var 5) (.c (.int 1))) .nil)) .nil)) []) .nil))) []) .nil)))) (.cons (.asg (.nm 13) (.blt .tuple (.cons (.blt .sorted (.cons (.blt .dict (.cons (.lc (.tup (.cons (.var 12) (.cons (.c (.int 1)) .nil))) (.nm 12) (.ex (.var 11)) .nil [12]) .nil)) .nil)) .nil))) (.cons (.ifs (.not (.call "_law_same" (.cons (.call "left_out" (.cons (.var 5) (.cons (.var 7) (.cons (.var 13) .nil))) ["lot"]) (.cons (.call "_law_left_out" (.cons (.var 5) (.cons (.var 7) (.cons (.var 13) .nil))) []) .nil)) [])) (.cons (.ret (.c (.bl false))) .nil) .nil) (.cons (.asg (.nm 14) (.call "_law_log_drawn" (.cons (.var 4) (.cons (.var 5) (.cons (.var 7) (.cons (.bin .Add (.c (.int 1)) (.call "_law_take" (.cons (.var 4) (.cons (.c (.int 12)) .nil)) [])) .nil)))) [])) (.cons (.asg (.nm 15) (.call "_law_boards_along" (.cons (.var 14) .nil) [])) (.cons (.asg (.nm 16) (.blt .sorted (.cons (.blt .dict (.cons (.lc (.tup (.cons (.call "_law_said" (.cons (.var 5) (.cons (.ix (.var 15) (.var 17)) (.cons (.var 10) .nil))) []) (.cons (.c (.int 1)) .nil))) (.tp (.cons (.nm 17) (.cons (.tp (.cons (.nm 10) (.cons (.nm 18) .nil))) .nil))) (.enum (.var 14)) .nil [17, 10, 18]) .nil)) .nil))) (.cons (.ifs (.not (.call "_law_same" (.cons (.call "said_in" (.cons (.var 5) (.cons (.var 14) .nil)) ["log"]) (.cons (.blt .tuple (.cons (.var 16) .nil)) .nil)) [])) (.cons (.ret (.c (.bl false))) .nil) .nil) .nil)))))))))))) .nil)))) (.cons (.ret (.c (.bl true))) .nil)))))
abbrev N_is_end : List Str := ["world", "board"]
def m_is_end : Ss := (.cons (.ret (.bop true (.cons (.ix (.ix (.var 0) (.c (.int 4))) (.var 1)) (.cons (.not (.ix (.ix (.var 0) (.c (.int 3))) (.var 1))) .nil)))) .nil)
abbrev N_ranks_from : List Str := ["world", "let", "board", "found", "left", "is_more", "later", "here", "lots", "deed", "there", "lot"]
def m_ranks_from : Ss := (.cons (.asg (.tp (.cons (.nm 3) (.cons (.nm 4) (.cons (.nm 5) .nil)))) (.tup (.cons (.dct .nil .nil) (.cons (.blt .list (.cons (.call "rows_from" (.cons (.var 0) (.cons (.var 1) (.cons (.var 2) .nil))) []) .nil)) (.cons (.c (.bl true)) .nil))))) (.cons (.whiles (.var 5) (.cons (.asg (.nm 6) (.dct .nil .nil)) (.cons (.fors (.nm 7) (.ex (.var 4)) (.cons (.asg (.nm 8) (.lc (.ix (.ix (.ix (.var 0) (.c (.int 2))) (.var 7)) (.var 9)) (.nm 9) (.ex (.call "let_deeds" (.cons (.var 0) (.cons (.var 1) (.cons (.var 7) .nil))) [])) .nil [9])) (.cons (.ifs (.call "is_end" (.cons (.var 0) (.cons (.var 7) .nil)) []) (.cons (.sub (.var 6) (.var 7) (.c (.int 0))) .nil) (.cons (.ifs (.bop true (.cons (.not (.ix (.ix (.var 0) (.c (.int 3))) (.var 7))) (.cons (.cmp .Gt (.blt .len (.cons (.var 8) .nil)) (.c (.int 0))) (.cons (.blt .all (.cons (.lc (.blt .all (.cons (.lc (.cmp .In (.var 10) (.var 3)) (.nm 10) (.ex (.var 11)) .nil [10]) .nil)) (.nm 11) (.ex (.var 8)) .nil [11]) .nil)) .nil)))) (.cons (.sub (.var 6) (.var 7) (.bin .Add (.c (.int 1)) (.blt .max (.cons (.lc (.blt .max (.cons (.lc (.ix (.var 3) (.var 10)) (.nm 10) (.ex (.var 11)) .nil [10]) .nil)) (.nm 11) (.ex (.var 8)) .nil [11]) .nil)))) .nil) .nil) .nil)) .nil))) (.cons (.ex (.mth .update (.var 3) (.cons (.var 6) .nil))) (.cons (.asg (.nm 4) (.lc (.var 7) (.nm 7) (.ex (.var 4)) (.cons (.cmp .NotIn (.var 7) (.var 6)) .nil) [7])) (.cons (.asg (.nm 5) (.cmp .Gt (.blt .len (.cons (.var 6) .nil)) (.c (.int 0)))) .nil)))))) (.cons (.ret (.var 3)) .nil)))
abbrev N_led : List Str := ["world", "let", "board"]
def m_led : Ss := (.cons (.ret (.cmp .In (.var 2) (.call "ranks_from" (.cons (.var 0) (.cons (.var 1) (.cons (.var 2) .nil))) []))) .nil)
abbrev N_worths : List Str := ["world", "found", "turn", "is_more", "board", "later", "moves", "lots", "lot", "there"]
def m_worths : Ss := (.cons (.asg (.tp (.cons (.nm 1) (.cons (.nm 2) (.cons (.nm 3) .nil)))) (.tup (.cons (.dc (.var 4) (.c (.int 0)) (.nm 4) (.range (.cons (.blt .len (.cons (.ix (.var 0) (.c (.int 2))) .nil)) .nil)) (.cons (.call "is_end" (.cons (.var 0) (.cons (.var 4) .nil)) []) .nil) [4]) (.cons (.c (.int 0)) (.cons (.c (.bl true)) .nil))))) (.cons (.whiles (.var 3) (.cons (.aug 2 .Add (.c (.int 1))) (.cons (.asg (.nm 5) (.lst .nil)) (.cons (.fors (.tp (.cons (.nm 4) (.cons (.nm 6) .nil))) (.enum (.ix (.var 0) (.c (.int 2)))) (.cons (.asg (.nm 7) (.lc (.var 8) (.nm 8) (.ex (.var 6)) (.cons (.bop true (.cons (.cmp .IsNot (.var 8) (.c .non)) (.cons (.blt .all (.cons (.lc (.cmp .In (.var 9) (.var 1)) (.nm 9) (.ex (.var 8)) .nil [9]) .nil)) .nil))) .nil) [8])) (.cons (.ifs (.bop true (.cons (.cmp .NotIn (.var 4) (.var 1)) (.cons (.cmp .Gt (.blt .len (.cons (.var 7) .nil)) (.c (.int 0))) .nil))) (.cons (.ex (.mth .append (.var 5) (.cons (.var 4) .nil))) .nil) .nil) .nil))) (.cons (.ex (.mth .update (.var 1) (.cons (.dc (.var 4) (.var 2) (.nm 4) (.ex (.var 5)) .nil [4]) .nil))) (.cons (.asg (.nm 3) (.cmp .Gt (.blt .len (.cons (.var 5) .nil)) (.c (.int 0)))) .nil)))))) (.cons (.ret (.blt .tuple (.cons (.lc (.mth .get (.var 1) (.cons (.var 4) .nil)) (.nm 4) (.range (.cons (.blt .len (.cons (.ix (.var 0) (.c (.int 2))) .nil)) .nil)) .nil [4]) .nil))) .nil)))
abbrev N_move_worth : List Str := ["worths", "lot", "some", "there"]
def m_move_worth : Ss := (.cons (.asg (.nm 2) (.lc (.ix (.var 0) (.var 3)) (.nm 3) (.ex (.var 1)) .nil [3])) (.cons (.ret (.ife (.cmp .In (.c .non) (.var 2)) (.c .non) (.bin .Add (.c (.int 1)) (.blt .max (.cons (.var 2) .nil))))) .nil))
abbrev N_moves_since : List Str := ["world", "told", "rows", "moves", "lot"]
def m_moves_since : Ss := (.cons (.asg (.tp (.cons (.nm 1) (.cons (.nm 2) .nil))) (.tup (.cons (.call "worths" (.cons (.var 0) .nil) []) (.cons (.lst .nil) .nil)))) (.cons (.fors (.nm 3) (.ex (.ix (.var 0) (.c (.int 2)))) (.cons (.ex (.mth .append (.var 2) (.cons (.blt .tuple (.cons (.lc (.ife (.cmp .Is (.var 4) (.c .non)) (.c .non) (.call "move_worth" (.cons (.var 1) (.cons (.var 4) .nil)) [])) (.nm 4) (.ex (.var 3)) .nil [4]) .nil)) .nil))) .nil)) (.cons (.ret (.blt .tuple (.cons (.var 2) .nil))) .nil)))
abbrev N_first_deeds : List Str := ["world", "board", "told", "row", "deed", "one"]
def m_first_deeds : Ss := (.cons (.asg (.tp (.cons (.nm 2) (.cons (.nm 3) .nil))) (.tup (.cons (.ix (.call "worths" (.cons (.var 0) .nil) []) (.var 1)) (.cons (.ix (.call "moves_since" (.cons (.var 0) .nil) []) (.var 1)) .nil)))) (.cons (.ret (.blt .tuple (.cons (.lc (.var 4) (.tp (.cons (.nm 4) (.cons (.nm 5) .nil))) (.enum (.var 3)) (.cons (.bop true (.cons (.cmp .IsNot (.var 2) (.c .non)) (.cons (.cmp .IsNot (.var 5) (.c .non)) (.cons (.cmp .LtE (.var 5) (.var 2)) .nil)))) .nil) [4, 5]) .nil))) .nil))
abbrev N_hopes : List Str := ["world", "let", "log", "told", "board"]
def m_hopes : Ss := (.cons (.asg (.nm 3) (.call "worths" (.cons (.var 0) .nil) [])) (.cons (.ret (.blt .tuple (.cons (.lc (.tup (.cons (.cmp .IsNot (.ix (.var 3) (.var 4)) (.c .non)) (.cons (.call "led" (.cons (.var 0) (.cons (.var 1) (.cons (.var 4) .nil))) []) .nil))) (.nm 4) (.ex (.call "along" (.cons (.var 2) .nil) [])) .nil [4]) .nil))) .nil))
abbrev N_law_most : List Str := ["world", "let", "board", "here", "most", "one", "turn", "later", "there", "deed", "lot"]
def m_law_most : Ss := (.cons (.asg (.nm 3) (.blt .sorted (.cons (.call "_law_far" (.cons (.var 0) (.cons (.var 1) (.cons (.var 2) .nil))) []) .nil))) (.cons (.asg (.nm 4) (.blt .dict (.cons (.lc (.tup (.cons (.var 5) (.cons (.c (.int 0)) .nil))) (.nm 5) (.ex (.var 3)) .nil [5]) .nil))) (.cons (.fors (.nm 6) (.range (.cons (.blt .len (.cons (.ix (.var 0) (.c (.int 2))) .nil)) .nil)) (.cons (.asg (.nm 7) (.dct .nil .nil)) (.cons (.fors (.nm 5) (.ex (.var 3)) (.cons (.sub (.var 7) (.var 5) (.blt .max (.cons (.bin .Add (.lst (.cons (.c (.int 0)) .nil)) (.lc (.bin .Add (.c (.int 1)) (.blt .max (.cons (.lc (.ix (.var 4) (.var 8)) (.nm 8) (.ex (.var 10)) .nil [8]) .nil))) (.tp (.cons (.nm 9) (.cons (.nm 10) .nil))) (.ex (.call "_law_goes" (.cons (.var 0) (.cons (.var 1) (.cons (.var 5) .nil))) [])) .nil [9, 10])) .nil))) .nil)) (.cons (.asg (.nm 4) (.var 7)) .nil)))) (.cons (.ret (.var 4)) .nil))))
abbrev N_law_is_stuck : List Str := ["world", "let", "board"]
def m_law_is_stuck : Ss := (.cons (.ret (.bop true (.cons (.not (.ix (.ix (.var 0) (.c (.int 4))) (.var 2))) (.cons (.not (.ix (.ix (.var 0) (.c (.int 3))) (.var 2))) (.cons (.cmp .Eq (.call "_law_goes" (.cons (.var 0) (.cons (.var 1) (.cons (.var 2) .nil))) []) (.lst .nil)) .nil))))) .nil)
abbrev N_law_kind : List Str := ["world", "let", "board", "most", "here"]
def m_law_kind : Ss := (.cons (.asg (.nm 3) (.call "_law_most" (.cons (.var 0) (.cons (.var 1) (.cons (.var 2) .nil))) [])) (.cons (.ifs (.cmp .NotEq (.lc (.c (.int 1)) (.nm 4) (.ex (.var 3)) (.cons (.ix (.ix (.var 0) (.c (.int 3))) (.var 4)) .nil) [4]) (.lst .nil)) (.cons (.ret (.c (.str "never"))) .nil) .nil) (.cons (.ifs (.cmp .NotEq (.lc (.c (.int 1)) (.nm 4) (.ex (.var 3)) (.cons (.call "_law_is_stuck" (.cons (.var 0) (.cons (.var 1) (.cons (.var 4) .nil))) []) .nil) [4]) (.lst .nil)) (.cons (.ret (.c (.str "stuck"))) .nil) .nil) (.cons (.ret (.ife (.cmp .Eq (.ix (.var 3) (.var 2)) (.blt .len (.cons (.ix (.var 0) (.c (.int 2))) .nil))) (.c (.str "ring")) (.c (.str "ranks")))) .nil))))
abbrev N_law_good_world : List Str := ["box", "most", "turn", "world", "let", "here"]
def m_law_good_world : Ss := (.cons (.fors (.nm 2) (.range (.cons (.c (.int 12)) .nil)) (.cons (.asg (.nm 3) (.call "_law_turn_world" (.cons (.var 0) (.cons (.var 1) .nil)) [])) (.cons (.asg (.tp (.cons (.nm 4) (.cons (.nm 5) .nil))) (.call "_law_sure_let" (.cons (.var 0) (.cons (.var 3) .nil)) [])) (.cons (.ifs (.cmp .In (.c (.int 0)) (.var 5)) (.cons (.ret (.tup (.cons (.var 3) (.cons (.var 4) .nil)))) .nil) .nil) .nil)))) (.cons (.ret (.tup (.cons (.call "_law_fork" .nil []) (.cons (.tup (.cons (.tup (.cons (.c (.int 1)) .nil)) (.cons (.tup .nil) (.cons (.tup .nil) (.cons (.tup .nil) .nil))))) .nil)))) .nil))
abbrev N_law_made : List Str := ["whose", "moves", "done", "helpers", "lets", "deed", "lot", "row", "ends", "board"]
def m_law_made : Ss := (.cons (.asg (.nm 4) (.blt .tuple (.cons (.lc (.blt .tuple (.cons (.lc (.var 5) (.tp (.cons (.nm 5) (.cons (.nm 6) .nil))) (.enum (.var 7)) (.cons (.cmp .IsNot (.var 6) (.c .non)) .nil) [5, 6]) .nil)) (.nm 7) (.ex (.var 1)) .nil [7]) .nil))) (.cons (.asg (.nm 8) (.blt .tuple (.cons (.lc (.cmp .In (.var 9) (.var 2)) (.nm 9) (.range (.cons (.blt .len (.cons (.var 1) .nil)) .nil)) .nil [9]) .nil))) (.cons (.ret (.tup (.cons (.c (.int 0)) (.cons (.var 0) (.cons (.var 1) (.cons (.bin .Mult (.tup (.cons (.c (.bl false)) .nil)) (.blt .len (.cons (.var 1) .nil))) (.cons (.var 8) (.cons (.blt .tuple (.cons (.lc (.tup (.cons (.var 9) .nil)) (.nm 9) (.range (.cons (.blt .len (.cons (.var 1) .nil)) .nil)) .nil [9]) .nil)) (.cons (.bin .Mult (.tup (.cons (.tup .nil) .nil)) (.var 3)) (.cons (.var 4) .nil)))))))))) .nil)))
abbrev N_law_fork : List Str := []
def m_law_fork : Ss := (.cons (.ret (.call "_law_made" (.cons (.tup (.cons (.c (.int 0)) (.cons (.c (.int 1)) .nil))) (.cons (.tup (.cons (.tup (.cons (.tup (.cons (.c (.int 1)) .nil)) (.cons (.tup (.cons (.c (.int 3)) .nil)) .nil))) (.cons (.tup (.cons (.tup (.cons (.c (.int 2)) .nil)) (.cons (.c .non) .nil))) (.cons (.tup (.cons (.tup (.cons (.c (.int 1)) .nil)) (.cons (.c .non) .nil))) (.cons (.tup (.cons (.c .non) (.cons (.c .non) .nil))) .nil))))) (.cons (.tup (.cons (.c (.int 3)) .nil)) (.cons (.c (.int 2)) .nil)))) [])) .nil)
abbrev N_law_hope : List Str := ["world", "here", "board", "turn", "later", "lot", "there"]
def m_law_hope : Ss := (.cons (.asg (.nm 1) (.lc (.var 2) (.nm 2) (.range (.cons (.blt .len (.cons (.ix (.var 0) (.c (.int 2))) .nil)) .nil)) (.cons (.call "_law_is_end" (.cons (.var 0) (.cons (.var 2) .nil)) []) .nil) [2])) (.cons (.fors (.nm 3) (.range (.cons (.blt .len (.cons (.ix (.var 0) (.c (.int 2))) .nil)) .nil)) (.cons (.asg (.nm 4) (.lst .nil)) (.cons (.fors (.nm 2) (.ex (.lc (.var 2) (.nm 2) (.range (.cons (.blt .len (.cons (.ix (.var 0) (.c (.int 2))) .nil)) .nil)) (.cons (.cmp .NotIn (.var 2) (.var 1)) .nil) [2])) (.cons (.ifs (.cmp .NotEq (.lc (.c (.int 1)) (.nm 5) (.ex (.ix (.ix (.var 0) (.c (.int 2))) (.var 2))) (.cons (.bop true (.cons (.cmp .IsNot (.var 5) (.c .non)) (.cons (.cmp .Eq (.lc (.c (.int 1)) (.nm 6) (.ex (.var 5)) (.cons (.cmp .NotIn (.var 6) (.var 1)) .nil) [6]) (.lst .nil)) .nil))) .nil) [5]) (.lst .nil)) (.cons (.ex (.mth .append (.var 4) (.cons (.var 2) .nil))) .nil) .nil) .nil)) (.cons (.asg (.nm 1) (.bin .Add (.var 1) (.var 4))) .nil)))) (.cons (.ret (.var 1)) .nil)))
abbrev N_law_keeping_log : List Str := ["box", "world", "many", "board", "found", "turn", "deeds", "deed"]
def m_law_keeping_log : Ss := (.cons (.asg (.tp (.cons (.nm 3) (.cons (.nm 4) .nil))) (.tup (.cons (.c (.int 0)) (.cons (.lst .nil) .nil)))) (.cons (.fors (.nm 5) (.range (.cons (.var 2) .nil)) (.cons (.asg (.nm 6) (.call "first_deeds" (.cons (.var 1) (.cons (.var 3) .nil)) [])) (.cons (.ifs (.cmp .Eq (.var 6) (.tup .nil)) (.cons .brk .nil) .nil) (.cons (.asg (.nm 7) (.call "_law_pick" (.cons (.var 0) (.cons (.var 6) .nil)) [])) (.cons (.asg (.nm 3) (.call "_law_pick" (.cons (.var 0) (.cons (.ix (.ix (.ix (.var 1) (.c (.int 2))) (.var 3)) (.var 7)) .nil)) [])) (.cons (.ex (.mth .append (.var 4) (.cons (.tup (.cons (.var 7) (.cons (.var 3) .nil))) .nil))) .nil)))))) (.cons (.ret (.blt .tuple (.cons (.var 4) .nil))) .nil)))
abbrev N_law_k73 : List Str := ["script", "giver", "fork", "heard", "lost", "due", "k", "box", "world", "sure", "here", "board", "worth", "let", "turn", "log", "boards", "rows", "place", "lot"]
def m_law_k73 : Ss := (.cons (.asg (.tp (.cons (.nm 1) (.cons (.nm 2) .nil))) (.tup (.cons (.call "_law_giver" .nil []) (.cons (.call "_law_fork" .nil []) .nil)))) (.cons (.asg (.nm 3) (.tup (.cons (.call "hopes" (.cons (.var 1) (.cons (.ix (.var 1) (.c (.int 7))) (.cons (.tup (.cons (.tup (.cons (.c (.int 1)) (.cons (.c (.int 2)) .nil))) .nil)) .nil))) []) (.cons (.call "lost_by" (.cons (.var 1) (.cons (.tup (.cons (.tup (.cons (.c (.int 1)) (.cons (.c (.int 2)) .nil))) .nil)) .nil)) []) (.cons (.call "lost_by" (.cons (.var 1) (.cons (.tup (.cons (.tup (.cons (.c (.int 0)) (.cons (.c (.int 2)) .nil))) .nil)) .nil)) []) (.cons (.call "lost_by" (.cons (.var 1) (.cons (.tup (.cons (.tup (.cons (.c (.int 0)) (.cons (.c (.int 1)) .nil))) .nil)) .nil)) []) (.cons (.call "hopes" (.cons (.var 1) (.cons (.tup (.cons (.tup (.cons (.c (.int 0)) .nil)) (.cons (.tup .nil) (.cons (.tup .nil) .nil)))) (.cons (.tup .nil) .nil))) []) .nil))))))) (.cons (.asg (.nm 4) (.bin .Add (.bin .Add (.sl (.var 2) .none (.some (.c (.int 3)))) (.tup (.cons (.tup (.cons (.c (.bl false)) (.cons (.c (.bl false)) (.cons (.c (.bl false)) (.cons (.c (.bl true)) .nil))))) .nil))) (.sl (.var 2) (.some (.c (.int 4))) .none))) (.cons (.asg (.nm 3) (.bin .Add (.var 3) (.tup (.cons (.call "hopes" (.cons (.var 2) (.cons (.ix (.var 2) (.c (.int 7))) (.cons (.tup (.cons (.tup (.cons (.c (.int 0)) (.cons (.c (.int 1)) .nil))) (.cons (.tup (.cons (.c (.int 0)) (.cons (.c (.int 2)) .nil))) .nil))) .nil))) []) (.cons (.call "lost_by" (.cons (.var 2) (.cons (.tup (.cons (.tup (.cons (.c (.int 0)) (.cons (.c (.int 1)) .nil))) (.cons (.tup (.cons (.c (.int 0)) (.cons (.c (.int 2)) .nil))) .nil))) .nil)) []) (.cons (.call "lost_by" (.cons (.var 4) (.cons (.tup (.cons (.tup (.cons (.c (.int 0)) (.cons (.c (.int 1)) .nil))) (.cons (.tup (.cons (.c (.int 0)) (.cons (.c (.int 2)) .nil))) .nil))) .nil)) []) .nil)))))) (.cons (.asg (.nm 5) (.tup (.cons (.tup (.cons (.tup (.cons (.c (.bl true)) (.cons (.c (.bl false)) .nil))) (.cons (.tup (.cons (.c (.bl false)) (.cons (.c (.bl false)) .nil))) .nil))) (.cons (.tup (.cons (.c (.int 0)) (.cons (.c (.int 1)) .nil))) (.cons (.tup (.cons (.c (.int 0)) (.cons (.bin .Sub (.c (.int 0)) (.c (.int 1))) .nil))) (.cons (.c .non) (.cons (.tup (.cons (.tup (.cons (.c (.bl true)) (.cons (.c (.bl true)) .nil))) .nil)) (.cons (.tup (.cons (.tup (.cons (.c (.bl true)) (.cons (.c (.bl false)) .nil))) (.cons (.tup (.cons (.c (.bl false)) (.cons (.c (.bl false)) .nil))) (.cons (.tup (.cons (.c (.bl false)) (.cons (.c (.bl false)) .nil))) .nil)))) (.cons (.tup (.cons (.c (.int 0)) (.cons (.c (.int 0)) .nil))) (.cons (.c .non) .nil)))))))))) (.cons (.ifs (.not (.call "_law_same" (.cons (.var 3) (.cons (.var 5) .nil)) [])) (.cons (.ret (.c (.bl false))) .nil) .nil) (.cons (.fors (.nm 6) (.range (.cons (.blt .max (.cons (.c (.int 3)) (.cons (.blt .min (.cons (.blt .len (.cons (.var 0) .nil)) (.cons (.c (.int 7)) .nil))) .nil))) .nil)) (.cons (.asg (.nm 7) (.call "_law_box" (.cons (.var 0) (.cons (.var 6) .nil)) [])) (.cons (.asg (.tp (.cons (.nm 8) (.cons (.nm 9) .nil))) (.call "_law_good_world" (.cons (.var 7) (.cons (.c (.int 9)) .nil)) [])) (.cons (.asg (.nm 10) (.call "_law_hope" (.cons (.var 8) .nil) [])) (.cons (.ifs (.cmp .NotEq (.lc (.c (.int 1)) (.tp (.cons (.nm 11) (.cons (.nm 12) .nil))) (.enum (.call "worths" (.cons (.var 8) .nil) [])) (.cons (.cmp .NotEq (.cmp .IsNot (.var 12) (.c .non)) (.cmp .In (.var 11) (.var 10))) .nil) [11, 12]) (.lst .nil)) (.cons (.ret (.c (.bl false))) .nil) .nil) (.cons (.fors (.nm 13) (.ex (.lst (.cons (.var 9) (.cons (.call "_law_near_let" (.cons (.var 7) (.cons (.var 8) (.cons (.var 9) .nil))) []) (.cons (.call "_law_drawn_let" (.cons (.var 7) (.cons (.var 8) .nil)) []) .nil))))) (.cons (.fors (.nm 14) (.range (.cons (.c (.int 3)) .nil)) (.cons (.asg (.nm 15) (.call "_law_log_drawn" (.cons (.var 7) (.cons (.var 8) (.cons (.var 13) (.cons (.bin .Add (.c (.int 1)) (.call "_law_take" (.cons (.var 7) (.cons (.c (.int 12)) .nil)) [])) .nil)))) [])) (.cons (.asg (.tp (.cons (.nm 16) (.cons (.nm 4) .nil))) (.tup (.cons (.call "_law_boards_along" (.cons (.var 15) .nil) []) (.cons (.c .non) .nil)))) (.cons (.asg (.nm 17) (.blt .tuple (.cons (.lc (.tup (.cons (.cmp .In (.var 11) (.var 10)) (.cons (.cmp .Eq (.call "_law_kind" (.cons (.var 8) (.cons (.var 13) (.cons (.var 11) .nil))) []) (.c (.str "ranks"))) .nil))) (.nm 11) (.ex (.var 16)) .nil [11]) .nil))) (.cons (.fors (.nm 18) (.range (.cons (.blt .len (.cons (.var 15) .nil)) .nil)) (.cons (.ifs (.bop true (.cons (.cmp .Is (.var 4) (.c .non)) (.cons (.cmp .In (.ix (.var 16) (.var 18)) (.var 10)) (.cons (.cmp .NotIn (.ix (.var 16) (.bin .Add (.var 18) (.c (.int 1)))) (.var 10)) .nil)))) (.cons (.asg (.nm 19) (.ix (.ix (.ix (.var 8) (.c (.int 2))) (.ix (.var 16) (.var 18))) (.ix (.ix (.var 15) (.var 18)) (.c (.int 0))))) (.cons (.asg (.nm 4) (.tup (.cons (.var 18) (.cons (.ife (.bop true (.cons (.cmp .IsNot (.var 19) (.c .non)) (.cons (.cmp .NotIn (.ix (.var 16) (.bin .Add (.var 18) (.c (.int 1)))) (.var 19)) .nil))) (.bin .Sub (.c (.int 0)) (.c (.int 1))) (.ix (.ix (.var 8) (.c (.int 1))) (.ix (.ix (.var 15) (.var 18)) (.c (.int 0))))) .nil)))) .nil)) .nil) .nil)) (.cons (.ifs (.not (.call "_law_same" (.cons (.tup (.cons (.call "hopes" (.cons (.var 8) (.cons (.var 13) (.cons (.var 15) .nil))) ["log"]) (.cons (.call "lost_by" (.cons (.var 8) (.cons (.var 15) .nil)) ["log"]) .nil))) (.cons (.tup (.cons (.var 17) (.cons (.var 4) .nil))) .nil)) [])) (.cons (.ret (.c (.bl false))) .nil) .nil) .nil)))))) .nil)) (.cons (.asg (.nm 15) (.call "_law_keeping_log" (.cons (.var 7) (.cons (.var 8) (.cons (.c (.int 12)) .nil))) [])) (.cons (.ifs (.bop false (.cons (.cmp .IsNot (.call "lost_by" (.cons (.var 8) (.cons (.var 15) .nil)) []) (.c .non)) (.cons (.bop true (.cons (.cmp .In (.c (.int 0)) (.var 10)) (.cons (.not (.ix (.ix (.var 8) (.c (.int 4))) (.ix (.call "_law_boards_along" (.cons (.var 15) .nil) []) (.neg (.c (.int 1)))))) .nil))) .nil))) (.cons (.ret (.c (.bl false))) .nil) .nil) .nil)))))))) (.cons (.ret (.c (.bl true))) .nil))))))))
abbrev N_is_stuck : List Str := ["world", "let", "board"]
def m_is_stuck : Ss := (.cons (.ret (.bop true (.cons (.not (.ix (.ix (.var 0) (.c (.int 4))) (.var 2))) (.cons (.not (.ix (.ix (.var 0) (.c (.int 3))) (.var 2))) (.cons (.cmp .Eq (.blt .len (.cons (.call "let_deeds" (.cons (.var 0) (.cons (.var 1) (.cons (.var 2) .nil))) []) .nil)) (.c (.int 0))) .nil))))) .nil)
abbrev N_breach_at : List Str := ["world", "let", "board", "entry", "deed", "there", "lot"]
def m_breach_at : Ss := (.cons (.asg (.tp (.cons (.nm 4) (.cons (.nm 5) .nil))) (.var 3)) (.cons (.asg (.nm 6) (.ix (.ix (.ix (.var 0) (.c (.int 2))) (.var 2)) (.var 4))) (.cons (.ifs (.cmp .Is (.var 6) (.c .non)) (.cons (.ret (.tup (.cons (.glob "CANNOT") (.cons (.ix (.ix (.var 0) (.c (.int 1))) (.var 4)) .nil)))) .nil) .nil) (.cons (.ifs (.cmp .NotIn (.var 4) (.ix (.var 1) (.var 2))) (.cons (.ret (.tup (.cons (.glob "LET") (.cons (.ix (.ix (.var 0) (.c (.int 1))) (.var 4)) .nil)))) .nil) .nil) (.cons (.ret (.ife (.cmp .In (.var 5) (.var 6)) (.c .non) (.tup (.cons (.glob "ANSWER") (.cons (.glob "OTHERS") .nil))))) .nil)))))
abbrev N_let_with : List Str := ["world", "let", "entry", "word", "deed", "sign", "rows", "board", "lot", "is_here", "less", "one", "can_be"]
def m_let_with : Ss := (.cons (.ifs (.cmp .NotIn (.ix (.var 2) (.c (.int 0))) (.tup (.cons (.c (.str "let")) (.cons (.c (.str "barred")) .nil)))) (.cons (.ret (.var 1)) .nil) .nil) (.cons (.asg (.tp (.cons (.nm 3) (.cons (.nm 4) (.cons (.nm 5) .nil)))) (.var 2)) (.cons (.asg (.nm 6) (.lst .nil)) (.cons (.fors (.tp (.cons (.nm 7) (.cons (.nm 8) .nil))) (.enum (.var 1)) (.cons (.asg (.nm 9) (.cmp .Eq (.call "sentence_at" (.cons (.var 0) (.cons (.var 7) (.cons (.var 4) .nil))) []) (.tup (.cons (.var 4) (.cons (.var 5) .nil))))) (.cons (.asg (.nm 10) (.ife (.var 9) (.lc (.var 11) (.nm 11) (.ex (.var 8)) (.cons (.cmp .NotEq (.var 11) (.var 4)) .nil) [11]) (.blt .list (.cons (.var 8) .nil)))) (.cons (.asg (.nm 12) (.bop true (.cons (.cmp .Eq (.var 3) (.c (.str "let"))) (.cons (.var 9) (.cons (.cmp .IsNot (.ix (.ix (.ix (.var 0) (.c (.int 2))) (.var 7)) (.var 4)) (.c .non)) .nil))))) (.cons (.ex (.mth .append (.var 6) (.cons (.ife (.var 12) (.blt .tuple (.cons (.blt .sorted (.cons (.bin .Add (.var 10) (.lst (.cons (.var 4) .nil))) .nil)) .nil)) (.blt .tuple (.cons (.var 10) .nil))) .nil))) .nil))))) (.cons (.ret (.blt .tuple (.cons (.var 6) .nil))) .nil)))))
abbrev N_lets_along : List Str := ["world", "entries", "found", "entry"]
def m_lets_along : Ss := (.cons (.asg (.nm 2) (.lst (.cons (.ix (.var 0) (.c (.int 7))) .nil))) (.cons (.fors (.nm 3) (.ex (.var 1)) (.cons (.ex (.mth .append (.var 2) (.cons (.call "let_with" (.cons (.var 0) (.cons (.ix (.var 2) (.neg (.c (.int 1)))) (.cons (.var 3) .nil))) []) .nil))) .nil)) (.cons (.ret (.blt .tuple (.cons (.var 2) .nil))) .nil)))
abbrev N_let_now : List Str := ["world", "entries"]
def m_let_now : Ss := (.cons (.ret (.ix (.call "lets_along" (.cons (.var 0) (.cons (.var 1) .nil)) []) (.neg (.c (.int 1))))) .nil)
abbrev N_deeds_in : List Str := ["entries", "entry"]
def m_deeds_in : Ss := (.cons (.ret (.blt .tuple (.cons (.lc (.sl (.var 1) (.some (.c (.int 1))) .none) (.nm 1) (.ex (.var 0)) (.cons (.cmp .Eq (.ix (.var 1) (.c (.int 0))) (.glob "DID")) .nil) [1]) .nil))) .nil)
abbrev N_board_now : List Str := ["entries"]
def m_board_now : Ss := (.cons (.ret (.ix (.call "along" (.cons (.call "deeds_in" (.cons (.var 0) .nil) []) .nil) []) (.neg (.c (.int 1))))) .nil)
abbrev N_breach_along : List Str := ["world", "entries", "lets", "board", "place", "entry", "found"]
def m_breach_along : Ss := (.cons (.asg (.tp (.cons (.nm 2) (.cons (.nm 3) .nil))) (.tup (.cons (.call "lets_along" (.cons (.var 0) (.cons (.var 1) .nil)) []) (.cons (.c (.int 0)) .nil)))) (.cons (.fors (.tp (.cons (.nm 4) (.cons (.nm 5) .nil))) (.enum (.var 1)) (.cons (.ifs (.cmp .Eq (.ix (.var 5) (.c (.int 0))) (.glob "DID")) (.cons (.asg (.nm 6) (.call "breach_at" (.cons (.var 0) (.cons (.ix (.var 2) (.var 4)) (.cons (.var 3) (.cons (.sl (.var 5) (.some (.c (.int 1))) .none) .nil)))) [])) (.cons (.ifs (.cmp .IsNot (.var 6) (.c .non)) (.cons (.ret (.bin .Add (.tup (.cons (.var 4) .nil)) (.var 6))) .nil) .nil) (.cons (.asg (.nm 3) (.ix (.var 5) (.c (.int 2)))) .nil))) .nil) .nil)) (.cons (.ret (.c .non)) .nil)))
abbrev N_harm_along : List Str := ["world", "entries", "place", "entry"]
def m_harm_along : Ss := (.cons (.ifs (.ix (.ix (.var 0) (.c (.int 3))) (.c (.int 0))) (.cons (.ret (.tup (.cons (.c (.int 0)) (.cons (.glob "NEVER") .nil)))) .nil) .nil) (.cons (.fors (.tp (.cons (.nm 2) (.cons (.nm 3) .nil))) (.enum (.var 1)) (.cons (.ifs (.bop true (.cons (.cmp .Eq (.ix (.var 3) (.c (.int 0))) (.glob "DID")) (.cons (.ix (.ix (.var 0) (.c (.int 3))) (.ix (.var 3) (.c (.int 2)))) .nil))) (.cons (.ret (.tup (.cons (.bin .Add (.var 2) (.c (.int 1))) (.cons (.glob "NEVER") .nil)))) .nil) .nil) .nil)) (.cons (.ret (.ife (.call "is_stuck" (.cons (.var 0) (.cons (.call "let_now" (.cons (.var 0) (.cons (.var 1) .nil)) []) (.cons (.call "board_now" (.cons (.var 1) .nil) []) .nil))) []) (.tup (.cons (.blt .len (.cons (.var 1) .nil)) (.cons (.glob "STUCK") .nil))) (.c .non))) .nil)))
abbrev N_whose_along : List Str := ["world", "entries", "harm", "breach"]
def m_whose_along : Ss := (.cons (.asg (.tp (.cons (.nm 2) (.cons (.nm 3) .nil))) (.tup (.cons (.call "harm_along" (.cons (.var 0) (.cons (.var 1) .nil)) []) (.cons (.call "breach_along" (.cons (.var 0) (.cons (.var 1) .nil)) []) .nil)))) (.cons (.ifs (.cmp .Is (.var 2) (.c .non)) (.cons (.ret (.c .non)) .nil) .nil) (.cons (.ret (.ife (.bop true (.cons (.cmp .IsNot (.var 3) (.c .non)) (.cons (.cmp .Lt (.ix (.var 3) (.c (.int 0))) (.ix (.var 2) (.c (.int 0)))) .nil))) (.ix (.var 3) (.c (.int 2))) (.glob "GIVER"))) .nil)))
abbrev N_law_signs_of : List Str := ["world", "deed", "found", "board", "sign"]
def m_law_signs_of : Ss := (.cons (.asg (.nm 2) (.lst .nil)) (.cons (.fors (.nm 3) (.range (.cons (.blt .len (.cons (.ix (.var 0) (.c (.int 5))) .nil)) .nil)) (.cons (.asg (.nm 4) (.ix (.call "_law_said" (.cons (.var 0) (.cons (.var 3) (.cons (.var 1) .nil))) []) (.c (.int 1)))) (.cons (.asg (.nm 2) (.bin .Add (.var 2) (.ife (.cmp .NotIn (.var 4) (.var 2)) (.lst (.cons (.var 4) .nil)) (.lst .nil)))) .nil))) (.cons (.ret (.var 2)) .nil)))
abbrev N_law_any_entry : List Str := ["box", "world", "deed"]
def m_law_any_entry : Ss := (.cons (.asg (.nm 2) (.call "_law_take" (.cons (.var 0) (.cons (.blt .len (.cons (.ix (.var 1) (.c (.int 1))) .nil)) .nil)) [])) (.cons (.ifs (.cmp .Eq (.call "_law_take" (.cons (.var 0) (.cons (.c (.int 2)) .nil)) []) (.c (.int 0))) (.cons (.ret (.tup (.cons (.c (.str "did")) (.cons (.var 2) (.cons (.call "_law_take" (.cons (.var 0) (.cons (.blt .len (.cons (.ix (.var 1) (.c (.int 5))) .nil)) .nil)) []) .nil))))) .nil) .nil) (.cons (.ret (.tup (.cons (.call "_law_pick" (.cons (.var 0) (.cons (.lst (.cons (.c (.str "let")) (.cons (.c (.str "barred")) (.cons (.c (.str "asked")) (.cons (.c (.str "asked")) .nil))))) .nil)) []) (.cons (.var 2) (.cons (.call "_law_pick" (.cons (.var 0) (.cons (.call "_law_signs_of" (.cons (.var 1) (.cons (.var 2) .nil)) []) .nil)) []) .nil))))) .nil)))
abbrev N_law_let_behind : List Str := ["world", "entries", "rows", "board", "lot", "deed", "words", "entry", "is_let_now"]
def m_law_let_behind : Ss := (.cons (.asg (.nm 2) (.lst .nil)) (.cons (.fors (.nm 3) (.range (.cons (.blt .len (.cons (.ix (.var 0) (.c (.int 2))) .nil)) .nil)) (.cons (.asg (.nm 4) (.lst .nil)) (.cons (.fors (.nm 5) (.range (.cons (.blt .len (.cons (.ix (.var 0) (.c (.int 1))) .nil)) .nil)) (.cons (.asg (.nm 6) (.lc (.ix (.var 7) (.c (.int 0))) (.nm 7) (.ex (.var 1)) (.cons (.bop true (.cons (.cmp .In (.ix (.var 7) (.c (.int 0))) (.tup (.cons (.c (.str "let")) (.cons (.c (.str "barred")) .nil)))) (.cons (.cmp .Eq (.sl (.var 7) (.some (.c (.int 1))) .none) (.call "_law_said" (.cons (.var 0) (.cons (.var 3) (.cons (.var 5) .nil))) [])) .nil))) .nil) [7])) (.cons (.asg (.nm 8) (.ife (.cmp .Eq (.var 6) (.lst .nil)) (.cmp .In (.var 5) (.ix (.ix (.var 0) (.c (.int 7))) (.var 3))) (.cmp .Eq (.ix (.var 6) (.neg (.c (.int 1)))) (.c (.str "let"))))) (.cons (.asg (.nm 4) (.bin .Add (.var 4) (.ife (.bop true (.cons (.var 8) (.cons (.bop false (.cons (.cmp .IsNot (.ix (.ix (.ix (.var 0) (.c (.int 2))) (.var 3)) (.var 5)) (.c .non)) (.cons (.cmp .Eq (.var 6) (.lst .nil)) .nil))) .nil))) (.lst (.cons (.var 5) .nil)) (.lst .nil)))) .nil)))) (.cons (.ex (.mth .append (.var 2) (.cons (.blt .tuple (.cons (.var 4) .nil)) .nil))) .nil)))) (.cons (.ret (.blt .tuple (.cons (.var 2) .nil))) .nil)))
abbrev N_law_deeds_done : List Str := ["entries", "entry"]
def m_law_deeds_done : Ss := (.cons (.ret (.blt .tuple (.cons (.lc (.sl (.var 1) (.some (.c (.int 1))) .none) (.nm 1) (.ex (.var 0)) (.cons (.cmp .Eq (.ix (.var 1) (.c (.int 0))) (.c (.str "did"))) .nil) [1]) .nil))) .nil)
abbrev N_law_board_behind : List Str := ["entries", "entry"]
def m_law_board_behind : Ss := (.cons (.ret (.ix (.bin .Add (.lst (.cons (.c (.int 0)) .nil)) (.lc (.ix (.var 1) (.c (.int 2))) (.nm 1) (.ex (.var 0)) (.cons (.cmp .Eq (.ix (.var 1) (.c (.int 0))) (.c (.str "did"))) .nil) [1])) (.neg (.c (.int 1))))) .nil)
abbrev N_law_breach_here : List Str := ["world", "entries", "place", "entry", "board", "deed", "there", "lot"]
def m_law_breach_here : Ss := (.cons (.fors (.tp (.cons (.nm 2) (.cons (.nm 3) .nil))) (.enum (.var 1)) (.cons (.ifs (.cmp .Eq (.ix (.var 3) (.c (.int 0))) (.c (.str "did"))) (.cons (.asg (.tp (.cons (.nm 4) (.cons (.tp (.cons (.nm 5) (.cons (.nm 6) .nil))) .nil))) (.tup (.cons (.call "_law_board_behind" (.cons (.sl (.var 1) .none (.some (.var 2))) .nil) []) (.cons (.sl (.var 3) (.some (.c (.int 1))) .none) .nil)))) (.cons (.asg (.nm 7) (.ix (.ix (.ix (.var 0) (.c (.int 2))) (.var 4)) (.var 5))) (.cons (.ifs (.cmp .Is (.var 7) (.c .non)) (.cons (.ret (.tup (.cons (.var 2) (.cons (.c (.str "cannot")) (.cons (.ix (.ix (.var 0) (.c (.int 1))) (.var 5)) .nil))))) .nil) .nil) (.cons (.ifs (.cmp .NotIn (.var 5) (.ix (.call "_law_let_behind" (.cons (.var 0) (.cons (.sl (.var 1) .none (.some (.var 2))) .nil)) []) (.var 4))) (.cons (.ret (.tup (.cons (.var 2) (.cons (.c (.str "let")) (.cons (.ix (.ix (.var 0) (.c (.int 1))) (.var 5)) .nil))))) .nil) .nil) (.cons (.ifs (.cmp .NotIn (.var 6) (.var 7)) (.cons (.ret (.tup (.cons (.var 2) (.cons (.c (.str "answer")) (.cons (.bin .Sub (.c (.int 0)) (.c (.int 1))) .nil))))) .nil) .nil) .nil))))) .nil) .nil)) (.cons (.ret (.c .non)) .nil))
abbrev N_law_harm_here : List Str := ["world", "entries", "some", "many"]
def m_law_harm_here : Ss := (.cons (.asg (.nm 2) (.lc (.var 3) (.nm 3) (.range (.cons (.bin .Add (.blt .len (.cons (.var 1) .nil)) (.c (.int 1))) .nil)) (.cons (.ix (.ix (.var 0) (.c (.int 3))) (.call "_law_board_behind" (.cons (.sl (.var 1) .none (.some (.var 3))) .nil) [])) .nil) [3])) (.cons (.ifs (.cmp .NotEq (.var 2) (.lst .nil)) (.cons (.ret (.tup (.cons (.ix (.var 2) (.c (.int 0))) (.cons (.c (.str "never")) .nil)))) .nil) .nil) (.cons (.ret (.ife (.call "_law_is_stuck" (.cons (.var 0) (.cons (.call "_law_let_behind" (.cons (.var 0) (.cons (.var 1) .nil)) []) (.cons (.call "_law_board_behind" (.cons (.var 1) .nil) []) .nil))) []) (.tup (.cons (.blt .len (.cons (.var 1) .nil)) (.cons (.c (.str "stuck")) .nil))) (.c .non))) .nil)))
abbrev N_law_whose_here : List Str := ["world", "entries", "harm", "breach"]
def m_law_whose_here : Ss := (.cons (.asg (.tp (.cons (.nm 2) (.cons (.nm 3) .nil))) (.tup (.cons (.call "_law_harm_here" (.cons (.var 0) (.cons (.var 1) .nil)) []) (.cons (.call "_law_breach_here" (.cons (.var 0) (.cons (.var 1) .nil)) []) .nil)))) (.cons (.ret (.ife (.cmp .Is (.var 2) (.c .non)) (.c .non) (.ife (.bop true (.cons (.cmp .IsNot (.var 3) (.c .non)) (.cons (.cmp .Lt (.ix (.var 3) (.c (.int 0))) (.ix (.var 2) (.c (.int 0)))) .nil))) (.ix (.var 3) (.c (.int 2))) (.bin .Sub (.c (.int 0)) (.c (.int 2)))))) .nil))
abbrev N_law_k79 : List Str := ["script", "giver", "barred", "did", "both_now", "one", "heard", "k", "box", "world", "turn", "entries", "more", "led_now", "row", "due", "many", "told", "own", "deed", "later"]
def m_law_k79 : Ss := (.cons (.asg (.tp (.cons (.nm 1) (.cons (.nm 2) (.cons (.nm 3) .nil)))) (.tup (.cons (.call "_law_giver" .nil []) (.cons (.tup (.cons (.c (.str "barred")) (.cons (.c (.int 1)) (.cons (.tup .nil) .nil)))) (.cons (.tup (.cons (.c (.str "did")) (.cons (.c (.int 1)) (.cons (.c (.int 2)) .nil)))) .nil))))) (.cons (.asg (.tp (.cons (.nm 4) (.cons (.nm 5) .nil))) (.tup (.cons (.ix (.var 1) (.c (.int 7))) (.cons (.tup (.cons (.tup (.cons (.c (.int 0)) .nil)) (.cons (.tup .nil) (.cons (.tup .nil) .nil)))) .nil)))) (.cons (.asg (.nm 6) (.tup (.cons (.call "lets_along" (.cons (.var 1) (.cons (.tup (.cons (.var 2) (.cons (.var 3) .nil))) .nil)) []) (.cons (.call "breach_along" (.cons (.var 1) (.cons (.tup (.cons (.var 2) (.cons (.var 3) .nil))) .nil)) []) (.cons (.call "breach_along" (.cons (.var 1) (.cons (.tup (.cons (.var 3) (.cons (.var 2) .nil))) .nil)) []) (.cons (.call "whose_along" (.cons (.var 1) (.cons (.tup (.cons (.var 2) (.cons (.var 3) .nil))) .nil)) []) (.cons (.call "whose_along" (.cons (.var 1) (.cons (.tup (.cons (.var 3) (.cons (.var 2) .nil))) .nil)) []) .nil))))))) (.cons (.asg (.nm 6) (.bin .Add (.var 6) (.tup (.cons (.call "harm_along" (.cons (.var 1) (.cons (.tup (.cons (.var 2) (.cons (.var 3) .nil))) .nil)) []) (.cons (.call "harm_along" (.cons (.var 1) (.cons (.tup (.cons (.var 2) (.cons (.tup (.cons (.c (.str "barred")) (.cons (.c (.int 0)) (.cons (.tup (.cons (.c (.int 0)) .nil)) .nil)))) .nil))) .nil)) []) (.cons (.call "let_now" (.cons (.var 1) (.cons (.tup (.cons (.tup (.cons (.c (.str "let")) (.cons (.c (.int 0)) (.cons (.tup (.cons (.c (.int 2)) .nil)) .nil)))) (.cons (.tup (.cons (.c (.str "barred")) (.cons (.c (.int 0)) (.cons (.tup (.cons (.c (.int 1)) .nil)) .nil)))) .nil))) .nil)) []) .nil)))))) (.cons (.asg (.nm 6) (.bin .Add (.var 6) (.tup (.cons (.call "board_now" (.cons (.tup (.cons (.var 2) .nil)) .nil) []) (.cons (.call "deeds_in" (.cons (.tup (.cons (.var 3) (.cons (.var 2) .nil))) .nil) []) .nil))))) (.cons (.ifs (.not (.call "_law_same" (.cons (.var 6) (.cons (.tup (.cons (.tup (.cons (.var 4) (.cons (.var 5) (.cons (.var 5) .nil)))) (.cons (.tup (.cons (.c (.int 1)) (.cons (.c (.str "let")) (.cons (.c (.int 1)) .nil)))) (.cons (.c .non) (.cons (.c (.int 1)) (.cons (.bin .Sub (.c (.int 0)) (.c (.int 2))) (.cons (.tup (.cons (.c (.int 2)) (.cons (.c (.str "never")) .nil))) (.cons (.tup (.cons (.c (.int 2)) (.cons (.c (.str "stuck")) .nil))) (.cons (.var 4) (.cons (.c (.int 0)) (.cons (.tup (.cons (.tup (.cons (.c (.int 1)) (.cons (.c (.int 2)) .nil))) .nil)) .nil))))))))))) .nil)) [])) (.cons (.ret (.c (.bl false))) .nil) .nil) (.cons (.fors (.nm 7) (.range (.cons (.blt .max (.cons (.c (.int 3)) (.cons (.blt .min (.cons (.blt .len (.cons (.var 0) .nil)) (.cons (.c (.int 7)) .nil))) .nil))) .nil)) (.cons (.asg (.nm 8) (.call "_law_box" (.cons (.var 0) (.cons (.var 7) .nil)) [])) (.cons (.asg (.nm 9) (.call "_law_signed" (.cons (.var 8) (.cons (.ix (.call "_law_good_world" (.cons (.var 8) (.cons (.c (.int 8)) .nil)) []) (.c (.int 0))) .nil)) [])) (.cons (.fors (.nm 10) (.range (.cons (.c (.int 4)) .nil)) (.cons (.asg (.nm 11) (.blt .tuple (.cons (.lc (.call "_law_any_entry" (.cons (.var 8) (.cons (.var 9) .nil)) []) (.nm 12) (.range (.cons (.bin .Add (.c (.int 1)) (.call "_law_take" (.cons (.var 8) (.cons (.c (.int 10)) .nil)) [])) .nil)) .nil [12]) .nil))) (.cons (.ifs (.cmp .Eq (.call "_law_take" (.cons (.var 8) (.cons (.c (.int 2)) .nil)) []) (.c (.int 0))) (.cons (.asg (.nm 13) (.call "_law_log_drawn" (.cons (.var 8) (.cons (.var 9) (.cons (.ix (.var 9) (.c (.int 7))) (.cons (.c (.int 8)) .nil)))) [])) (.cons (.asg (.nm 11) (.bin .Add (.blt .tuple (.cons (.lc (.bin .Add (.tup (.cons (.c (.str "did")) .nil)) (.var 14)) (.nm 14) (.ex (.var 13)) .nil [14]) .nil)) (.sl (.var 11) .none (.some (.c (.int 3)))))) .nil)) .nil) (.cons (.asg (.nm 15) (.blt .tuple (.cons (.lc (.call "_law_let_behind" (.cons (.var 9) (.cons (.sl (.var 11) .none (.some (.var 16))) .nil)) []) (.nm 16) (.range (.cons (.bin .Add (.blt .len (.cons (.var 11) .nil)) (.c (.int 1))) .nil)) .nil [16]) .nil))) (.cons (.ifs (.not (.call "_law_same" (.cons (.tup (.cons (.call "lets_along" (.cons (.var 9) (.cons (.var 11) .nil)) []) (.cons (.call "let_now" (.cons (.var 9) (.cons (.var 11) .nil)) ["entries"]) .nil))) (.cons (.tup (.cons (.var 15) (.cons (.ix (.var 15) (.neg (.c (.int 1)))) .nil))) .nil)) [])) (.cons (.ret (.c (.bl false))) .nil) .nil) (.cons (.asg (.nm 17) (.tup (.cons (.call "deeds_in" (.cons (.var 11) .nil) []) (.cons (.call "board_now" (.cons (.var 11) .nil) []) (.cons (.call "breach_along" (.cons (.var 9) (.cons (.var 11) .nil)) []) (.cons (.call "harm_along" (.cons (.var 9) (.cons (.var 11) .nil)) ["entries"]) (.cons (.call "whose_along" (.cons (.var 9) (.cons (.var 11) .nil)) []) .nil))))))) (.cons (.asg (.nm 18) (.tup (.cons (.call "_law_deeds_done" (.cons (.var 11) .nil) []) (.cons (.call "_law_board_behind" (.cons (.var 11) .nil) []) (.cons (.call "_law_breach_here" (.cons (.var 9) (.cons (.var 11) .nil)) []) (.cons (.call "_law_harm_here" (.cons (.var 9) (.cons (.var 11) .nil)) []) (.cons (.call "_law_whose_here" (.cons (.var 9) (.cons (.var 11) .nil)) []) .nil))))))) (.cons (.ifs (.not (.call "_law_same" (.cons (.var 17) (.cons (.var 18) .nil)) [])) (.cons (.ret (.c (.bl false))) .nil) .nil) (.cons (.asg (.nm 19) (.call "_law_take" (.cons (.var 8) (.cons (.blt .len (.cons (.ix (.var 9) (.c (.int 1))) .nil)) .nil)) [])) (.cons (.asg (.nm 20) (.bin .Add (.var 11) (.tup (.cons (.tup (.cons (.c (.str "barred")) (.cons (.var 19) (.cons (.call "_law_pick" (.cons (.var 8) (.cons (.call "_law_signs_of" (.cons (.var 9) (.cons (.var 19) .nil)) []) .nil)) []) .nil)))) .nil)))) (.cons (.ifs (.not (.call "_law_same" (.cons (.call "breach_along" (.cons (.var 9) (.cons (.var 20) .nil)) []) (.cons (.ix (.var 18) (.c (.int 2))) .nil)) [])) (.cons (.ret (.c (.bl false))) .nil) .nil) .nil))))))))))) .nil)))) (.cons (.ret (.c (.bl true))) .nil))))))))
abbrev N_free_now : List Str := ["world", "entries", "let", "board", "some", "one"]
def m_free_now : Ss := (.cons (.asg (.tp (.cons (.nm 2) (.cons (.nm 3) .nil))) (.tup (.cons (.call "let_now" (.cons (.var 0) (.cons (.var 1) .nil)) []) (.cons (.call "board_now" (.cons (.var 1) .nil) []) .nil)))) (.cons (.asg (.nm 4) (.call "asked_now" (.cons (.var 1) .nil) [])) (.cons (.ret (.blt .tuple (.cons (.lc (.var 5) (.nm 5) (.ex (.var 4)) (.cons (.call "led" (.cons (.var 0) (.cons (.call "let_with" (.cons (.var 0) (.cons (.var 2) (.cons (.bin .Add (.tup (.cons (.c (.str "let")) .nil)) (.var 5)) .nil))) []) (.cons (.var 3) .nil))) []) .nil) [5]) .nil))) .nil)))
abbrev N_law_asked_here : List Str := ["entries", "found", "place", "entry", "other"]
def m_law_asked_here : Ss := (.cons (.asg (.nm 1) (.lst .nil)) (.cons (.fors (.tp (.cons (.nm 2) (.cons (.nm 3) .nil))) (.enum (.var 0)) (.cons (.ifs (.bop true (.cons (.cmp .Eq (.ix (.var 3) (.c (.int 0))) (.c (.str "asked"))) (.cons (.cmp .Eq (.lc (.c (.int 1)) (.nm 4) (.ex (.sl (.var 0) (.some (.bin .Add (.var 2) (.c (.int 1)))) .none)) (.cons (.bop true (.cons (.cmp .NotEq (.ix (.var 4) (.c (.int 0))) (.c (.str "did"))) (.cons (.cmp .Eq (.sl (.var 4) (.some (.c (.int 1))) .none) (.sl (.var 3) (.some (.c (.int 1))) .none)) .nil))) .nil) [4]) (.lst .nil)) .nil))) (.cons (.ex (.mth .append (.var 1) (.cons (.sl (.var 3) (.some (.c (.int 1))) .none) .nil))) .nil) .nil) .nil)) (.cons (.ret (.blt .tuple (.cons (.blt .sorted (.cons (.var 1) .nil)) .nil))) .nil)))
abbrev N_law_free_here : List Str := ["world", "entries", "one"]
def m_law_free_here : Ss := (.cons (.ret (.blt .tuple (.cons (.lc (.var 2) (.nm 2) (.ex (.call "_law_asked_here" (.cons (.var 1) .nil) [])) (.cons (.cmp .Eq (.call "_law_kind" (.cons (.var 0) (.cons (.call "_law_let_behind" (.cons (.var 0) (.cons (.bin .Add (.var 1) (.tup (.cons (.bin .Add (.tup (.cons (.c (.str "let")) .nil)) (.var 2)) .nil))) .nil)) []) (.cons (.call "_law_board_behind" (.cons (.var 1) .nil) []) .nil))) []) (.c (.str "ranks"))) .nil) [2]) .nil))) .nil)
abbrev N_law_apart : List Str := ["world", "let", "found", "board", "deed"]
def m_law_apart : Ss := (.cons (.asg (.nm 2) (.lst .nil)) (.cons (.fors (.nm 3) (.ex (.call "_law_far" (.cons (.var 0) (.cons (.var 1) (.cons (.c (.int 0)) .nil))) [])) (.cons (.asg (.nm 2) (.bin .Add (.var 2) (.lc (.tup (.cons (.var 3) (.cons (.var 4) .nil))) (.nm 4) (.ex (.ix (.ix (.var 0) (.c (.int 7))) (.var 3))) (.cons (.cmp .NotIn (.var 4) (.ix (.var 1) (.var 3))) .nil) [4]))) .nil)) (.cons (.ret (.var 2)) .nil)))
abbrev N_law_k80 : List Str := ["script", "giver", "asked", "heard", "k", "box", "world", "sure", "turn", "words", "one", "board", "deed", "entries", "more", "deeds", "some", "free", "spot", "let", "granted"]
def m_law_k80 : Ss := (.cons (.asg (.nm 1) (.call "_law_giver" .nil [])) (.cons (.asg (.nm 2) (.tup (.cons (.tup (.cons (.c (.str "barred")) (.cons (.c (.int 1)) (.cons (.tup .nil) .nil)))) (.cons (.tup (.cons (.c (.str "asked")) (.cons (.c (.int 1)) (.cons (.tup .nil) .nil)))) (.cons (.tup (.cons (.c (.str "asked")) (.cons (.c (.int 0)) (.cons (.tup (.cons (.c (.int 0)) .nil)) .nil)))) (.cons (.tup (.cons (.c (.str "asked")) (.cons (.c (.int 1)) (.cons (.tup .nil) .nil)))) .nil)))))) (.cons (.asg (.nm 3) (.tup (.cons (.call "asked_now" (.cons (.var 2) .nil) []) (.cons (.call "free_now" (.cons (.var 1) (.cons (.var 2) .nil)) []) (.cons (.call "asked_now" (.cons (.bin .Add (.var 2) (.tup (.cons (.tup (.cons (.c (.str "barred")) (.cons (.c (.int 1)) (.cons (.tup .nil) .nil)))) .nil))) .nil) []) (.cons (.call "free_now" (.cons (.var 1) (.cons (.tup (.cons (.tup (.cons (.c (.str "barred")) (.cons (.c (.int 1)) (.cons (.tup .nil) .nil)))) (.cons (.tup (.cons (.c (.str "barred")) (.cons (.c (.int 0)) (.cons (.tup (.cons (.c (.int 0)) .nil)) .nil)))) (.cons (.tup (.cons (.c (.str "asked")) (.cons (.c (.int 0)) (.cons (.tup (.cons (.c (.int 0)) .nil)) .nil)))) .nil)))) .nil)) []) (.cons (.call "asked_now" (.cons (.tup .nil) .nil) []) .nil))))))) (.cons (.ifs (.not (.call "_law_same" (.cons (.var 3) (.cons (.tup (.cons (.tup (.cons (.tup (.cons (.c (.int 0)) (.cons (.tup (.cons (.c (.int 0)) .nil)) .nil))) (.cons (.tup (.cons (.c (.int 1)) (.cons (.tup .nil) .nil))) .nil))) (.cons (.tup (.cons (.tup (.cons (.c (.int 0)) (.cons (.tup (.cons (.c (.int 0)) .nil)) .nil))) .nil)) (.cons (.tup (.cons (.tup (.cons (.c (.int 0)) (.cons (.tup (.cons (.c (.int 0)) .nil)) .nil))) .nil)) (.cons (.tup (.cons (.tup (.cons (.c (.int 0)) (.cons (.tup (.cons (.c (.int 0)) .nil)) .nil))) .nil)) (.cons (.tup .nil) .nil)))))) .nil)) [])) (.cons (.ret (.c (.bl false))) .nil) .nil) (.cons (.fors (.nm 4) (.range (.cons (.blt .max (.cons (.c (.int 3)) (.cons (.blt .min (.cons (.blt .len (.cons (.var 0) .nil)) (.cons (.c (.int 7)) .nil))) .nil))) .nil)) (.cons (.asg (.nm 5) (.call "_law_box" (.cons (.var 0) (.cons (.var 4) .nil)) [])) (.cons (.asg (.tp (.cons (.nm 6) (.cons (.nm 7) .nil))) (.call "_law_good_world" (.cons (.var 5) (.cons (.c (.int 8)) .nil)) [])) (.cons (.asg (.nm 6) (.call "_law_signed" (.cons (.var 5) (.cons (.var 6) .nil)) [])) (.cons (.fors (.nm 8) (.range (.cons (.c (.int 4)) .nil)) (.cons (.asg (.nm 9) (.lc (.bin .Add (.tup (.cons (.c (.str "barred")) .nil)) (.var 10)) (.nm 10) (.ex (.call "_law_all_said" (.cons (.var 6) (.cons (.ix (.var 6) (.c (.int 7))) .nil)) [])) (.cons (.cmp .Gt (.call "_law_take" (.cons (.var 5) (.cons (.c (.int 3)) .nil)) []) (.c (.int 0))) .nil) [10])) (.cons (.ifs (.cmp .Gt (.call "_law_take" (.cons (.var 5) (.cons (.c (.int 3)) .nil)) []) (.c (.int 0))) (.cons (.asg (.nm 9) (.lc (.bin .Add (.tup (.cons (.c (.str "barred")) .nil)) (.call "_law_said" (.cons (.var 6) (.cons (.var 11) (.cons (.var 12) .nil))) [])) (.tp (.cons (.nm 11) (.cons (.nm 12) .nil))) (.ex (.call "_law_apart" (.cons (.var 6) (.cons (.var 7) .nil)) [])) .nil [11, 12])) .nil) .nil) (.cons (.asg (.nm 13) (.bin .Add (.blt .tuple (.cons (.sl (.var 9) .none (.some (.c (.int 8)))) .nil)) (.blt .tuple (.cons (.lc (.call "_law_any_entry" (.cons (.var 5) (.cons (.var 6) .nil)) []) (.nm 14) (.range (.cons (.bin .Add (.c (.int 1)) (.call "_law_take" (.cons (.var 5) (.cons (.c (.int 5)) .nil)) [])) .nil)) .nil [14]) .nil)))) (.cons (.asg (.nm 15) (.lc (.call "_law_take" (.cons (.var 5) (.cons (.blt .len (.cons (.ix (.var 6) (.c (.int 1))) .nil)) .nil)) []) (.nm 14) (.range (.cons (.c (.int 4)) .nil)) .nil [14])) (.cons (.asg (.nm 13) (.bin .Add (.var 13) (.blt .tuple (.cons (.lc (.tup (.cons (.c (.str "asked")) (.cons (.var 12) (.cons (.call "_law_pick" (.cons (.var 5) (.cons (.call "_law_signs_of" (.cons (.var 6) (.cons (.var 12) .nil)) []) .nil)) []) .nil)))) (.nm 12) (.ex (.var 15)) .nil [12]) .nil)))) (.cons (.asg (.tp (.cons (.nm 16) (.cons (.nm 17) .nil))) (.tup (.cons (.call "_law_asked_here" (.cons (.var 13) .nil) []) (.cons (.call "_law_free_here" (.cons (.var 6) (.cons (.var 13) .nil)) []) .nil)))) (.cons (.asg (.nm 16) (.blt .tuple (.cons (.lc (.var 10) (.tp (.cons (.nm 18) (.cons (.nm 10) .nil))) (.enum (.var 16)) (.cons (.cmp .NotIn (.var 10) (.sl (.var 16) .none (.some (.var 18)))) .nil) [18, 10]) .nil))) (.cons (.asg (.nm 17) (.blt .tuple (.cons (.lc (.var 10) (.tp (.cons (.nm 18) (.cons (.nm 10) .nil))) (.enum (.var 17)) (.cons (.cmp .NotIn (.var 10) (.sl (.var 17) .none (.some (.var 18)))) .nil) [18, 10]) .nil))) (.cons (.ifs (.not (.call "_law_same" (.cons (.tup (.cons (.call "asked_now" (.cons (.var 13) .nil) []) (.cons (.call "free_now" (.cons (.var 6) (.cons (.var 13) .nil)) ["entries"]) .nil))) (.cons (.tup (.cons (.var 16) (.cons (.var 17) .nil))) .nil)) [])) (.cons (.ret (.c (.bl false))) .nil) .nil) (.cons (.asg (.tp (.cons (.nm 19) (.cons (.nm 11) .nil))) (.tup (.cons (.call "let_now" (.cons (.var 6) (.cons (.var 13) .nil)) []) (.cons (.call "board_now" (.cons (.var 13) .nil) []) .nil)))) (.cons (.ifs (.bop true (.cons (.cmp .In (.call "_law_kind" (.cons (.var 6) (.cons (.var 19) (.cons (.var 11) .nil))) []) (.tup (.cons (.c (.str "never")) (.cons (.c (.str "ring")) .nil)))) (.cons (.cmp .NotEq (.var 17) (.tup .nil)) .nil))) (.cons (.ret (.c (.bl false))) .nil) .nil) (.cons (.fors (.nm 10) (.ex (.sl (.var 16) .none (.some (.c (.int 3))))) (.cons (.asg (.nm 20) (.bin .Add (.var 13) (.tup (.cons (.bin .Add (.tup (.cons (.c (.str "let")) .nil)) (.var 10)) .nil)))) (.cons (.ifs (.bop false (.cons (.cmp .In (.var 10) (.call "asked_now" (.cons (.var 20) .nil) [])) (.cons (.not (.call "_law_same" (.cons (.call "led" (.cons (.var 6) (.cons (.call "let_now" (.cons (.var 6) (.cons (.var 20) .nil)) []) (.cons (.var 11) .nil))) []) (.cons (.cmp .In (.var 10) (.var 17)) .nil)) [])) .nil))) (.cons (.ret (.c (.bl false))) .nil) .nil) .nil))) .nil))))))))))))) .nil))))) (.cons (.ret (.c (.bl true))) .nil))))))
-- lost_by (k73): not in the small language: call zip
-- asked_now (k80): not in the small language: method items
end K74
/-! K74b: worlds as values; the program's defs. -/
namespace K74
open PySem PL
def pn (n : Nat) : PV := .int n
def pl (l : List Nat) : PV := .tup (l.map pn)
def pll (l : List (List Nat)) : PV := .tup (l.map pl)
def po : Option (List Nat) → PV
  | none => .non
  | some l => pl l
def pmv (m : List (List (Option (List Nat)))) : PV := .tup (m.map fun r => .tup (r.map po))
def pbs (l : List Bool) : PV := .tup (l.map .bl)
structure Wd where
  whose : List Nat
  moves : List (List (Option (List Nat)))
  never : List Bool
  done : List Bool
  rows : List (List Nat)
  sees : List (List Nat)
  lets : List (List Nat)
def Wd.pv (W : Wd) : PV := .tup [.int 0, pl W.whose, pmv W.moves, pbs W.never, pbs W.done, pll W.rows, pll W.sees, pll W.lets]
/-- of n boards, d deeds, registers r -/
structure WF (W : Wd) (n d r : Nat) : Prop where
  whose : W.whose.length = d
  helper : ∀ h ∈ W.whose, h < W.sees.length
  moves : W.moves.length = n
  row : ∀ m ∈ W.moves, m.length = d
  lot : ∀ m ∈ W.moves, ∀ o ∈ m, ∀ l, o = some l → ∀ x ∈ l, x < n
  lotl : ∀ m ∈ W.moves, ∀ o ∈ m, ∀ l, o = some l → l.length ≤ 100
  lotnd : ∀ m ∈ W.moves, ∀ o ∈ m, ∀ l, o = some l → l.Nodup
  never : W.never.length = n
  done : W.done.length = n
  rows : W.rows.length = n
  regs : ∀ q ∈ W.rows, q.length = r
  sees : ∀ q ∈ W.sees, q.length ≤ 100 ∧ ∀ x ∈ q, x < r
  n0 : 0 < n
  n1 : n ≤ 100
  d1 : d ≤ 99
structure LetOk (lt : List (List Nat)) (n d : Nat) : Prop where
  len : lt.length = n
  row : ∀ q ∈ lt, q.length ≤ 100 ∧ ∀ x ∈ q, x < d
/-- what can be done -/
def mv (W : Wd) (b d : Nat) : Option (List Nat) := (((W.moves[b]?).getD [])[d]?).getD none
def lrow (lt : List (List Nat)) (b : Nat) : List Nat := (lt[b]?).getD []
def letDeeds (W : Wd) (lt : List (List Nat)) (b : Nat) : List Nat := (lrow lt b).filter fun d => (mv W b d).isSome
def signOf (W : Wd) (h b : Nat) : List Nat := ((W.sees[h]?).getD []).map fun q => (((W.rows[b]?).getD [])[q]?).getD 0
def sentAt (W : Wd) (b d : Nat) : PV := .tup [pn d, pl (signOf W ((W.whose[d]?).getD 0) b)]
@[simp] theorem pn_len (l : List Nat) : (l.map pn).length = l.length := List.length_map _
section
variable {W : Wd} {lt : List (List Nat)} {n d r b h x : Nat} {M : MH} {Q : WK} {k : Bool → Prop}
@[simp] theorem ixW1 : ixW W.pv (.int 1) M Q = Q (pl W.whose) M := by simp [Wd.pv]
@[simp] theorem ixW2 : ixW W.pv (.int 2) M Q = Q (pmv W.moves) M := by simp [Wd.pv]
@[simp] theorem ixW3 : ixW W.pv (.int 3) M Q = Q (pbs W.never) M := by simp [Wd.pv]
@[simp] theorem ixW4 : ixW W.pv (.int 4) M Q = Q (pbs W.done) M := by simp [Wd.pv]
@[simp] theorem ixW5 : ixW W.pv (.int 5) M Q = Q (pll W.rows) M := by simp [Wd.pv]
@[simp] theorem ixW6 : ixW W.pv (.int 6) M Q = Q (pll W.sees) M := by simp [Wd.pv]
@[simp] theorem ixW7 : ixW W.pv (.int 7) M Q = Q (pll W.lets) M := by simp [Wd.pv]
theorem ix_mv (w : WF W n d r) (hb : b < n) (hx : x < d) : ixW (pmv W.moves) (pn b) M (fun v M1 => ixW v (pn x) M1 Q) = Q (po (mv W b x)) M := by
  have h1 : b < W.moves.length := by rw [w.moves]; exact hb
  have h2 : x < (W.moves[b]).length := by rw [w.row _ (List.getElem_mem h1)]; exact hx
  simp [pmv, pn, mv, h1, h2]
theorem ix_let (hl : LetOk lt n d) (hb : b < n) : ixW (pll lt) (pn b) M Q = Q (pl (lrow lt b)) M := by
  have h1 : b < lt.length := by rw [hl.len]; exact hb
  simp [pll, pn, lrow, h1]
@[simp] theorem isNone_po {o : Option (List Nat)} : isNone (po o) = o.isNone := by cases o <;> rfl
theorem lrow_ok (hl : LetOk lt n d) : (lrow lt b).length ≤ 100 ∧ ∀ x ∈ lrow lt b, x < d := by
  unfold lrow
  cases e : lt[b]? with
  | none => simp
  | some q => exact hl.row q (List.mem_of_getElem? e)
end
/-- the number within -/
def un : PV → Nat
  | .int i => i.toNat
  | _ => 0
@[simp] theorem un_pn {n : Nat} : un (pn n) = n := rfl
theorem fm_filter {p : Nat → Bool} : ∀ l : List Nat, ((l.map pn).filterMap fun x => if p (un x) then some x else none) = (l.filter p).map pn
  | [] => rfl
  | a :: l => by
    have ih := fm_filter (p := p) l
    by_cases h : p a <;> simp [List.filterMap_cons, h, ih]
theorem fm_map {f : Nat → PV} : ∀ l : List Nat, ((l.map pn).filterMap fun x => some (f (un x))) = l.map f
  | [] => rfl
  | a :: l => by
    have ih := fm_map (f := f) l
    simp [List.filterMap_cons, ih]
def gLetDeeds : FSp := fun vs M Q => ∃ W lt n d r b, WF W n d r ∧ LetOk lt n d ∧ b < n ∧ vs = [W.pv, pll lt, pn b] ∧ ∀ M', Ex M M' → Q (pl (letDeeds W lt b)) M'
theorem b_let_deeds (Φ : Fns) : ∀ vs M Q, gLetDeeds vs M Q → wpSs Φ m_let_deeds (EndsP Q) (startP N_let_deeds vs) M := by
  rintro _ M Q ⟨W, lt, n, d, r, b, w, hl, hb, rfl, h⟩
  obtain ⟨l1, l2⟩ := lrow_ok (b := b) hl
  unfold m_let_deeds
  simp [startP, List.replicate, EndsP, ix_let hl hb]
  simp only [pl, ex_tup]
  refine lc_fmT (fun x => if (mv W b (un x)).isSome then some x else none) (fun _ _ => trivial) (by simp; unfold LIM; omega) (fun x M' hx hM KT KF kt kf => ?_) fun M' e => ?_
  · obtain ⟨q, hq, rfl⟩ := List.mem_map.mp hx
    simp [ix_mv w hb (l2 q hq)]
    split
    · rename_i e
      exact kf _ (Fr.refl _ _) (by simp [e])
    · rename_i e
      exact kt _ _ (Fr.refl _ _) (by cases z : mv W b q <;> simp_all)
  · rw [fm_filter (p := fun x => (mv W b x).isSome)]
    exact h M' e
def gSignOf : FSp := fun vs M Q => ∃ W n d r hp b, WF W n d r ∧ hp < W.sees.length ∧ b < n ∧ vs = [W.pv, pn hp, pn b] ∧ ∀ M', Ex M M' → Q (pl (signOf W hp b)) M'
theorem b_sign_of (Φ : Fns) : ∀ vs M Q, gSignOf vs M Q → wpSs Φ m_sign_of (EndsP Q) (startP N_sign_of vs) M := by
  rintro _ M Q ⟨W, n, d, r, hp, b, w, hh, hb, rfl, h⟩
  have h1 : b < W.rows.length := by rw [w.rows]; exact hb
  obtain ⟨l1, l2⟩ := w.sees _ (List.getElem_mem hh)
  unfold m_sign_of
  simp [startP, List.replicate, EndsP, pll, pn, hh]
  simp only [pl, ex_tup]
  refine lc_fmT (fun x => some (pn ((((W.rows[b]?).getD [])[un x]?).getD 0))) (fun _ _ => trivial) (by simp; unfold LIM; omega) (fun x M' hx hM KT KF kt kf => ?_) fun M' e => ?_
  · obtain ⟨q, hq, rfl⟩ := List.mem_map.mp hx
    have hq2 : q < (W.rows[b]).length := by rw [w.regs _ (List.getElem_mem h1)]; exact l2 q hq
    simp [h1, pl, pll, pn, hq2]
    exact kt _ _ (Fr.refl _ _) (by simp [h1, hq2, pn, un])
  · rw [fm_map (f := fun x => pn ((((W.rows[b]?).getD [])[x]?).getD 0))]
    have := h M' e
    simp only [signOf, pl, List.map_map] at this
    simpa [hh, Function.comp_def] using this
def fn1 : Str → Option FSp := fun x => if x == ("sign_of" : Str) then some gSignOf else if x == ("let_deeds" : Str) then some gLetDeeds else none
def gSentAt : FSp := fun vs M Q => ∃ W n d r b x, WF W n d r ∧ b < n ∧ x < d ∧ vs = [W.pv, pn b, pn x] ∧ ∀ M', Ex M M' → Q (sentAt W b x) M'
theorem b_sentence_at (Φ : Fns) (hΦ : Φ.fn "sign_of" = some gSignOf) : ∀ vs M Q, gSentAt vs M Q → wpSs Φ m_sentence_at (EndsP Q) (startP N_sentence_at vs) M := by
  rintro _ M Q ⟨W, n, d, r, b, x, w, hb, hx, rfl, h⟩
  have h1 : x < W.whose.length := by rw [w.whose]; exact hx
  unfold m_sentence_at
  simp [startP, List.replicate, EndsP, hΦ, pl, pn, h1]
  refine ⟨W, n, d, r, W.whose[x], b, w, w.helper _ (List.getElem_mem h1), hb, rfl, fun M' e => ⟨by unfold LIM; omega, ?_⟩⟩
  have := h M' e
  simpa [sentAt, h1, pn] using this
end K74
/-! K74c: more of the program's defs. -/
namespace K74
open PySem PL
def pp (x : Nat × Nat) : PV := .tup [pn x.1, pn x.2]
def plog (l : List (Nat × Nat)) : PV := .tup (l.map pp)
def gAlong : FSp := fun vs M Q => ∃ l : List (Nat × Nat), l.length ≤ 100 ∧ vs = [plog l] ∧ ∀ M', Ex M M' → Q (pl (0 :: l.map (·.2))) M'
theorem fm_snd : ∀ l : List (Nat × Nat), ((l.map pp).filterMap fun x => match x with | .tup [_, b] => some b | _ => none) = (l.map (·.2)).map pn
  | [] => rfl
  | a :: l => by
    have ih := fm_snd l
    simp [List.filterMap_cons, pp, ih]
theorem b_along (Φ : Fns) : ∀ vs M Q, gAlong vs M Q → wpSs Φ m_along (EndsP Q) (startP N_along vs) M := by
  rintro _ M Q ⟨l, hl, rfl, h⟩
  unfold m_along
  simp [startP, List.replicate, EndsP, plog]
  refine ⟨by unfold LIM; omega, lc_fmT (fun x => match x with | .tup [_, b] => some b | _ => none) (fun _ _ => trivial) (by simp; unfold LIM; omega) (fun x M' hx hM KT KF kt kf => ?_) fun M' e => ?_⟩
  · obtain ⟨q, hq, rfl⟩ := List.mem_map.mp hx
    simp [pp]
    exact kt _ _ (Fr.refl _ _) rfl
  · rw [fm_snd]
    simp
    refine ⟨by unfold LIM; omega, ?_⟩
    simpa [pl, pn] using h M' e

theorem ints_key : ∀ (l : List Nat) (n : Nat), PV.keysN (l.map pn) n = true
  | [], _ => rfl
  | a :: l, n => by
    rw [List.map_cons, PV.keysN, ints_key l n]; rfl
theorem sent_key {W : Wd} {b d : Nat} : (sentAt W b d).key = true := by
  show (PV.tup [pn d, pl _]).keyN 7 = true
  simp [PV.keyN, PV.keysN, pn, pl, ints_key]
theorem keys_good {l : List PV} (h : ∀ x ∈ l, x.key = true) : PV.goodsN l 7 = true := goodsN_mem.mpr fun x hx => key_good x 7 (h x hx)
theorem any_mem {l : List PV} {x : PV} (h : ∀ y ∈ l, y.key = true) (hx : x.key = true) : (l.any fun y => pyEq y x) = true ↔ x ∈ l := by
  rw [List.any_eq_true]
  exact ⟨fun ⟨y, hy, e⟩ => by rw [← (key_eq y x 7 7 (h y hy) hx).mp e]; exact hy, fun hy => ⟨x, hy, (key_eq x x 7 7 hx hx).mpr rfl⟩⟩
/-- a let without some sentences -/
noncomputable def leftRow (W : Wd) (lot : List PV) (b : Nat) (row : List Nat) : List Nat := row.filter fun d => !decide (sentAt W b d ∈ lot)
noncomputable def leftOut (W : Wd) (lt : List (List Nat)) (lot : List PV) : List (List Nat) := lt.zipIdx.map fun z => leftRow W lot z.2 z.1
def gLeftOut : FSp := fun vs M Q => ∃ W lt n d r lot, WF W n d r ∧ LetOk lt n d ∧ (∀ x ∈ lot, x.key = true) ∧ vs = [W.pv, pll lt, .tup lot] ∧ ∀ M', Ex M M' → Q (pll (leftOut W lt lot)) M'
theorem b_left_out (Φ : Fns) (hΦ : Φ.fn "sentence_at" = some gSentAt) : ∀ vs M Q, gLeftOut vs M Q → wpSs Φ m_left_out (EndsP Q) (startP N_left_out vs) M := by
  rintro _ M Q ⟨W, lt, n, d, r, lot, w, hl, hk, rfl, h⟩
  unfold m_left_out
  simp [startP, List.replicate, EndsP, pll]
  intro a ha
  have hn : lt.length ≤ 100 := by rw [hl.len]; exact w.n1
  refine ⟨fun i ρ' M' => ∃ x4 x5, ρ' = [some W.pv, some (.tup (lt.map pl)), some (.tup lot), some (.ref a), x4, x5, none] ∧ Ex M M' ∧ M' a = some (.lst (((leftOut W lt lot).take i).map pl)), ⟨none, none, rfl, Ex.new ha, by rw [MH.upd_same]; rfl⟩, ?_, ?_⟩
  · rintro i x ρ' M' hx ⟨x4, x5, rfl, e, hM⟩
    refine ⟨trivial, ?_⟩
    have hi : i < lt.length := by
      have := (List.getElem?_eq_some_iff.mp hx).1
      simpa using this
    have ex : x = .tup [pn i, pl lt[i]] := by
      simp [hi] at hx
      rw [← hx]; rfl
    subst ex
    obtain ⟨r1, r2⟩ := hl.row _ (List.getElem_mem hi)
    simp [ty_app hM]
    simp only [pl, ex_tup]
    refine lc_fmT (fun x => if !decide (sentAt W i (un x) ∈ lot) then some x else none) (fun _ _ => trivial) (by simp; unfold LIM; omega) (fun x M2 hx hM2 KT KF kt kf => ?_) fun M2 e2 => ?_
    · obtain ⟨q, hq, rfl⟩ := List.mem_map.mp hx
      simp [hΦ]
      refine ⟨W, n, d, r, i, q, w, by rw [← hl.len]; exact hi, r2 q hq, rfl, fun M3 e3 => ?_⟩
      have am := any_mem (x := sentAt W i q) hk sent_key
      show cmpW .NotIn (sentAt W i q) (.tup lot) M3 fun c => if c = true then KT (pn q) M3 else KF M3
      rw [notIn_tup (key_good _ 7 sent_key) (keys_good hk)]
      by_cases c : sentAt W i q ∈ lot
      · rw [am.mpr c]
        exact kf _ e3 (by simp [c])
      · have : (lot.any fun y => pyEq y (sentAt W i q)) = false := by
          cases z : (lot.any fun y => pyEq y (sentAt W i q)) with
          | false => rfl
          | true => exact absurd (am.mp z) c
        rw [this]
        exact kt _ _ e3 (by simp [c])
    · rw [fm_filter (p := fun x => !decide (sentAt W i x ∈ lot))]
      have hM2 := e2.at hM
      have li : (leftOut W lt lot).length = lt.length := by simp [leftOut]
      refine mt_app hM2 (by have := List.length_take_le' i (leftOut W lt lot); simp; unfold LIM; omega) ?_
      refine ⟨(Ex.trans e e2).over ha, ?_⟩
      have g1 : (leftOut W lt lot)[i]? = some (leftRow W lot i lt[i]) := by simp [leftOut, hi]
      rw [MH.upd_same, ← List.map_take, List.take_add_one, g1, List.map_append]
      rfl
  · rintro ρ' M' ⟨x4, x5, rfl, e, hM⟩
    refine ⟨trivial, ?_⟩
    have li : (leftOut W lt lot).length = lt.length := by simp [leftOut]
    simp [lstOf_lst hM]
    refine ⟨by rw [li]; unfold LIM; omega, ?_⟩
    have := h M' e
    rw [List.take_of_length_le (by simp [li])]
    exact this

/-! ### sorted sentences, sorted numbers -/
theorem ints_cmp : ∀ l m : List Nat, (pyLts (l.map pn) (m.map pn)).isSome = true
  | [], [] => by simp [pyLts]
  | [], _ :: _ => by simp [pyLts]
  | _ :: _, [] => by simp [pyLts]
  | a :: l, b :: m => by
    have ih := ints_cmp l m
    simp only [List.map_cons, pyLts]
    split
    · exact ih
    · rfl
theorem sort_sent {S : List PV} (h : ∀ x ∈ S, ∃ a s, x = .tup [pn a, pl s]) : Sortable S where
  key := fun x hx => by
    obtain ⟨a, s, rfl⟩ := h x hx
    show (PV.tup [pn a, pl s]).keyN 7 = true
    simp [PV.keyN, PV.keysN, pn, pl, ints_key]
  cmp := fun x hx y hy => by
    obtain ⟨a, s, rfl⟩ := h x hx
    obtain ⟨b, t, rfl⟩ := h y hy
    simp only [pyLt, pyLts, pl]
    split
    · split
      · rfl
      · exact ints_cmp s t
    · rfl
  hom := by
    have : S.all isTI = true := List.all_eq_true.mpr fun x hx => by
      obtain ⟨a, s, rfl⟩ := h x hx
      rfl
    unfold homog
    rw [this]
    simp
theorem sort_nat {S : List PV} (h : ∀ x ∈ S, ∃ a, x = pn a) : Sortable S where
  key := fun x hx => by
    obtain ⟨a, rfl⟩ := h x hx
    rfl
  cmp := fun x hx y hy => by
    obtain ⟨a, rfl⟩ := h x hx
    obtain ⟨b, rfl⟩ := h y hy
    rfl
  hom := by
    have : S.all isI = true := List.all_eq_true.mpr fun x hx => by
      obtain ⟨a, rfl⟩ := h x hx
      rfl
    unfold homog
    rw [this]
    simp
theorem keys_of_map {l : List PV} {f : PV → Option (PV × PV)} (h : ∀ x ∈ l, ∀ p, f x = some p → p.1.key = true) : Keys (l.filterMap f) := fun x hx => by
  obtain ⟨y, hy, e⟩ := List.mem_filterMap.mp hx
  exact h y hy x e
/-- boards ahead of a log's entries, the entries -/
def zl (log : List (Nat × Nat)) : List (Nat × Nat × Nat) := (0 :: log.map (·.2)).zip log
def saidSet (W : Wd) (log : List (Nat × Nat)) : List PV := (zl log).map fun z => sentAt W z.1 z.2.1
structure LogOk (log : List (Nat × Nat)) (n d : Nat) : Prop where
  len : log.length ≤ 100
  ok : ∀ x ∈ log, x.1 < d ∧ x.2 < n
def gSaidIn : FSp := fun vs M Q => ∃ W log n d r, WF W n d r ∧ LogOk log n d ∧ vs = [W.pv, plog log] ∧ ∀ M', Ex M M' → Q (.tup (ss (saidSet W log))) M'
theorem zl_pv (log : List (Nat × Nat)) : (((0 :: log.map (·.2)).map pn).zip (log.map pp)).map (fun z => PV.tup [z.1, z.2]) = (zl log).map fun z => PV.tup [pn z.1, pp z.2] := by
  unfold zl
  rw [List.zip_map, List.map_map]
  rfl
theorem zl_ok {log : List (Nat × Nat)} {n d : Nat} (h : LogOk log n d) (h0 : 0 < n) : ∀ z ∈ zl log, z.1 < n ∧ z.2.1 < d := fun z hz => by
  have h1 := (List.of_mem_zip hz).1
  have h2 := (List.of_mem_zip hz).2
  refine ⟨?_, (h.ok _ h2).1⟩
  rcases List.mem_cons.mp h1 with e | e
  · rw [e]; exact h0
  · obtain ⟨y, hy, e⟩ := List.mem_map.mp e
    rw [← e]; exact (h.ok y hy).2
theorem b_said_in (Φ : Fns) (h1 : Φ.fn "sentence_at" = some gSentAt) (h2 : Φ.fn "along" = some gAlong) : ∀ vs M Q, gSaidIn vs M Q → wpSs Φ m_said_in (EndsP Q) (startP N_said_in vs) M := by
  rintro _ M Q ⟨W, log, n, d, r, w, hl, rfl, h⟩
  unfold m_said_in
  simp [startP, List.replicate, EndsP, h2]
  refine ⟨log, hl.len, rfl, fun M1 e1 => ?_⟩
  show zipW (pl (0 :: log.map (·.2))) (plog log) M1 _
  simp only [pl, plog, zip_tup]
  rw [zl_pv]
  let f : PV → Option (PV × PV) := fun x => match x with
    | .tup [b, .tup [a, _]] => some (sentAt W (un b) (un a), .bl true)
    | _ => none
  have fz : ∀ l : List (Nat × Nat × Nat), (l.map fun z => PV.tup [pn z.1, pp z.2]).filterMap f = (l.map fun z => sentAt W z.1 z.2.1).map fun k => (k, PV.bl true) := fun l => by
    induction l with
    | nil => rfl
    | cons a l ih => rw [List.map_cons, List.filterMap_cons, ih]; rfl
  have sl : (zl log).length ≤ 100 := by
    unfold zl
    rw [List.length_zip]
    have := hl.len
    omega
  refine dc_fm f (fun x => x.key && isT x) (.inr fun k hk => by simpa using hk) (fun _ _ => trivial) (by rw [List.length_map]; unfold LIM; omega) (fun x hx p hp => ?_) (fun x M2 hx hM2 KT KF kt kf => ?_) fun D M2 _ e2 hD => ?_
  · obtain ⟨z, hz, rfl⟩ := List.mem_map.mp hx
    cases hp
    simp [sent_key]
    rfl
  · obtain ⟨z, hz, rfl⟩ := List.mem_map.mp hx
    obtain ⟨z1, z2⟩ := zl_ok hl w.n0 z hz
    simp [pp, h1]
    exact ⟨W, n, d, r, z.1, z.2.1, w, z1, z2, rfl, fun M3 e3 => kt _ _ _ e3 rfl⟩
  · rw [fz] at hD
    have hs : Sortable (saidSet W log) := sort_sent fun x hx => by
      obtain ⟨z, _, rfl⟩ := List.mem_map.mp hx
      exact ⟨_, _, rfl⟩
    have hk : Keys ((saidSet W log).map fun k => (k, PV.bl true)) := keys_map (v := fun _ => .bl true) hs.key
    have mem : ∀ x, x ∈ (kputs [] ((saidSet W log).map fun k => (k, PV.bl true))).map (·.1) ↔ x ∈ saidSet W log := fun x => by
      rw [kputs_mem keys_nil hk, List.map_map]
      simp
    have nd := kputs_nd keys_nil hk List.nodup_nil
    have len := kputs_len ((saidSet W log).map fun k => (k, PV.bl true)) []
    refine blt_tsl hD (by simp [saidSet] at len ⊢; unfold LIM; omega) (sortable_sub hs fun x hx => (mem x).mp hx) fun M3 e3 => ?_
    have sse := ss_same hs nd mem
    unfold saidSet at sse
    rw [sse]
    exact h M3 (Ex.trans (Ex.trans e1 e2) e3)
end K74
/-! K74d: where a let comes. -/
namespace K74
open PySem PL
/-- a deed let at b may lead to y -/
def Succ (W : Wd) (lt : List (List Nat)) (b y : Nat) : Prop := ∃ d ∈ letDeeds W lt b, ∃ l, mv W b d = some l ∧ y ∈ l
inductive Reach (W : Wd) (lt : List (List Nat)) (b : Nat) : Nat → Prop
  | start : Reach W lt b b
  | step {x y : Nat} : Reach W lt b x → Succ W lt x y → Reach W lt b y
theorem letDeeds_mem {W : Wd} {lt : List (List Nat)} {b x n d : Nat} (hl : LetOk lt n d) (h : x ∈ letDeeds W lt b) : x < d ∧ ∃ l, mv W b x = some l := by
  unfold letDeeds at h
  rw [List.mem_filter] at h
  exact ⟨(lrow_ok hl).2 x h.1, Option.isSome_iff_exists.mp h.2⟩
theorem mv_ok {W : Wd} {n d r b x : Nat} {l : List Nat} (w : WF W n d r) (hb : b < n) (hx : x < d) (h : mv W b x = some l) : l.length ≤ 100 ∧ ∀ y ∈ l, y < n := by
  have h1 : b < W.moves.length := by rw [w.moves]; exact hb
  have h2 : x < (W.moves[b]).length := by rw [w.row _ (List.getElem_mem h1)]; exact hx
  have e : (W.moves[b])[x] = some l := by simpa [mv, h1, h2] using h
  exact ⟨w.lotl _ (List.getElem_mem h1) _ (List.getElem_mem h2) l e, w.lot _ (List.getElem_mem h1) _ (List.getElem_mem h2) l e⟩
/-- the list and the dict of a search -/
structure Sx (M : MH) (D a : Addr) (ls : List Nat) (M' : MH) : Prop where
  ex : Ex M M'
  fD : M D = none
  fa : M a = none
  ne : a ≠ D
  lst : M' a = some (.lst (ls.map pn))
  dct : ∃ kvs, M' D = some (.dct kvs 0) ∧ kvs.map (·.1) = ls.map pn ∧ ∀ x ∈ kvs, ∃ t : List PV, x.2 = .tup t ∧ t.length ≤ kvs.length
theorem nat_kOk {kvs : List (PV × PV)} {ls : List Nat} {x : Nat} (h : kvs.map (·.1) = ls.map pn) : kOk kvs (pn x) = true := by
  unfold kOk
  have : (kvs.all fun x => isF x.1) = true := List.all_eq_true.mpr fun y hy => by
    have : y.1 ∈ ls.map pn := by rw [← h]; exact List.mem_map.mpr ⟨y, hy, rfl⟩
    obtain ⟨q, _, e⟩ := List.mem_map.mp this
    rw [← e]; rfl
  rw [this]; rfl
theorem nat_keys {kvs : List (PV × PV)} {ls : List Nat} (h : kvs.map (·.1) = ls.map pn) : Keys kvs := fun y hy => by
  have : y.1 ∈ ls.map pn := by rw [← h]; exact List.mem_map.mpr ⟨y, hy, rfl⟩
  obtain ⟨q, _, e⟩ := List.mem_map.mp this
  rw [← e]; rfl
theorem pn_inj {a b : Nat} (h : pn a = pn b) : a = b := by
  have : (a : Int) = b := PV.int.inj h
  omega
theorem mem_pn {ls : List Nat} {x : Nat} : pn x ∈ ls.map pn ↔ x ∈ ls := by
  rw [List.mem_map]
  exact ⟨fun ⟨y, hy, e⟩ => pn_inj e ▸ hy, fun h => ⟨x, h, rfl⟩⟩
/-- which boards stand there -/
structure Gx (W : Wd) (lt : List (List Nat)) (b0 n : Nat) (ls : List Nat) : Prop where
  nd : ls.Nodup
  les : ∀ x ∈ ls, x < n
  re : ∀ x ∈ ls, Reach W lt b0 x
  st : b0 ∈ ls
theorem nodup_le {ls : List Nat} {n : Nat} (nd : ls.Nodup) (h : ∀ x ∈ ls, x < n) : ls.length ≤ n := by
  have := List.Nodup.length_le_of_subset nd (l₂ := List.range n) fun x hx => List.mem_range.mpr (h x hx)
  simpa using this
theorem Gx.len {W : Wd} {lt : List (List Nat)} {b0 n : Nat} {ls : List Nat} (g : Gx W lt b0 n ls) : ls.length ≤ n := nodup_le g.nd g.les
def gRowsFrom : FSp := fun vs M Q => ∃ W lt n d r b, WF W n d r ∧ LetOk lt n d ∧ b < n ∧ vs = [W.pv, pll lt, pn b] ∧
  ∀ M' D kvs (ls : List Nat), Ex M M' → M D = none → M' D = some (.dct kvs 0) → kvs.map (·.1) = ls.map pn → ls.Nodup → ls.length ≤ n → (∀ x, x ∈ ls ↔ Reach W lt b x) → Q (.ref D) M'
/-- one more board -/
theorem Sx.add {M M' : MH} {D a : Addr} {ls : List Nat} {kvs : List (PV × PV)} {y n : Nat} {W : Wd} {lt : List (List Nat)} {b0 : Nat} {t : List PV} (s : Sx M D a ls M') (g : Gx W lt b0 n ls) (hd : M' D = some (.dct kvs 0)) (hk : kvs.map (·.1) = ls.map pn) (hv : ∀ x ∈ kvs, ∃ t : List PV, x.2 = .tup t ∧ t.length ≤ kvs.length)
    (hy : y ∉ ls) (hn : y < n) (hr : Reach W lt b0 y) (ht : t.length ≤ kvs.length + 1) :
    Sx M D a (ls ++ [y]) ((M'.upd D (.dct (kput kvs (pn y) (.tup t)) 0)).upd a (.lst (ls.map pn ++ [pn y]))) ∧ Gx W lt b0 n (ls ++ [y]) := by
  have kp : kput kvs (pn y) (.tup t) = kvs ++ [(pn y, .tup t)] := by
    unfold kput
    have : khas kvs (pn y) = false := by
      cases q : khas kvs (pn y) with
      | false => rfl
      | true =>
        have := (khas_iff (nat_keys hk) (show (pn y).key = true from rfl)).mp q
        rw [hk] at this
        exact absurd (mem_pn.mp this) hy
    rw [this]; rfl
  refine ⟨⟨(s.ex.over s.fD).over s.fa, s.fD, s.fa, s.ne, by rw [MH.upd_same, List.map_append]; rfl, kvs ++ [(pn y, .tup t)], ?_, by rw [List.map_append, List.map_append, hk]; rfl, fun x hx => ?_⟩, ⟨?_, fun x hx => ?_, fun x hx => ?_, List.mem_append_left _ g.st⟩⟩
  · rw [MH.upd_ne (Ne.symm s.ne), MH.upd_same, kp]
  · rw [List.length_append]
    rcases List.mem_append.mp hx with h | h
    · obtain ⟨u, e, hu⟩ := hv x h
      exact ⟨u, e, by simp; omega⟩
    · rw [List.mem_singleton.mp h]
      exact ⟨t, rfl, by simpa using ht⟩
  · rw [List.nodup_append]
    exact ⟨g.nd, by simp, fun p hp q hq => by rw [List.mem_singleton.mp hq]; exact fun z => hy (z ▸ hp)⟩
  · rcases List.mem_append.mp hx with h | h
    · exact g.les x h
    · rw [List.mem_singleton.mp h]; exact hn
  · rcases List.mem_append.mp hx with h | h
    · exact g.re x h
    · rw [List.mem_singleton.mp h]; exact hr
@[simp] theorem lt_pn {i j : Nat} {M : MH} {k : Bool → Prop} : cmpW .Lt (pn i) (.int (j : Int)) M k = k (decide (i < j)) := by
  show k (decide ((i : Int) < (j : Int))) = k (decide (i < j))
  congr 1
  simp
@[simp] theorem aug_pn {i : Nat} {k : PV → Prop} : augW .Add (pn i) (.int 1) k = k (pn (i + 1)) := rfl
theorem ix_lstN {M : MH} {Q : WK} {a : Addr} {l : List PV} {i : Nat} (h : M a = some (.lst l)) : ixW (.ref a) (pn i) M Q = ok (l[i]?) fun v => Q v M := by
  show ixW (.ref a) (.int (i : Int)) M Q = _
  rw [ix_lst h, getI_nat]
section
variable (W : Wd) (lt : List (List Nat)) (b n : Nat) (M : MH) (D a : Addr)
abbrev ρf (k : Nat) (x y z : Option PV) : PEnv := [some W.pv, some (pll lt), some (pn b), some (.ref D), some (.ref a), some (pn k), x, y, z]
/-- ahead of a turn of the while -/
def Wrf (m : Nat) (ρ' : PEnv) (M' : MH) : Prop := ∃ k ls x y z, ρ' = ρf W lt b D a k x y z ∧ m = n - k ∧ k ≤ ls.length ∧ Sx M D a ls M' ∧ Gx W lt b n ls ∧ ∀ i x, i < k → ls[i]? = some x → ∀ y, Succ W lt x y → y ∈ ls
/-- ahead of deed i at the board h -/
def Wdf (k h : Nat) (ls0 : List Nat) (i : Nat) (ρ' : PEnv) (M' : MH) : Prop := ∃ ls y z, ρ' = ρf W lt b D a k (some (pn h)) y z ∧ ls0 <+: ls ∧ Sx M D a ls M' ∧ Gx W lt b n ls ∧ ∀ j d l, j < i → (letDeeds W lt h)[j]? = some d → mv W h d = some l → ∀ y ∈ l, y ∈ ls
/-- ahead of board i that a deed leads to -/
def Wtf (k h d : Nat) (lot ls0 : List Nat) (i : Nat) (ρ' : PEnv) (M' : MH) : Prop := ∃ ls z, ρ' = ρf W lt b D a k (some (pn h)) (some (pn d)) z ∧ ls0 <+: ls ∧ Sx M D a ls M' ∧ Gx W lt b n ls ∧ ∀ j y, j < i → lot[j]? = some y → y ∈ ls
end
theorem b_rows_from (Φ : Fns) (h1 : Φ.fn "let_deeds" = some gLetDeeds) : ∀ vs M Q, gRowsFrom vs M Q → wpSs Φ m_rows_from (EndsP Q) (startP N_rows_from vs) M := by
  rintro _ M Q ⟨W, lt, n, d, r, b, w, hl, hb, rfl, h⟩
  unfold m_rows_from
  simp [startP, List.replicate, EndsP]
  intro D hD
  refine ⟨⟨by rw [MH.upd_same], rfl, rfl⟩, by decide, fun a ha => ⟨by decide, ?_⟩⟩
  have ne : a ≠ D := fun z => by rw [z, MH.upd_same] at ha; cases ha
  have fa : M a = none := by
    rw [MH.upd_ne ne, MH.upd_ne ne] at ha; exact ha
  refine ⟨Wrf W lt b n M D a, ⟨n, 0, [b], none, none, none, rfl, by omega, Nat.zero_le _, ?_, ?_, fun i x hi => absurd hi (by omega)⟩, ?_⟩
  · refine ⟨((Ex.new (mo := .dct [] 0) hD).over hD).over fa, hD, fa, ne, MH.upd_same .., [(pn b, .tup [])], ?_, rfl, fun x hx => ?_⟩
    · rw [MH.upd_ne (Ne.symm ne), MH.upd_same]
    · rw [List.mem_singleton.mp hx]
      exact ⟨[], rfl, by simp⟩
  · exact ⟨by simp, fun x hx => by rw [List.mem_singleton.mp hx]; exact hb, fun x hx => by rw [List.mem_singleton.mp hx]; exact .start, by simp⟩
  rintro m ρ' M' ⟨k, ls, x, y, z, rfl, rfl, hk, s, g, cl⟩
  have gl := g.len
  simp [len_lst s.lst]
  split
  · rename_i c
    simp [ix_lstN s.lst, c, h1]
    refine ⟨W, lt, n, d, r, ls[k], w, hl, g.les _ (List.getElem_mem c), rfl, fun M1 e1 => ?_⟩
    show exW (.tup ((letDeeds W lt ls[k]).map pn)) M1 _
    simp only [ex_tup]
    have s1 : Sx M D a ls M1 := by
      obtain ⟨kvs, q1, q2, q3⟩ := s.dct
      exact ⟨Ex.trans s.ex e1, s.fD, s.fa, s.ne, e1.at s.lst, kvs, e1.at q1, q2, q3⟩
    refine ⟨Wdf W lt b n M D a (k + 1) ls[k] ls, ⟨ls, y, z, rfl, List.prefix_refl _, s1, g, fun j d l hj => absurd hj (by omega)⟩, ?_, ?_⟩
    · rintro i x ρ' M2 hx ⟨l2, y2, z2, rfl, pf, s2, g2, cl2⟩
      refine ⟨trivial, ?_⟩
      rw [List.getElem?_map] at hx
      obtain ⟨dd', hd', rfl⟩ := Option.map_eq_some_iff.mp hx
      have hmem := List.mem_of_getElem? hd'
      obtain ⟨dlt, lot, hlot⟩ := letDeeds_mem hl hmem
      have hkn : ls[k] < n := g.les _ (List.getElem_mem c)
      obtain ⟨lotl, lotn⟩ := mv_ok w hkn dlt hlot
      simp
      rw [ix_mv w hkn dlt, hlot]
      show exW (.tup (lot.map pn)) M2 _
      simp only [ex_tup]
      refine ⟨Wtf W lt b n M D a (k + 1) ls[k] dd' lot l2, ⟨l2, z2, rfl, List.prefix_refl _, s2, g2, fun j y hj => absurd hj (by omega)⟩, ?_, ?_⟩
      · rintro j x ρ' M3 hx3 ⟨l3, z3, rfl, pf3, s3, g3, cl3⟩
        refine ⟨trivial, ?_⟩
        rw [List.getElem?_map] at hx3
        obtain ⟨th, hth, rfl⟩ := Option.map_eq_some_iff.mp hx3
        obtain ⟨kvs, q1, q2, q3⟩ := s3.dct
        have thn := lotn th (List.mem_of_getElem? hth)
        simp [notIn_dct q1 (nat_kOk q2)]
        have hh := khas_iff (nat_keys q2) (show (pn th).key = true from rfl)
        rw [q2, mem_pn] at hh
        split
        · rename_i c3
          have nm : th ∈ l3 := hh.mp c3
          refine ⟨l3, some (pn th), rfl, pf3, s3, g3, fun j' y' hj' e' => ?_⟩
          rcases Nat.lt_succ_iff_lt_or_eq.mp hj' with q | q
          · exact cl3 j' y' q e'
          · subst q
            rw [hth] at e'
            cases e'
            exact nm
        · rename_i c3
          have nm : th ∉ l3 := fun z => c3 (hh.mpr z)
          have hin : ls[k] ∈ l3 := (pf.trans pf3).subset (List.getElem_mem c)
          have hk3 := khas_iff (nat_keys q2) (show (pn ls[k]).key = true from rfl)
          rw [q2, mem_pn] at hk3
          obtain ⟨en, hen, eget⟩ := kget_of (hk3.mpr hin)
          obtain ⟨tt, et, tl⟩ := q3 en hen
          have l3n := g3.len
          have kl : kvs.length = l3.length := by
            have := congrArg List.length q2
            simpa using this
          have n1 := w.n1
          rw [ix_dct q1, eget, et]
          refine ⟨nat_kOk q2, by decide, by decide, ?_⟩
          simp only [add_tup]
          refine ⟨by simp; unfold LIM; omega, set_dct q1 (nat_kOk q2) (by unfold LIM; omega) ?_⟩
          have re : Reach W lt b th := .step (g.re _ (List.getElem_mem c)) ⟨dd', hmem, lot, hlot, List.mem_of_getElem? hth⟩
          obtain ⟨sa, ga⟩ := s3.add (t := tt ++ [.tup [pn dd', pn th]]) g3 q1 q2 q3 nm thn re (by simp; omega)
          have la : (M3.upd D (.dct (kput kvs (pn th) (.tup (tt ++ [.tup [pn dd', pn th]]))) 0)) a = some (.lst (l3.map pn)) := by
            rw [MH.upd_ne s3.ne]; exact s3.lst
          refine ⟨ty_app la, mt_app la (by simp; unfold LIM; omega) ?_⟩
          refine ⟨l3 ++ [th], some (pn th), rfl, pf3.trans (List.prefix_append _ _), sa, ga, fun j' y' hj' e' => ?_⟩
          rcases Nat.lt_succ_iff_lt_or_eq.mp hj' with q | q
          · exact List.mem_append_left _ (cl3 j' y' q e')
          · subst q
            rw [hth] at e'
            cases e'
            simp
      · rintro ρ' M3 ⟨l3, z3, rfl, pf3, s3, g3, cl3⟩
        refine ⟨trivial, l3, some (pn dd'), z3, rfl, pf.trans pf3, s3, g3, fun j' d2 l' hj' e1' e2' y' hy' => ?_⟩
        rcases Nat.lt_succ_iff_lt_or_eq.mp hj' with q | q
        · exact pf3.subset (cl2 j' d2 l' q e1' e2' y' hy')
        · subst q
          rw [hd'] at e1'
          cases e1'
          rw [hlot] at e2'
          cases e2'
          obtain ⟨j2, hj2⟩ := List.getElem?_of_mem hy'
          refine cl3 j2 y' ?_ hj2
          rw [List.length_map]
          exact (List.getElem?_eq_some_iff.mp hj2).1
    · rintro ρ' M2 ⟨l2, y2, z2, rfl, pf, s2, g2, cl2⟩
      refine ⟨trivial, n - (k + 1), by omega, k + 1, l2, _, _, _, rfl, rfl, ?_, s2, g2, fun i x hi hx y hy => ?_⟩
      · have := pf.length_le
        omega
      · obtain ⟨t, rfl⟩ := pf
        have hx' : ls[i]? = some x := by
          rw [← hx, List.getElem?_append_left (by omega)]
        rcases Nat.lt_succ_iff_lt_or_eq.mp hi with q | q
        · exact List.mem_append_left _ (cl i x q hx' y hy)
        · subst q
          rw [List.getElem?_eq_getElem c] at hx'
          cases hx'
          obtain ⟨d2, hd2, l', e1', e2'⟩ := hy
          obtain ⟨j2, hj2⟩ := List.getElem?_of_mem hd2
          refine cl2 j2 d2 l' ?_ hj2 e1' y e2'
          rw [List.length_map]
          exact (List.getElem?_eq_some_iff.mp hj2).1
  · rename_i c
    have ek : k = ls.length := by omega
    obtain ⟨kvs, q1, q2, q3⟩ := s.dct
    refine h M' D kvs ls s.ex hD q1 q2 g.nd gl fun x => ⟨g.re x, fun hr => ?_⟩
    induction hr with
    | start => exact g.st
    | step _ hs ih =>
      obtain ⟨i, hi⟩ := List.getElem?_of_mem ih
      exact cl i _ (by have := (List.getElem?_eq_some_iff.mp hi).1; omega) hi _ hs
end K74
/-! K74e: comes, sentences. -/
namespace K74
open PySem PL
def gComes : FSp := fun vs M Q => ∃ W lt n d r, WF W n d r ∧ LetOk lt n d ∧ vs = [W.pv, pll lt] ∧ ∀ M' (ls : List Nat), Ex M M' → ls.Nodup → ls.length ≤ n → (∀ x, x ∈ ls ↔ Reach W lt 0 x) → Q (pl ls) M'
theorem psort_pn (l : List Nat) : ∃ m : List Nat, psort (l.map pn) = m.map pn ∧ m.Perm l := ⟨_, isort_map pn pylt l, isort_perm _ l⟩
theorem b_comes (Φ : Fns) (h1 : Φ.fn "rows_from" = some gRowsFrom) : ∀ vs M Q, gComes vs M Q → wpSs Φ m_comes (EndsP Q) (startP N_comes vs) M := by
  rintro _ M Q ⟨W, lt, n, d, r, w, hl, rfl, h⟩
  unfold m_comes
  simp [startP, List.replicate, EndsP, h1]
  refine ⟨W, lt, n, d, r, 0, w, hl, w.n0, rfl, fun M' D kvs ls e hD q1 q2 nd len re => ?_⟩
  have n1 := w.n1
  have kl : kvs.length = ls.length := by
    have := congrArg List.length q2
    simpa using this
  refine blt_ts q1 (by unfold LIM; omega) (sort_nat fun x hx => ?_) fun M2 e2 => ?_
  · rw [q2] at hx
    obtain ⟨y, _, rfl⟩ := List.mem_map.mp hx
    exact ⟨y, rfl⟩
  · rw [q2]
    obtain ⟨m, em, pm⟩ := psort_pn ls
    rw [em]
    exact h M2 m (Ex.trans e e2) (pm.nodup_iff.mpr nd) (by rw [pm.length_eq]; exact len) fun x => pm.mem_iff.trans (re x)
/-- hashes of sentences by which unlike deeds are let at a board are unlike -/
def HashOk (W : Wd) (n d : Nat) : Prop := ∀ (w : World) (b d1 d2 : Nat), b < n → d1 < d → d2 < d → (sentAt W b d1).hash w = (sentAt W b d2).hash w → d1 = d2
/-- all sentences -/
def IsSent (W : Wd) (lt : List (List Nat)) (x : PV) : Prop := ∃ b d, Reach W lt 0 b ∧ d ∈ letDeeds W lt b ∧ x = sentAt W b d
def gSentences : FSp := fun vs M Q => ∃ W lt n d r, WF W n d r ∧ LetOk lt n d ∧ HashOk W n d ∧ vs = [W.pv, pll lt] ∧ ∀ M' (S : List PV), Ex M M' → Sortable S → S.Nodup → (∀ x, x ∈ S ↔ IsSent W lt x) → Q (.tup (psort S)) M'
/-- ahead of board i -/
def Wsn (W : Wd) (lt : List (List Nat)) (M : MH) (D : Addr) (bs : List Nat) (i : Nat) (ρ' : PEnv) (M' : MH) : Prop :=
  ∃ kvs x3, ρ' = [some W.pv, some (pll lt), some (.ref D), x3, none] ∧ Ex M M' ∧ M' D = some (.dct kvs 0) ∧ Keys kvs ∧ (kvs.map (·.1)).Nodup ∧ kvs.length ≤ 100 * i ∧ ∀ x, x ∈ kvs.map (·.1) ↔ ∃ b ∈ bs.take i, ∃ d ∈ letDeeds W lt b, x = sentAt W b d
theorem ld_len {W : Wd} {lt : List (List Nat)} {b n d : Nat} (hl : LetOk lt n d) : (letDeeds W lt b).length ≤ 100 := Nat.le_trans (List.length_filter_le _ _) (lrow_ok hl).1
theorem allT_of {kvs : List (PV × PV)} (h : ∀ x ∈ kvs, ∃ W b d, x.1 = sentAt W b d) : allT kvs = true := List.all_eq_true.mpr fun x hx => by
  obtain ⟨W, b, d, e⟩ := h x hx
  rw [e, sent_key]; rfl
theorem b_sentences (Φ : Fns) (h1 : Φ.fn "comes" = some gComes) (h2 : Φ.fn "let_deeds" = some gLetDeeds) (h3 : Φ.fn "sentence_at" = some gSentAt) : ∀ vs M Q, gSentences vs M Q → wpSs Φ m_sentences (EndsP Q) (startP N_sentences vs) M := by
  rintro _ M Q ⟨W, lt, n, d, r, w, hl, hh, rfl, h⟩
  unfold m_sentences
  simp [startP, List.replicate, EndsP, h1]
  intro D hD
  refine ⟨W, lt, n, d, r, w, hl, rfl, fun M1 bs e1 nd bl re => ?_⟩
  have n1 := w.n1
  simp only [pl, ex_tup]
  have bn : ∀ x ∈ bs, x < n := fun x hx => by
    have := (re x).mp hx
    cases this with
    | start => exact w.n0
    | step hr hs =>
      obtain ⟨d', hd', l, e, hy⟩ := hs
      rename_i x0
      obtain ⟨dl, _⟩ := letDeeds_mem hl hd'
      by_cases c : x0 < n
      · exact (mv_ok w c dl e).2 x hy
      · exfalso
        have : mv W x0 d' = none := by
          unfold mv
          rw [show W.moves[x0]? = none from List.getElem?_eq_none (by rw [w.moves]; omega)]
          rfl
        rw [this] at e; cases e
  refine ⟨Wsn W lt M D bs, ⟨[], none, rfl, (Ex.trans (Ex.new hD) e1), e1.at (MH.upd_same ..), keys_nil, List.nodup_nil, Nat.zero_le _, fun x => by simp⟩, ?_, ?_⟩
  · rintro i x ρ' M2 hx ⟨kvs, x3, rfl, e2, q1, q2, q3, q4, q5⟩
    refine ⟨trivial, ?_⟩
    rw [List.getElem?_map] at hx
    obtain ⟨b, hb, rfl⟩ := Option.map_eq_some_iff.mp hx
    have hbn := bn b (List.mem_of_getElem? hb)
    have il : i < bs.length := (List.getElem?_eq_some_iff.mp hb).1
    simp [ty_upd q1, h2]
    refine ⟨W, lt, n, d, r, b, w, hl, hbn, rfl, fun M3 e3 => ?_⟩
    show exW (.tup ((letDeeds W lt b).map pn)) M3 _
    simp only [ex_tup]
    let f : PV → Option (PV × PV) := fun x => some (sentAt W b (un x), .bl true)
    have ff : ((letDeeds W lt b).map pn).filterMap f = (((letDeeds W lt b).map fun d => sentAt W b d).map fun k => (k, PV.bl true)) := by
      rw [List.filterMap_map, List.map_map, ← List.filterMap_eq_map]
      rfl
    have ldl := ld_len (W := W) (b := b) hl
    refine dc_fm f (fun x => x.key && isT x) (.inr fun k hk => by simpa using hk) (fun _ _ => trivial) (by rw [List.length_map]; unfold LIM; omega) (fun x hx p hp => ?_) (fun x M4 hx hM4 KT KF kt kf => ?_) fun D2 M4 n4 e4 hD2 => ?_
    · cases hp
      simp [sent_key]
      rfl
    · obtain ⟨z, hz, rfl⟩ := List.mem_map.mp hx
      simp [h3]
      exact ⟨W, n, d, r, b, z, w, hbn, (letDeeds_mem hl hz).1, rfl, fun M5 e5 => kt _ _ _ e5 rfl⟩
    · rw [ff] at hD2
      generalize hps : (((letDeeds W lt b).map fun d => sentAt W b d).map fun k => (k, PV.bl true)) = ps at hD2
      have kps : Keys ps := by
        rw [← hps]
        exact keys_map (v := fun _ => .bl true) fun x hx => by
          obtain ⟨z, _, rfl⟩ := List.mem_map.mp hx
          exact sent_key
      have pl1 : ps.length ≤ 100 := by rw [← hps]; simpa using ldl
      have pm : ∀ x, x ∈ ps.map (·.1) ↔ ∃ d ∈ letDeeds W lt b, x = sentAt W b d := fun x => by
        rw [← hps]
        simp [eq_comm]
      have ml := kputs_len ps []
      have mk := Keys.puts keys_nil kps
      have mn := kputs_nd keys_nil kps List.nodup_nil
      have mm : ∀ x, x ∈ (kputs [] ps).map (·.1) ↔ ∃ d ∈ letDeeds W lt b, x = sentAt W b d := fun x => by
        rw [kputs_mem keys_nil kps, pm]
        simp
      have e23 := Ex.trans e3 e4
      have t1 : allT kvs = true := allT_of fun x hx => by
        obtain ⟨b', _, d', _, e⟩ := (q5 x.1).mp (List.mem_map.mpr ⟨x, hx, rfl⟩)
        exact ⟨W, b', d', e⟩
      have t2 : allT (kputs [] ps) = true := allT_of fun x hx => by
        obtain ⟨d', _, e⟩ := (mm x.1).mp (List.mem_map.mpr ⟨x, hx, rfl⟩)
        exact ⟨W, b, d', e⟩
      have neD : D ≠ D2 := ne_new (e3.at q1) n4
      simp only [List.length_nil, Nat.zero_add] at ml
      refine mt_updD (e23.at q1) hD2 neD (.inr ⟨⟨t1, t2⟩, .inr fun w' => ?_⟩) (by unfold LIM; omega) ?_
      · have inj : ∀ x ∈ kputs [] ps, ∀ y ∈ kputs [] ps, x.1.hash w' = y.1.hash w' → x.1 = y.1 := fun x hx y hy e => by
          obtain ⟨d1, f1, e1'⟩ := (mm x.1).mp (List.mem_map.mpr ⟨x, hx, rfl⟩)
          obtain ⟨d2, f2, e2'⟩ := (mm y.1).mp (List.mem_map.mpr ⟨y, hy, rfl⟩)
          rw [e1', e2'] at e
          rw [e1', e2', hh w' b d1 d2 hbn (letDeeds_mem hl f1).1 (letDeeds_mem hl f2).1 e]
        unfold List.Nodup at mn ⊢
        rw [List.pairwise_map] at mn ⊢
        exact mn.imp_of_mem fun {x y} hx hy ne' e' => ne' (inj x hx y hy e')
      · refine ⟨_, _, rfl, (Ex.trans e2 e23).over hD, MH.upd_same .., q2.puts mk, kputs_nd q2 mk q3, ?_, fun x => ?_⟩
        · have := kputs_len (kputs [] ps) kvs
          omega
        · rw [kputs_mem q2 mk, q5, mm, List.take_add_one, hb]
          simp [List.mem_append, or_and_right, exists_or]
  · rintro ρ' M2 ⟨kvs, x3, rfl, e2, q1, q2, q3, q4, q5⟩
    refine ⟨trivial, ?_⟩
    simp
    have ks : ∀ x, x ∈ kvs.map (·.1) ↔ IsSent W lt x := fun x => by
      rw [q5, List.length_map, List.take_length]
      exact ⟨fun ⟨b, hb, d', hd', e⟩ => ⟨b, d', (re b).mp hb, hd', e⟩, fun ⟨b, d', hb, hd', e⟩ => ⟨b, (re b).mpr hb, d', hd', e⟩⟩
    have so : Sortable (kvs.map (·.1)) := sort_sent fun x hx => by
      obtain ⟨b, d', _, _, rfl⟩ := (ks x).mp hx
      exact ⟨_, _, rfl⟩
    rw [List.length_map] at q4
    refine blt_tsl q1 (by unfold LIM; omega) so fun M3 e3 => ?_
    exact h M3 _ (Ex.trans e2 e3) so q3 ks
end K74
/-! K74f: where the law's draws come from. -/
namespace K74
open PySem PL
/-- a box of draws -/
def Bx (M : MH) (b : Addr) : Prop := ∃ g s : Int, 0 ≤ g ∧ 0 ≤ s ∧ M b = some (.lst [.int g, .int s])
theorem Bx.ex {M M' : MH} {b : Addr} (h : Bx M b) (e : Ex M M') : Bx M' b := let ⟨g, s, h1, h2, h3⟩ := h; ⟨g, s, h1, h2, e.at h3⟩
theorem int_pn {i : Int} (h : 0 ≤ i) : PV.int i = pn i.toNat := by
  unfold pn
  rw [Int.toNat_of_nonneg h]
@[simp] theorem mul_int {i j : Int} {M : MH} {Q : WK} : binW .Mult (.int i) (.int j) M Q = ((-(2 ^ 64) < j ∧ j < 2 ^ 64) ∧ Q (.int (i * j)) M) := rfl
@[simp] theorem div_int {i j : Int} {M : MH} {Q : WK} : binW .FloorDiv (.int i) (.int j) M Q = ((0 < j ∧ j < 1073741824) ∧ Q (.int (i / j)) M) := rfl
@[simp] theorem mod_int {i j : Int} {M : MH} {Q : WK} : binW .Mod (.int i) (.int j) M Q = (0 < j ∧ Q (.int (i % j)) M) := rfl
@[simp] theorem pow_int {i j : Int} {M : MH} {Q : WK} : binW .Pow (.int i) (.int j) M Q = ((0 ≤ j ∧ j ≤ 64 ∧ i.natAbs < 2 ^ 32) ∧ Q (.int (i ^ j.toNat)) M) := rfl
@[simp] theorem blt_int {i : Int} {M : MH} {Q : WK} : bltW .int [.int i] M Q = Q (.int i) M := rfl
@[simp] theorem blt_abs {i : Int} {M : MH} {Q : WK} : bltW .abs [.int i] M Q = Q (.int (if i < 0 then -i else i)) M := rfl
def gTake : FSp := fun vs M Q => ∃ b m, vs = [.ref b, pn m] ∧ 0 < m ∧ m < 1000000 ∧ Bx M b ∧ ∀ M' x, Fr [b] M M' → Bx M' b → x < m → Q (pn x) M'
theorem set_lst {M : MH} {a : Addr} {l : List PV} {j : Int} {m : Nat} {v : PV} {k : MH → Prop} (h : M a = some (.lst l)) (hi : L2.ixN l.length j = some m) (q : k (M.upd a (.lst (l.set m v)))) : setW (.ref a) (.int j) v M k := by
  show (match M a with
    | some (.lst l) => onI (PV.int j) fun j => ok (L2.ixN l.length j) fun n => k (M.upd a (.lst (l.set n v)))
    | some (.dct kvs 0) => kOk kvs (.int j) = true ∧ kvs.length < LIM ∧ k (M.upd a (.dct (kput kvs (.int j) v) 0))
    | _ => False)
  rw [h]
  show ok (L2.ixN l.length j) _
  rw [hi]
  exact q
theorem b_take (Φ : Fns) : ∀ vs M Q, gTake vs M Q → wpSs Φ m_law_take (EndsP Q) (startP N_law_take vs) M := by
  rintro _ M Q ⟨b, m, rfl, m0, m1, ⟨g, s, hg, hs, hb⟩, h⟩
  have mi : (0 : Int) < (m : Int) := by omega
  unfold m_law_take
  simp [startP, List.replicate, EndsP, ix_lst hb, pn]
  split
  · rename_i c
    refine ⟨m0, ?_⟩
    refine ⟨⟨m0, by omega⟩, set_lst (m := 0) hb (show L2.ixN 2 0 = some 0 by decide) ?_⟩
    have e : PV.int (g % (m : Int)) = pn (g % m).toNat := int_pn (Int.emod_nonneg _ (by omega))
    simp [e]
    refine h _ _ (Fr.put (by simp)) ⟨g / m, s, Int.ediv_nonneg hg (by omega), hs, MH.upd_same ..⟩ ?_
    have := Int.emod_lt_of_pos g mi
    omega
  · rename_i c
    refine set_lst (m := 1) hb (show L2.ixN 2 1 = some 1 by decide) ?_
    simp [ix_lst (MH.upd_same ..), m0]
    have p1 : 0 ≤ ((s * 39373 + 229) % 2147483647 * 40692 + 103) % 2147483563 + 1 := by
      have := Int.emod_nonneg ((s * 39373 + 229) % 2147483647 * 40692 + 103) (show (2147483563 : Int) ≠ 0 by decide)
      omega
    rw [int_pn (Int.emod_nonneg _ (by omega))]
    refine h _ _ (Fr.put (by simp)) ⟨g, _, hg, p1, MH.upd_same ..⟩ ?_
    have := Int.emod_lt_of_pos (((s * 39373 + 229) % 2147483647 * 2147483629 + (((s * 39373 + 229) % 2147483647 * 40692 + 103) % 2147483563 + 1)) / 8273) mi
    have := Int.emod_nonneg (((s * 39373 + 229) % 2147483647 * 2147483629 + (((s * 39373 + 229) % 2147483647 * 40692 + 103) % 2147483563 + 1)) / 8273) (show (m : Int) ≠ 0 by omega)
    omega
def gPick : FSp := fun vs M Q => ∃ b l x, vs = [.ref b, x] ∧ (x = .tup l ∨ ∃ a, a ≠ b ∧ x = .ref a ∧ M a = some (.lst l)) ∧ l ≠ [] ∧ l.length < 1000000 ∧ Bx M b ∧ ∀ M' y, Fr [b] M M' → Bx M' b → y ∈ l → Q y M'
theorem b_pick (Φ : Fns) (h1 : Φ.fn "_law_take" = some gTake) : ∀ vs M Q, gPick vs M Q → wpSs Φ m_law_pick (EndsP Q) (startP N_law_pick vs) M := by
  rintro _ M Q ⟨b, l, x, rfl, hx, l0, l1, hb, h⟩
  have lp := List.length_pos_iff.mpr l0
  unfold m_law_pick
  simp [startP, List.replicate, EndsP, h1]
  have len : lenOf M x = some l.length := by
    rcases hx with rfl | ⟨a, _, rfl, ha⟩
    · rfl
    · exact len_lst ha
  simp [len]
  refine ⟨b, l.length, rfl, lp, l1, hb, fun M' i fr bx hi => ?_⟩
  have fin : Q l[i] M' := h M' _ fr bx (List.getElem_mem hi)
  rcases hx with rfl | ⟨a, ne, rfl, ha⟩
  · show ixW (.tup l) (.int (i : Int)) M' Q
    simp [hi, fin]
  · show ixW (.ref a) (pn i) M' Q
    rw [ix_lstN (fr a _ (by simpa using ne) ha), List.getElem?_eq_getElem hi]
    exact fin
def gBox : FSp := fun vs M Q => ∃ (a : Addr) (ns : List Int) (k : Nat), vs = [.ref a, pn k] ∧ M a = some (.rol (ns.map PV.int)) ∧ ns.length ≤ 63 ∧ k ≤ 100 ∧ ∀ M' D, Ex M M' → M D = none → Bx M' D → Q (.ref D) M'
theorem b_box (Φ : Fns) : ∀ vs M Q, gBox vs M Q → wpSs Φ m_law_box (EndsP Q) (startP N_law_box vs) M := by
  rintro _ M Q ⟨a, ns, k, rfl, ha, hl, hk, h⟩
  unfold m_law_box
  simp [startP, List.replicate, EndsP, len_rol ha, pn]
  have kb : (-18446744073709551616 : Int) < (k : Int) ∧ (k : Int) < 18446744073709551616 := by omega
  have fin : ∀ (g v : Int), 0 ≤ g → 0 ≤ v → ∀ a, M a = none → Q (.ref a) (M.upd a (.lst [.int g, .int ((v % 2147483563 * 54250027 + 8101 * (k : Int)) % 2147483563 + 1)])) := fun g v hg hv a ha => by
    refine h _ a (Ex.new ha) ha ⟨g, _, hg, ?_, MH.upd_same ..⟩
    have := Int.emod_nonneg (v % 2147483563 * 54250027 + 8101 * (k : Int)) (show (2147483563 : Int) ≠ 0 by decide)
    omega
  refine ⟨kb, ?_⟩
  have k0 : (0 : Int) ≤ k := by omega
  split
  · rename_i c
    simp [ix_rol ha, c]
    have hv : 0 ≤ (if ns[k] < 0 then -ns[k] else ns[k]) := by split <;> omega
    generalize (if ns[k] < 0 then -ns[k] else ns[k]) = v at hv
    split
    · exact ⟨kb, by decide, fin v v hv hv⟩
    · exact ⟨kb, by decide, fin 0 v (by decide) hv⟩
  · split
    · rename_i c c2
      refine ⟨c2, ?_⟩
      have km : k % ns.length < ns.length := Nat.mod_lt _ c2
      have gi : getI (ns.map PV.int) ((k : Int) % (ns.length : Int)) = some (.int ns[k % ns.length]) := by
        rw [← Int.natCast_emod, getI_nat]
        simp [km]
      simp [ix_rol ha, gi]
      have hv : 0 ≤ (if ns[k % ns.length] < 0 then -ns[k % ns.length] else ns[k % ns.length]) := by split <;> omega
      generalize (if ns[k % ns.length] < 0 then -ns[k % ns.length] else ns[k % ns.length]) = v at hv
      have hq : 0 ≤ 30011 * (k : Int) + 8287 + v % 2147483563 * 96137 := by
        have := Int.emod_nonneg v (show (2147483563 : Int) ≠ 0 by decide)
        omega
      generalize 30011 * (k : Int) + 8287 + v % 2147483563 * 96137 = u at hq
      split
      · exact ⟨kb, by decide, fin u u hq hq⟩
      · exact ⟨kb, by decide, fin 0 u (by decide) hq⟩
    · split
      · exact ⟨kb, by decide, fin _ _ (by omega) (by omega)⟩
      · exact ⟨kb, by decide, fin 0 _ (by decide) (by omega)⟩
end K74
/-! K74g: the law's small defs. -/
namespace K74
open PySem PL
def gLGoes : FSp := fun vs M Q => ∃ W lt n d r b, WF W n d r ∧ LetOk lt n d ∧ b < n ∧ vs = [W.pv, pll lt, pn b] ∧ ∀ M' D, Ex M M' → M D = none → M' D = some (.lst ((letDeeds W lt b).map fun x => .tup [pn x, po (mv W b x)])) → Q (.ref D) M'
theorem b_law_goes (Φ : Fns) : ∀ vs M Q, gLGoes vs M Q → wpSs Φ m_law_goes (EndsP Q) (startP N_law_goes vs) M := by
  rintro _ M Q ⟨W, lt, n, d, r, b, w, hl, hb, rfl, h⟩
  obtain ⟨l1, l2⟩ := lrow_ok (b := b) hl
  unfold m_law_goes
  simp [startP, List.replicate, EndsP, ix_let hl hb]
  simp only [pl, ex_tup]
  refine lc_fm (fun x => if (mv W b (un x)).isSome then some (.tup [x, po (mv W b (un x))]) else none) (fun _ _ => trivial) (by simp; unfold LIM; omega) (fun x M' hx hM KT KF kt kf => ?_) fun D M' n0 e hD => ?_
  · obtain ⟨q, hq, rfl⟩ := List.mem_map.mp hx
    simp [ix_mv w hb (l2 q hq)]
    split
    · rename_i e
      exact kf _ (Fr.refl _ _) (by simp [e])
    · rename_i e
      exact ⟨by decide, kt _ _ (Fr.refl _ _) (by cases z : mv W b q <;> simp_all)⟩
  · refine h M' D e n0 ?_
    rw [hD]
    congr 2
    unfold letDeeds
    induction lrow lt b with
    | nil => rfl
    | cons a l ih =>
      by_cases c : (mv W b a).isSome <;> simp [List.filterMap_cons, c, ih]
theorem b_law_said (Φ : Fns) : ∀ vs M Q, gSentAt vs M Q → wpSs Φ m_law_said (EndsP Q) (startP N_law_said vs) M := by
  rintro _ M Q ⟨W, n, d, r, b, x, w, hb, hx, rfl, h⟩
  have h0 : x < W.whose.length := by rw [w.whose]; exact hx
  have hh : W.whose[x] < W.sees.length := w.helper _ (List.getElem_mem h0)
  have h1 : b < W.rows.length := by rw [w.rows]; exact hb
  obtain ⟨l1, l2⟩ := w.sees _ (List.getElem_mem hh)
  unfold m_law_said
  simp [startP, List.replicate, EndsP, pll, pl, pn, h0, hh]
  refine lc_fmT (fun x => some (pn ((((W.rows[b]?).getD [])[un x]?).getD 0))) (fun _ _ => trivial) (by simp; unfold LIM; omega) (fun x M' hx hM KT KF kt kf => ?_) fun M' e => ?_
  · obtain ⟨q, hq, rfl⟩ := List.mem_map.mp hx
    have hq2 : q < (W.rows[b]).length := by rw [w.regs _ (List.getElem_mem h1)]; exact l2 q hq
    simp [h1, pl, pll, pn, hq2]
    exact kt _ _ (Fr.refl _ _) (by simp [h1, hq2, pn, un])
  · rw [fm_map (f := fun x => pn ((((W.rows[b]?).getD [])[x]?).getD 0))]
    refine ⟨by decide, ?_⟩
    have := h M' e
    simp only [sentAt, signOf, pl, List.map_map] at this
    simpa [h0, hh, Function.comp_def, pn] using this
theorem b_law_left_out (Φ : Fns) (hΦ : Φ.fn "_law_said" = some gSentAt) : ∀ vs M Q, gLeftOut vs M Q → wpSs Φ m_law_left_out (EndsP Q) (startP N_law_left_out vs) M := by
  rintro _ M Q ⟨W, lt, n, d, r, lot, w, hl, hk, rfl, h⟩
  have hn : lt.length ≤ 100 := by rw [hl.len]; exact w.n1
  unfold m_law_left_out
  simp [startP, List.replicate, EndsP, pll]
  let f : PV → Option PV := fun x => match x with
    | .tup [b, .tup row] => some (.tup (row.filterMap fun q => if !decide (sentAt W (un b) (un q) ∈ lot) then some q else none))
    | _ => none
  refine lc_fmT f (fun _ _ => trivial) (by simp; unfold LIM; omega) (fun x M1 hx hM1 KT KF kt kf => ?_) fun M1 e1 => ?_
  · obtain ⟨z, hz, rfl⟩ := List.mem_map.mp hx
    obtain ⟨i, hi⟩ := List.getElem?_of_mem hz
    have hi2 : i < lt.length := by
      have := (List.getElem?_eq_some_iff.mp hi).1
      simpa using this
    have ez : z = (pl lt[i], i) := by
      simp [hi2] at hi
      rw [← hi]
    subst ez
    obtain ⟨r1, r2⟩ := hl.row _ (List.getElem_mem hi2)
    simp
    simp only [pl, ex_tup]
    refine lc_fmT (fun x => if !decide (sentAt W i (un x) ∈ lot) then some x else none) (fun _ _ => trivial) (by simp; unfold LIM; omega) (fun x M2 hx hM2 KT2 KF2 kt2 kf2 => ?_) fun M2 e2 => ?_
    · obtain ⟨q, hq, rfl⟩ := List.mem_map.mp hx
      simp [hΦ]
      refine ⟨W, n, d, r, i, q, w, by rw [← hl.len]; exact hi2, r2 q hq, rfl, fun M3 e3 => ?_⟩
      have am := any_mem (x := sentAt W i q) hk sent_key
      show cmpW .NotIn (sentAt W i q) (.tup lot) M3 fun c => if c = true then KT2 (pn q) M3 else KF2 M3
      rw [notIn_tup (key_good _ 7 sent_key) (keys_good hk)]
      by_cases c : sentAt W i q ∈ lot
      · rw [am.mpr c]
        exact kf2 _ e3 (by simp [c])
      · have : (lot.any fun y => pyEq y (sentAt W i q)) = false := by
          cases z : (lot.any fun y => pyEq y (sentAt W i q)) with
          | false => rfl
          | true => exact absurd (am.mp z) c
        rw [this]
        exact kt2 _ _ e3 (by simp [c])
    · exact kt _ _ e2 rfl
  · have e : ((lt.map pl).zipIdx.map fun z => PV.tup [.int (z.2 : Nat), z.1]).filterMap f = (leftOut W lt lot).map pl := by
      unfold leftOut
      rw [List.filterMap_map, List.map_map, List.zipIdx_map, List.filterMap_map, ← List.filterMap_eq_map]
      congr 1
      funext z
      simp only [Function.comp_def, f, pl, leftRow]
      have := fm_filter (p := fun x => !decide (sentAt W z.2 x ∈ lot)) z.1
      show some (PV.tup ((z.1.map pn).filterMap fun q => if !decide (sentAt W (un (pn z.2)) (un q) ∈ lot) then some q else none)) = _
      rw [un_pn, this]
    have := h M1 e1
    simp only [pll] at this
    rw [← e] at this
    exact this
def gLAlong : FSp := fun vs M Q => ∃ l : List (Nat × Nat), l.length ≤ 100 ∧ vs = [plog l] ∧ ∀ M' D, Ex M M' → M D = none → M' D = some (.lst ((0 :: l.map (·.2)).map pn)) → Q (.ref D) M'
theorem b_law_boards_along (Φ : Fns) : ∀ vs M Q, gLAlong vs M Q → wpSs Φ m_law_boards_along (EndsP Q) (startP N_law_boards_along vs) M := by
  rintro _ M Q ⟨l, hl, rfl, h⟩
  unfold m_law_boards_along
  simp [startP, List.replicate, EndsP, plog]
  refine ⟨by decide, fun a ha => lc_fm (fun x => match x with | .tup [_, b] => some b | _ => none) (fun _ _ => trivial) (by simp; unfold LIM; omega) (fun x M' hx hM KT KF kt kf => ?_) fun D M' n0 e hD => ?_⟩
  · obtain ⟨q, hq, rfl⟩ := List.mem_map.mp hx
    simp [pp]
    exact kt _ _ (Fr.refl _ _) rfl
  · replace hD : M' D = some (.lst ((l.map (·.2)).map pn)) := by rw [hD, ← fm_snd l] <;> rfl
    have ea := e.at (MH.upd_same (M := M) (a := a) ..)
    show ok (lstM M' a) fun l => ok (lstM M' D) fun m => l.length + m.length ≤ LIM ∧ ∀ c, M' c = none → Q (.ref c) (M'.upd c (.lst (l ++ m)))
    have e1 : lstM M' a = some [PV.int 0] := by unfold lstM; rw [ea]
    have e2 : lstM M' D = some ((l.map (·.2)).map pn) := by unfold lstM; rw [hD]
    rw [e1, e2]
    refine ⟨by simp; unfold LIM; omega, fun c hc => h _ c ?_ ?_ (by rw [MH.upd_same]; rfl)⟩
    · exact Ex.trans (Ex.trans (Ex.new ha) e) (Ex.new hc)
    · cases q : M c with
      | none => rfl
      | some mo =>
        have := Ex.at (Ex.trans (Ex.new ha) e) q
        rw [hc] at this; cases this
end K74
/-! K74h: the law's comparison. -/
namespace K74
open PySem PL
/-- ints, tuples of such, to a depth -/
def IT : Nat → PV → Prop
  | 0, p => ∃ i : Int, p = .int i
  | d + 1, p => (∃ i : Int, p = .int i) ∨ ∃ l, p = .tup l ∧ l.length < LIM ∧ ∀ x ∈ l, IT d x
def gSame (d : Nat) : FSp := fun vs M Q => ∃ p, IT d p ∧ vs = [p, p] ∧ ∀ M', Ex M M' → Q (.bl true) M'
theorem eq_int {i j : Int} {M : MH} {k : Bool → Prop} : cmpW .Eq (.int i) (.int j) M k = k (i == j) := by
  show ok (datOf M (.int i)) (fun d => ok (datOf M (.int j)) fun e => (datGood d && datGood e) = true ∧ k (datEq d e)) = _
  simp [datOf, datGood, datEq, PV.good, PV.goodN, pyEq]
theorem ne_int {i j : Int} {M : MH} {k : Bool → Prop} : cmpW .NotEq (.int i) (.int j) M k = k (!(i == j)) := by
  show ok (datOf M (.int i)) (fun d => ok (datOf M (.int j)) fun e => (datGood d && datGood e) = true ∧ k (!datEq d e)) = _
  simp [datOf, datGood, datEq, PV.good, PV.goodN, pyEq]
theorem len_tup {l : List PV} {M : MH} : lenOf M (.tup l) = some l.length := rfl
theorem b_law_same (d : Nat) (Φ : Fns) (hΦ : ∀ d', d = d' + 1 → Φ.fn "_law_same" = some (gSame d')) : ∀ vs M Q, gSame d vs M Q → wpSs Φ m_law_same (EndsP Q) (startP N_law_same vs) M := by
  rintro _ M Q ⟨p, hp, rfl, h⟩
  have int : ∀ i : Int, p = .int i → wpSs Φ m_law_same (EndsP Q) (startP N_law_same [p, p]) M := fun i e => by
    subst e
    unfold m_law_same
    simp [startP, List.replicate, EndsP, isiOf, tyOf, isNone, eqBl, eq_int]
    exact h M (Fr.refl _ _)
  cases d with
  | zero =>
    obtain ⟨i, e⟩ := hp
    exact int i e
  | succ d =>
    rcases hp with ⟨i, e⟩ | ⟨l, rfl, hl, hx⟩
    · exact int i e
    · have hc := hΦ d rfl
      unfold m_law_same
      simp [startP, List.replicate, EndsP, isiOf, tyOf, len_tup, ne_int]
      refine ⟨fun i ρ' M' => ∃ x2 x3, ρ' = [some (.tup l), some (.tup l), x2, x3] ∧ Ex M M', ⟨none, none, rfl, Fr.refl _ _⟩, ?_, ?_⟩
      · rintro i x ρ' M' hx2 ⟨x2, x3, rfl, e⟩
        refine ⟨trivial, ?_⟩
        have hi : i < l.length := by
          have := (List.getElem?_eq_some_iff.mp hx2).1
          simpa using this
        have ex : x = .tup [l[i], l[i]] := by
          simp [hi] at hx2
          rw [← hx2]
        subst ex
        simp [hc]
        refine ⟨l[i], hx _ (List.getElem_mem hi), rfl, fun M2 e2 => ?_⟩
        simp
        exact Ex.trans e e2
      · rintro ρ' M' ⟨x2, x3, rfl, e⟩
        refine ⟨trivial, ?_⟩
        simp
        exact h M' e
end K74
/-! K74i: draws: comprehensions that draw; drawn lots. -/
namespace K74
open PySem PL
theorem Bx.upd {M : MH} {b D : Addr} {mo : MO} (h : Bx M b) (n : D ≠ b) : Bx (M.upd D mo) b := let ⟨g, s, h1, h2, h3⟩ := h; ⟨g, s, h1, h2, by rw [MH.upd_ne (Ne.symm n)]; exact h3⟩
theorem Bx.ne {M : MH} {b D : Addr} (h : Bx M b) (n : M D = none) : D ≠ b := fun z => by
  obtain ⟨g, s, _, _, h3⟩ := h
  rw [← z, n] at h3; cases h3
/-- the box may be drawn from -/
structure Dr (b : Addr) (M M' : MH) : Prop where
  fr : Fr [b] M M'
  bx : Bx M' b
theorem Dr.trans {b : Addr} {M M1 M2 : MH} (a : Dr b M M1) (c : Dr b M1 M2) : Dr b M M2 := ⟨a.fr.trans c.fr, c.bx⟩
theorem Dr.at {b D : Addr} {M M' : MH} {mo : MO} (h : Dr b M M') (n : D ≠ b) (e : M D = some mo) : M' D = some mo := h.fr D mo (by simpa using n) e
theorem Dr.ex {b : Addr} {M M' : MH} (h : Bx M b) (e : Ex M M') : Dr b M M' := ⟨e.fr, h.ex e⟩
section
variable {g : WG} {tt te : WE} {ρ0 : PEnv} {M1 : MH} {items : List PV} {St : MH → Prop} {Q : WK} {b : Addr}
/-- a comprehension that draws: R what is so of the list behind i turns -/
theorem lc_dr (R : Nat → List PV → Prop) (hb : Bx M1 b) (hSt : ∀ M', Dr b M1 M' → St M') (hl : items.length < LIM) (r0 : R 0 [])
    (hs : ∀ i x acc M', items[i]? = some x → R i acc → Dr b M1 M' → ∀ (KT : PV → MH → Prop) (KF : MH → Prop), (∀ y M3, Dr b M' M3 → R (i + 1) (acc ++ [y]) → KT y M3) → (∀ M2, Dr b M' M2 → R (i + 1) acc → KF M2) →
      g x ρ0 fun ρ2 => tt ρ2 M' fun b M2 => onB b fun c => if c = true then te ρ2 M2 KT else KF M2)
    (hq : ∀ D M' acc, M1 D = none → Dr b M1 M' → M' D = some (.lst acc) → acc.length ≤ items.length → R items.length acc → Q (.ref D) M') : LcGoal g tt te ρ0 items St M1 Q := by
  intro D hn
  have ne := hb.ne hn
  refine ⟨fun i M' => ∃ acc, R i acc ∧ acc.length ≤ i ∧ Dr b M1 M' ∧ M' D = some (.lst acc), ⟨[], r0, Nat.zero_le _, ⟨Fr.new hn, hb.upd ne⟩, MH.upd_same ..⟩, ?_, fun M' ⟨acc, r, al, d, e⟩ => ⟨hSt M' d, hq D M' acc hn d e al r⟩⟩
  rintro i x M' hx ⟨acc, r, al, d, e⟩
  have hi := (List.getElem?_eq_some_iff.mp hx).1
  refine ⟨hSt M' d, hs i x acc M' hx r d _ _ (fun y M3 d3 r3 => ?_) fun M2 d2 r2 => ⟨acc, r2, by omega, d.trans d2, d2.at ne e⟩⟩
  refine ⟨acc, d3.at ne e, by omega, acc ++ [y], r3, by simp; omega, ⟨(d.trans d3).fr.over hn, (d.trans d3).bx.upd ne⟩, MH.upd_same ..⟩
/-- tuple([..]) -/
theorem lc_drT (R : Nat → List PV → Prop) (hb : Bx M1 b) (hSt : ∀ M', Dr b M1 M' → St M') (hl : items.length < LIM) (r0 : R 0 [])
    (hs : ∀ i x acc M', items[i]? = some x → R i acc → Dr b M1 M' → ∀ (KT : PV → MH → Prop) (KF : MH → Prop), (∀ y M3, Dr b M' M3 → R (i + 1) (acc ++ [y]) → KT y M3) → (∀ M2, Dr b M' M2 → R (i + 1) acc → KF M2) →
      g x ρ0 fun ρ2 => tt ρ2 M' fun b M2 => onB b fun c => if c = true then te ρ2 M2 KT else KF M2)
    (hq : ∀ M' acc, Dr b M1 M' → acc.length ≤ items.length → R items.length acc → Q (.tup acc) M') : LcGoal g tt te ρ0 items St M1 fun x M2 => bltW .tuple [x] M2 Q :=
  lc_dr R hb hSt hl r0 hs fun D M' acc _ d e al r => blt_tup (lstOf_lst e) (by omega) (hq M' acc d al r)
end
theorem take_ok {b : Addr} {m : Nat} {M : MH} {Q : WK} (hb : Bx M b) (m0 : 0 < m) (m1 : m < 1000000) (h : ∀ M' x, Dr b M M' → x < m → Q (pn x) M') : gTake [.ref b, pn m] M Q := ⟨b, m, rfl, m0, m1, hb, fun M' x fr bx hx => h M' x ⟨fr, bx⟩ hx⟩
theorem kput_ne {kvs : List (PV × PV)} {k v : PV} : kput kvs k v ≠ [] := by
  unfold kput
  split
  · rename_i c
    intro z
    rw [List.map_eq_nil_iff] at z
    rw [z] at c
    cases c
  · simp
theorem nodup_pn {l : List Nat} (h : (l.map pn).Nodup) : l.Nodup := by
  unfold List.Nodup at h ⊢
  rw [List.pairwise_map] at h
  exact h.imp fun ne e => ne (congrArg pn e)
def gLots : FSp := fun vs M Q => ∃ b n x, vs = [.ref b, pn n, pn x] ∧ x < n ∧ n ≤ 100 ∧ Bx M b ∧ ∀ M' (l : List Nat), Dr b M M' → l.length ≤ 100 → l.Nodup → l ≠ [] → (∀ y ∈ l, y < n) → Q (pl l) M'
def Wlo (b : Addr) (n x : Nat) (D : Addr) (M : MH) (i : Nat) (ρ' : PEnv) (M' : MH) : Prop := ∃ kvs x4 x5, ρ' = [some (.ref b), some (pn n), some (pn x), some (.ref D), x4, x5] ∧ Dr b M M' ∧ M' D = some (.dct kvs 0) ∧ Keys kvs ∧ (kvs.map (·.1)).Nodup ∧ kvs.length ≤ i ∧ (0 < i → kvs ≠ []) ∧ ∀ z ∈ kvs, ∃ y : Nat, z.1 = pn y ∧ y < n
theorem b_lots_drawn (Φ : Fns) (h1 : Φ.fn "_law_take" = some gTake) (h2 : Φ.fn "_law_pick" = some gPick) : ∀ vs M Q, gLots vs M Q → wpSs Φ m_law_lots_drawn (EndsP Q) (startP N_law_lots_drawn vs) M := by
  rintro _ M Q ⟨b, n, x, rfl, hx, hn, hb, h⟩
  unfold m_law_lots_drawn
  simp [startP, List.replicate, EndsP, h2]
  intro D hD
  have neD := hb.ne hD
  have d0 : Dr b M (M.upd D (.dct [] 0)) := ⟨Fr.new hD, hb.upd neD⟩
  refine ⟨by decide, fun a ha => ?_⟩
  have neA := d0.bx.ne ha
  have neDa : D ≠ a := fun z => by rw [← z, MH.upd_same] at ha; cases ha
  refine ⟨b, _, _, rfl, .inr ⟨a, neA, rfl, MH.upd_same ..⟩, by simp, by simp, d0.bx.upd neA, fun M1 y fr bx hy => ?_⟩
  have fD : M1 D = some (.dct [] 0) := fr D _ (by simpa using neD) (by rw [MH.upd_ne neDa, MH.upd_same])
  have d1 : Dr b M M1 := ⟨(d0.fr.trans (Fr.new ha)).trans fr, bx⟩
  obtain ⟨t, rfl, t1, t3⟩ : ∃ t : Nat, y = pn t ∧ 1 ≤ t ∧ t ≤ 3 := by
    simp at hy
    rcases hy with rfl | rfl | rfl
    · exact ⟨1, rfl, by decide, by decide⟩
    · exact ⟨2, rfl, by decide, by decide⟩
    · exact ⟨3, rfl, by decide, by decide⟩
  show rngW [.int (t : Int)] M1 _
  refine ⟨⟨by omega, by omega⟩, ?_⟩
  have tt : ((List.range (t : Int).toNat).map fun i => PV.int (i : Nat)).length = t := by simp
  refine ⟨Wlo b n x D M, ⟨[], none, none, rfl, d1, fD, keys_nil, List.nodup_nil, by simp, by simp, fun z hz => by simp at hz⟩, ?_, ?_⟩
  · rintro i y ρ' M2 hy2 ⟨kvs, x4, x5, rfl, d2, q1, q2, q3, q4, qn, q5⟩
    have it : i < t := by
      have := (List.getElem?_eq_some_iff.mp hy2).1
      omega
    refine ⟨trivial, ?_⟩
    have put : ∀ (M3 : MH) (u : Nat) (z4 : Option PV), Dr b M2 M3 → u < n → setW (.ref D) (pn u) (.int 1) M3 fun M4 => Wlo b n x D M (i + 1) [some (.ref b), some (pn n), some (pn x), some (.ref D), z4, some (pn u)] M4 := fun M3 u z4 d3 hu => by
      have kall : ∀ z ∈ kput kvs (pn u) (.int 1), ∃ y : Nat, z.1 = pn y ∧ y < n := fun z hz => by
        rcases mem_kput hz with q | q
        · obtain ⟨z', hz', e⟩ := List.mem_map.mp q
          obtain ⟨y, e2, hy⟩ := q5 z' hz'
          exact ⟨y, by rw [← e, e2], hy⟩
        · rw [q]; exact ⟨u, rfl, hu⟩
      have kok : kOk kvs (pn u) = true := by
        unfold kOk
        have : (kvs.all fun x => isF x.1) = true := List.all_eq_true.mpr fun z hz => by
          obtain ⟨y, e, _⟩ := q5 z hz
          rw [e]; rfl
        rw [this]; rfl
      refine set_dct (d3.at neD q1) kok (by unfold LIM; omega) ⟨_, _, _, rfl, ⟨(d2.trans d3).fr.over hD, (d2.trans d3).bx.upd neD⟩, MH.upd_same .., q2.put rfl, kput_nd q2 rfl q3, ?_, fun _ => kput_ne, kall⟩
      have := kput_len kvs (pn u) (.int 1)
      omega
    have last : ∀ M3 z4, Dr b M2 M3 → gTake [.ref b, pn n] M3 fun v M4 => setW (.ref D) v (.int 1) M4 fun M5 => Wlo b n x D M (i + 1) [some (.ref b), some (pn n), some (pn x), some (.ref D), z4, some v] M5 := fun M3 z4 d3 =>
      take_ok d3.bx (by omega) (by omega) fun M4 u d4 hu => put M4 u z4 (d3.trans d4) hu
    simp [pn, h1]
    by_cases c : (x : Int) < (n : Int) - 1
    · simp only [c, if_true]
      refine take_ok (m := 4) d2.bx (by decide) (by decide) fun M3 u d3 hu => ?_
      show cmpW .Gt (.int (u : Int)) (.int 0) M3 _
      simp only [gt_int]
      split
      · have e : PV.int ((n : Int) - (x : Int) - 1) = pn (n - x - 1) := by
          unfold pn
          congr 1
          omega
        rw [e]
        refine take_ok d3.bx (by omega) (by omega) fun M4 v d4 hv => ?_
        show setW (.ref D) (.int ((x : Int) + 1 + (v : Int))) (.int 1) M4 _
        have e2 : PV.int ((x : Int) + 1 + (v : Int)) = pn (x + 1 + v) := by
          unfold pn
          congr 1
        rw [e2]
        exact put M4 (x + 1 + v) _ (d3.trans d4) (by omega)
      · exact last M3 _ d3
    · simp only [c, if_false]
      exact last M2 _ ⟨Fr.refl _ _, d2.bx⟩
  · rintro ρ' M2 ⟨kvs, x4, x5, rfl, d2, q1, q2, q3, q4, qn, q5⟩
    refine ⟨trivial, ?_⟩
    simp
    rw [tt] at q4
    refine blt_ts q1 (by unfold LIM; omega) (sort_nat fun z hz => ?_) fun M3 e3 => ?_
    · obtain ⟨z', hz', rfl⟩ := List.mem_map.mp hz
      obtain ⟨y, e, _⟩ := q5 z' hz'
      exact ⟨y, e⟩
    · obtain ⟨ls, hls⟩ : ∃ ls : List Nat, kvs.map (·.1) = ls.map pn ∧ ∀ y ∈ ls, y < n := by
        clear q1 q2 q3 q4 qn
        induction kvs with
        | nil => exact ⟨[], rfl, by simp⟩
        | cons z l ih =>
          obtain ⟨ls, e1, e2⟩ := ih fun z hz => q5 z (List.mem_cons_of_mem _ hz)
          obtain ⟨y, e, hy⟩ := q5 z List.mem_cons_self
          exact ⟨y :: ls, by rw [List.map_cons, List.map_cons, e, e1], fun w hw => by
            rcases List.mem_cons.mp hw with q | q
            · rw [q]; exact hy
            · exact e2 w q⟩
      rw [hls.1]
      obtain ⟨m, em, pm⟩ := psort_pn ls
      rw [em]
      have ll : ls.length = kvs.length := by
        have := congrArg List.length hls.1
        simpa using this.symm
      exact h M3 m (d2.trans (Dr.ex d2.bx e3)) (by rw [pm.length_eq]; omega) (pm.nodup_iff.mpr (nodup_pn (hls.1 ▸ q3))) (fun z => qn (by rw [tt]; omega) (List.length_eq_zero_iff.mp (by rw [← ll, ← pm.length_eq, z]; rfl))) fun y hy => hls.2 y (pm.mem_iff.mp hy)
/-- numbers below d -/
def NB (d : Nat) (acc : List PV) : Prop := ∃ l : List Nat, acc = l.map pn ∧ ∀ x ∈ l, x < d
theorem NB.nil {d : Nat} : NB d [] := ⟨[], rfl, by simp⟩
theorem NB.snoc {d x : Nat} {acc : List PV} (h : NB d acc) (hx : x < d) : NB d (acc ++ [pn x]) := by
  obtain ⟨l, rfl, hl⟩ := h
  exact ⟨l ++ [x], by simp, fun y hy => by
    rcases List.mem_append.mp hy with q | q
    · exact hl y q
    · rw [List.mem_singleton.mp q]; exact hx⟩
/-- rows of such -/
def NR (d i : Nat) (acc : List PV) : Prop := ∃ l : List (List Nat), acc = l.map pl ∧ l.length = i ∧ ∀ q ∈ l, q.length ≤ 100 ∧ ∀ x ∈ q, x < d
theorem NR.snoc {d i : Nat} {acc : List PV} {q : List Nat} (h : NR d i acc) (h1 : q.length ≤ 100) (h2 : ∀ x ∈ q, x < d) : NR d (i + 1) (acc ++ [pl q]) := by
  obtain ⟨l, rfl, hl, hq⟩ := h
  exact ⟨l ++ [q], by simp, by simp [hl], fun y hy => by
    rcases List.mem_append.mp hy with z | z
    · exact hq y z
    · rw [List.mem_singleton.mp z]; exact ⟨h1, h2⟩⟩
def gSomeLet : FSp := fun vs M Q => ∃ b W n d r least, WF W n d r ∧ vs = [.ref b, W.pv, pn least] ∧ Bx M b ∧ ∀ M' lt, Dr b M M' → LetOk lt n d → Q (pll lt) M'
theorem b_some_let (Φ : Fns) (h1 : Φ.fn "_law_take" = some gTake) : ∀ vs M Q, gSomeLet vs M Q → wpSs Φ m_law_some_let (EndsP Q) (startP N_law_some_let vs) M := by
  rintro _ M Q ⟨b, W, n, d, r, least, w, rfl, hb, h⟩
  have n1 := w.n1
  have d1 := w.d1
  unfold m_law_some_let
  simp [startP, List.replicate, EndsP]
  simp only [pmv, ex_tup]
  refine lc_drT (fun i acc => NR d i acc) hb (fun _ _ => trivial) (by simp [w.moves]; unfold LIM; omega) ⟨[], rfl, rfl, by simp⟩ (fun i x acc M' hx hR d2 KT KF kt kf => ?_) fun M' acc d2 al hR => ?_
  · simp [len_tup, pl, w.whose]
    refine ⟨⟨by omega, by omega⟩, ?_⟩
    refine lc_drT (fun i acc => NB d acc) d2.bx (fun _ _ => trivial) (by simp; unfold LIM; omega) NB.nil (fun j y acc2 M2 hy hR2 d3 KT2 KF2 kt2 kf2 => ?_) fun M2 acc2 d3 al2 hR2 => ?_
    · have hj : j < d := by
        have := (List.getElem?_eq_some_iff.mp hy).1
        simpa using this
      have ey : y = pn j := by
        simp [hj] at hy
        rw [← hy]; rfl
      subst ey
      simp [h1]
      refine take_ok (m := 4) d3.bx (by decide) (by decide) fun M3 u d4 hu => ?_
      show cmpW .GtE (.int (u : Int)) (.int (least : Int)) M3 _
      simp only [ge_int]
      split
      · exact kt2 _ _ d4 (hR2.snoc hj)
      · exact kf2 _ d4 hR2
    · obtain ⟨l, rfl, hl⟩ := hR2
      simp at al2
      exact kt _ _ d3 (hR.snoc (by omega) hl)
  · obtain ⟨l, rfl, hl, hq⟩ := hR
    exact h M' l d2 ⟨by rw [hl, List.length_map, w.moves], hq⟩
end K74
/-! K74j: a let with a deed more or less. -/
namespace K74
open PySem PL
theorem cut_to {l : List PV} {i : Nat} : cutL l none (some (i : Int)) = l.take i := by
  unfold cutL
  rw [HT.sIx_none, HT.sIx_nat, Nat.sub_zero, List.drop_zero]
  by_cases h : i ≤ l.length
  · rw [Nat.min_eq_left h]
  · rw [Nat.min_eq_right (by omega), List.take_length, List.take_of_length_le (by omega)]
theorem cut_from {l : List PV} {i : Nat} : cutL l (some (i : Int)) none = l.drop i := by
  unfold cutL
  rw [HT.sIx_none, HT.sIx_nat]
  by_cases h : i ≤ l.length
  · rw [Nat.min_eq_left h, List.take_of_length_le (by simp)]
  · rw [Nat.min_eq_right (by omega), List.drop_length, List.drop_eq_nil_of_le (by omega)]
    simp
@[simp] theorem sl_tup {l : List PV} {lo hi : Option Int} {M : MH} {Q : WK} : slW (.tup l) lo hi M Q = Q (.tup (cutL l lo hi)) M := rfl
def gIsEnd : FSp := fun vs M Q => ∃ W n d r b, WF W n d r ∧ b < n ∧ vs = [W.pv, pn b] ∧ ∀ M', Ex M M' → Q (.bl (((W.done[b]?).getD false) && !((W.never[b]?).getD false))) M'
theorem b_law_is_end (Φ : Fns) : ∀ vs M Q, gIsEnd vs M Q → wpSs Φ m_law_is_end (EndsP Q) (startP N_law_is_end vs) M := by
  rintro _ M Q ⟨W, n, d, r, b, w, hb, rfl, h⟩
  have h1 : b < W.done.length := by rw [w.done]; exact hb
  have h2 : b < W.never.length := by rw [w.never]; exact hb
  have h := h M (Fr.refl _ _)
  unfold m_law_is_end
  simp [startP, List.replicate, EndsP, pbs, pn, h1, h2]
  simp [h1, h2] at h
  split
  · rename_i c
    simpa [c] using h
  · rename_i c
    simpa [c] using h
def gNearLet : FSp := fun vs M Q => ∃ b W n d r lt, WF W n d r ∧ LetOk lt n d ∧ 0 < d ∧ (∀ q ∈ lt, q.length ≤ 99) ∧ vs = [.ref b, W.pv, pll lt] ∧ Bx M b ∧ ∀ M' lt', Dr b M M' → LetOk lt' n d → Q (pll lt') M'
theorem b_near_let (Φ : Fns) (h1 : Φ.fn "_law_take" = some gTake) : ∀ vs M Q, gNearLet vs M Q → wpSs Φ m_law_near_let (EndsP Q) (startP N_law_near_let vs) M := by
  rintro _ M Q ⟨b, W, n, d, r, lt, w, hl, d0, h99, rfl, hb, h⟩
  have n1 := w.n1
  have n0 := w.n0
  have d1 := w.d1
  unfold m_law_near_let
  simp [startP, List.replicate, EndsP, h1, pll, pl, len_tup, hl.len, w.whose]
  refine take_ok hb n0 (by omega) fun M1 x e1 hx => ?_
  refine take_ok e1.bx d0 (by omega) fun M2 y e2 hy => ?_
  refine ⟨by decide, ?_⟩
  have hx2 : x < lt.length := by rw [hl.len]; exact hx
  obtain ⟨r1, r2⟩ := hl.row _ (List.getElem_mem hx2)
  have r99 := h99 _ (List.getElem_mem hx2)
  -- what is told with a row
  have fin : ∀ (M3 : MH) (q : List Nat), Dr b M M3 → q.length ≤ 100 → (∀ z ∈ q, z < d) → Q (.tup ((lt.map pl).take x ++ [pl q] ++ (lt.map pl).drop (x + 1))) M3 := fun M3 q e3 q1 q2 => by
    have := h M3 (lt.take x ++ [q] ++ lt.drop (x + 1)) e3 ⟨by simp; have := hl.len; omega, fun z hz => by
      rcases List.mem_append.mp hz with hz | hz
      · rcases List.mem_append.mp hz with hz | hz
        · exact hl.row z (List.mem_of_mem_take hz)
        · rw [List.mem_singleton.mp hz]; exact ⟨q1, q2⟩
      · exact hl.row z (List.mem_of_mem_drop hz)⟩
    simpa [pll] using this
  have llen : lt.length ≤ 100 := by rw [hl.len]; exact n1
  have tail : ∀ (M3 : MH) (q : List Nat), Dr b M M3 → q.length ≤ 100 → (∀ z ∈ q, z < d) → 1 ≤ LIM ∧ (cutL (lt.map pl) none (some (x : Int))).length + 1 ≤ LIM ∧ (cutL (lt.map pl) none (some (x : Int))).length + 1 + (cutL (lt.map pl) (some ((x + 1 : Nat) : Int)) none).length ≤ LIM ∧ Q (.tup (cutL (lt.map pl) none (some (x : Int)) ++ pl q :: cutL (lt.map pl) (some ((x + 1 : Nat) : Int)) none)) M3 := fun M3 q e3 q1 q2 => by
    rw [cut_to, cut_from]
    refine ⟨by decide, by simp; unfold LIM; omega, by simp; unfold LIM; omega, ?_⟩
    have := fin M3 q e3 q1 q2
    simpa using this
  have gx : ∀ (M3 : MH) (Q' : WK), ixW (.tup (lt.map pl)) (pn x) M3 Q' = Q' (pl lt[x]) M3 := fun M3 Q' => by
    simp [pn, hx2]
  rw [gx]
  show cmpW .In (pn y) (.tup (lt[x].map pn)) M2 _
  have ik : ∀ z ∈ lt[x].map pn, z.key = true := fun z hz => by
    obtain ⟨u, _, rfl⟩ := List.mem_map.mp hz
    rfl
  rw [in_tupB rfl (keys_good ik)]
  split
  · rw [gx]
    show exW (.tup (lt[x].map pn)) M2 _
    simp only [ex_tup]
    refine lc_fmT (fun z => if decide (un z ≠ y) then some z else none) (fun _ _ => trivial) (by simp; unfold LIM; omega) (fun z M3 hz hM3 KT KF kt kf => ?_) fun M3 e3 => ?_
    · obtain ⟨u, hu, rfl⟩ := List.mem_map.mp hz
      simp
      show cmpW .NotEq (.int (u : Int)) (.int (y : Int)) M3 _
      rw [ne_int]
      by_cases c : u = y
      · subst c
        simp
        exact kf _ (Fr.refl _ _) (by simp)
      · have : ((u : Int) == (y : Int)) = false := by
          rw [beq_eq_false_iff_ne]
          omega
        rw [this]
        exact kt _ _ (Fr.refl _ _) (by simp [c])
    · have ff := fm_filter (p := fun z => decide (z ≠ y)) lt[x]
      rw [ff]
      exact tail M3 _ ((e1.trans e2).trans (Dr.ex e2.bx e3)) (Nat.le_trans (List.length_filter_le _ _) r1) fun z hz => r2 z (List.mem_filter.mp hz).1
  · rw [gx]
    refine ⟨by decide, ?_⟩
    show binW .Add (.tup (lt[x].map pn)) (.tup [pn y]) M2 _
    simp only [add_tup]
    refine ⟨by simp; unfold LIM; omega, ?_⟩
    have e4 : lt[x].map pn ++ [pn y] = (lt[x] ++ [y]).map pn := by simp
    rw [e4]
    refine blt_sorted rfl (by simp; unfold LIM; omega) (sort_nat fun z hz => ?_) fun c hc => ?_
    · obtain ⟨u, _, rfl⟩ := List.mem_map.mp hz
      exact ⟨u, rfl⟩
    · obtain ⟨m, em, pm⟩ := psort_pn (lt[x] ++ [y])
      rw [em]
      have ml := pm.length_eq
      simp at ml
      refine blt_tup (lstOf_lst (MH.upd_same ..)) (by simp; unfold LIM; omega) ?_
      refine tail _ m ((e1.trans e2).trans (Dr.ex e2.bx (Ex.new hc))) (by omega) fun z hz => ?_
      rcases List.mem_append.mp (pm.mem_iff.mp hz) with q | q
      · exact r2 z q
      · rw [List.mem_singleton.mp q]; exact hy
end K74
/-! K74k: the law's sentences. -/
namespace K74
open PySem PL
theorem reach_lt {W : Wd} {lt : List (List Nat)} {n d r b x : Nat} (w : WF W n d r) (hl : LetOk lt n d) (hb : b < n) (h : Reach W lt b x) : x < n := by
  induction h with
  | start => exact hb
  | step _ hs ih =>
    obtain ⟨d', hd', l, e, hy⟩ := hs
    exact (mv_ok w ih (letDeeds_mem hl hd').1 e).2 _ hy
theorem pairs_map {S : List PV} {v : PV} : pairsOfL (S.map fun k => PV.tup [k, v]) = some (S.map fun k => (k, v)) := by
  induction S with
  | nil => rfl
  | cons a l ih => rw [List.map_cons, List.map_cons, pairsOfL, ih]; rfl
def gAllSaid : FSp := fun vs M Q => ∃ W lt n d r, WF W n d r ∧ LetOk lt n d ∧ vs = [W.pv, pll lt] ∧ ∀ M' D (S : List PV), Ex M M' → M D = none → M' D = some (.lst (psort S)) → Sortable S → S.Nodup → S.length ≤ 10000 → (∀ x, x ∈ S ↔ IsSent W lt x) → Q (.ref D) M'
/-- ahead of board i -/
def Was (W : Wd) (lt : List (List Nat)) (M : MH) (D F : Addr) (kf : List (PV × PV)) (bs : List Nat) (i : Nat) (ρ' : PEnv) (M' : MH) : Prop :=
  ∃ kvs x3, ρ' = [some W.pv, some (pll lt), some (.ref D), x3, none, none] ∧ Ex M M' ∧ M' F = some (.dct kf 1) ∧ M' D = some (.dct kvs 0) ∧ Keys kvs ∧ (kvs.map (·.1)).Nodup ∧ kvs.length ≤ 100 * i ∧ ∀ x, x ∈ kvs.map (·.1) ↔ ∃ b ∈ bs.take i, ∃ d ∈ letDeeds W lt b, x = sentAt W b d
theorem b_all_said (Φ : Fns) (h1 : Φ.fn "_law_far" = some gRowsFrom) (h2 : Φ.fn "_law_goes" = some gLGoes) (h3 : Φ.fn "_law_said" = some gSentAt) : ∀ vs M Q, gAllSaid vs M Q → wpSs Φ m_law_all_said (EndsP Q) (startP N_law_all_said vs) M := by
  rintro _ M Q ⟨W, lt, n, d, r, w, hl, rfl, h⟩
  have n1 := w.n1
  unfold m_law_all_said
  simp [startP, List.replicate, EndsP, h1]
  intro D hD
  refine ⟨W, lt, n, d, r, 0, w, hl, w.n0, rfl, fun M1 F kf bs e1 fF q1 q2 nd bl re => ?_⟩
  have aF : allF kf = true := List.all_eq_true.mpr fun x hx => by
    have : x.1 ∈ bs.map pn := by rw [← q2]; exact List.mem_map.mpr ⟨x, hx, rfl⟩
    obtain ⟨q, _, e⟩ := List.mem_map.mp this
    rw [← e]; rfl
  have neFD : F ≠ D := fun z => by rw [z, MH.upd_same] at fF; cases fF
  have fF' : M F = none := by rw [MH.upd_ne neFD] at fF; exact fF
  have ex : ∀ k : WI, exW (.ref F) M1 k = (allF kf = true ∧ k (kf.map (·.1)) (fun M' => M' F = some (.dct kf 1)) (M1.upd F (.dct kf 1))) := fun k => by simp only [exW, q1]
  show exW (.ref F) M1 _
  rw [ex, q2]
  refine ⟨aF, Was W lt M D F kf bs, ⟨[], none, rfl, ?_, MH.upd_same .., ?_, keys_nil, List.nodup_nil, Nat.zero_le _, fun x => by simp⟩, ?_, ?_⟩
  · exact (Ex.trans (Ex.new hD) e1).over fF'
  · rw [MH.upd_ne (Ne.symm neFD)]
    exact e1.at (MH.upd_same ..)
  · rintro i x ρ' M2 hx ⟨kvs, x3, rfl, e2, f1, p1, p2, p3, p4, p5⟩
    refine ⟨f1, ?_⟩
    rw [List.getElem?_map] at hx
    obtain ⟨b, hb, rfl⟩ := Option.map_eq_some_iff.mp hx
    have hbn := reach_lt w hl w.n0 ((re b).mp (List.mem_of_getElem? hb))
    have il : i < bs.length := (List.getElem?_eq_some_iff.mp hb).1
    simp [ty_upd p1, h2]
    refine ⟨W, lt, n, d, r, b, w, hl, hbn, rfl, fun M3 G e3 fG hG => ?_⟩
    have ldl := ld_len (W := W) (b := b) hl
    show exW (.ref G) M3 _
    rw [ex_lst hG]
    refine lc_fm (fun x => match x with | .tup [q, _] => some (.tup [sentAt W b (un q), .int 1]) | _ => none) (fun M4 e4 => e4.at hG) (by rw [List.length_map]; unfold LIM; omega) (fun x M4 hx hM4 KT KF kt kf => ?_) fun L M4 n4 e4 hL => ?_
    · obtain ⟨q, hq, rfl⟩ := List.mem_map.mp hx
      simp [h3]
      exact ⟨W, n, d, r, b, q, w, hbn, (letDeeds_mem hl hq).1, rfl, fun M5 e5 => ⟨by decide, kt _ _ e5 rfl⟩⟩
    · have fl : ((letDeeds W lt b).map fun x => PV.tup [pn x, po (mv W b x)]).filterMap (fun x => match x with | .tup [q, _] => some (PV.tup [sentAt W b (un q), .int 1]) | _ => none) = ((letDeeds W lt b).map fun d => sentAt W b d).map fun k => PV.tup [k, .int 1] := by
        rw [List.filterMap_map, List.map_map, ← List.filterMap_eq_map]
        rfl
      replace hL : M4 L = some (.lst (((letDeeds W lt b).map fun d => sentAt W b d).map fun k => PV.tup [k, .int 1])) := by rw [hL, ← fl]
      generalize hS : ((letDeeds W lt b).map fun d => sentAt W b d) = S at hL
      have sm : ∀ x, x ∈ S ↔ ∃ d ∈ letDeeds W lt b, x = sentAt W b d := fun x => by rw [← hS]; simp [eq_comm]
      have kS : ∀ x ∈ S, x.key = true := fun x hx => by
        obtain ⟨d', _, rfl⟩ := (sm x).mp hx
        exact sent_key
      have lS : S.length ≤ 100 := by rw [← hS]; simpa using ldl
      have kps : Keys (S.map fun k => (k, PV.int 1)) := keys_map (v := fun _ => .int 1) kS
      have e23 := Ex.trans e3 e4
      have t1 : allT kvs = true := allT_of fun x hx => by
        obtain ⟨b', _, d', _, e⟩ := (p5 x.1).mp (List.mem_map.mpr ⟨x, hx, rfl⟩)
        exact ⟨W, b', d', e⟩
      have t2 : allT (S.map fun k => (k, PV.int 1)) = true := allT_of fun x hx => by
        obtain ⟨y, hy, rfl⟩ := List.mem_map.mp hx
        obtain ⟨d', _, e⟩ := (sm y).mp hy
        exact ⟨W, b, d', e⟩
      refine mt_updL (e23.at p1) hL pairs_map (by rw [t1, t2]; simp) (by simp; unfold LIM; omega) ⟨_, _, rfl, (Ex.trans e2 e23).over hD, ?_, MH.upd_same .., p2.puts kps, kputs_nd p2 kps p3, ?_, fun x => ?_⟩
      · rw [MH.upd_ne neFD]
        exact e23.at f1
      · have := kputs_len (S.map fun k => (k, PV.int 1)) kvs
        simp at this
        omega
      · rw [kputs_mem p2 kps, p5, List.take_add_one, hb, List.map_map]
        have : x ∈ S.map ((fun x => x.1) ∘ fun k => (k, PV.int 1)) ↔ x ∈ S := by simp
        rw [this, sm]
        simp [List.mem_append, or_and_right, exists_or]
  · rintro ρ' M2 ⟨kvs, x3, rfl, e2, f1, p1, p2, p3, p4, p5⟩
    refine ⟨f1, ?_⟩
    simp
    have ks : ∀ x, x ∈ kvs.map (·.1) ↔ IsSent W lt x := fun x => by
      rw [p5, List.length_map, List.take_length]
      exact ⟨fun ⟨b, hb, d', hd', e⟩ => ⟨b, d', (re b).mp hb, hd', e⟩, fun ⟨b, d', hb, hd', e⟩ => ⟨b, (re b).mpr hb, d', hd', e⟩⟩
    have so : Sortable (kvs.map (·.1)) := sort_sent fun x hx => by
      obtain ⟨b, d', _, _, rfl⟩ := (ks x).mp hx
      exact ⟨_, _, rfl⟩
    rw [List.length_map] at p4
    refine blt_sorted (items_dct p1) (by rw [List.length_map]; unfold LIM; omega) so fun c hc => ?_
    refine h _ c _ (Ex.trans e2 (Ex.new hc)) ?_ (MH.upd_same ..) so p3 (by rw [List.length_map]; omega) ks
    cases q : M c with
    | none => rfl
    | some mo => rw [e2.at q] at hc; cases hc
end K74
/-! K74l: drawn lets. -/
namespace K74
open PySem PL
def gSureLet : FSp := fun vs M Q => ∃ b W n d r, WF W n d r ∧ vs = [.ref b, W.pv] ∧ Bx M b ∧ ∀ M' lt H (hs : List Nat), Dr b M M' → LetOk lt n d → (∀ q ∈ lt, q.length ≤ 99) → M' H = some (.lst (hs.map pn)) → Q (.tup [pll lt, .ref H]) M'
def gDrawnLet : FSp := fun vs M Q => ∃ b W n d r, WF W n d r ∧ LetOk W.lets n d ∧ 0 < d ∧ vs = [.ref b, W.pv] ∧ Bx M b ∧ ∀ M' lt, Dr b M M' → LetOk lt n d → Q (pll lt) M'
theorem b_drawn_let (Φ : Fns) (h1 : Φ.fn "_law_take" = some gTake) (h2 : Φ.fn "_law_some_let" = some gSomeLet) (h3 : Φ.fn "_law_sure_let" = some gSureLet) (h4 : Φ.fn "_law_near_let" = some gNearLet) : ∀ vs M Q, gDrawnLet vs M Q → wpSs Φ m_law_drawn_let (EndsP Q) (startP N_law_drawn_let vs) M := by
  rintro _ M Q ⟨b, W, n, d, r, w, hl, d0, rfl, hb, h⟩
  unfold m_law_drawn_let
  simp [startP, List.replicate, EndsP, h1, h2, h3, h4]
  refine take_ok (m := 5) hb (by decide) (by decide) fun M1 x e1 hx => ?_
  show cmpW .Eq (.int (x : Int)) (.int 0) M1 _
  rw [eq_int]
  split
  · refine take_ok (m := 3) e1.bx (by decide) (by decide) fun M2 y e2 hy => ?_
    show gSomeLet [.ref b, W.pv, .int (1 + (y : Int))] M2 Q
    have e : PV.int (1 + (y : Int)) = pn (1 + y) := by
      unfold pn
      congr 1
    rw [e]
    exact ⟨b, W, n, d, r, _, w, rfl, e2.bx, fun M3 lt e3 l3 => h M3 lt ((e1.trans e2).trans e3) l3⟩
  · show cmpW .Eq (.int (x : Int)) (.int 1) M1 _
    rw [eq_int]
    split
    · exact h M1 _ e1 hl
    · refine ⟨b, W, n, d, r, w, rfl, e1.bx, fun M2 lt H hs e2 l2 l3 _ => ?_⟩
      show ixW (.tup [pll lt, .ref H]) (.int 0) M2 _
      have g0 : ∀ Q' : WK, ixW (.tup [pll lt, .ref H]) (.int 0) M2 Q' = Q' (pll lt) M2 := fun Q' => by simp
      rw [g0]
      show cmpW .Lt (.int (x : Int)) (.int 4) M2 _
      simp only [lt_int]
      split
      · exact h M2 lt (e1.trans e2) l2
      · exact ⟨b, W, n, d, r, lt, w, l2, d0, l3, rfl, e2.bx, fun M3 lt' e3 l4 => h M3 lt' ((e1.trans e2).trans e3) l4⟩
end K74
/-! K74m: worlds told by registers. -/
namespace K74
open PySem PL
def SS : List (List Nat) := [[], [0], [1], [0, 1], [0, 1], [2], [0, 2]]
def sRows (n : Nat) : List (List Nat) := (List.range n).map fun b => [b % 2, b / 2 % 2, b]
def gSigned : FSp := fun vs M Q => ∃ b W n d r, WF W n d r ∧ W.sees.length ≤ 100 ∧ vs = [.ref b, W.pv] ∧ Bx M b ∧ ∀ M' sees, Dr b M M' → sees.length = W.sees.length → (∀ q ∈ sees, q ∈ SS) → Q ({ W with rows := sRows n, sees := sees } : Wd).pv M'
theorem b_signed (Φ : Fns) (h1 : Φ.fn "_law_pick" = some gPick) : ∀ vs M Q, gSigned vs M Q → wpSs Φ m_law_signed (EndsP Q) (startP N_law_signed vs) M := by
  rintro _ M Q ⟨b, W, n, d, r, w, sl, rfl, hb, h⟩
  have n1 := w.n1
  unfold m_law_signed
  simp [startP, List.replicate, EndsP, len_tup, pmv, w.moves]
  refine ⟨⟨by omega, by omega⟩, ?_⟩
  refine lc_fmT (fun x => some (pl [un x % 2, un x / 2 % 2, un x])) (fun _ _ => trivial) (by simp; unfold LIM; omega) (fun x M1 hx hM1 KT KF kt kf => ?_) fun M1 e1 => ?_
  · obtain ⟨q, hq, rfl⟩ := List.mem_map.mp hx
    simp
    refine ⟨by decide, kt _ _ (Fr.refl _ _) ?_⟩
    simp [un, pl, pn]
  · have d1 := Dr.ex hb e1
    simp only [pll, ex_tup]
    refine lc_drT (fun i acc => ∃ l : List (List Nat), acc = l.map pl ∧ l.length = i ∧ ∀ q ∈ l, q ∈ SS) d1.bx (fun _ _ => trivial) (by simp; unfold LIM; omega) ⟨[], rfl, rfl, by simp⟩ (fun i x acc M2 hx hR d2 KT KF kt kf => ?_) fun M2 acc d2 al hR => ?_
    · simp [h1]
      refine ⟨by decide, by decide, by decide, by decide, by decide, fun a ha => ?_⟩
      have ne := d2.bx.ne ha
      obtain ⟨l, rfl, hl, hq⟩ := hR
      refine ⟨b, SS.map pl, _, rfl, .inr ⟨a, ne, rfl, MH.upd_same ..⟩, by decide, by decide, d2.bx.upd ne, fun M3 y fr bx hy => ?_⟩
      obtain ⟨q, hqs, rfl⟩ := List.mem_map.mp hy
      exact kt _ _ ⟨(Fr.new ha).trans fr, bx⟩ ⟨l ++ [q], by simp, by simp [hl], fun z hz => by
        rcases List.mem_append.mp hz with z' | z'
        · exact hq z z'
        · rw [List.mem_singleton.mp z']; exact hqs⟩
    · obtain ⟨l, rfl, hl, hq⟩ := hR
      have c5 : ∀ L : List PV, cutL L none (some 5) = L.take 5 := fun L => cut_to (i := 5)
      have c7 : ∀ L : List PV, cutL L (some 7) none = L.drop 7 := fun L => cut_from (i := 7)
      have hh := h M2 l (d1.trans d2) (by simpa using hl) hq
      have er : (((List.range (n : Int).toNat).map fun i => PV.int (i : Nat)).filterMap fun x => some (pl [un x % 2, un x / 2 % 2, un x])) = (sRows n).map pl := by
        unfold sRows
        rw [List.filterMap_map, List.map_map, ← List.filterMap_eq_map]
        rfl
      rw [er]
      unfold Wd.pv at hh ⊢
      simp only [sl_tup, c5, c7, add_tup]
      exact ⟨by decide, by simp [LIM], by simp [LIM], hh⟩
end K74
/-! K74o: the typed world. -/
namespace K74
open PySem PL
def Wg : Wd := ⟨[0, 1], [[some [1], some [2]], [none, none], [none, none]], [false, false, true], [false, true, false], [[0], [1], [2]], [[0], []], [[0, 1], [], []]⟩
def gGiver : FSp := fun vs M Q => vs = [] ∧ Q Wg.pv M
theorem b_giver (Φ : Fns) : ∀ vs M Q, gGiver vs M Q → wpSs Φ m_law_giver (EndsP Q) (startP N_law_giver vs) M := by
  rintro _ M Q ⟨rfl, h⟩
  unfold m_law_giver
  simp [startP, List.replicate, EndsP]
  repeat' (first | exact h | refine And.intro ?_ ?_ | decide)
theorem wf_giver : WF Wg 3 2 1 := ⟨rfl, by decide, rfl, by decide, by decide, by decide, by decide, rfl, rfl, rfl, by decide, by decide, by decide, by decide, by decide⟩
theorem let_giver : LetOk Wg.lets 3 2 := ⟨rfl, by decide⟩
end K74
/-! K74p: the law's search, by rounds. -/
namespace K74
open PySem PL
/-- new keys come behind -/
theorem kput_new {kvs : List (PV × PV)} {k v : PV} (h : Keys kvs) (hk : k.key = true) (n : k ∉ kvs.map (·.1)) : kput kvs k v = kvs ++ [(k, v)] := by
  unfold kput
  rw [if_neg fun c => n ((khas_iff h hk).mp c)]
theorem kputs_new : ∀ {ps kvs : List (PV × PV)}, Keys kvs → Keys ps → (ps.map (·.1)).Nodup → (∀ x ∈ ps, x.1 ∉ kvs.map (·.1)) → kputs kvs ps = kvs ++ ps
  | [], kvs, _, _, _, _ => by simp [kputs]
  | p :: ps, kvs, h, hp, nd, dis => by
    rw [kputs_cons, kput_new h (hp p List.mem_cons_self) (dis p List.mem_cons_self)]
    rw [List.map_cons] at nd
    have nd' := List.nodup_cons.mp nd
    have h2 : Keys (kvs ++ [(p.1, p.2)]) := fun x hx => by
      rcases List.mem_append.mp hx with q | q
      · exact h x q
      · rw [List.mem_singleton.mp q]; exact hp p List.mem_cons_self
    rw [kputs_new h2 (fun x hx => hp x (List.mem_cons_of_mem _ hx)) nd'.2 fun x hx => ?_]
    · simp
    · rw [List.map_append, List.mem_append]
      rintro (q | q)
      · exact dis x (List.mem_cons_of_mem _ hx) q
      · refine nd'.1 ?_
        have e : x.1 = p.1 := by simpa using q
        rw [← e]
        exact List.mem_map.mpr ⟨x, hx, rfl⟩
section
variable {M : MH} {a : Addr} {k : Bool → Prop} {x : Nat} {l : List Nat} {kvs : List (PV × PV)} {ep : Nat}
theorem any_pn : ((l.map pn).any fun y => pyEq y (pn x)) = decide (x ∈ l) := by
  have h := any_mem (l := l.map pn) (x := pn x) (fun y hy => by
    obtain ⟨u, _, rfl⟩ := List.mem_map.mp hy
    rfl) rfl
  rw [mem_pn] at h
  by_cases c : x ∈ l
  · rw [h.mpr c]; simp [c]
  · cases q : ((l.map pn).any fun y => pyEq y (pn x)) with
    | false => simp [c]
    | true => exact absurd (h.mp q) c
theorem goods_pn : PV.goodsN (l.map pn) 7 = true := K74.keys_good fun y hy => by
  obtain ⟨u, _, rfl⟩ := List.mem_map.mp hy
  rfl
theorem notIn_nats (h : M a = some (.lst (l.map pn))) : cmpW .NotIn (pn x) (.ref a) M k = k (!decide (x ∈ l)) := by
  rw [notIn_lst h rfl goods_pn, any_pn]
theorem khas_nat (hk : kvs.map (·.1) = l.map pn) : khas kvs (pn x) = decide (x ∈ l) := by
  have hh := khas_iff (nat_keys hk) (show (pn x).key = true from rfl)
  rw [hk, mem_pn] at hh
  by_cases c : x ∈ l
  · rw [hh.mpr c]; simp [c]
  · cases q : khas kvs (pn x) with
    | false => simp [c]
    | true => exact absurd (hh.mp q) c
theorem notIn_natd (h : M a = some (.dct kvs ep)) (hk : kvs.map (·.1) = l.map pn) : cmpW .NotIn (pn x) (.ref a) M k = k (!decide (x ∈ l)) := by
  rw [notIn_dct h (nat_kOk hk), khas_nat hk]
theorem in_natd (h : M a = some (.dct kvs ep)) (hk : kvs.map (·.1) = l.map pn) : cmpW .In (pn x) (.ref a) M k = k (decide (x ∈ l)) := by
  rw [in_dct h (nat_kOk hk), khas_nat hk]
theorem notIn_natt : cmpW .NotIn (pn x) (pl l) M k = k (!decide (x ∈ l)) := by
  unfold pl
  rw [notIn_tup rfl goods_pn, any_pn]
theorem in_natt : cmpW .In (pn x) (pl l) M k = k (decide (x ∈ l)) := by
  unfold pl
  rw [in_tupB rfl goods_pn, any_pn]
theorem add_refs {Q : WK} {b : Addr} {u v : List PV} (h : M a = some (.lst u)) (h2 : M b = some (.lst v)) (hl : u.length + v.length ≤ LIM) (q : ∀ c, M c = none → Q (.ref c) (M.upd c (.lst (u ++ v)))) : binW .Add (.ref a) (.ref b) M Q := by
  show ok (lstM M a) fun l => ok (lstM M b) fun m => l.length + m.length ≤ LIM ∧ ∀ c, M c = none → Q (.ref c) (M.upd c (.lst (l ++ m)))
  have e1 : lstM M a = some u := by unfold lstM; rw [h]
  have e2 : lstM M b = some v := by unfold lstM; rw [h2]
  rw [e1, e2]
  exact ⟨hl, q⟩
end
theorem nat_allF {kvs : List (PV × PV)} {l : List Nat} (hk : kvs.map (·.1) = l.map pn) : allF kvs = true := List.all_eq_true.mpr fun x hx => by
  have : x.1 ∈ l.map pn := by rw [← hk]; exact List.mem_map.mpr ⟨x, hx, rfl⟩
  obtain ⟨q, _, e⟩ := List.mem_map.mp this
  rw [← e]; rfl
theorem mv_nd {W : Wd} {n d r b x : Nat} {l : List Nat} (w : WF W n d r) (hb : b < n) (hx : x < d) (h : mv W b x = some l) : l.Nodup := by
  have h1 : b < W.moves.length := by rw [w.moves]; exact hb
  have h2 : x < (W.moves[b]).length := by rw [w.row _ (List.getElem_mem h1)]; exact hx
  have e : (W.moves[b])[x] = some l := by simpa [mv, h1, h2] using h
  exact w.lotnd _ (List.getElem_mem h1) _ (List.getElem_mem h2) l e
theorem exl {M : MH} {a : Addr} {l : List PV} {k : WI} (h : M a = some (.lst l)) (q : k l (fun M' => M' a = some (.lst l)) M) : exW (.ref a) M k := by rw [ex_lst h]; exact q
theorem pairs_of {α : Type} {f g : α → PV} : ∀ {S : List α}, pairsOfL (S.map fun k => PV.tup [f k, g k]) = some (S.map fun k => (f k, g k))
  | [] => rfl
  | a :: l => by rw [List.map_cons, List.map_cons, pairsOfL, pairs_of (S := l)]; rfl
/-- what is found, and what of it in the last round -/
structure Fx (W : Wd) (lt : List (List Nat)) (b n : Nat) (ls eg : List Nat) (i : Nat) : Prop where
  g : Gx W lt b n ls
  sub : ∀ x ∈ eg, x ∈ ls
  cl : ∀ x ∈ ls, x ∉ eg → ∀ y, Succ W lt x y → y ∈ ls
  many : eg ≠ [] → i + 1 ≤ ls.length
/-- what a round has found -/
structure Lx (W : Wd) (lt : List (List Nat)) (b n : Nat) (ls la : List Nat) : Prop where
  nd : la.Nodup
  new : ∀ x ∈ la, x ∉ ls
  les : ∀ x ∈ la, x < n
  re : ∀ x ∈ la, Reach W lt b x
section
variable (W : Wd) (lt : List (List Nat)) (b n : Nat) (M : MH) (D : Addr)
/-- ahead of round i -/
def Wfo (i : Nat) (ρ' : PEnv) (M' : MH) : Prop := ∃ ls eg kvs ea x5 x6 x7 x8 x9, ρ' = [some W.pv, some (pll lt), some (pn b), some (.ref D), some (.ref ea), x5, x6, x7, x8, x9, none] ∧ Ex M M' ∧ M' D = some (.dct kvs 0) ∧ kvs.map (·.1) = ls.map pn ∧ M' ea = some (.lst (eg.map pn)) ∧ ea ≠ D ∧ Fx W lt b n ls eg i
/-- ahead of board j of the last round -/
def Wfm (Mo : MH) (ea : Addr) (t : PV) (ls eg : List Nat) (j : Nat) (ρ' : PEnv) (M' : MH) : Prop := ∃ la lA x7 x8 x9, ρ' = [some W.pv, some (pll lt), some (pn b), some (.ref D), some (.ref ea), some t, some (.ref lA), x7, x8, x9, none] ∧ Ex Mo M' ∧ M' lA = some (.lst (la.map pn)) ∧ Lx W lt b n ls la ∧ (la ≠ [] → eg ≠ []) ∧ ∀ x ∈ eg.take j, ∀ y, Succ W lt x y → y ∈ ls ∨ y ∈ la
/-- ahead of move k of a board -/
def Wfk (Mo : MH) (ea : Addr) (t : PV) (ls la0 : List Nat) (h : Nat) (k : Nat) (ρ' : PEnv) (M' : MH) : Prop := ∃ la lA x8 x9, ρ' = [some W.pv, some (pll lt), some (pn b), some (.ref D), some (.ref ea), some t, some (.ref lA), some (pn h), x8, x9, none] ∧ Ex Mo M' ∧ M' lA = some (.lst (la.map pn)) ∧ la0 <+: la ∧ Lx W lt b n ls la ∧ ∀ d ∈ (letDeeds W lt h).take k, ∀ l, mv W h d = some l → ∀ y ∈ l, y ∈ ls ∨ y ∈ la
end
theorem mem_take_succ {α : Type} {l : List α} {i : Nat} {a x : α} (h : l[i]? = some a) : x ∈ l.take (i + 1) ↔ x ∈ l.take i ∨ x = a := by
  rw [List.take_add_one, h]
  simp
theorem b_law_far (Φ : Fns) (h1 : Φ.fn "_law_goes" = some gLGoes) : ∀ vs M Q, gRowsFrom vs M Q → wpSs Φ m_law_far (EndsP Q) (startP N_law_far vs) M := by
  rintro _ M Q ⟨W, lt, n, d, r, b, w, hl, hb, rfl, h⟩
  have n1 := w.n1
  unfold m_law_far
  simp [startP, List.replicate, EndsP]
  intro D hD
  refine ⟨⟨by rw [MH.upd_same], rfl, rfl⟩, by decide, fun ea hea => ⟨by decide, ?_⟩⟩
  rw [MH.upd_upd] at hea ⊢
  have neE : ea ≠ D := fun z => by rw [z, MH.upd_same] at hea; cases hea
  have e0 : Ex M ((M.upd D (.dct [(pn b, .int 0)] 0)).upd ea (.lst [pn b])) := Ex.trans (Ex.new hD) (Ex.new hea)
  rw [show ∀ M' : MH, lenOf M' (pmv W.moves) = some n from fun M' => by simp [pmv, lenOf, w.moves]]
  rw [ok_some]
  refine ⟨⟨by omega, by omega⟩, ?_⟩
  have tn : ((List.range (n : Int).toNat).map fun i => PV.int (i : Nat)).length = n := by simp
  refine ⟨Wfo W lt b n M D, ⟨[b], [b], [(pn b, .int 0)], ea, none, none, none, none, none, rfl, e0, ?_, rfl, MH.upd_same .., neE, ?_⟩, ?_, ?_⟩
  · rw [MH.upd_ne (Ne.symm neE), MH.upd_same]
  · exact ⟨⟨by simp, fun x hx => by rw [List.mem_singleton.mp hx]; exact hb, fun x hx => by rw [List.mem_singleton.mp hx]; exact .start, by simp⟩, fun x hx => hx, fun x hx c => absurd hx c, fun _ => by simp⟩
  · rintro i x ρ' M1 hx ⟨ls, eg, kvs, ea, x5, x6, x7, x8, x9, rfl, e1, q1, q2, q3, neE, fx⟩
    refine ⟨trivial, ?_⟩
    have hi : i < n := by
      have := (List.getElem?_eq_some_iff.mp hx).1
      omega
    have ex : x = pn i := by
      rw [List.getElem?_map, List.getElem?_range (by simpa using hi)] at hx
      exact (Option.some.inj hx).symm
    subst ex
    simp
    intro lA hlA
    have neA : ea ≠ lA := ne_new q3 hlA
    refine exl (show (M1.upd lA (.lst [])) ea = some (.lst (eg.map pn)) by rw [MH.upd_ne neA]; exact q3) ?_
    refine ⟨Wfm W lt b n D M1 ea (pn i) ls eg, ⟨[], lA, x7, x8, x9, rfl, Ex.new hlA, MH.upd_same .., ⟨by simp, by simp, by simp, by simp⟩, by simp, by simp⟩, ?_, ?_⟩
    · rintro j x ρ' M2 hx ⟨la, lA, x7, x8, x9, rfl, e2, p1, lx, _, cl⟩
      refine ⟨e2.at q3, ?_⟩
      rw [List.getElem?_map] at hx
      obtain ⟨hr, hhr, rfl⟩ := Option.map_eq_some_iff.mp hx
      have hrm := List.mem_of_getElem? hhr
      have hrl := fx.sub hr hrm
      have hrn := fx.g.les hr hrl
      simp [h1]
      refine ⟨W, lt, n, d, r, hr, w, hl, hrn, rfl, fun M3 G e3 fG hG => ?_⟩
      refine exl hG ?_
      have ldn : ((letDeeds W lt hr).map fun x => PV.tup [pn x, po (mv W hr x)]).length = (letDeeds W lt hr).length := by simp
      refine ⟨Wfk W lt b n D M3 ea (pn i) ls la hr, ⟨la, lA, x8, x9, rfl, Fr.refl _ _, e3.at p1, List.prefix_refl _, lx, by simp⟩, ?_, ?_⟩
      · rintro k x ρ' M4 hx ⟨la2, lA2, x8, x9, rfl, e4, p3, pf, lx2, cl2⟩
        refine ⟨e4.at hG, ?_⟩
        rw [List.getElem?_map] at hx
        obtain ⟨dd', hdd, rfl⟩ := Option.map_eq_some_iff.mp hx
        have hmem := List.mem_of_getElem? hdd
        obtain ⟨dlt, lot, hlot⟩ := letDeeds_mem hl hmem
        obtain ⟨lotl, lotn⟩ := mv_ok w hrn dlt hlot
        have lotnd := mv_nd w hrn dlt hlot
        simp [hlot, po]
        simp only [pl, ex_tup]
        have q14 := e4.at (e3.at (e2.at q1))
        refine lc_fm (fun x => if !decide (un x ∈ ls) && !decide (un x ∈ la2) then some x else none) (fun _ _ => trivial) (by simp; unfold LIM; omega) (fun x M5 hx hM5 KT KF kt kf => ?_) fun L M5 nL e5 hL => ?_
        · obtain ⟨q, hq, rfl⟩ := List.mem_map.mp hx
          simp [notIn_natd (hM5.at q14) q2, notIn_nats (hM5.at p3)]
          by_cases c1 : q ∈ ls
          · simp [c1]
            exact kf _ (Fr.refl _ _) (by simp [c1])
          · by_cases c2 : q ∈ la2
            · simp [c1, c2]
              exact kf _ (Fr.refl _ _) (by simp [c2])
            · simp [c1, c2]
              exact kt _ _ (Fr.refl _ _) (by simp [c1, c2])
        · rw [fm_filter (p := fun x => !decide (x ∈ ls) && !decide (x ∈ la2))] at hL
          generalize hmore : lot.filter (fun x => !decide (x ∈ ls) && !decide (x ∈ la2)) = more at hL
          have mm : ∀ y, y ∈ more ↔ y ∈ lot ∧ y ∉ ls ∧ y ∉ la2 := fun y => by rw [← hmore]; simp
          have lx3 : Lx W lt b n ls (la2 ++ more) := by
            refine ⟨?_, fun y hy => ?_, fun y hy => ?_, fun y hy => ?_⟩
            · rw [List.nodup_append]
              refine ⟨lx2.nd, by rw [← hmore]; exact lotnd.filter _, fun x hx y hy e => ?_⟩
              subst e
              exact ((mm x).mp hy).2.2 hx
            · rcases List.mem_append.mp hy with q | q
              · exact lx2.new y q
              · exact ((mm y).mp q).2.1
            · rcases List.mem_append.mp hy with q | q
              · exact lx2.les y q
              · exact lotn y ((mm y).mp q).1
            · rcases List.mem_append.mp hy with q | q
              · exact lx2.re y q
              · exact .step (fx.g.re hr hrl) ⟨dd', hmem, lot, hlot, ((mm y).mp q).1⟩
          have ln := nodup_le lx3.nd lx3.les
          simp at ln
          refine add_refs (e5.at p3) hL (by simp; unfold LIM; omega) fun c hc => ?_
          refine ⟨la2 ++ more, c, some (pn dd'), some (po (some lot)), rfl, Ex.trans (Ex.trans e4 e5) (Ex.new hc), by rw [MH.upd_same, List.map_append], pf.trans (List.prefix_append _ _), lx3, fun d' hd' l' hl' y hy => ?_⟩
          rcases (mem_take_succ hdd).mp hd' with q | q
          · rcases cl2 d' q l' hl' y hy with z | z
            · exact .inl z
            · exact .inr (List.mem_append_left _ z)
          · subst q
            rw [hlot] at hl'
            cases hl'
            by_cases c1 : y ∈ ls
            · exact .inl c1
            · by_cases c2 : y ∈ la2
              · exact .inr (List.mem_append_left _ c2)
              · exact .inr (List.mem_append_right _ ((mm y).mpr ⟨hy, c1, c2⟩))
      · rintro ρ' M4 ⟨la2, lA2, x8, x9, rfl, e4, p3, pf, lx2, cl2⟩
        refine ⟨e4.at hG, la2, lA2, _, x8, x9, rfl, Ex.trans (Ex.trans e2 e3) e4, p3, lx2, fun _ => List.ne_nil_of_mem hrm, fun x hx y hy => ?_⟩
        rcases (mem_take_succ hhr).mp hx with q | q
        · rcases cl x q y hy with z | z
          · exact .inl z
          · exact .inr (pf.subset z)
        · subst q
          obtain ⟨d', hd', l', hl', hy'⟩ := hy
          exact cl2 d' (by rw [ldn, List.take_length]; exact hd') l' hl' y hy'
    · rintro ρ' M2 ⟨la, lA, x7, x8, x9, rfl, e2, p1, lx, lne, cl⟩
      rw [List.length_map, List.take_length] at cl
      refine ⟨e2.at q3, ?_⟩
      have ln := nodup_le lx.nd lx.les
      simp [ty_upd (e2.at q1)]
      refine exl p1 ?_
      refine lc_fm (fun x => some (.tup [x, .int ((i : Int) + 1)])) (fun M3 e3 => e3.at p1) (by simp; unfold LIM; omega) (fun x M3 hx hM3 KT KF kt kf => ?_) fun L M3 nL e3 hL => ?_
      · obtain ⟨q, hq, rfl⟩ := List.mem_map.mp hx
        simp [pn]
        exact ⟨by decide, kt _ _ (Fr.refl _ _) rfl⟩
      · have hL2 : M3 L = some (.lst (la.map fun k => PV.tup [pn k, .int ((i : Int) + 1)])) := by
          rw [hL, List.filterMap_map, ← List.filterMap_eq_map]
          rfl
        have k1 : allF kvs = true := nat_allF q2
        have k2 : allF (la.map fun k => (pn k, PV.int ((i : Int) + 1))) = true := List.all_eq_true.mpr fun y hy => by
          obtain ⟨u, _, rfl⟩ := List.mem_map.mp hy
          rfl
        have kl : kvs.length = ls.length := by
          have := congrArg List.length q2
          simpa using this
        have lsn := fx.g.len
        refine mt_updL ((e3.at (e2.at q1))) hL2 pairs_of (by rw [k1, k2]; rfl) (by simp; unfold LIM; omega) ?_
        have kn : kputs kvs (la.map fun k => (pn k, PV.int ((i : Int) + 1))) = kvs ++ la.map fun k => (pn k, PV.int ((i : Int) + 1)) := by
          refine kputs_new (nat_keys q2) (fun y hy => by
            obtain ⟨u, _, rfl⟩ := List.mem_map.mp hy
            rfl) ?_ fun y hy => ?_
          · rw [List.map_map]
            show (la.map pn).Nodup
            unfold List.Nodup
            rw [List.pairwise_map]
            exact lx.nd.imp fun ne e => ne (pn_inj e)
          · obtain ⟨u, hu, rfl⟩ := List.mem_map.mp hy
            rw [q2]
            exact fun z => lx.new u hu (mem_pn.mp z)
        rw [kn]
        have neD : lA ≠ D := fun z => by
          have a1 := e2.at q1
          rw [z] at p1
          rw [p1] at a1; cases a1
        refine ⟨ls ++ la, la, _, lA, _, _, x7, x8, x9, rfl, (Ex.trans (Ex.trans e1 e2) e3).over hD, MH.upd_same .., by simp [q2], by rw [MH.upd_ne neD]; exact e3.at p1, neD, ?_⟩
        refine ⟨⟨?_, fun x hx => ?_, fun x hx => ?_, List.mem_append_left _ fx.g.st⟩, fun x hx => List.mem_append_right _ hx, fun x hx nx y hy => ?_, fun ne => ?_⟩
        · rw [List.nodup_append]
          exact ⟨fx.g.nd, lx.nd, fun x hx y hy e => lx.new y hy (e ▸ hx)⟩
        · rcases List.mem_append.mp hx with q | q
          · exact fx.g.les x q
          · exact lx.les x q
        · rcases List.mem_append.mp hx with q | q
          · exact fx.g.re x q
          · exact lx.re x q
        · have xl : x ∈ ls := (List.mem_append.mp hx).resolve_right nx
          by_cases c : x ∈ eg
          · exact List.mem_append.mpr (cl x c y hy)
          · exact List.mem_append_left _ (fx.cl x xl c y hy)
        · have l1 := List.length_pos_iff.mpr ne
          rw [List.length_append]
          by_cases c : eg = []
          · exact absurd c (lne ne)
          · have := fx.many c
            omega
  · rintro ρ' M1 ⟨ls, eg, kvs, ea, x5, x6, x7, x8, x9, rfl, e1, q1, q2, q3, neE, fx⟩
    refine ⟨trivial, ?_⟩
    rw [tn] at fx
    have lsn := fx.g.len
    have eg0 : eg = [] := by
      cases eg with
      | nil => rfl
      | cons a l =>
        have := fx.many (by simp)
        omega
    simp
    refine h M1 D kvs ls e1 hD q1 q2 fx.g.nd lsn fun x => ⟨fx.g.re x, fun hr => ?_⟩
    induction hr with
    | start => exact fx.g.st
    | step _ hs ih => exact fx.cl _ ih (by rw [eg0]; simp) _ hs
end K74
/-! Nn: whole numbers from 0 on in one form; walks over mapped lists. -/
namespace K74
open PySem PL
section
variable {M : MH} {Q : WK} {k : Bool → Prop} {a b : Nat}
@[simp] theorem int_lit {n : Nat} : PV.int (no_index (OfNat.ofNat n : Int)) = pn (OfNat.ofNat n) := rfl
@[simp] theorem int_zero : PV.int 0 = pn 0 := rfl
@[simp] theorem int_one : PV.int 1 = pn 1 := rfl
@[simp] theorem int_cast {n : Nat} : PV.int (n : Int) = pn n := rfl
@[simp] theorem addp : binW .Add (pn a) (pn b) M Q = Q (pn (a + b)) M := rfl
theorem subp (h : b ≤ a) : binW .Sub (pn a) (pn b) M Q = Q (pn (a - b)) M := by
  show Q (.int ((a : Int) - b)) M = _
  rw [show ((a : Int) - b) = ((a - b : Nat) : Int) by omega]; rfl
theorem pvint {i : Int} {n : Nat} (h : i = n) : PV.int i = pn n := by rw [h]; rfl
@[simp] theorem modp : binW .Mod (pn a) (pn b) M Q = (0 < b ∧ Q (pn (a % b)) M) := by
  show (0 < (b : Int) ∧ Q (.int ((a : Int) % b)) M) = _
  rw [pvint (n := a % b) (by omega)]
  congr 1
  simp
@[simp] theorem ltp : cmpW .Lt (pn a) (pn b) M k = k (decide (a < b)) := by
  show k (decide ((a : Int) < (b : Int))) = _
  congr 1; simp
@[simp] theorem lep : cmpW .LtE (pn a) (pn b) M k = k (decide (a ≤ b)) := by
  show k (decide ((a : Int) ≤ (b : Int))) = _
  congr 1; simp
@[simp] theorem gtp : cmpW .Gt (pn a) (pn b) M k = k (decide (b < a)) := by
  show k (decide ((b : Int) < (a : Int))) = _
  congr 1; simp
@[simp] theorem gep : cmpW .GtE (pn a) (pn b) M k = k (decide (b ≤ a)) := by
  show k (decide ((b : Int) ≤ (a : Int))) = _
  congr 1; simp
theorem beq_int {a b : Nat} : ((a : Int) == (b : Int)) = decide (a = b) := by
  by_cases c : a = b
  · simp [c]
  · simp [c]; omega
@[simp] theorem eqp : cmpW .Eq (pn a) (pn b) M k = k (decide (a = b)) := by
  show cmpW .Eq (.int (a : Int)) (.int (b : Int)) M k = _
  rw [eq_int, beq_int]
@[simp] theorem nep : cmpW .NotEq (pn a) (pn b) M k = k (!decide (a = b)) := by
  show cmpW .NotEq (.int (a : Int)) (.int (b : Int)) M k = _
  rw [ne_int, beq_int]
@[simp] theorem ix_tupn {l : List PV} : ixW (.tup l) (pn a) M Q = ok (l[a]?) fun v => Q v M := by
  show ixW (.tup l) (.int (a : Int)) M Q = _
  rw [ix_tup, getI_nat]
@[simp] theorem ixV0 {W : Wd} : ixW W.pv (pn 0) M Q = Q (pn 0) M := by simp [Wd.pv]
@[simp] theorem ixV1 {W : Wd} : ixW W.pv (pn 1) M Q = Q (pl W.whose) M := by simp [Wd.pv]
@[simp] theorem ixV2 {W : Wd} : ixW W.pv (pn 2) M Q = Q (pmv W.moves) M := by simp [Wd.pv]
@[simp] theorem ixV3 {W : Wd} : ixW W.pv (pn 3) M Q = Q (pbs W.never) M := by simp [Wd.pv]
@[simp] theorem ixV4 {W : Wd} : ixW W.pv (pn 4) M Q = Q (pbs W.done) M := by simp [Wd.pv]
@[simp] theorem ixV5 {W : Wd} : ixW W.pv (pn 5) M Q = Q (pll W.rows) M := by simp [Wd.pv]
@[simp] theorem ixV6 {W : Wd} : ixW W.pv (pn 6) M Q = Q (pll W.sees) M := by simp [Wd.pv]
@[simp] theorem ixV7 {W : Wd} : ixW W.pv (pn 7) M Q = Q (pll W.lets) M := by simp [Wd.pv]
@[simp] theorem augp {k : PV → Prop} : augW .Add (pn a) (pn b) k = k (pn (a + b)) := rfl
@[simp] theorem onI_pn {k : Int → Prop} : onI (pn a) k = k a := rfl
@[simp] theorem isNone_pn : isNone (pn a) = false := rfl
@[simp] theorem isNone_tup {l : List PV} : isNone (.tup l) = false := rfl
@[simp] theorem isNone_ref {l : Addr} : isNone (.ref l) = false := rfl
@[simp] theorem isNone_bl {l : Bool} : isNone (.bl l) = false := rfl
@[simp] theorem isNone_non : isNone .non = true := rfl
theorem rngp {n : Nat} {kk : WI} (h : n ≤ LIM) (q : kk ((List.range n).map pn) (fun _ => True) M) : rngW [pn n] M kk := by
  unfold LIM at h
  refine ⟨⟨by omega, by omega⟩, ?_⟩
  have : ((List.range (n : Int).toNat).map fun i => PV.int (i : Nat)) = (List.range n).map pn := rfl
  rw [this]; exact q
@[simp] theorem len_t {l : List PV} : lenOf M (.tup l) = some l.length := rfl
@[simp] theorem len_pl {l : List Nat} : lenOf M (pl l) = some l.length := by simp [pl]
@[simp] theorem len_pll {l : List (List Nat)} : lenOf M (pll l) = some l.length := by simp [pll]
@[simp] theorem len_pbs {l : List Bool} : lenOf M (pbs l) = some l.length := by simp [pbs]
@[simp] theorem len_pmv {l : List (List (Option (List Nat)))} : lenOf M (pmv l) = some l.length := by simp [pmv]
@[simp] theorem maxp : bltW .max [pn a, pn b] M Q = Q (pn (max a b)) M := by
  show Q (.int (if (b : Int) > a then b else a)) M = _
  rw [pvint (n := max a b) (by split <;> omega)]
@[simp] theorem minp : bltW .min [pn a, pn b] M Q = Q (pn (min a b)) M := by
  show Q (.int (if (b : Int) < a then b else a)) M = _
  rw [pvint (n := min a b) (by split <;> omega)]
theorem blt_dict {c : Addr} {l : List PV} {ps : List (PV × PV)} (h : lstOf M c = some l) (hp : pairsOfL l = some ps) (hk : (allF ps || allT ps) = true) (hl : ps.length ≤ LIM) (q : ∀ c, M c = none → Q (.ref c) (M.upd c (.dct (kputs [] ps) 0))) : bltW .dict [.ref c] M Q := by
  show ok (lstOf M c) fun l => ok (pairsOfL l) fun ps => ((allF ps || allT ps) = true ∧ ps.length ≤ LIM) ∧ ∀ c, M c = none → Q (.ref c) (M.upd c (.dct (kputs [] ps) 0))
  rw [h, ok_some, hp, ok_some]
  exact ⟨⟨hk, hl⟩, q⟩
theorem range_get {n i : Nat} {x : PV} (h : ((List.range n).map pn)[i]? = some x) : i < n ∧ x = pn i := by
  have hi : i < n := by
    have := (List.getElem?_eq_some_iff.mp h).1
    simpa using this
  refine ⟨hi, ?_⟩
  rw [List.getElem?_map, List.getElem?_range hi] at h
  exact (Option.some.inj h).symm
end
theorem Dr.fresh {b R : Addr} {M M' : MH} (h : Dr b M M') (n : M' R = none) : M R = none := by
  cases q : M R with
  | none => rfl
  | some mo =>
    have e := h.at (h.bx.ne n) q
    rw [n] at e; cases e
theorem Dr.refl {b : Addr} {M : MH} (h : Bx M b) : Dr b M M := ⟨Fr.refl _ _, h⟩
theorem Dr.new {b D : Addr} {M M' : MH} {mo : MO} (h : Dr b M M') (n : M' D = none) : Dr b M (M'.upd D mo) := ⟨h.fr.trans (Fr.new n), h.bx.upd (h.bx.ne n)⟩
theorem Dr.over {b D : Addr} {M M' : MH} {mo : MO} (h : Dr b M M') (hb : D ≠ b) (n : M D = none) : Dr b M (M'.upd D mo) := ⟨h.fr.over n, h.bx.upd hb⟩
theorem Dr.exr {b : Addr} {M M' M2 : MH} (h : Dr b M M') (e : Ex M' M2) : Dr b M M2 := h.trans (Dr.ex h.bx e)
/-- enumerate -/
theorem enr {M : MH} {a : Addr} {l : List PV} {k : WI} (h : M a = some (.lst l)) (q : k (l.zipIdx.map fun z => .tup [.int (z.2 : Nat), z.1]) (fun M' => lstOf M' a = some l) M) : enumW (.ref a) M k := by
  show ok (lstOf M a) _
  rw [lstOf_lst h]; exact q
theorem zidx_get {α : Type} {l : List α} {i : Nat} {z : α × Nat} (h : l.zipIdx[i]? = some z) : i < l.length ∧ z.2 = i ∧ l[i]? = some z.1 := by
  rw [List.getElem?_zipIdx] at h
  obtain ⟨a, ha, rfl⟩ := Option.map_eq_some_iff.mp h
  exact ⟨(List.getElem?_eq_some_iff.mp ha).1, by simp, ha⟩
theorem eq_lst {M : MH} {a c : Addr} {u v : List PV} {k : Bool → Prop} (h : M a = some (.lst u)) (h2 : M c = some (.lst v)) (g1 : PV.goodsN u 7 = true) (g2 : PV.goodsN v 7 = true) : cmpW .Eq (.ref a) (.ref c) M k = k (pyEqs u v) := by
  show ok (datOf M (.ref a)) (fun d => ok (datOf M (.ref c)) fun e => (datGood d && datGood e) = true ∧ k (datEq d e)) = _
  have e1 : datOf M (.ref a) = some (.ls u) := by show (lstOf M a).map Dat.ls = _; rw [lstOf_lst h]; rfl
  have e2 : datOf M (.ref c) = some (.ls v) := by show (lstOf M c).map Dat.ls = _; rw [lstOf_lst h2]; rfl
  rw [e1, e2]
  simp [datGood, datEq, g1, g2]
theorem ne_lst {M : MH} {a c : Addr} {u v : List PV} {k : Bool → Prop} (h : M a = some (.lst u)) (h2 : M c = some (.lst v)) (g1 : PV.goodsN u 7 = true) (g2 : PV.goodsN v 7 = true) : cmpW .NotEq (.ref a) (.ref c) M k = k (!pyEqs u v) := by
  show ok (datOf M (.ref a)) (fun d => ok (datOf M (.ref c)) fun e => (datGood d && datGood e) = true ∧ k (!datEq d e)) = _
  have e1 : datOf M (.ref a) = some (.ls u) := by show (lstOf M a).map Dat.ls = _; rw [lstOf_lst h]; rfl
  have e2 : datOf M (.ref c) = some (.ls v) := by show (lstOf M c).map Dat.ls = _; rw [lstOf_lst h2]; rfl
  rw [e1, e2]
  simp [datGood, datEq, g1, g2]
theorem pyEqs_nil {u : List PV} : pyEqs u [] = u.isEmpty := by cases u <;> simp [pyEqs]
theorem eq_nil {M : MH} {a c : Addr} {u : List PV} {k : Bool → Prop} (h : M a = some (.lst u)) (h2 : M c = some (.lst [])) (g1 : PV.goodsN u 7 = true) : cmpW .Eq (.ref a) (.ref c) M k = k u.isEmpty := by rw [eq_lst h h2 g1 rfl, pyEqs_nil]
theorem ne_nil {M : MH} {a c : Addr} {u : List PV} {k : Bool → Prop} (h : M a = some (.lst u)) (h2 : M c = some (.lst [])) (g1 : PV.goodsN u 7 = true) : cmpW .NotEq (.ref a) (.ref c) M k = k (!u.isEmpty) := by rw [ne_lst h h2 g1 rfl, pyEqs_nil]
theorem mul_lst {M : MH} {Q : WK} {a : Addr} {l : List PV} {n : Nat} (h : M a = some (.lst l)) (hn : l.length * n ≤ LIM) (h2 : n ≤ LIM) (q : ∀ c, M c = none → Q (.ref c) (M.upd c (.lst (List.replicate n l).flatten))) : binW .Mult (.ref a) (pn n) M Q := by
  show ok (lstM M a) fun l => (-(2 ^ 62) ≤ (n : Int) ∧ (n : Int) ≤ LIM) ∧ l.length * (n : Int).toNat ≤ LIM ∧ ∀ c, M c = none → Q (.ref c) (M.upd c (.lst (List.replicate (n : Int).toNat l).flatten))
  have : lstM M a = some l := by unfold lstM; rw [h]
  rw [this]
  unfold LIM at *
  exact ⟨⟨by omega, by omega⟩, by simpa using hn, q⟩
theorem set_lstn {M : MH} {a : Addr} {l : List PV} {m : Nat} {v : PV} {k : MH → Prop} (h : M a = some (.lst l)) (hi : m < l.length) (q : k (M.upd a (.lst (l.set m v)))) : setW (.ref a) (pn m) v M k := by
  refine set_lst h (m := m) ?_ q
  unfold L2.ixN
  have h1 : ¬ ((m : Int) < 0) := by omega
  simp [h1, hi]
theorem fmp {α : Type} {f : α → PV} {p : α → Bool} : ∀ {l : List α}, (l.filterMap fun x => if p x then some (f x) else none) = (l.filter p).map f
  | [] => rfl
  | a :: l => by
    have ih := fmp (f := f) (p := p) (l := l)
    by_cases h : p a <;> simp [List.filterMap_cons, h, ih]
theorem fmp' {α : Type} {f : α → PV} {p : α → Prop} [DecidablePred p] {l : List α} : (l.filterMap fun x => if p x then some (f x) else none) = (l.filter fun x => decide (p x)).map f := by
  rw [← fmp]
  congr 1
  funext x
  by_cases h : p x <;> simp [h]
theorem range_nd {n : Nat} {p : Nat → Bool} : ((List.range n).filter p).Nodup := List.nodup_range.filter _
/-- a statement by what it leaves, then the rest -/
theorem cut_seq {Φ : Fns} {s : S} {r : Ss} {D : WEnds} {ρ : PEnv} {M : MH} (P : PEnv → MH → Prop) (h1 : ∀ k : PEnv → MH → Prop, (∀ ρ' M', P ρ' M' → k ρ' M') → wpS Φ s { D with nx := k } ρ M) (h2 : ∀ ρ' M', P ρ' M' → wpSs Φ r D ρ' M') : wpSs Φ (.cons s r) D ρ M := h1 _ h2
theorem cut_last {Φ : Fns} {s : S} {D : WEnds} {ρ : PEnv} {M : MH} (h1 : ∀ k : PEnv → MH → Prop, (∀ ρ' M', D.nx ρ' M' → k ρ' M') → wpS Φ s { D with nx := k } ρ M) : wpSs Φ (.cons s .nil) D ρ M := h1 _ fun _ _ h => h
theorem ifs_true {Φ : Fns} {t : E} {a b : Ss} {D : WEnds} {ρ : PEnv} {M : MH} (P : MH → Prop) (h1 : ∀ k : WK, (∀ M', P M' → k (.bl true) M') → wpE Φ t ρ M k) (h2 : ∀ M', P M' → wpSs Φ a D ρ M') : wpS Φ (.ifs t a b) D ρ M :=
  h1 (fun x M1 => onB x fun c => if c = true then wpSs Φ a D ρ M1 else wpSs Φ b D ρ M1) fun M' p => h2 M' p
theorem ifs_false {Φ : Fns} {t : E} {a b : Ss} {D : WEnds} {ρ : PEnv} {M : MH} (P : MH → Prop) (h1 : ∀ k : WK, (∀ M', P M' → k (.bl false) M') → wpE Φ t ρ M k) (h2 : ∀ M', P M' → wpSs Φ b D ρ M') : wpS Φ (.ifs t a b) D ρ M :=
  h1 (fun x M1 => onB x fun c => if c = true then wpSs Φ a D ρ M1 else wpSs Φ b D ρ M1) fun M' p => h2 M' p
theorem cut_e {Φ : Fns} {e : E} {Q : WK} {ρ : PEnv} {M : MH} (P : WK) (h1 : ∀ k : WK, (∀ v M', P v M' → k v M') → wpE Φ e ρ M k) (h2 : ∀ v M', P v M' → Q v M') : wpE Φ e ρ M Q := h1 _ h2
section
variable {g : WG} {tb : WS} {ρ : PEnv} {M1 : MH} {St : MH → Prop} {D : WEnds} {α : Type} {l : List α} {f : α → PV}
/-- a walk over a mapped list -/
theorem for_map (W : Nat → PEnv → MH → Prop) (w0 : W 0 ρ M1) (hs : ∀ i x ρ' M', l[i]? = some x → W i ρ' M' → St M' ∧ g (f x) ρ' fun ρ2 => tb ⟨W (i + 1), D.rt, D.nx, W (i + 1)⟩ ρ2 M')
    (he : ∀ ρ' M', W l.length ρ' M' → St M' ∧ D.nx ρ' M') : ForGoal g tb ρ (l.map f) St M1 D := by
  refine ⟨W, w0, fun i x ρ' M' hx hw => ?_, fun ρ' M' hw => he ρ' M' (by rw [List.length_map] at hw; exact hw)⟩
  rw [List.getElem?_map] at hx
  obtain ⟨y, hy, rfl⟩ := Option.map_eq_some_iff.mp hx
  exact hs i y ρ' M' hy hw
theorem for_rng {n v : Nat} (W : Nat → PEnv → MH → Prop) (w0 : W 0 ρ M1) (hs : ∀ i ρ' M', i < n → W i ρ' M' → tb ⟨W (i + 1), D.rt, D.nx, W (i + 1)⟩ (ρ'.set v (some (pn i))) M')
    (he : ∀ ρ' M', W n ρ' M' → D.nx ρ' M') : ForGoal (wpT (.nm v)) tb ρ ((List.range n).map pn) (fun _ => True) M1 D := by
  refine for_map W w0 (fun i x ρ' M' hx hw => ⟨trivial, ?_⟩) (fun ρ' M' hw => ⟨trivial, he ρ' M' (by simpa using hw)⟩)
  have hi : i < n := by
    have := (List.getElem?_eq_some_iff.mp hx).1
    simpa using this
  rw [List.getElem?_range hi] at hx
  cases hx
  exact hs i ρ' M' hi hw
variable {tt te tk tv : WE} {Q : WK} {ρ0 : PEnv}
/-- comprehensions over a mapped list -/
theorem lc_map (h : α → Option PV) (hSt : ∀ M', Ex M1 M' → St M') (hl : l.length < LIM) (hs : ∀ x M', x ∈ l → Ex M1 M' → LcStep g tt te ρ0 (f x) M' (h x)) (hq : ∀ D M', M1 D = none → Ex M1 M' → M' D = some (.lst (l.filterMap h)) → Q (.ref D) M') : LcGoal g tt te ρ0 (l.map f) St M1 Q := by
  intro D hn
  refine ⟨fun i M' => Ex M1 M' ∧ M' D = some (.lst ((l.take i).filterMap h)), ⟨Ex.new hn, by rw [MH.upd_same]; rfl⟩, fun i x M' hx ⟨h1, h2⟩ => ⟨hSt M' h1, ?_⟩, fun M' ⟨h1, h2⟩ => ⟨hSt M' h1, hq D M' hn h1 (by rw [h2, List.length_map, List.take_length])⟩⟩
  rw [List.getElem?_map] at hx
  obtain ⟨y, hy, rfl⟩ := Option.map_eq_some_iff.mp hx
  have ti : l.take (i + 1) = l.take i ++ [y] := by rw [List.take_add_one, hy]; rfl
  refine hs y M' (List.mem_of_getElem? hy) h1 _ _ (fun z M3 e3 ey => ?_) (fun M2 e2 en => ?_)
  · refine ⟨_, e3.at h2, ?_, (Ex.trans h1 e3).over hn, ?_⟩
    · have := List.length_filterMap_le h (l.take i)
      have := List.length_take_le' i l
      omega
    · rw [MH.upd_same, ti, List.filterMap_append]
      simp [ey]
  · refine ⟨Ex.trans h1 e2, ?_⟩
    rw [e2.at h2, ti, List.filterMap_append]
    simp [en]
theorem lc_mapT (h : α → Option PV) (hSt : ∀ M', Ex M1 M' → St M') (hl : l.length < LIM) (hs : ∀ x M', x ∈ l → Ex M1 M' → LcStep g tt te ρ0 (f x) M' (h x)) (hq : ∀ M', Ex M1 M' → Q (.tup (l.filterMap h)) M') :
    LcGoal g tt te ρ0 (l.map f) St M1 fun x M2 => bltW .tuple [x] M2 Q := by
  refine lc_map h hSt hl hs fun D M' _ e hD => ?_
  have hf := List.length_filterMap_le h l
  exact blt_tup (lstOf_lst hD) (by omega) (hq M' e)
/-- .. by what is so of the list behind i turns -/
theorem lc_inv (R : Nat → List PV → Prop) (hSt : ∀ M', Ex M1 M' → St M') (hl : l.length < LIM) (r0 : R 0 [])
    (hs : ∀ i x acc M', l[i]? = some x → R i acc → Ex M1 M' → ∀ (KT : PV → MH → Prop) (KF : MH → Prop), (∀ y M3, Ex M' M3 → R (i + 1) (acc ++ [y]) → KT y M3) → (∀ M2, Ex M' M2 → R (i + 1) acc → KF M2) →
      g (f x) ρ0 fun ρ2 => tt ρ2 M' fun b M2 => onB b fun c => if c = true then te ρ2 M2 KT else KF M2)
    (hq : ∀ D M' acc, M1 D = none → Ex M1 M' → M' D = some (.lst acc) → acc.length ≤ l.length → R l.length acc → Q (.ref D) M') : LcGoal g tt te ρ0 (l.map f) St M1 Q := by
  intro D hn
  refine ⟨fun i M' => ∃ acc, R i acc ∧ acc.length ≤ i ∧ Ex M1 M' ∧ M' D = some (.lst acc), ⟨[], r0, Nat.zero_le _, Ex.new hn, MH.upd_same ..⟩, ?_, fun M' ⟨acc, r, al, d, e⟩ => ⟨hSt M' d, hq D M' acc hn d e (by rw [List.length_map] at al; exact al) (by rw [List.length_map] at r; exact r)⟩⟩
  rintro i x M' hx ⟨acc, r, al, d, e⟩
  have hi := (List.getElem?_eq_some_iff.mp hx).1
  rw [List.length_map] at hi
  rw [List.getElem?_map] at hx
  obtain ⟨y, hy, rfl⟩ := Option.map_eq_some_iff.mp hx
  refine ⟨hSt M' d, hs i y acc M' hy r d _ _ (fun y M3 d3 r3 => ?_) fun M2 d2 r2 => ⟨acc, r2, by omega, d.trans d2, d2.at e⟩⟩
  refine ⟨acc, d3.at e, by omega, acc ++ [y], r3, by simp; omega, (Ex.trans d d3).over hn, MH.upd_same ..⟩
variable {b : Addr}
/-- .. that draw -/
theorem lc_drm (R : Nat → List PV → Prop) (hb : Bx M1 b) (hSt : ∀ M', Dr b M1 M' → St M') (hl : l.length < LIM) (r0 : R 0 [])
    (hs : ∀ i x acc M', l[i]? = some x → R i acc → Dr b M1 M' → ∀ (KT : PV → MH → Prop) (KF : MH → Prop), (∀ y M3, Dr b M' M3 → R (i + 1) (acc ++ [y]) → KT y M3) → (∀ M2, Dr b M' M2 → R (i + 1) acc → KF M2) →
      g (f x) ρ0 fun ρ2 => tt ρ2 M' fun b M2 => onB b fun c => if c = true then te ρ2 M2 KT else KF M2)
    (hq : ∀ D M' acc, M1 D = none → Dr b M1 M' → M' D = some (.lst acc) → acc.length ≤ l.length → R l.length acc → Q (.ref D) M') : LcGoal g tt te ρ0 (l.map f) St M1 Q := by
  refine lc_dr R hb hSt (by rw [List.length_map]; exact hl) r0 (fun i x acc M' hx r d KT KF kt kf => ?_) fun D M' acc n d e al r => hq D M' acc n d e (by rw [List.length_map] at al; exact al) (by rw [List.length_map] at r; exact r)
  rw [List.getElem?_map] at hx
  obtain ⟨y, hy, rfl⟩ := Option.map_eq_some_iff.mp hx
  exact hs i y acc M' hy r d KT KF kt kf
theorem lc_drmT (R : Nat → List PV → Prop) (hb : Bx M1 b) (hSt : ∀ M', Dr b M1 M' → St M') (hl : l.length < LIM) (r0 : R 0 [])
    (hs : ∀ i x acc M', l[i]? = some x → R i acc → Dr b M1 M' → ∀ (KT : PV → MH → Prop) (KF : MH → Prop), (∀ y M3, Dr b M' M3 → R (i + 1) (acc ++ [y]) → KT y M3) → (∀ M2, Dr b M' M2 → R (i + 1) acc → KF M2) →
      g (f x) ρ0 fun ρ2 => tt ρ2 M' fun b M2 => onB b fun c => if c = true then te ρ2 M2 KT else KF M2)
    (hq : ∀ M' acc, Dr b M1 M' → acc.length ≤ l.length → R l.length acc → Q (.tup acc) M') : LcGoal g tt te ρ0 (l.map f) St M1 fun x M2 => bltW .tuple [x] M2 Q :=
  lc_drm R hb hSt hl r0 hs fun D M' acc _ d e al r => blt_tup (lstOf_lst e) (by omega) (hq M' acc d al r)
/-- .. over a range -/
theorem range_at {n i x : Nat} (h : (List.range n)[i]? = some x) : i < n ∧ x = i := by
  have hi : i < n := by
    have := (List.getElem?_eq_some_iff.mp h).1
    simpa using this
  rw [List.getElem?_range hi] at h
  exact ⟨hi, (Option.some.inj h).symm⟩
theorem lc_drr {n : Nat} (R : Nat → List PV → Prop) (hb : Bx M1 b) (hl : n < LIM) (r0 : R 0 [])
    (hs : ∀ i acc M', i < n → R i acc → Dr b M1 M' → ∀ (KT : PV → MH → Prop) (KF : MH → Prop), (∀ y M3, Dr b M' M3 → R (i + 1) (acc ++ [y]) → KT y M3) → (∀ M2, Dr b M' M2 → R (i + 1) acc → KF M2) →
      g (pn i) ρ0 fun ρ2 => tt ρ2 M' fun b M2 => onB b fun c => if c = true then te ρ2 M2 KT else KF M2)
    (hq : ∀ D M' acc, M1 D = none → Dr b M1 M' → M' D = some (.lst acc) → acc.length ≤ n → R n acc → Q (.ref D) M') : LcGoal g tt te ρ0 ((List.range n).map pn) (fun _ => True) M1 Q := by
  refine lc_drm R hb (fun _ _ => trivial) (by simpa using hl) r0 (fun i x acc M' hx r d KT KF kt kf => ?_) fun D M' acc n' d e al r => hq D M' acc n' d e (by simpa using al) (by simpa using r)
  obtain ⟨hi, rfl⟩ := range_at hx
  exact hs x acc M' hi r d KT KF kt kf
theorem lc_drrT {n : Nat} (R : Nat → List PV → Prop) (hb : Bx M1 b) (hl : n < LIM) (r0 : R 0 [])
    (hs : ∀ i acc M', i < n → R i acc → Dr b M1 M' → ∀ (KT : PV → MH → Prop) (KF : MH → Prop), (∀ y M3, Dr b M' M3 → R (i + 1) (acc ++ [y]) → KT y M3) → (∀ M2, Dr b M' M2 → R (i + 1) acc → KF M2) →
      g (pn i) ρ0 fun ρ2 => tt ρ2 M' fun b M2 => onB b fun c => if c = true then te ρ2 M2 KT else KF M2)
    (hq : ∀ M' acc, Dr b M1 M' → acc.length ≤ n → R n acc → Q (.tup acc) M') : LcGoal g tt te ρ0 ((List.range n).map pn) (fun _ => True) M1 fun x M2 => bltW .tuple [x] M2 Q :=
  lc_drr R hb hl r0 hs fun D M' acc _ d e al r => blt_tup (lstOf_lst e) (by omega) (hq M' acc d al r)
/-- dicts -/
theorem dc_map (h : α → Option (PV × PV)) (isK : PV → Bool) (hk : (∀ k, isK k = true → k.key = true ∧ isF k = true) ∨ ∀ k, isK k = true → k.key = true ∧ isT k = true) (hSt : ∀ M', Ex M1 M' → St M') (hl : l.length < LIM)
    (hf : ∀ x ∈ l, ∀ p, h x = some p → isK p.1 = true) (hs : ∀ x M', x ∈ l → Ex M1 M' → DcStep g tt tk tv ρ0 (f x) M' (h x)) (hq : ∀ D M', M1 D = none → Ex M1 M' → M' D = some (.dct (kputs [] (l.filterMap h)) 0) → Q (.ref D) M') : DcGoal g tt tk tv ρ0 (l.map f) St M1 Q := by
  intro D hn
  refine ⟨fun i M' => Ex M1 M' ∧ M' D = some (.dct (kputs [] ((l.take i).filterMap h)) 0), ⟨Ex.new hn, by rw [MH.upd_same]; rfl⟩, fun i x M' hx ⟨h1, h2⟩ => ⟨hSt M' h1, ?_⟩, fun M' ⟨h1, h2⟩ => ⟨hSt M' h1, hq D M' hn h1 (by rw [h2, List.length_map, List.take_length])⟩⟩
  rw [List.getElem?_map] at hx
  obtain ⟨y, hy, rfl⟩ := Option.map_eq_some_iff.mp hx
  have ti : l.take (i + 1) = l.take i ++ [y] := by rw [List.take_add_one, hy]; rfl
  have keys : ∀ z ∈ kputs [] ((l.take i).filterMap h), isK z.1 = true := fun z hz => by
    rcases mem_kputs hz with q | q
    · simp at q
    · obtain ⟨y, hy, e⟩ := List.mem_map.mp q
      obtain ⟨u, hu, e2⟩ := List.mem_filterMap.mp hy
      rw [← e]
      exact hf u (List.mem_of_mem_take hu) y e2
  refine hs y M' (List.mem_of_getElem? hy) h1 _ _ (fun u z M3 e3 ey => ?_) (fun M2 e2 en => ?_)
  · have ky := hf y (List.mem_of_getElem? hy) _ ey
    refine ⟨_, e3.at h2, ?_, ?_, (Ex.trans h1 e3).over hn, ?_⟩
    · unfold kOk
      rcases hk with hk | hk
      · obtain ⟨k1, k2⟩ := hk _ ky
        simp only [k1, k2, Bool.true_and, Bool.or_eq_true, Bool.and_eq_true]
        exact .inl (List.all_eq_true.mpr fun z hz => (hk _ (keys z hz)).2)
      · obtain ⟨k1, k2⟩ := hk _ ky
        simp only [k1, k2, Bool.true_and, Bool.or_eq_true, Bool.and_eq_true]
        exact .inr (List.all_eq_true.mpr fun z hz => (hk _ (keys z hz)).2)
    · have h3 := kputs_len ((l.take i).filterMap h) []
      have h4 := List.length_filterMap_le h (l.take i)
      have h5 := List.length_take_le' i l
      simp only [List.length_nil] at h3
      omega
    · rw [MH.upd_same, ti, List.filterMap_append, kputs_app]
      simp [ey, kputs]
  · refine ⟨Ex.trans h1 e2, ?_⟩
    rw [e2.at h2, ti, List.filterMap_append]
    simp [en]
end
end K74
/-! K74q: drawn worlds. -/
namespace K74
open PySem PL
/-- what a drawn world keeps -/
structure TW (W : Wd) (n d : Nat) : Prop where
  wf : WF W n d 1
  lets : LetOk W.lets n d
  letasc : ∀ q ∈ W.lets, q.Pairwise (· < ·)
  letcan : ∀ b x, x ∈ lrow W.lets b → (mv W b x).isSome = true
  lotne : ∀ b x, mv W b x ≠ some []
  bare : ∀ b, W.done[b]? = some true ∨ W.never[b]? = some true → ∀ x, mv W b x = none
  n3 : 3 ≤ n
  d2 : 2 ≤ d
  d5 : d ≤ 5
  s1 : 1 ≤ W.sees.length
  s3 : W.sees.length ≤ 3
  never0 : W.never[0]? = some false
  done0 : W.done[0]? = some false
def LotOk (n : Nat) (o : Option (List Nat)) : Prop := ∀ l, o = some l → l.length ≤ 100 ∧ l.Nodup ∧ l ≠ [] ∧ ∀ y ∈ l, y < n
structure RowOk (n d : Nat) (bare : Prop) (row : List (Option (List Nat))) (lt : List Nat) : Prop where
  len : row.length = d
  ok : ∀ o ∈ row, LotOk n o
  bare : bare → ∀ o ∈ row, o = none
  asc : lt.Pairwise (· < ·)
  can : ∀ x ∈ lt, x < d ∧ ∃ l, row[x]? = some (some l)
/-- ahead of board i -/
def Wtw (b : Addr) (most n s d : Nat) (Dn Dd Am Al : Addr) (nv dn : List Bool) (M5 : MH) (i : Nat) (ρ' : PEnv) (M' : MH) : Prop := ∃ (mvs : List (List (Option (List Nat)))) (lts : List (List Nat)) (x6 x10 : Option PV), ρ' = [some (.ref b), some (pn most), some (pn n), some (pn s), some (pn d), some (.ref Dn), x6, some (.ref Dd), some (.ref Am), some (.ref Al), x10, none, none, none, none] ∧
  Dr b M5 M' ∧ M' Am = some (.lst (mvs.map fun r => .tup (r.map po))) ∧ M' Al = some (.lst (lts.map pl)) ∧ mvs.length = i ∧ lts.length = i ∧ ∀ (j : Nat) row lt, mvs[j]? = some row → lts[j]? = some lt → RowOk n d (nv[j]? = some true ∨ dn[j]? = some true) row lt
def gTurnWorld : FSp := fun vs M Q => ∃ b most, vs = [.ref b, pn most] ∧ 3 ≤ most ∧ most ≤ 20 ∧ Bx M b ∧ ∀ M' W n d, Dr b M M' → TW W n d → n ≤ most → Q W.pv M'
theorem b_turn_world (Φ : Fns) (h1 : Φ.fn "_law_take" = some gTake) (h2 : Φ.fn "_law_lots_drawn" = some gLots) : ∀ vs M Q, gTurnWorld vs M Q → wpSs Φ m_law_turn_world (EndsP Q) (startP N_law_turn_world vs) M := by
  rintro _ M Q ⟨b, most, rfl, m3, m20, hb, h⟩
  unfold m_law_turn_world
  simp [startP, List.replicate, EndsP, h1, h2]
  rw [subp (by omega)]
  refine take_ok hb (by omega) (by omega) fun M1 x d1 hx => ?_
  simp
  refine take_ok d1.bx (by omega) (by omega) fun M2 y d2 hy => ?_
  simp
  refine take_ok d2.bx (by omega) (by omega) fun M3 z d3 hz => ?_
  have dd1 := (d1.trans d2).trans d3
  obtain ⟨n, hn⟩ : ∃ n, n = 3 + x := ⟨_, rfl⟩
  obtain ⟨s, hs⟩ : ∃ s, s = 1 + y := ⟨_, rfl⟩
  obtain ⟨d, hd⟩ : ∃ d, d = 2 + z := ⟨_, rfl⟩
  simp [← hn, ← hs, ← hd]
  refine ⟨by decide, rngp (by unfold LIM; omega) ?_⟩
  have n20 : n ≤ 20 := by omega
  refine lc_drr (fun i acc => ∃ bs : List Bool, acc = bs.map PV.bl ∧ bs.length = i ∧ (0 < i → bs[0]? = some false)) dd1.bx (by unfold LIM; omega) ⟨[], rfl, rfl, by simp⟩ (fun i acc M4 hi hR d4 KT KF kt kf => ?_) fun Dn M4 acc nn d4 en al hR => ?_
  · obtain ⟨bs, rfl, bl, b0⟩ := hR
    have put : ∀ c M5, Dr b M4 M5 → (i = 0 → c = false) → KT (.bl c) M5 := fun c M5 d5 hc => kt _ _ d5 ⟨bs ++ [c], by simp, by simp [bl], fun _ => by
      by_cases z : i = 0
      · have : bs = [] := List.length_eq_zero_iff.mp (by omega)
        simp [this, hc z]
      · rw [List.getElem?_append_left (by omega)]
        exact b0 (by omega)⟩
    simp [h1]
    split
    · rw [subp (by omega)]
      simp
      split
      · refine take_ok d4.bx (by omega) (by omega) fun M5 u d5 hu => ?_
        simp
        exact put _ _ d5 (by omega)
      · rename_i c
        exact put _ _ ⟨Fr.refl _ _, d4.bx⟩ fun _ => decide_eq_false c
    · rename_i c
      exact put _ _ ⟨Fr.refl _ _, d4.bx⟩ fun _ => decide_eq_false c
  obtain ⟨nv, rfl, nvl, nv0⟩ := hR
  have neN := dd1.bx.ne nn
  refine rngp (by unfold LIM; omega) ?_
  refine lc_drr (fun i acc => ∃ bs : List Bool, acc = bs.map PV.bl ∧ bs.length = i ∧ (0 < i → bs[0]? = some false)) d4.bx (by unfold LIM; omega) ⟨[], rfl, rfl, by simp⟩ (fun i acc M5 hi hR d5 KT KF kt kf => ?_) fun Dd M5 acc nd d5 ed al2 hR => ?_
  · obtain ⟨bs, rfl, bl, b0⟩ := hR
    have put : ∀ c M6, Dr b M5 M6 → (i = 0 → c = false) → KT (.bl c) M6 := fun c M6 d6 hc => kt _ _ d6 ⟨bs ++ [c], by simp, by simp [bl], fun _ => by
      by_cases z : i = 0
      · have : bs = [] := List.length_eq_zero_iff.mp (by omega)
        simp [this, hc z]
      · rw [List.getElem?_append_left (by omega)]
        exact b0 (by omega)⟩
    simp [h1]
    rw [subp (by omega)]
    simp
    split
    · exact put _ _ ⟨Fr.refl _ _, d5.bx⟩ fun _ => decide_eq_false (by omega)
    · split
      · refine take_ok d5.bx (by omega) (by omega) fun M6 u d6 hu => ?_
        simp
        exact put _ _ d6 (by omega)
      · rename_i c
        exact put _ _ ⟨Fr.refl _ _, d5.bx⟩ fun _ => decide_eq_false c
  obtain ⟨dn, rfl, dnl, dn0⟩ := hR
  have neD := d4.bx.ne nd
  have dd5 := (dd1.trans d4).trans d5
  intro Am hAm Al hAl
  have neAm := d5.bx.ne hAm
  have neAl := d5.bx.ne (show M5 Al = none by
    by_cases z : Al = Am
    · rw [z]; exact hAm
    · rw [MH.upd_ne z] at hAl; exact hAl)
  refine ⟨by decide, rngp (by unfold LIM; omega) ?_⟩
  have en5 := d5.at neN en
  have neAA : Al ≠ Am := fun z => by rw [z, MH.upd_same] at hAl; cases hAl
  have hAl5 : M5 Al = none := by rw [MH.upd_ne neAA] at hAl; exact hAl
  have d0 : Dr b M5 ((M5.upd Am (.lst [])).upd Al (.lst [])) := ⟨(Fr.new hAm).trans (Fr.new hAl), (d5.bx.upd neAm).upd neAl⟩
  refine for_rng (Wtw b most n s d Dn Dd Am Al nv dn M5) ⟨[], [], none, none, rfl, d0, by rw [MH.upd_ne (Ne.symm neAA), MH.upd_same]; rfl, by rw [MH.upd_same]; rfl, rfl, rfl, by simp⟩ ?_ ?_
  · rintro i ρ' M6 hi ⟨mvs, lts, x6, x10, rfl, d6, p1, p2, p3, p4, p5⟩
    refine cut_seq (fun ρ' M7 => ∃ (R : Addr) (os : List (Option (List Nat))), ρ' = [some (.ref b), some (pn most), some (pn n), some (pn s), some (pn d), some (.ref Dn), some (pn i), some (.ref Dd), some (.ref Am), some (.ref Al), some (.ref R), none, none, none, none] ∧ Dr b M6 M7 ∧ M7 R = some (.lst (os.map po)) ∧ os.length = d ∧ (∀ o ∈ os, LotOk n o) ∧ M6 R = none) (fun k hk => ?_) ?_
    · simp [h1, h2]
      refine rngp (by unfold LIM; omega) ?_
      refine lc_drr (fun i acc => ∃ os, acc = os.map po ∧ os.length = i ∧ ∀ o ∈ os, LotOk n o) d6.bx (by unfold LIM; omega) ⟨[], rfl, rfl, by simp⟩ (fun j acc M7 hj hR d7 KT KF kt kf => ?_) fun R M7 acc nR d7 eR al3 hR => ?_
      · obtain ⟨os, rfl, ol, oo⟩ := hR
        simp [h1, h2]
        refine take_ok d7.bx (by omega) (by omega) fun M8 u d8 hu => ?_
        simp
        split
        · exact kt _ _ d8 ⟨os ++ [none], by simp [po], by simp [ol], fun o ho => by
            rcases List.mem_append.mp ho with q | q
            · exact oo o q
            · rw [List.mem_singleton.mp q]; intro l e; cases e⟩
        · refine ⟨b, n, i, rfl, hi, by omega, d8.bx, fun M9 l d9 l1 l2 l3 l4 => kt _ _ (d8.trans d9) ⟨os ++ [some l], by simp [po], by simp [ol], fun o ho => ?_⟩⟩
          rcases List.mem_append.mp ho with q | q
          · exact oo o q
          · rw [List.mem_singleton.mp q]; intro l' e; cases e; exact ⟨l1, l2, l3, l4⟩
      · obtain ⟨os, rfl, ol, oo⟩ := hR
        exact hk _ _ ⟨R, os, rfl, d7, eR, ol, oo, nR⟩
    rintro ρ' M7 ⟨R, os, rfl, d7, eR, ol, oo, nR⟩
    refine cut_seq (fun ρ' M8 => ∃ (R : Addr) (os : List (Option (List Nat))), ρ' = [some (.ref b), some (pn most), some (pn n), some (pn s), some (pn d), some (.ref Dn), some (pn i), some (.ref Dd), some (.ref Am), some (.ref Al), some (.ref R), none, none, none, none] ∧ Dr b M6 M8 ∧ M8 R = some (.lst (os.map po)) ∧ os.length = d ∧ (∀ o ∈ os, LotOk n o) ∧ ((nv[i]? = some true ∨ dn[i]? = some true) → ∀ o ∈ os, o = none) ∧ M6 R = none) (fun k hk => ?_) ?_
    · have f1 := (d6.trans d7).at neN en5
      have f2 := (d6.trans d7).at neD ed
      have gi1 : i < nv.length := by omega
      have gi2 : i < dn.length := by omega
      have no : ∀ K, (∀ R M8, Dr b M7 M8 → M7 R = none → M8 R = some (.lst ((List.replicate d (none : Option (List Nat))).map po)) → K (.ref R) M8) → ∀ a, M7 a = none → binW .Mult (.ref a) (pn d) (M7.upd a (.lst [.non])) K := fun K hK a ha => by
        show ok (lstM (M7.upd a (.lst [.non])) a) fun l => (-(2 ^ 62) ≤ (d : Int) ∧ (d : Int) ≤ LIM) ∧ l.length * (d : Int).toNat ≤ LIM ∧ ∀ c, (M7.upd a (.lst [.non])) c = none → K (.ref c) ((M7.upd a (.lst [.non])).upd c (.lst (List.replicate (d : Int).toNat l).flatten))
        have : lstM (M7.upd a (.lst [.non])) a = some [.non] := by unfold lstM; rw [MH.upd_same]
        rw [this]
        unfold LIM
        refine ⟨⟨by omega, by omega⟩, by simp; omega, fun c hc => ?_⟩
        have dd := Dr.new (mo := .lst [.non]) (Dr.refl d7.bx) ha
        refine hK _ _ (Dr.new dd hc) (dd.fresh hc) ?_
        rw [MH.upd_same]
        simp [po]
      simp [ix_lstN f1, ix_lstN f2, gi1, gi2]
      have fin : ∀ R M8, Dr b M7 M8 → M7 R = none → M8 R = some (.lst ((List.replicate d (none : Option (List Nat))).map po)) → k [some (.ref b), some (pn most), some (pn n), some (pn s), some (pn d), some (.ref Dn), some (pn i), some (.ref Dd), some (.ref Am), some (.ref Al), some (.ref R), none, none, none, none] M8 := fun R M8 d8 n8 e8 =>
        hk _ _ ⟨R, _, rfl, d7.trans d8, e8, by simp, ⟨fun o ho => (by rw [(List.mem_replicate.mp ho).2]; intro l e; cases e), ⟨fun _ o ho => (List.mem_replicate.mp ho).2, d7.fresh n8⟩⟩⟩
      cases c1 : nv[i] with
      | true =>
        simp
        exact ⟨by decide, fun a ha => no _ fin a ha⟩
      | false =>
        cases c2 : dn[i] with
        | true =>
          simp
          exact ⟨by decide, fun a ha => no _ fin a ha⟩
        | false =>
          simp
          exact hk _ _ ⟨R, os, rfl, d7, eR, ol, oo, fun z => by simp [gi1, gi2, c1, c2] at z, nR⟩
    rintro ρ' M8 ⟨R, os, rfl, d8, eR, ol, oo, ob, nR⟩
    have f1 := d8.at neAm p1
    have f2 := d8.at neAl p2
    have neR : R ≠ Am := (ne_new p1 nR).symm
    have neR2 : R ≠ Al := (ne_new p2 nR).symm
    simp [h1, ty_app f1, lstOf_lst eR]
    refine ⟨by unfold LIM; omega, mt_app f1 (by simp; unfold LIM; omega) ?_⟩
    have d9 : Dr b M5 (M8.upd Am (.lst (mvs.map (fun r => PV.tup (r.map po)) ++ [PV.tup (os.map po)]))) := (d6.trans d8).over neAm hAm
    have f3 : (M8.upd Am (.lst (mvs.map (fun r => PV.tup (r.map po)) ++ [PV.tup (os.map po)]))) Al = some (.lst (lts.map pl)) := by rw [MH.upd_ne neAA]; exact f2
    refine ⟨ty_app f3, enr (by rw [MH.upd_ne neR]; exact eR) ?_⟩
    refine lc_drmT (fun i acc => ∃ q : List Nat, acc = q.map pn ∧ q.Pairwise (· < ·) ∧ ∀ x ∈ q, x < i ∧ ∃ l, os[x]? = some (some l)) d9.bx (fun M' dd => lstOf_lst (dd.at (d6.bx.ne nR) (by rw [MH.upd_ne neR]; exact eR))) (by simp; unfold LIM; omega) ⟨[], rfl, by simp, by simp⟩ (fun j z acc M9 hz hR d10 KT KF kt kf => ?_) fun M9 acc d10 al4 hR => ?_
    · obtain ⟨hj, z2, z1⟩ := zidx_get hz
      obtain ⟨o, ho, z1⟩ : ∃ o, os[j]? = some o ∧ po o = z.1 := by
        rw [List.getElem?_map] at z1
        exact Option.map_eq_some_iff.mp z1
      obtain ⟨q, rfl, qp, ql⟩ := hR
      have skip : ∀ M10, Dr b M9 M10 → KF M10 := fun M10 dd => kf _ dd ⟨q, rfl, qp, fun x hx => ⟨by have := (ql x hx).1; omega, (ql x hx).2⟩⟩
      simp [h1, z2, ← z1]
      cases o with
      | none =>
        simp
        exact skip _ (Dr.refl d10.bx)
      | some l =>
        simp
        refine take_ok d10.bx (by omega) (by omega) fun M10 u d11 hu => ?_
        simp
        split
        · exact kt _ _ d11 ⟨q ++ [j], by simp, by
            rw [List.pairwise_append]
            exact ⟨qp, by simp, fun x hx y hy => by rw [List.mem_singleton.mp hy]; exact (ql x hx).1⟩, fun x hx => by
            rcases List.mem_append.mp hx with y | y
            · exact ⟨by have := (ql x y).1; omega, (ql x y).2⟩
            · rw [List.mem_singleton.mp y]; exact ⟨by omega, l, ho⟩⟩
        · exact skip _ d11
    · obtain ⟨q, rfl, qp, ql⟩ := hR
      have f4 := d10.at neAl f3
      refine mt_app f4 (by simp; unfold LIM; omega) ⟨mvs ++ [os], lts ++ [q], _, _, rfl, (d9.trans d10).over neAl hAl5, ?_, by rw [MH.upd_same]; simp [pl], by simp [p3], by simp [p4], fun j row lt e1 e2 => ?_⟩
      · rw [MH.upd_ne (Ne.symm neAA), d10.at neAm (MH.upd_same ..)]
        simp
      · by_cases c : j < i
        · rw [List.getElem?_append_left (by omega)] at e1 e2
          exact p5 j row lt e1 e2
        · by_cases c2 : j = i
          · subst c2
            rw [List.getElem?_append_right (by omega), p3] at e1
            rw [List.getElem?_append_right (by omega), p4] at e2
            simp at e1 e2
            subst e1; subst e2
            exact ⟨ol, oo, ob, qp, fun x hx => ⟨by have := (ql x hx).1; simp at this; omega, (ql x hx).2⟩⟩
          · rw [List.getElem?_eq_none (by simp; omega)] at e1
            cases e1
  · rintro ρ' M6 ⟨mvs, lts, x6, x10, rfl, d6, p1, p2, p3, p4, p5⟩
    simp [h1]
    refine rngp (by unfold LIM; omega) ?_
    refine lc_drrT (fun i acc => ∃ q : List Nat, acc = q.map pn ∧ q.length = i ∧ ∀ x ∈ q, x < s) d6.bx (by unfold LIM; omega) ⟨[], rfl, rfl, by simp⟩ (fun i acc M7 hi hR d7 KT KF kt kf => ?_) fun M7 acc d7 al5 hR => ?_
    · obtain ⟨q, rfl, ql, qs⟩ := hR
      simp [h1]
      refine take_ok d7.bx (by omega) (by omega) fun M8 u d8 hu => ?_
      refine kt _ _ d8 ⟨q ++ [u], by simp, by simp [ql], fun x hx => ?_⟩
      rcases List.mem_append.mp hx with y | y
      · exact qs x y
      · rw [List.mem_singleton.mp y]; exact hu
    obtain ⟨ws, rfl, wl, wlt⟩ := hR
    refine rngp (by unfold LIM; omega) ?_
    refine lc_mapT (fun x => some (pl [x])) (fun _ _ => trivial) (by simp; unfold LIM; omega) (fun x M8 hx hM KT KF kt kf => ?_) fun M8 e8 => ?_
    · simp
      exact ⟨by decide, kt _ _ (Fr.refl _ _) rfl⟩
    have d8 := (d6.trans d7).exr e8
    have g1 := (d7.exr e8).at neAm p1
    have g2 := (d7.exr e8).at neAl p2
    have g3 := d8.at neN en5
    have g4 := d8.at neD ed
    simp [lstOf_lst g1, lstOf_lst g2, lstOf_lst g3, lstOf_lst g4]
    unfold LIM at *
    refine ⟨by omega, by omega, by omega, by omega, ?_⟩
    show ([PV.tup []] ≠ [] ∧ [PV.tup []].length ≤ 1000 ∧ 0 ≤ (s : Int) ∧ (s : Int) ≤ 1000) ∧ _
    refine ⟨⟨by simp, by simp, by omega, by omega⟩, ?_⟩
    simp [lstOf_lst g2]
    refine ⟨by omega, ?_⟩
    have hh := h M8 ⟨ws, mvs, nv, dn, (List.range n).map (fun x => [x]), List.replicate s [], lts⟩ n d (dd5.trans d8) ?_ (by omega)
    · simpa [Wd.pv, pl, pll, pmv, pbs, Function.comp_def] using hh
    have row : ∀ m ∈ mvs, ∃ j lt, lts[j]? = some lt ∧ mvs[j]? = some m ∧ RowOk n d (nv[j]? = some true ∨ dn[j]? = some true) m lt := fun m hm => by
      obtain ⟨j, hj⟩ := List.getElem?_of_mem hm
      have jl : j < lts.length := by
        have := (List.getElem?_eq_some_iff.mp hj).1
        omega
      exact ⟨j, lts[j], List.getElem?_eq_getElem jl, hj, p5 j m _ hj (List.getElem?_eq_getElem jl)⟩
    have lrow' : ∀ q ∈ lts, ∃ j m, lts[j]? = some q ∧ mvs[j]? = some m ∧ RowOk n d (nv[j]? = some true ∨ dn[j]? = some true) m q := fun q hq => by
      obtain ⟨j, hj⟩ := List.getElem?_of_mem hq
      have jl : j < mvs.length := by
        have := (List.getElem?_eq_some_iff.mp hj).1
        omega
      exact ⟨j, mvs[j], hj, List.getElem?_eq_getElem jl, p5 j _ q (List.getElem?_eq_getElem jl) hj⟩
    have lot : ∀ m ∈ mvs, ∀ o ∈ m, LotOk n o := fun m hm o ho => by
      obtain ⟨j, lt, _, _, r⟩ := row m hm
      exact r.ok o ho
    have mvl : ∀ b' x l, mv ⟨ws, mvs, nv, dn, (List.range n).map (fun x => [x]), List.replicate s [], lts⟩ b' x = some l → ∃ m, mvs[b']? = some m ∧ m[x]? = some (some l) := fun b' x l e => by
      unfold mv at e
      cases q : mvs[b']? with
      | none => simp [q] at e
      | some m =>
        refine ⟨m, rfl, ?_⟩
        cases q2 : m[x]? with
        | none => simp [q, q2] at e
        | some o => simp [q, q2] at e; rw [e]
    have lo : LetOk lts n d := ⟨p4, fun q hq => by
      obtain ⟨j, m, e1, e2, r⟩ := lrow' q hq
      refine ⟨?_, fun x hx => (r.can x hx).1⟩
      have := nodup_le (n := d) (r.asc.imp fun h => Nat.ne_of_lt h) fun x hx => (r.can x hx).1
      omega⟩
    refine ⟨⟨wl, fun x hx => by simpa using wlt x hx, p3, fun m hm => ?_, fun m hm o ho l e => (lot m hm o ho l e).2.2.2, fun m hm o ho l e => (lot m hm o ho l e).1, fun m hm o ho l e => (lot m hm o ho l e).2.1, nvl, dnl, by simp, fun q hq => ?_, fun q hq => ?_, by omega, by omega, by omega⟩, lo, fun q hq => ?_, fun b' x hx => ?_, fun b' x e => ?_, fun b' hb' x => ?_, by omega, by omega, by omega, by simp; omega, by simp; omega, nv0 (by omega), dn0 (by omega)⟩
    · obtain ⟨j, lt, _, _, r⟩ := row m hm
      exact r.len
    · obtain ⟨u, _, rfl⟩ := List.mem_map.mp hq
      rfl
    · rw [(List.mem_replicate.mp hq).2]
      simp
    · obtain ⟨j, m, e1, e2, r⟩ := lrow' q hq
      exact r.asc
    · unfold lrow at hx
      cases q : lts[b']? with
      | none => simp [q] at hx
      | some lt =>
        obtain ⟨j, hj⟩ : ∃ m, mvs[b']? = some m := ⟨_, List.getElem?_eq_getElem (by have := (List.getElem?_eq_some_iff.mp q).1; omega)⟩
        have r := p5 b' j lt hj q
        simp [q] at hx
        obtain ⟨_, l, hl⟩ := r.can x hx
        simp [mv, hj, hl]
    · obtain ⟨m, e1, e2⟩ := mvl b' x [] e
      exact (lot m (List.mem_of_getElem? e1) _ (List.mem_of_getElem? e2) [] rfl).2.2.1 rfl
    · cases q : mv ⟨ws, mvs, nv, dn, (List.range n).map (fun x => [x]), List.replicate s [], lts⟩ b' x with
      | none => rfl
      | some l =>
        obtain ⟨m, e1, e2⟩ := mvl b' x l q
        have bl := (List.getElem?_eq_some_iff.mp e1).1
        have r := p5 b' m lts[b'] e1 (List.getElem?_eq_getElem (by omega))
        have := r.bare (hb'.elim Or.inr Or.inl) _ (List.mem_of_getElem? e2)
        cases this
end K74
/-! K74r: lets that surely lead to an end. -/
namespace K74
open PySem PL
/-- ascending numbers below d -/
def Asc (d : Nat) (q : List Nat) : Prop := q.Pairwise (· < ·) ∧ ∀ x ∈ q, x < d
theorem Asc.len {d : Nat} {q : List Nat} (h : Asc d q) : q.length ≤ d := nodup_le (h.1.imp fun h => Nat.ne_of_lt h) h.2
theorem Asc.snoc {d x : Nat} {q : List Nat} (h : Asc x q) (hx : x < d) : Asc d (q ++ [x]) := ⟨by
  rw [List.pairwise_append]
  exact ⟨h.1, by simp, fun y hy z hz => by rw [List.mem_singleton.mp hz]; exact h.2 y hy⟩, fun y hy => by
  rcases List.mem_append.mp hy with q | q
  · have := h.2 y q; omega
  · rw [List.mem_singleton.mp q]; exact hx⟩
theorem Asc.mono {d e : Nat} {q : List Nat} (h : Asc d q) (he : d ≤ e) : Asc e q := ⟨h.1, fun x hx => Nat.lt_of_lt_of_le (h.2 x hx) he⟩
/-- ahead of a round; within it: behind so many boards -/
structure Sl (b : Addr) (M : MH) (n d : Nat) (H L : Addr) (hs : List Nat) (lts : List (List Nat)) (M' : MH) : Prop where
  dr : Dr b M M'
  nH : M H = none
  nL : M L = none
  ne : H ≠ L
  atH : M' H = some (.lst (hs.map pn))
  atL : M' L = some (.lst (lts.map pl))
  nd : hs.Nodup
  hn : ∀ x ∈ hs, x < n
  ll : lts.length = n
  lr : ∀ q ∈ lts, Asc d q
theorem Sl.step {b : Addr} {M M1 M2 : MH} {n d : Nat} {H L : Addr} {hs : List Nat} {lts : List (List Nat)} (hb : Bx M b) (s : Sl b M n d H L hs lts M1) (h : Dr b M1 M2) : Sl b M n d H L hs lts M2 := ⟨s.dr.trans h, s.nH, s.nL, s.ne, h.at (hb.ne s.nH) s.atH, h.at (hb.ne s.nL) s.atL, s.nd, s.hn, s.ll, s.lr⟩
def Wso (W : Wd) (b : Addr) (M : MH) (n d : Nat) (L : Addr) (i : Nat) (ρ' : PEnv) (M' : MH) : Prop := ∃ (H : Addr) (hs : List Nat) (lts : List (List Nat)) (x4 x5 x6 x7 x11 : Option PV), ρ' = [some (.ref b), some W.pv, some (.ref H), some (.ref L), x4, x5, x6, x7, none, none, none, x11] ∧ Sl b M n d H L hs lts M'
def Wsm (W : Wd) (b : Addr) (M : MH) (n d : Nat) (L H : Addr) (hs : List Nat) (B A : Addr) (bl : List Nat) (t : PV) (j : Nat) (ρ' : PEnv) (M' : MH) : Prop := ∃ (lts : List (List Nat)) (la : List Nat) (x4 x7 x11 : Option PV), ρ' = [some (.ref b), some W.pv, some (.ref H), some (.ref L), x4, some t, some (.ref A), x7, none, none, none, x11] ∧ Sl b M n d H L hs lts M' ∧
  M' A = some (.lst (la.map pn)) ∧ M' B = some (.lst (bl.map pn)) ∧ la.Sublist (bl.take j)
theorem b_sure_let (Φ : Fns) (h1 : Φ.fn "_law_take" = some gTake) (h2 : Φ.fn "_law_is_end" = some gIsEnd) (h3 : Φ.fn "_law_pick" = some gPick) : ∀ vs M Q, gSureLet vs M Q → wpSs Φ m_law_sure_let (EndsP Q) (startP N_law_sure_let vs) M := by
  rintro _ M Q ⟨b, W, n, d, r, w, rfl, hb, h⟩
  have n1 := w.n1
  have d1 := w.d1
  unfold m_law_sure_let
  simp [startP, List.replicate, EndsP, h1, h2, w.moves]
  refine rngp (by unfold LIM; omega) ?_
  refine lc_map (fun x => if ((W.done[x]?).getD false) && !((W.never[x]?).getD false) then some (pn x) else none) (fun _ _ => trivial) (by simp; unfold LIM; omega) (fun x M1 hx hM1 KT KF kt kf => ?_) fun H M1 nH e1 hH => ?_
  · rw [List.mem_range] at hx
    simp [h2]
    refine ⟨W, n, d, r, x, w, hx, rfl, fun M2 e2 => ?_⟩
    simp
    split
    · rename_i c
      exact kt _ _ e2 (by simp [c])
    · rename_i c
      exact kf _ e2 (by simpa using c)
  rw [fmp] at hH
  generalize hh0 : (List.range n).filter (fun x => ((W.done[x]?).getD false) && !((W.never[x]?).getD false)) = hs0 at hH
  have d1' := Dr.ex hb e1
  refine ⟨by decide, fun a ha => mul_lst (MH.upd_same ..) (by simp; unfold LIM; omega) (by unfold LIM; omega) fun L hL => ⟨by decide, rngp (by unfold LIM; omega) ?_⟩⟩
  have d2 := (d1'.new (mo := .lst [.tup []]) ha)
  have nL := d2.fresh hL
  have neHa : H ≠ a := ne_new hH ha
  have atH : (M1.upd a (.lst [.tup []])) H = some (.lst (hs0.map pn)) := by rw [MH.upd_ne neHa]; exact hH
  have neHL : H ≠ L := ne_new atH hL
  have s0 : Sl b M n d H L hs0 (List.replicate n []) ((M1.upd a (.lst [.tup []])).upd L (.lst (List.replicate n [PV.tup []]).flatten)) := ⟨d2.new hL, nH, nL, neHL, by rw [MH.upd_ne neHL]; exact atH, by rw [MH.upd_same]; simp [pl], by rw [← hh0]; exact range_nd, fun x hx => by rw [← hh0] at hx; simpa using (List.mem_filter.mp hx).1, by simp, fun q hq => by
    rw [(List.mem_replicate.mp hq).2]
    exact ⟨by simp, by simp⟩⟩
  refine for_rng (Wso W b M n d L) ⟨H, hs0, _, none, none, none, none, none, rfl, s0⟩ ?_ ?_
  · rintro i ρ' M2 hi ⟨H, hs, lts, x4, x5, x6, x7, x11, rfl, s2⟩
    simp [w.moves]
    intro A hA
    have neHA : H ≠ A := ne_new s2.atH hA
    have neLA : L ≠ A := ne_new s2.atL hA
    have nA := s2.dr.fresh hA
    have s3 := s2.step hb (Dr.new (mo := .lst []) (Dr.refl s2.dr.bx) hA)
    refine rngp (by unfold LIM; omega) ?_
    refine lc_map (fun x => if !decide (x ∈ hs) then some (pn x) else none) (fun _ _ => trivial) (by simp; unfold LIM; omega) (fun x M3 hx hM3 KT KF kt kf => ?_) fun B M3 nB e3 hB => ?_
    · simp [notIn_nats (hM3.at s3.atH)]
      by_cases c : x ∈ hs
      · simp [c]
        exact kf _ (Fr.refl _ _) (by simp [c])
      · simp [c]
        exact kt _ _ (Fr.refl _ _) (by simp [c])
    rw [fmp] at hB
    generalize hbl : (List.range n).filter (fun x => !decide (x ∈ hs)) = bl at hB
    have blm : ∀ x ∈ bl, x < n ∧ x ∉ hs := fun x hx => by rw [← hbl] at hx; simpa using hx
    have bln : bl.Nodup := by rw [← hbl]; exact range_nd
    have nB' := s3.dr.fresh nB
    have neBA : A ≠ B := fun z => by rw [← z, MH.upd_same] at nB; cases nB
    have neLB : L ≠ B := ne_new s3.atL nB
    have s4 := s3.step hb (Dr.ex s3.dr.bx e3)
    refine exl hB ?_
    refine for_map (Wsm W b M n d L H hs B A bl (pn i)) ⟨lts, [], x4, x7, x11, rfl, s4, e3.at (MH.upd_same ..), hB, by simp⟩ ?_ ?_
    · rintro j y ρ' M4 hy ⟨lts, la, x4, x7, x11, rfl, s5, fA, fB, sub⟩
      refine ⟨fB, ?_⟩
      have hym := blm y (List.mem_of_getElem? hy)
      simp [h1, h3]
      have h1m : y < W.moves.length := by rw [w.moves]; exact hym.1
      simp [pmv, h1m]
      have rl : (W.moves[y]).length = d := w.row _ (List.getElem_mem h1m)
      have neAb := hb.ne nA
      have neBb := hb.ne nB'
      refine lc_inv (fun k acc => ∃ q : List Nat, acc = q.map pn ∧ Asc k q) (fun _ _ => trivial) (by simp; unfold LIM; omega) ⟨[], rfl, by simp [Asc]⟩ (fun k z acc M5 hz hR e5 KT KF kt kf => ?_) fun S M5 acc nS e5 eS al hR => ?_
      · obtain ⟨hk, z2, z1⟩ := zidx_get hz
        obtain ⟨o, ho, z1⟩ : ∃ o, (W.moves[y])[k]? = some o ∧ po o = z.1 := by
          rw [List.getElem?_map] at z1
          exact Option.map_eq_some_iff.mp z1
        obtain ⟨q, rfl, qa⟩ := hR
        have skip : ∀ M10, Ex M5 M10 → KF M10 := fun M10 dd => kf _ dd ⟨q, rfl, qa.mono (by omega)⟩
        simp [z2, ← z1]
        cases o with
        | none =>
          simp
          exact skip _ (Fr.refl _ _)
        | some l =>
          have ll : l.length ≤ 100 := w.lotl _ (List.getElem_mem h1m) _ (List.mem_of_getElem? ho) l rfl
          simp [po]
          simp only [pl, ex_tup]
          refine lc_map (fun x => if !decide (x ∈ hs) then some (pn 1) else none) (fun _ _ => trivial) (by unfold LIM; omega) (fun x M6 hx hM6 KT2 KF2 kt2 kf2 => ?_) fun O M6 nO e6 hO => ?_
          · simp [notIn_nats (hM6.at (e5.at s5.atH))]
            by_cases c : x ∈ hs
            · simp [c]
              exact kf2 _ (Fr.refl _ _) (by simp [c])
            · simp [c]
              exact kt2 _ _ (Fr.refl _ _) (by simp [c])
          · rw [fmp] at hO
            intro N hN
            have neON := ne_new hO hN
            rw [eq_nil (u := _) (by rw [MH.upd_ne neON]; exact hO) (MH.upd_same ..) (keys_good fun y hy => by
              obtain ⟨u, _, rfl⟩ := List.mem_map.mp hy
              rfl)]
            split
            · exact kt _ _ (Ex.trans e6 (Ex.new hN)) ⟨q ++ [k], by simp, qa.snoc (by omega)⟩
            · exact skip _ (Ex.trans e6 (Ex.new hN))
      obtain ⟨sm, rfl, sa⟩ := hR
      simp [rl] at sa
      have s6 := s5.step hb (Dr.ex s5.dr.bx e5)
      have fA2 := e5.at fA
      have fB2 := e5.at fB
      intro N hN
      have neSN := ne_new eS hN
      have eS2 : (M5.upd N (.lst [])) S = some (.lst (sm.map pn)) := by rw [MH.upd_ne neSN]; exact eS
      have s7 := s6.step hb (Dr.new (mo := .lst []) (Dr.refl s6.dr.bx) hN)
      have fA3 : (M5.upd N (.lst [])) A = some (.lst (la.map pn)) := by rw [MH.upd_ne (ne_new fA2 hN)]; exact fA2
      have fB3 : (M5.upd N (.lst [])) B = some (.lst (bl.map pn)) := by rw [MH.upd_ne (ne_new fB2 hN)]; exact fB2
      rw [ne_nil eS2 (MH.upd_same ..) goods_pn]
      have put : ∀ (M8 : MH) (q : List Nat) (x11 : Option PV), Sl b M n d H L hs lts M8 → M8 A = some (.lst (la.map pn)) → M8 B = some (.lst (bl.map pn)) → Asc d q → setW (.ref L) (pn y) (pl q) M8 fun M4 => tyM .append (.ref A) M4 = true ∧ mthW .append (.ref A) [pn y] M4 fun x M1 => Wsm W b M n d L H hs B A bl (pn i) (j + 1) [some (.ref b), some W.pv, some (.ref H), some (.ref L), some (pn y), some (pn i), some (.ref A), some (.ref S), none, none, none, x11] M1 := fun M8 q x11 s8 a8 b8 qa => by
        refine set_lstn s8.atL (by rw [List.length_map, s8.ll]; exact hym.1) ?_
        have a9 : (M8.upd L (.lst ((lts.map pl).set y (pl q)))) A = some (.lst (la.map pn)) := by rw [MH.upd_ne (Ne.symm neLA)]; exact a8
        have lal : la.length ≤ 100 := by
          have l1 := sub.length_le
          have l2 := List.length_take_le' j bl
          have l3 := nodup_le bln fun x hx => (blm x hx).1
          omega
        refine ⟨ty_app a9, mt_app a9 (by simp; unfold LIM; omega) ⟨lts.set y q, la ++ [y], _, _, _, rfl, ⟨(s8.dr.over (hb.ne nL) nL).over neAb nA, s8.nH, s8.nL, s8.ne, ?_, ?_, s8.nd, s8.hn, by simp [s8.ll], fun z hz => ?_⟩, by rw [MH.upd_same]; simp, ?_, ?_⟩⟩
        · rw [MH.upd_ne neHA, MH.upd_ne s8.ne]; exact s8.atH
        · rw [MH.upd_ne neLA, MH.upd_same, List.map_set]
        · rcases List.mem_or_eq_of_mem_set hz with z1 | z1
          · exact s8.lr z z1
          · rw [z1]; exact qa
        · rw [MH.upd_ne (Ne.symm neBA), MH.upd_ne (Ne.symm neLB)]; exact b8
        · rw [List.take_add_one, hy]
          exact sub.append (List.Sublist.refl _)
      split
      · rename_i c
        refine exl eS2 ?_
        have nSb : S ≠ b := s5.dr.bx.ne nS
        refine lc_drm (fun k acc => ∃ q : List Nat, acc = q.map pn ∧ q.Sublist (sm.take k)) s7.dr.bx (fun M' dd => dd.at nSb eS2) (by have := sa.len; unfold LIM; omega) ⟨[], rfl, by simp⟩ (fun k u acc M6 hu hR d6 KT KF kt kf => ?_) fun T M6 acc nT d6 eT al hR => ?_
        · obtain ⟨q, rfl, qs⟩ := hR
          simp [h1]
          refine take_ok d6.bx (by omega) (by omega) fun M7 v d7 hv => ?_
          simp
          have tk : sm.take (k + 1) = sm.take k ++ [u] := by rw [List.take_add_one, hu]; rfl
          split
          · exact kt _ _ d7 ⟨q ++ [u], by simp, by rw [tk]; exact qs.append (List.Sublist.refl _)⟩
          · exact kf _ d7 ⟨q, rfl, by rw [tk]; exact qs.trans (List.sublist_append_left _ _)⟩
        obtain ⟨kq, rfl, ks⟩ := hR
        rw [List.take_length] at ks
        have ka : Asc d kq := ⟨sa.1.sublist ks, fun x hx => sa.2 x (ks.subset hx)⟩
        have nTb := s7.dr.bx.ne nT
        intro N2 hN2
        have eT2 : (M6.upd N2 (.lst [])) T = some (.lst (kq.map pn)) := by rw [MH.upd_ne (ne_new eT hN2)]; exact eT
        have d7 := d6.new (mo := .lst []) hN2
        have s8 := s7.step hb d7
        rw [ne_nil eT2 (MH.upd_same ..) goods_pn]
        split
        · refine blt_tup (lstOf_lst eT2) (by have := ka.len; simp; unfold LIM; omega) ?_
          exact put _ kq _ s8 (d7.at neAb fA3) (d7.at neBb fB3) ka
        · refine ⟨b, sm.map pn, _, rfl, .inr ⟨S, nSb, rfl, d7.at nSb eS2⟩, by simpa using c, by have := sa.len; simp; omega, d7.bx, fun M9 v fr bx hv => ⟨by decide, fun P hP => ?_⟩⟩
          obtain ⟨u, hu, rfl⟩ := List.mem_map.mp hv
          have d8 : Dr b _ M9 := ⟨fr, bx⟩
          have d9 := (d7.trans d8).new (mo := .lst [pn u]) hP
          simp [lstOf_lst (MH.upd_same (M := M9) (a := P) (o := .lst [pn u]))]
          exact ⟨by decide, put _ [u] _ (s7.step hb d9) (d9.at neAb fA3) (d9.at neBb fB3) ⟨by simp, fun x hx => by rw [List.mem_singleton.mp hx]; exact sa.2 u hu⟩⟩
      · refine ⟨lts, la, _, _, x11, rfl, s7, fA3, fB3, sub.trans (List.take_sublist_take_left (by omega))⟩
    · rintro ρ' M4 ⟨lts, la, x4, x7, x11, rfl, s5, fA, fB, sub⟩
      refine ⟨fB, ?_⟩
      rw [List.take_length] at sub
      have lan : la.Nodup := bln.sublist sub
      have lam : ∀ x ∈ la, x < n ∧ x ∉ hs := fun x hx => blm x (sub.subset hx)
      have hsl := nodup_le s5.nd s5.hn
      have lal := nodup_le lan fun x hx => (lam x hx).1
      simp
      refine add_refs s5.atH fA (by simp; unfold LIM; omega) fun C hC => ⟨C, hs ++ la, lts, _, _, _, _, _, rfl, ⟨s5.dr.new hC, s5.dr.fresh hC, s5.nL, (ne_new s5.atL hC).symm, by rw [MH.upd_same]; simp, by rw [MH.upd_ne (ne_new s5.atL hC)]; exact s5.atL, ?_, ?_, s5.ll, s5.lr⟩⟩
      · rw [List.nodup_append]
        exact ⟨s5.nd, lan, fun x hx y hy e => (lam y hy).2 (e ▸ hx)⟩
      · intro x hx
        rcases List.mem_append.mp hx with q | q
        · exact s5.hn x q
        · exact (lam x q).1
  · rintro ρ' M2 ⟨H, hs, lts, x4, x5, x6, x7, x11, rfl, s2⟩
    simp [lstOf_lst s2.atL]
    refine ⟨by rw [s2.ll]; unfold LIM; omega, by decide, ?_⟩
    exact h M2 lts H hs s2.dr ⟨s2.ll, fun q hq => ⟨by have := (s2.lr q hq).len; omega, (s2.lr q hq).2⟩⟩ (fun q hq => by have := (s2.lr q hq).len; omega) s2.atH
end K74
/-! K74s: drawn logs. -/
namespace K74
open PySem PL
def LotNe (W : Wd) : Prop := ∀ b x, mv W b x ≠ some []
def gLogDrawn : FSp := fun vs M Q => ∃ b W n d r lt many, WF W n d r ∧ LetOk lt n d ∧ 0 < d ∧ LotNe W ∧ many ≤ 50 ∧ vs = [.ref b, W.pv, pll lt, pn many] ∧ Bx M b ∧ ∀ M' log, Dr b M M' → LogOk log n d → log.length ≤ many → Q (plog log) M'
theorem po_good {o : Option (List Nat)} : (po o).goodN 6 = true := by
  cases o with
  | none => rfl
  | some l =>
    show (PV.tup (l.map pn)).goodN 6 = true
    simp only [PV.goodN]
    exact goodsN_mem.mpr fun x hx => by
      obtain ⟨u, _, rfl⟩ := List.mem_map.mp hx
      rfl
theorem goods_goes {W : Wd} {b : Nat} {l : List Nat} : PV.goodsN (l.map fun x => PV.tup [pn x, po (mv W b x)]) 7 = true := goodsN_mem.mpr fun y hy => by
  obtain ⟨x, _, rfl⟩ := List.mem_map.mp hy
  show (PV.tup [pn x, po (mv W b x)]).goodN 7 = true
  simp only [PV.goodN, PV.goodsN, po_good, Bool.and_true]
  rfl
theorem pick_ok {b : Addr} {x : PV} {l : List PV} {M : MH} {Q : WK} (hb : Bx M b) (h : x = .tup l ∨ ∃ a, a ≠ b ∧ x = .ref a ∧ M a = some (.lst l)) (l0 : l ≠ []) (l1 : l.length < 1000000) (q : ∀ M' y, Dr b M M' → y ∈ l → Q y M') : gPick [.ref b, x] M Q := ⟨b, l, x, rfl, h, l0, l1, hb, fun M' y fr bx hy => q M' y ⟨fr, bx⟩ hy⟩
def Wld (b : Addr) (W : Wd) (lt : List (List Nat)) (many n d : Nat) (M : MH) (A : Addr) (i : Nat) (ρ' : PEnv) (M' : MH) : Prop := ∃ (bd : Nat) (log : List (Nat × Nat)) (x6 x7 x8 x9 x10 x11 x12 : Option PV), ρ' = [some (.ref b), some W.pv, some (pll lt), some (pn many), some (pn bd), some (.ref A), x6, x7, x8, x9, x10, x11, x12] ∧ Dr b M M' ∧ M' A = some (.lst (log.map pp)) ∧ bd < n ∧ log.length ≤ i ∧ ∀ x ∈ log, x.1 < d ∧ x.2 < n
theorem b_log_drawn (Φ : Fns) (h1 : Φ.fn "_law_take" = some gTake) (h2 : Φ.fn "_law_goes" = some gLGoes) (h3 : Φ.fn "_law_pick" = some gPick) : ∀ vs M Q, gLogDrawn vs M Q → wpSs Φ m_law_log_drawn (EndsP Q) (startP N_law_log_drawn vs) M := by
  rintro _ M Q ⟨b, W, n, d, r, lt, many, w, hl, d0, lne, hm, rfl, hb, h⟩
  have n1 := w.n1
  have d1 := w.d1
  have n0 := w.n0
  unfold m_law_log_drawn
  simp [startP, List.replicate, EndsP, h1, h2]
  intro A hA
  refine ⟨by decide, rngp (by unfold LIM; omega) ?_⟩
  have neA := hb.ne hA
  have fin : ∀ i ρ' M', i ≤ many → Wld b W lt many n d M A i ρ' M' → ok (ρ'[5]?.join) fun v => bltW .tuple [v] M' Q := by
    rintro i ρ' M' hi ⟨bd, log, x6, x7, x8, x9, x10, x11, x12, rfl, dr, fA, hbd, ll, lo⟩
    simp [lstOf_lst fA]
    exact ⟨by unfold LIM; omega, h M' log dr ⟨by omega, lo⟩ (by omega)⟩
  refine for_rng (Wld b W lt many n d M A) ⟨0, [], none, none, none, none, none, none, none, rfl, (Dr.refl hb).new hA, MH.upd_same .., n0, by simp, by simp⟩ ?_ (fun ρ' M' hw => fin many ρ' M' (by omega) hw)
  rintro i ρ' M1 hi ⟨bd, log, x6, x7, x8, x9, x10, x11, x12, rfl, dr, fA, hbd, ll, lo⟩
  have hbl : bd < W.moves.length := by rw [w.moves]; exact hbd
  have rl : (W.moves[bd]).length = d := w.row _ (List.getElem_mem hbl)
  refine cut_seq (fun ρ' M' => ∃ G, ρ' = [some (.ref b), some W.pv, some (pll lt), some (pn many), some (pn bd), some (.ref A), some (pn i), some (.ref G), x8, x9, x10, x11, x12] ∧ Dr b M1 M' ∧ G ≠ b ∧ M' G = some (.lst ((letDeeds W lt bd).map fun x => .tup [pn x, po (mv W bd x)]))) (fun k hk => ?_) ?_
  · simp [h2]
    exact ⟨W, lt, n, d, r, bd, w, hl, hbd, rfl, fun M2 G e2 nG hG => hk _ _ ⟨G, rfl, Dr.ex dr.bx e2, dr.bx.ne nG, hG⟩⟩
  rintro ρ' M2 ⟨G, rfl, dr2, neG, hG⟩
  refine cut_seq (fun ρ' M' => ∃ way, ρ' = [some (.ref b), some W.pv, some (pll lt), some (pn many), some (pn bd), some (.ref A), some (pn i), some (.ref G), some (pn way), x9, x10, x11, x12] ∧ Dr b M1 M' ∧ M' G = some (.lst ((letDeeds W lt bd).map fun x => .tup [pn x, po (mv W bd x)]))) (fun k hk => ?_) ?_
  · simp [h1]
    exact take_ok dr2.bx (by omega) (by omega) fun M3 u d3 hu => hk _ _ ⟨u, rfl, dr2.trans d3, d3.at neG hG⟩
  clear hG dr2 M2
  rintro ρ' M2 ⟨way, rfl, dr2, hG⟩
  refine cut_seq (fun ρ' M' => ∃ (x7 x8 x9 x11 : Option PV) (deed there : Nat), ρ' = [some (.ref b), some W.pv, some (pll lt), some (pn many), some (pn bd), some (.ref A), some (pn i), x7, x8, x9, some (pn deed), x11, some (pn there)] ∧ Dr b M1 M' ∧ deed < d ∧ there < n) (fun k hk => ?_) ?_
  · -- any deed
    rw [wp_ifs]
    refine cut_e (fun v M' => ∃ c, v = .bl c ∧ Dr b M2 M' ∧ (c = false → letDeeds W lt bd ≠ [])) (fun k hk => ?_) ?_
    · simp
      intro N hN
      rw [eq_nil (show (M2.upd N (.lst [])) G = _ by rw [MH.upd_ne (ne_new hG hN)]; exact hG) (MH.upd_same ..) goods_goes]
      have dN := (Dr.refl dr2.bx).new (mo := .lst []) hN
      by_cases c : letDeeds W lt bd = []
      · simp [c]
        exact hk _ _ ⟨true, rfl, dN, by simp⟩
      · simp [c]
        exact hk _ _ ⟨_, rfl, dN, fun _ => c⟩
    rintro v M3 ⟨c, rfl, d3, hc⟩
    have dr3 := dr2.trans d3
    have hG3 := d3.at neG hG
    simp only [onB_bl]
    split
    · refine cut_seq (fun ρ' M' => ∃ (S : Addr) (sm : List Nat), ρ' = [some (.ref b), some W.pv, some (pll lt), some (pn many), some (pn bd), some (.ref A), some (pn i), some (.ref G), some (pn way), some (.ref S), x10, x11, x12] ∧ Ex M3 M' ∧ M3 S = none ∧ M' S = some (.lst (sm.map pn)) ∧ Asc d sm) (fun k hk => ?_) ?_
      · simp [pmv, hbl]
        refine lc_inv (fun k acc => ∃ q : List Nat, acc = q.map pn ∧ Asc k q) (fun _ _ => trivial) (by simp; unfold LIM; omega) ⟨[], rfl, by simp [Asc]⟩ (fun k z acc M5 hz hR e5 KT KF kt kf => ?_) fun S M5 acc nS e5 eS al hR => ?_
        · obtain ⟨hk, z2, z1⟩ := zidx_get hz
          obtain ⟨q, rfl, qa⟩ := hR
          simp [z2]
          split
          · exact kf _ (Fr.refl _ _) ⟨q, rfl, qa.mono (by omega)⟩
          · exact kt _ _ (Fr.refl _ _) ⟨q ++ [k], by simp, qa.snoc (by omega)⟩
        · obtain ⟨sm, rfl, sa⟩ := hR
          simp [rl] at sa
          exact hk _ _ ⟨S, sm, rfl, e5, nS, eS, sa⟩
      rintro ρ' M4 ⟨S, sm, rfl, e4, nS, hS, sa⟩
      have nSb := dr3.bx.ne nS
      have dr4 := dr3.exr e4
      refine cut_seq (fun ρ' M' => ∃ deed, ρ' = [some (.ref b), some W.pv, some (pll lt), some (pn many), some (pn bd), some (.ref A), some (pn i), some (.ref G), some (pn way), some (.ref S), some (pn deed), x11, x12] ∧ Dr b M1 M' ∧ deed < d) (fun k hk => ?_) ?_
      · have any : ∀ M5, Dr b M1 M5 → gTake [.ref b, pn d] M5 fun v M6 => k [some (.ref b), some W.pv, some (pll lt), some (pn many), some (pn bd), some (.ref A), some (pn i), some (.ref G), some (pn way), some (.ref S), some v, x11, x12] M6 := fun M5 d5 =>
          take_ok d5.bx d0 (by omega) fun M6 u d6 hu => hk _ _ ⟨u, rfl, d5.trans d6, hu⟩
        simp [h1, h3, w.whose]
        intro N hN
        have hS2 : (M4.upd N (.lst [])) S = some (.lst (sm.map pn)) := by rw [MH.upd_ne (ne_new hS hN)]; exact hS
        have dr5 := dr4.new (mo := .lst []) hN
        rw [ne_nil hS2 (MH.upd_same ..) goods_pn]
        split
        · rename_i c
          split
          · refine pick_ok dr5.bx (.inr ⟨S, nSb, rfl, hS2⟩) (by simpa using c) (by have := sa.len; simp; omega) fun M6 v d6 hv => ?_
            obtain ⟨u, hu, rfl⟩ := List.mem_map.mp hv
            exact hk _ _ ⟨u, rfl, dr5.trans d6, sa.2 u hu⟩
          · exact any _ dr5
        · exact any _ dr5
      rintro ρ' M5 ⟨deed, rfl, dr5, hdd⟩
      have any : ∀ M6 x11, Dr b M1 M6 → gTake [.ref b, pn n] M6 fun v M7 => k [some (.ref b), some W.pv, some (pll lt), some (pn many), some (pn bd), some (.ref A), some (pn i), some (.ref G), some (pn way), some (.ref S), some (pn deed), x11, some v] M7 := fun M6 x11 d6 =>
        take_ok d6.bx n0 (by omega) fun M7 u d7 hu => hk _ _ ⟨_, _, _, _, deed, u, rfl, d6.trans d7, hdd, hu⟩
      simp [h1, h3, w.moves]
      rw [ix_mv w hbd hdd]
      simp
      cases q : mv W bd deed with
      | none =>
        simp
        exact any _ _ dr5
      | some l =>
        obtain ⟨ll2, ln⟩ := mv_ok w hbd hdd q
        simp
        refine take_ok dr5.bx (by omega) (by omega) fun M6 u d6 hu => ?_
        simp
        split
        · refine pick_ok (l := l.map pn) d6.bx (.inl rfl) (by simp; exact fun z => lne bd deed (by rw [q, z])) (by simp; omega) fun M7 v d7 hv => ?_
          obtain ⟨y, hy, rfl⟩ := List.mem_map.mp hv
          exact hk _ _ ⟨_, _, _, _, deed, y, rfl, (dr5.trans d6).trans d7, hdd, ln y hy⟩
        · exact any _ _ (dr5.trans d6)
    · rename_i c0
      have ne0 := hc (by simpa using c0)
      have ldl := ld_len (W := W) (b := bd) hl
      simp [h1, h3, w.moves]
      refine pick_ok dr3.bx (.inr ⟨G, neG, rfl, hG3⟩) (by simpa using ne0) (by simp; omega) fun M4 v d4 hv => ?_
      obtain ⟨deed, hdd, rfl⟩ := List.mem_map.mp hv
      obtain ⟨dlt, l, hlot⟩ := letDeeds_mem hl hdd
      obtain ⟨ll2, ln⟩ := mv_ok w hbd dlt hlot
      simp [hlot, w.moves]
      split
      · refine pick_ok (l := l.map pn) d4.bx (.inl rfl) (by simp; exact fun z => lne bd deed (by rw [hlot, z])) (by simp; omega) fun M7 v d7 hv => ?_
        obtain ⟨y, hy, rfl⟩ := List.mem_map.mp hv
        exact hk _ _ ⟨_, _, _, _, deed, y, rfl, (dr3.trans d4).trans d7, dlt, ln y hy⟩
      · exact take_ok d4.bx n0 (by omega) fun M7 u d7 hu => hk _ _ ⟨_, _, _, _, deed, u, rfl, (dr3.trans d4).trans d7, dlt, hu⟩
  rintro ρ' M3 ⟨x7, x8, x9, x11, deed, there, rfl, dr3, hdd, hth⟩
  have fA3 := dr3.at neA fA
  simp [h1, ty_app fA3]
  refine ⟨by decide, mt_app fA3 (by simp; unfold LIM; omega) ?_⟩
  have dr4 : Dr b M (M3.upd A (.lst (log.map pp ++ [PV.tup [pn deed, pn there]]))) := (dr.trans dr3).over neA hA
  have fA4 := MH.upd_same (M := M3) (a := A) (o := .lst (log.map pp ++ [PV.tup [pn deed, pn there]]))
  refine take_ok dr4.bx (by omega) (by omega) fun M5 u d5 hu => ?_
  have hw : ∀ x6, Wld b W lt many n d M A (i + 1) [some (.ref b), some W.pv, some (pll lt), some (pn many), some (pn there), some (.ref A), x6, x7, x8, x9, some (pn deed), x11, some (pn there)] M5 := fun x6 => ⟨there, log ++ [(deed, there)], _, _, _, _, _, _, _, rfl, dr4.trans d5, by rw [d5.at neA fA4]; simp [pp], hth, by simp; omega, fun x hx => by
    rcases List.mem_append.mp hx with q | q
    · exact lo x q
    · rw [List.mem_singleton.mp q]; exact ⟨hdd, hth⟩⟩
  simp
  split
  · have := fin (i + 1) _ M5 (by omega) (hw (some (pn i)))
    simpa using this
  · exact hw _
end K74
/-! K74t: the hashes of sentences. -/
namespace K74
open PySem PL
def hN (d : Nat) (s : List Nat) : Int := reduceHash (Builtin.Tuple.tupleHashOf [hashInt (d : Int), reduceHash (Builtin.Tuple.tupleHashOf (s.map fun x : Nat => hashInt (x : Int)))])
theorem hashes_pn (w : World) : ∀ l : List Nat, PV.hashes w (l.map pn) = l.map fun x : Nat => hashInt (x : Int)
  | [] => rfl
  | a :: l => by rw [List.map_cons, PV.hashes, hashes_pn w l]; rfl
theorem hash_sent (w : World) (d : Nat) (s : List Nat) : (PV.tup [pn d, pl s]).hash w = hN d s := by
  unfold hN
  simp only [PV.hash, PV.hashes, pl, hashes_pn]
  rfl
def Gs : List (List Nat) := [] :: ((List.range 10).map fun b => [b]) ++ ((List.range 2).map fun p => (List.range 10).map fun q => [p, q]).flatten
def Gt : List (Nat × List Nat) := ((List.range 6).map fun d => Gs.map fun s => (d, s)).flatten
def Gh : List Int := [-5190988587195632635, 2886958471919528486, 909922512152810586, 8453241622063057128, 5742810237853271677, -762257342961665269, -7137650685712751297, 8598662003787014868, 2093594422972077922, 2030834944412781168, -4474232636402155778, 7676811509268022211, 568022742073868632, 6197065370776694028, 6134305892217397274, 3423874508007611823, -3081193072807325123, 1944128369516283640, 2485090077336203519, -225341306873581932, 7317977803036664610, -4523628201690705621, 7418048291203909049, -6693097878080571193, -1667776435756962430, -8172844016571899376, -8235603495131196130, 3706072997763418540, 8731394440087027303, -5379751729197452939, 6561924763697161731, 2500886146856312502, -5220238962087589296, 4203439863220387595, -2301627717594549351, 9036327588920848686, -8869454776968783051, -3844133334645174288, -6554564718854959739, 5387111774039654931, 5324352295480358177, -1180715285334578769, -7476415213373952396, -7539174691933249150, -8956161351865280579, -4620563447440209205, 6717391859075188832, 212324278260251886, -6163069064490834142, 5778607428403780528, 3068176044193995077, -3436891536620941869, 5815918438011728213, -689149142803208733, -3399580527012994184, 1625740915310614579, -4879326665504322367, -4942086144063619121, 6999590348830995549, -6421832282554947304, -2086234378129875930, -8591301958944812876, 7952677415836332426, -2416119598758058069, -8791512941509144097, 3150163551385470573, 439732167175685122, -6065335413639251824, 6006015317319213764, 3295583933109428313, -3209483647705508633, -3272243126264805387, 8669433366629809283, 2373733438590435656, -4735055328603717923, 893987300099107473, 831227821539810719, -1879203562669974732, -8384271143484911678, 3687079587473553910, -2817987993341383036, -5528419377551168487, 2014899732359078055, 8620037801341259440, 2114970220526322494, 2052210741967025740, -6970854506434548985, 572464603475697557, 4908062507900768931, -1597005072914168015, 3428316369409440748, 7763914273834512122, 1258846693019575176, -8532767121629096755, -454820062513935634, -6830213405265021662, 5111463087629593008, -1997325679564560571, -8502393260379497517, 3568957470578968071, 858526086369182620, -5646541494445754326, -1310943590020682952, 6232375519889563590, -63324408149810037, -2773755792359595488, -1543070546641138220, 2792527357783933154, -4316261409410220425, 7625415083484394245, 1250021740733308217, -5255045840081628729, -7965477224291414180, 3976199268603200490, 6182979954601013747, -322087626213923199, 4013510278211148175, 9038831720534756938, 2533764139719819992, 2471004661160523238, -4034062919654413708, 5389615905653563183, 5326856427094266429, -1178211153720670517, -3080975852649076831, 4996971206466084290, 3019935246699366390, -7883489717099938684, 7852822972399827481, 1347755391584890535, 6373076833908499298, -7738069335375980944, 4203607157518633726, 4140847678959336972, -2364219901855599974, -8659919829894973601, 2678035476620424436, 8307078105323249832, 8244318626763953078, 5533887242554167627, -971180338260769319, 4054141104062839444, -2450926476752097502, 1884671427672973872, -9018753536126331202, -2413615467144149817, -8918683047959086763, -8981442526518383517, 442236298789593374, -6062831282025343572, -6125590760584640326, 5816085732309974344, -7605336899075968509, -3269738994650897135, 8671937498243717535, 212541498418500178, -3110226227541033492, 6313452597766943399, -4589972366032361675, -7300403750242147126, 4641272742652467544, -1734120600098618484, -4444551984308403935, 7497124508586210735, 7434365030026913981, 929297449211977035, -5366402478827396592, -5429161957386693346, -6846148617318724775, -6908908095878021529, 8827404593621744636, 2322337012806807690, -4053056329944278338, 7888620162950336332, 5178188778740550881, -1326878802074386065, 7925931172558284017, 1420863591743347071, -1289567792466438380, 3735753649857170383, -2769313930957766563, -2832073409517063317, 9109603083377551353, -4311819548008391500, 23778356416679874, -6481289224398257072]
theorem gh_ok : (Gt.map fun x => hN x.1 x.2) = Gh := by decide +kernel
theorem gh_nd : Gh.Nodup := by decide +kernel
theorem nodup_inj {α β : Type} {f : α → β} : ∀ {l : List α}, (l.map f).Nodup → ∀ x ∈ l, ∀ y ∈ l, f x = f y → x = y
  | [], _, x, hx, _, _, _ => by cases hx
  | a :: l, h, x, hx, y, hy, e => by
    rw [List.map_cons, List.nodup_cons] at h
    rcases List.mem_cons.mp hx with ex | hx2
    · rcases List.mem_cons.mp hy with ey | hy2
      · rw [ex, ey]
      · exact absurd (List.mem_map.mpr ⟨y, hy2, by rw [← e, ex]⟩) h.1
    · rcases List.mem_cons.mp hy with ey | hy2
      · exact absurd (List.mem_map.mpr ⟨x, hx2, by rw [e, ey]⟩) h.1
      · exact nodup_inj h.2 x hx2 y hy2 e
theorem hN_inj {d1 d2 : Nat} {s t : List Nat} (h1 : d1 < 6) (h2 : d2 < 6) (hs : s ∈ Gs) (ht : t ∈ Gs) (e : hN d1 s = hN d2 t) : d1 = d2 := by
  have mem : ∀ {d : Nat} {s : List Nat}, d < 6 → s ∈ Gs → (d, s) ∈ Gt := fun hd hs => List.mem_flatten.mpr ⟨_, List.mem_map.mpr ⟨_, List.mem_range.mpr hd, rfl⟩, List.mem_map.mpr ⟨_, hs, rfl⟩⟩
  have := nodup_inj (f := fun x : Nat × List Nat => hN x.1 x.2) (l := Gt) (by rw [gh_ok]; exact gh_nd) (d1, s) (mem h1 hs) (d2, t) (mem h2 ht) e
  exact congrArg Prod.fst this
theorem gs_mem : ∀ b < 10, ∀ q ∈ SS, (q.map fun i => (([b % 2, b / 2 % 2, b] : List Nat)[i]?).getD 0) ∈ Gs := by decide +kernel
/-- hashes of a signed world's sentences -/
theorem hash_signed {W : Wd} {n d r : Nat} (w : WF W n d r) (hn : n ≤ 10) (hd : d ≤ 6) (hr : W.rows = sRows n) (hs : ∀ q ∈ W.sees, q ∈ SS) : HashOk W n d := fun wd b d1 d2 hb h1 h2 e => by
  have gs : ∀ x, x < d → signOf W ((W.whose[x]?).getD 0) b ∈ Gs := fun x hx => by
    have hx2 : x < W.whose.length := by rw [w.whose]; exact hx
    have hh := w.helper _ (List.getElem_mem hx2)
    have e1 : (W.whose[x]?).getD 0 = W.whose[x] := by simp [hx2]
    have e2 : (W.sees[W.whose[x]]?).getD [] = W.sees[W.whose[x]] := by simp [hh]
    have e3 : (W.rows[b]?).getD [] = [b % 2, b / 2 % 2, b] := by rw [hr]; simp [sRows, hb]
    unfold signOf
    rw [e1, e2, e3]
    exact gs_mem b (by omega) _ (hs _ (List.getElem_mem hh))
  unfold sentAt at e
  rw [hash_sent, hash_sent] at e
  exact hN_inj (by omega) (by omega) (gs d1 h1) (gs d2 h2) e
theorem hash_giver : HashOk Wg 3 2 := fun wd b d1 d2 hb h1 h2 e => by
  have gs : ∀ b < 3, ∀ x < 2, signOf Wg ((Wg.whose[x]?).getD 0) b ∈ Gs := by decide +kernel
  unfold sentAt at e
  rw [hash_sent, hash_sent] at e
  exact hN_inj (by omega) (by omega) (gs b hb d1 h1) (gs b hb d2 h2) e
end K74
/-! K74u: the law. -/
namespace K74
open PySem PL
theorem psort_lit {S m : List PV} (so : Sortable S) (nd : S.Nodup) (nm : m.Nodup) (e : ∀ x, x ∈ S ↔ x ∈ m) (hs : m.Pairwise fun a b => pylt b a = false) : psort S = m :=
  (psort_uniq so ((List.perm_ext_iff_of_nodup nm nd).mpr fun x => (e x).symm) hs).symm
def sn (d : Nat) (s : List Nat) : PV := .tup [pn d, pl s]
theorem pns_inj : ∀ {s t : List Nat}, s.map pn = t.map pn → s = t
  | [], [], _ => rfl
  | [], _ :: _, h => by cases h
  | _ :: _, [], h => by cases h
  | a :: s, b :: t, h => by
    rw [List.map_cons, List.map_cons, List.cons.injEq] at h
    rw [pn_inj h.1, pns_inj h.2]
theorem sn_inj {d e : Nat} {s t : List Nat} : sn d s = sn e t ↔ d = e ∧ s = t := by
  unfold sn pl
  constructor
  · intro h
    have h := PV.tup.inj h
    simp only [List.cons.injEq, and_true] at h
    refine ⟨pn_inj h.1, ?_⟩
    have h2 := PV.tup.inj h.2
    exact pns_inj h2
  · rintro ⟨rfl, rfl⟩; rfl
theorem giver_let (b : Nat) (h : b ≠ 0) : letDeeds Wg Wg.lets b = [] := by
  match b, h with
  | 1, _ => rfl
  | 2, _ => rfl
  | b + 3, _ => rfl
theorem giver_sent (x : PV) : IsSent Wg Wg.lets x ↔ x ∈ [sn 0 [0], sn 1 []] := by
  constructor
  · rintro ⟨b, d, _, hd, rfl⟩
    by_cases c : b = 0
    · subst c
      have : letDeeds Wg Wg.lets 0 = [0, 1] := by decide
      rw [this] at hd
      simp at hd
      rcases hd with rfl | rfl
      · exact List.mem_cons_self
      · exact List.mem_cons_of_mem _ List.mem_cons_self
    · rw [giver_let b c] at hd; cases hd
  · intro h
    have l0 : letDeeds Wg Wg.lets 0 = [0, 1] := by decide
    simp at h
    rcases h with rfl | rfl
    · exact ⟨0, 0, .start, by rw [l0]; simp, rfl⟩
    · exact ⟨0, 1, .start, by rw [l0]; simp, rfl⟩
theorem giver_sent2 (x : PV) : ¬ IsSent Wg [[], [0], []] x := by
  rintro ⟨b, d, _, hd, rfl⟩
  have : letDeeds Wg [[], [0], []] b = [] := by
    match b with
    | 0 => rfl
    | 1 => rfl
    | 2 => rfl
    | b + 3 => rfl
  rw [this] at hd; cases hd
theorem sn_ne {d e : Nat} {s t : List Nat} (h : ¬ (d = e ∧ s = t)) : sn d s ≠ sn e t := fun z => h (sn_inj.mp z)
theorem lt_sn : pylt (sn 1 []) (sn 0 [0]) = false := by decide
theorem lt_sn2 : pylt (sn 1 []) (sn 0 [2]) = false := by decide
theorem giver_left : leftOut Wg Wg.lets [sn 1 []] = [[0], [], []] := by
  have e0 : sentAt Wg 0 0 = sn 0 [0] := rfl
  have e1 : sentAt Wg 0 1 = sn 1 [] := rfl
  simp [leftOut, Wg, leftRow]
  show (List.filter (fun d => !decide (sentAt Wg 0 d = sn 1 [])) [0, 1]) = [0]
  have n0 : ¬ (sn 0 [0] = sn 1 []) := sn_ne (by decide)
  simp [List.filter, e0, e1, n0]
theorem giver_said : ss (saidSet Wg [(1, 2), (0, 1)]) = [sn 0 [2], sn 1 []] := by
  have e : saidSet Wg [(1, 2), (0, 1)] = [sn 1 [], sn 0 [2]] := rfl
  have so : Sortable (saidSet Wg [(1, 2), (0, 1)]) := sort_sent fun x hx => by
    obtain ⟨z, _, rfl⟩ := List.mem_map.mp hx
    exact ⟨_, _, rfl⟩
  refine (ss_same so (l := [sn 1 [], sn 0 [2]]) ?_ fun x => by rw [e]).symm.trans (psort_lit (by rw [← e]; exact so) ?_ ?_ (fun x => ?_) ?_)
  · simp [sn_ne]
  · simp [sn_ne]
  · simp [sn_ne]
  · simp [or_comm]
  · simp [lt_sn2]
/-- ints, tuples of such: looked at -/
def itB : Nat → PV → Bool
  | 0, p => (match p with | .int _ => true | _ => false)
  | d + 1, p => (match p with | .int _ => true | .tup l => decide (l.length < LIM) && l.all (itB d) | _ => false)
theorem IT_of : ∀ {d : Nat} {p : PV}, itB d p = true → IT d p
  | 0, p, h => by
    unfold itB at h
    split at h
    · exact ⟨_, rfl⟩
    · cases h
  | d + 1, p, h => by
    unfold itB at h
    split at h
    · exact .inl ⟨_, rfl⟩
    · rename_i l
      simp only [Bool.and_eq_true, decide_eq_true_eq] at h
      exact .inr ⟨l, rfl, h.1, fun x hx => IT_of (List.all_eq_true.mp h.2 x hx)⟩
    · cases h
theorem IT_pn {d n : Nat} : IT d (pn n) := by
  cases d with
  | zero => exact ⟨_, rfl⟩
  | succ d => exact .inl ⟨_, rfl⟩
theorem IT_tup {d : Nat} {l : List PV} (hl : l.length < LIM) (h : ∀ x ∈ l, IT d x) : IT (d + 1) (.tup l) := .inr ⟨l, rfl, hl, h⟩
theorem IT_pl {d : Nat} {l : List Nat} (hl : l.length < LIM) : IT (d + 1) (pl l) := IT_tup (by simpa using hl) fun x hx => by
  obtain ⟨u, _, rfl⟩ := List.mem_map.mp hx
  exact IT_pn
theorem IT_pll {d : Nat} {l : List (List Nat)} (hl : l.length < LIM) (h : ∀ q ∈ l, q.length < LIM) : IT (d + 2) (pll l) := IT_tup (by simpa using hl) fun x hx => by
  obtain ⟨u, hu, rfl⟩ := List.mem_map.mp hx
  exact IT_pl (h u hu)
/-- a world told by three registers -/
structure SW (W : Wd) (n d : Nat) : Prop where
  wf : WF W n d 3
  n9 : n ≤ 9
  d2 : 2 ≤ d
  d5 : d ≤ 5
  hash : HashOk W n d
  lets : LetOk W.lets n d
  lne : LotNe W
theorem SW.of {W : Wd} {n d : Nat} {sees : List (List Nat)} (t : TW W n d) (hn : n ≤ 9) (hl : sees.length = W.sees.length) (hs : ∀ q ∈ sees, q ∈ SS) : SW { W with rows := sRows n, sees := sees } n d := by
  have w := t.wf
  have ss : ∀ q ∈ SS, q.length ≤ 100 ∧ ∀ x ∈ q, x < 3 := by decide
  have wf : WF { W with rows := sRows n, sees := sees } n d 3 := ⟨w.whose, fun h hh => by show h < sees.length; rw [hl]; exact w.helper h hh, w.moves, w.row, w.lot, w.lotl, w.lotnd, w.never, w.done, by simp [sRows], fun q hq => by
    obtain ⟨b, _, rfl⟩ := List.mem_map.mp hq
    rfl, fun q hq => ss q (hs q hq), w.n0, w.n1, w.d1⟩
  exact ⟨wf, hn, t.d2, t.d5, hash_signed wf (by omega) (by have := t.d5; omega) rfl hs, t.lets, t.lotne⟩
theorem IT_sent {W : Wd} {n d r b x k : Nat} (w : WF W n d r) : IT (k + 2) (sentAt W b x) := IT_tup (show 2 < LIM by decide) fun y hy => by
  simp at hy
  rcases hy with rfl | rfl
  · exact IT_pn
  · refine IT_pl ?_
    unfold signOf
    rw [List.length_map]
    cases q : W.sees[(W.whose[x]?).getD 0]? with
    | none => decide
    | some s =>
      have := (w.sees s (List.mem_of_getElem? q)).1
      show s.length < LIM
      unfold LIM; omega
/-- sentences alone -/
def SL (W : Wd) (l : List PV) : Prop := ∀ x ∈ l, ∃ b d, x = sentAt W b d
theorem SL.key {W : Wd} {l : List PV} (h : SL W l) : ∀ x ∈ l, x.key = true := fun x hx => by
  obtain ⟨b, d, rfl⟩ := h x hx
  exact sent_key
theorem SL.sort {W : Wd} {l : List PV} (h : SL W l) : Sortable l := sort_sent fun x hx => by
  obtain ⟨b, d, rfl⟩ := h x hx
  exact ⟨_, _, rfl⟩
theorem SL.it {W : Wd} {l : List PV} {n d r k : Nat} (h : SL W l) (w : WF W n d r) (hl : l.length < LIM) : IT (k + 3) (.tup l) := IT_tup hl fun x hx => by
  obtain ⟨b, d, rfl⟩ := h x hx
  exact IT_sent w
theorem SL.allT {W : Wd} {l : List PV} {v : PV → PV} (h : SL W l) : allT (l.map fun k => (k, v k)) = true := allT_of fun x hx => by
  obtain ⟨y, hy, rfl⟩ := List.mem_map.mp hx
  obtain ⟨b, d, e⟩ := h y hy
  exact ⟨W, b, d, e⟩
theorem SL.sub {W : Wd} {l m : List PV} (h : SL W l) (e : ∀ x ∈ m, x ∈ l) : SL W m := fun x hx => h x (e x hx)
/-- sorted(dict([(x, 1) ..])) -/
theorem sort_dict {W : Wd} {l : List PV} {M : MH} {c : Addr} {v : PV} {Q : WK} (h : SL W l) (hl : l.length ≤ 100000) (hc : M c = some (.lst (l.map fun k => PV.tup [k, v]))) (q : ∀ M' D, Ex M M' → M D = none → M' D = some (.lst (ss l)) → Q (.ref D) M') : bltW .dict [.ref c] M fun x M1 => bltW .sorted [x] M1 Q := by
  refine blt_dict (lstOf_lst hc) (pairs_of (f := fun k => k) (g := fun _ => v)) (by rw [h.allT]; simp) (by simp; unfold LIM; omega) fun D hD => ?_
  have kp : Keys (l.map fun k => (k, v)) := keys_map (v := fun _ => v) h.key
  have mem : ∀ x, x ∈ (kputs [] (l.map fun k => (k, v))).map (·.1) ↔ x ∈ l := fun x => by
    rw [kputs_mem keys_nil kp, List.map_map]
    simp
  have nd := kputs_nd keys_nil kp List.nodup_nil
  have len := kputs_len (l.map fun k => (k, v)) []
  simp at len
  have so : Sortable ((kputs [] (l.map fun k => (k, v))).map (·.1)) := (h.sub fun x hx => (mem x).mp hx).sort
  refine blt_sorted (items_dct (MH.upd_same ..)) (by simp; unfold LIM; omega) so fun E hE => ?_
  have nE : M E = none := by
    by_cases z : E = D
    · rw [z]; exact hD
    · rw [MH.upd_ne z] at hE; exact hE
  refine q _ E (Ex.trans (Ex.new hD) (Ex.new hE)) nE ?_
  rw [MH.upd_same, ss_same h.sort nd mem]
theorem ss_len {l : List PV} (h : ∀ x ∈ l, x.key = true) : (ss l).length ≤ l.length := by
  unfold ss
  rw [(psort_perm _).length_eq]
  unfold dd
  have := kputs_len (l.map fun k => (k, PV.non)) []
  simpa using this
theorem ss_mem {l : List PV} {x : PV} (h : ∀ x ∈ l, x.key = true) : x ∈ ss l ↔ x ∈ l := by
  unfold ss
  rw [(psort_perm _).mem_iff, dd_mem h]
theorem zl_idx (log : List (Nat × Nat)) : zl log = log.zipIdx.map fun z => (((0 :: log.map (·.2))[z.2]?).getD 0, z.1) := by
  apply List.ext_getElem?
  intro i
  unfold zl
  rw [List.getElem?_map, List.getElem?_zipIdx]
  by_cases h : i < log.length
  · have h2 : i < (0 :: log.map (·.2)).length := by simp; omega
    have e : ((0 :: log.map (·.2)).zip log)[i]? = some ((0 :: log.map (·.2))[i], log[i]) := by
      rw [List.getElem?_eq_getElem (by simp; omega), List.getElem_zip]
    rw [e, List.getElem?_eq_getElem h]
    simp only [Option.map_some, Nat.zero_add]
    rw [List.getElem?_eq_getElem h2]
    rfl
  · rw [List.getElem?_eq_none (by simp; omega), List.getElem?_eq_none (by omega)]
    rfl
structure Fn74 (Φ : Fns) : Prop where
  giver : Φ.fn "_law_giver" = some gGiver
  sentences : Φ.fn "sentences" = some gSentences
  sentence_at : Φ.fn "sentence_at" = some gSentAt
  left_out : Φ.fn "left_out" = some gLeftOut
  said_in : Φ.fn "said_in" = some gSaidIn
  same : Φ.fn "_law_same" = some (gSame 8)
  box : Φ.fn "_law_box" = some gBox
  signed : Φ.fn "_law_signed" = some gSigned
  turn_world : Φ.fn "_law_turn_world" = some gTurnWorld
  drawn_let : Φ.fn "_law_drawn_let" = some gDrawnLet
  all_said : Φ.fn "_law_all_said" = some gAllSaid
  said : Φ.fn "_law_said" = some gSentAt
  take : Φ.fn "_law_take" = some gTake
  lleft_out : Φ.fn "_law_left_out" = some gLeftOut
  log_drawn : Φ.fn "_law_log_drawn" = some gLogDrawn
  boards_along : Φ.fn "_law_boards_along" = some gLAlong
theorem b_law (Φ : Fns) (F : Fn74 Φ) (a : Addr) (ns : List Int) (hn : ns.length ≤ 63) : wpSs Φ m_law (EndsP fun v _ => v = .bl true) (startP N_law [.ref a]) (fun b => if b = a then some (.rol (ns.map PV.int)) else none) := by
  have ha : (fun b => if b = a then some (MO.rol (ns.map PV.int)) else none : MH) a = some (.rol (ns.map PV.int)) := by simp
  generalize (fun b => if b = a then some (MO.rol (ns.map PV.int)) else none : MH) = M at ha
  unfold m_law
  simp only [startP, List.replicate, EndsP]
  refine cut_seq (fun ρ' M' => ρ' = [some (.ref a), some Wg.pv, none, none, none, none, none, none, none, none, none, none, none, none, none, none, none, none, none] ∧ Ex M M') (fun k hk => ?_) ?_
  · simp [F.giver]
    exact ⟨rfl, hk _ _ ⟨rfl, Fr.refl _ _⟩⟩
  rintro _ M0 ⟨rfl, e0⟩
  refine cut_seq (fun ρ' M' => ∃ p, ρ' = [some (.ref a), some Wg.pv, some p, none, none, none, none, none, none, none, none, none, none, none, none, none, none, none, none] ∧ Ex M M' ∧ p = .tup [.tup [.tup [pn 0, pl [0]], .tup [pn 1, pl []]], .tup [pn 1, pl []], .tup [pn 0, pl [2]], pll [[0], [], []], .tup [.tup [pn 0, pl [2]], .tup [pn 1, pl []]], .tup []]) (fun k hk => ?_) ?_
  · simp [F.sentences, F.sentence_at, F.left_out, F.said_in]
    refine ⟨Wg, Wg.lets, 3, 2, 1, wf_giver, let_giver, hash_giver, rfl, fun M1 S e1 so nd hS => ?_⟩
    refine ⟨Wg, 3, 2, 1, 2, 1, wf_giver, by decide, by decide, rfl, fun M2 e2 => ?_⟩
    refine ⟨Wg, 3, 2, 1, 2, 0, wf_giver, by decide, by decide, rfl, fun M3 e3 => ?_⟩
    refine ⟨by decide, by decide, Wg, Wg.lets, 3, 2, 1, [sn 1 []], wf_giver, let_giver, fun x hx => ?_, rfl, fun M4 e4 => ?_⟩
    · rw [List.mem_singleton.mp hx]; decide
    refine ⟨by decide, Wg, [(1, 2), (0, 1)], 3, 2, 1, wf_giver, ⟨by decide, by decide⟩, rfl, fun M5 e5 => ⟨by decide, by decide, ?_⟩⟩
    refine ⟨Wg, [[], [0], []], 3, 2, 1, wf_giver, ⟨rfl, by decide⟩, hash_giver, rfl, fun M6 S2 e6 so2 nd2 hS2 => ⟨by decide, hk _ _ ⟨_, rfl, ?_, ?_⟩⟩⟩
    · exact e0.trans (e1.trans (e2.trans (e3.trans (e4.trans (e5.trans e6)))))
    · have p1 : psort S = [sn 0 [0], sn 1 []] := psort_lit so nd (by simp [sn_ne]) (fun x => (hS x).trans (giver_sent x)) (by simp [lt_sn])
      have p2 : S2 = [] := List.eq_nil_iff_forall_not_mem.mpr fun x hx => giver_sent2 x ((hS2 x).mp hx)
      rw [p1, p2, giver_left, giver_said]
      rfl
  rintro _ M1 ⟨p, rfl, e1, rfl⟩
  refine cut_seq (fun ρ' M' => ∃ p, ρ' = [some (.ref a), some Wg.pv, some p, none, none, none, none, none, none, none, none, none, none, none, none, none, none, none, none] ∧ Ex M M') (fun k hk => ?_) ?_
  · simp [F.same]
    repeat (refine ⟨by decide, ?_⟩)
    refine ⟨_, ?_, rfl, fun M2 e2 => ?_⟩
    · exact IT_of (by decide +kernel)
    · simp
      exact hk _ _ ⟨_, rfl, e1.trans e2⟩
  rintro _ M1 ⟨p, rfl, e1⟩
  refine cut_seq (fun ρ' M' => ∃ (x2 x3 x4 x5 x6 x7 x8 x9 x10 x11 x12 x13 x14 x15 x16 x17 x18 : Option PV), ρ' = [some (.ref a), some Wg.pv, x2, x3, x4, x5, x6, x7, x8, x9, x10, x11, x12, x13, x14, x15, x16, x17, x18]) (fun k hk => ?_) ?_
  · simp [len_rol (e1.at ha)]
    refine rngp (by unfold LIM; omega) ?_
    refine for_rng (fun i ρ' M' => ∃ (x2 x3 x4 x5 x6 x7 x8 x9 x10 x11 x12 x13 x14 x15 x16 x17 x18 : Option PV), ρ' = [some (.ref a), some Wg.pv, x2, x3, x4, x5, x6, x7, x8, x9, x10, x11, x12, x13, x14, x15, x16, x17, x18] ∧ Ex M M') ⟨_, _, _, _, _, _, _, _, _, _, _, _, _, _, _, _, _, rfl, e1⟩ ?_ ?_
    · rintro i _ M2 hi ⟨x2, x3, x4, x5, x6, x7, x8, x9, x10, x11, x12, x13, x14, x15, x16, x17, x18, rfl, e2⟩
      have i7 : i ≤ 100 := by omega
      refine cut_seq (fun ρ' M' => ∃ b, ρ' = [some (.ref a), some Wg.pv, x2, some (pn i), some (.ref b), x5, x6, x7, x8, x9, x10, x11, x12, x13, x14, x15, x16, x17, x18] ∧ Ex M M' ∧ M b = none ∧ Bx M' b) (fun k hk => ?_) ?_
      · simp [F.box]
        refine ⟨a, ns, i, rfl, e2.at ha, hn, i7, fun M3 b e3 nb bx => hk _ _ ⟨b, rfl, e2.trans e3, ?_, bx⟩⟩
        cases q : M b with
        | none => rfl
        | some mo => rw [e2.at q] at nb; cases nb
      rintro _ M3 ⟨b, rfl, e3, nb, bx3⟩
      have exd : ∀ {M4 M5}, Ex M M4 → Dr b M4 M5 → Ex M M5 := fun e d x mo h hx => d.fr x mo (by simp; exact fun z => by rw [z, nb] at hx; cases hx) (e.at hx)
      refine cut_seq (fun ρ' M' => ∃ W n d, ρ' = [some (.ref a), some Wg.pv, x2, some (pn i), some (.ref b), some W.pv, x6, x7, x8, x9, x10, x11, x12, x13, x14, x15, x16, x17, x18] ∧ Ex M M' ∧ Bx M' b ∧ SW W n d) (fun k hk => ?_) ?_
      · simp [F.turn_world, F.signed]
        refine ⟨b, 9, rfl, by decide, by decide, bx3, fun M4 W n d d4 t hn9 => ?_⟩
        refine ⟨b, W, n, d, 1, t.wf, by have := t.s3; omega, rfl, d4.bx, fun M5 sees d5 hl hs => hk _ _ ⟨_, n, d, rfl, exd e3 (d4.trans d5), d5.bx, SW.of t hn9 hl hs⟩⟩
      rintro _ M4 ⟨W, n, d, rfl, e4, bx4, sw⟩
      have w := sw.wf
      have n1 := w.n1
      have n0 := w.n0
      have n9 := sw.n9
      have d5 := sw.d5
      have d2 := sw.d2
      simp only [wp_scons, wp_snil, wp_fors, wp_irng, wp_cons, wp_nil, wp_c, int_lit]
      refine rngp (by decide) ?_
      refine for_rng (fun j ρ' M' => ∃ (x6 x7 x8 x9 x10 x11 x12 x13 x14 x15 x16 x17 x18 : Option PV), ρ' = [some (.ref a), some Wg.pv, x2, some (pn i), some (.ref b), some W.pv, x6, x7, x8, x9, x10, x11, x12, x13, x14, x15, x16, x17, x18] ∧ Ex M M' ∧ Bx M' b) ⟨_, _, _, _, _, _, _, _, _, _, _, _, _, rfl, e4, bx4⟩ ?_ ?_
      · clear e2 e3 bx3 e4 bx4
        rintro j _ M5 hj ⟨x6, x7, x8, x9, x10, x11, x12, x13, x14, x15, x16, x17, x18, rfl, e5, bx5⟩
        refine cut_seq (fun ρ' M' => ∃ lt, ρ' = [some (.ref a), some Wg.pv, x2, some (pn i), some (.ref b), some W.pv, some (pn j), some (pll lt), x8, x9, x10, x11, x12, x13, x14, x15, x16, x17, x18] ∧ Ex M M' ∧ Bx M' b ∧ LetOk lt n d) (fun k hk => ?_) ?_
        · simp [F.drawn_let]
          exact ⟨b, W, n, d, 3, w, sw.lets, by omega, rfl, bx5, fun M6 lt d6 hl => hk _ _ ⟨lt, rfl, exd e5 d6, d6.bx, hl⟩⟩
        clear e5 bx5 M5
        rintro _ M5 ⟨lt, rfl, e5, bx5, hl⟩
        refine cut_seq (fun ρ' M' => ∃ R S, ρ' = [some (.ref a), some Wg.pv, x2, some (pn i), some (.ref b), some W.pv, some (pn j), some (pll lt), some (.ref R), x9, x10, x11, x12, x13, x14, x15, x16, x17, x18] ∧ Ex M M' ∧ Bx M' b ∧ R ≠ b ∧ M' R = some (.lst (psort S)) ∧ Sortable S ∧ S.Nodup ∧ S.length ≤ 10000 ∧ ∀ x, x ∈ S ↔ IsSent W lt x) (fun k hk => ?_) ?_
        · simp [F.all_said]
          exact ⟨W, lt, n, d, 3, w, hl, rfl, fun M6 D S e6 nD hD so nd sl hS => hk _ _ ⟨D, S, rfl, e5.trans e6, bx5.ex e6, bx5.ne nD, hD, so, nd, sl, hS⟩⟩
        clear e5 bx5 M5
        rintro _ M5 ⟨R, S, rfl, e5, bx5, neR, hR, so, nd, sl, hS⟩
        have sS : SL W (psort S) := fun x hx => by
          obtain ⟨b', d', _, _, e⟩ := (hS x).mp ((psort_perm S).mem_iff.mp hx)
          exact ⟨b', d', e⟩
        have psl : (psort S).length ≤ 10000 := by rw [(psort_perm S).length_eq]; exact sl
        refine cut_seq (fun ρ' M' => ρ' = [some (.ref a), some Wg.pv, x2, some (pn i), some (.ref b), some W.pv, some (pn j), some (pll lt), some (.ref R), x9, x10, x11, x12, x13, x14, x15, x16, x17, x18] ∧ Ex M5 M') (fun k hk => ?_) ?_
        · simp [F.same, F.sentences]
          refine ⟨W, lt, n, d, 3, w, hl, sw.hash, rfl, fun M6 S2 e6 so2 nd2 hS2 => ?_⟩
          have es : psort S2 = psort S := psort_same so nd nd2 fun x => (hS2 x).trans (hS x).symm
          simp [lstOf_lst (e6.at hR), es]
          refine ⟨by unfold LIM; omega, _, sS.it (k := 5) w (by unfold LIM; omega), rfl, fun M7 e7 => ?_⟩
          simp
          exact hk _ _ ⟨rfl, e6.trans e7⟩
        rintro _ M6 ⟨rfl, e6⟩
        refine cut_seq (fun ρ' M' => ∃ x9 x10, ρ' = [some (.ref a), some Wg.pv, x2, some (pn i), some (.ref b), some W.pv, some (pn j), some (pll lt), some (.ref R), x9, x10, x11, x12, x13, x14, x15, x16, x17, x18] ∧ Ex M5 M') (fun k hk => ?_) ?_
        · simp [w.moves]
          refine rngp (by unfold LIM; omega) ?_
          refine for_rng (fun _ ρ' M' => ∃ x9 x10, ρ' = [some (.ref a), some Wg.pv, x2, some (pn i), some (.ref b), some W.pv, some (pn j), some (pll lt), some (.ref R), x9, x10, x11, x12, x13, x14, x15, x16, x17, x18] ∧ Ex M5 M') ⟨_, _, rfl, e6⟩ ?_ (fun ρ' M' hw => hk _ _ hw)
          rintro bd _ M7 hbd ⟨x9, x10, rfl, e7⟩
          simp [w.whose]
          refine rngp (by unfold LIM; omega) ?_
          refine for_rng (fun _ ρ' M' => ∃ x10, ρ' = [some (.ref a), some Wg.pv, x2, some (pn i), some (.ref b), some W.pv, some (pn j), some (pll lt), some (.ref R), some (pn bd), x10, x11, x12, x13, x14, x15, x16, x17, x18] ∧ Ex M5 M') ⟨_, rfl, e7⟩ ?_ ?_
          · rintro dd _ M8 hdd ⟨x10, rfl, e8⟩
            simp [F.same, F.sentence_at, F.said]
            refine ⟨W, n, d, 3, bd, dd, w, hbd, hdd, rfl, fun M9 e9 => ⟨W, n, d, 3, bd, dd, w, hbd, hdd, rfl, fun M10 e10 => ⟨_, IT_sent (k := 6) w, rfl, fun M11 e11 => ?_⟩⟩⟩
            simp
            exact e8.trans (e9.trans (e10.trans e11))
          · rintro _ M8 ⟨x10, rfl, e8⟩
            simp
            exact e8
        clear e6 M6
        rintro _ M6 ⟨x9, x10, rfl, e6⟩
        have b6 := bx5.ex e6
        refine cut_seq (fun ρ' M' => ∃ C sl, ρ' = [some (.ref a), some Wg.pv, x2, some (pn i), some (.ref b), some W.pv, some (pn j), some (pll lt), some (.ref R), x9, x10, some (.ref C), x12, x13, x14, x15, x16, x17, x18] ∧ Dr b M5 M' ∧ M' C = some (.lst sl) ∧ SL W sl ∧ sl.length ≤ 10001) (fun k hk => ?_) ?_
        · simp [F.take, F.said]
          refine exl (e6.at hR) ?_
          refine lc_dr (fun i acc => SL W acc) b6 (fun M' dd => dd.at neR (e6.at hR)) (by unfold LIM; omega) (fun x hx => by cases hx) (fun i x acc M7 hx hR' d7 KT KF kt kf => ?_) fun T M7 acc nT d7 eT al hR' => ?_
          · simp [F.take]
            refine take_ok d7.bx (by omega) (by omega) fun M8 u d8 hu => ?_
            simp
            split
            · refine kt _ _ d8 fun y hy => ?_
              rcases List.mem_append.mp hy with q | q
              · exact hR' y q
              · rw [List.mem_singleton.mp q]; exact sS x (List.mem_of_getElem? hx)
            · exact kf _ d8 hR'
          · simp [w.moves, w.whose]
            have neT := b6.ne nT
            refine take_ok d7.bx (by omega) (by omega) fun M8 u d8 hu => ?_
            refine take_ok d8.bx (by omega) (by omega) fun M9 v d9 hv => ?_
            refine ⟨W, n, d, 3, u, v, w, hu, hv, rfl, fun M10 e10 => ⟨by decide, fun N hN => ?_⟩⟩
            have d10 := ((d8.trans d9).exr e10)
            have eT2 : (M10.upd N (.lst [sentAt W u v])) T = some (.lst acc) := by rw [MH.upd_ne (ne_new (d10.at neT eT) hN)]; exact d10.at neT eT
            refine add_refs eT2 (MH.upd_same ..) (by simp; unfold LIM; omega) fun C hC => hk _ _ ⟨C, _, rfl, (Dr.ex bx5 e6).trans (d7.trans ((d10.new hN).new hC)), MH.upd_same .., fun y hy => ?_, by simp; omega⟩
            rcases List.mem_append.mp hy with q | q
            · exact hR' y q
            · exact ⟨u, v, List.mem_singleton.mp q⟩
        rintro _ M7 ⟨C, sl, rfl, d7, hC, ssl, scl⟩
        have e7 := exd e5 d7
        refine cut_seq (fun ρ' M' => ∃ lot, ρ' = [some (.ref a), some Wg.pv, x2, some (pn i), some (.ref b), some W.pv, some (pn j), some (pll lt), some (.ref R), x9, x10, some (.ref C), x12, some (.tup lot), x14, x15, x16, x17, x18] ∧ Ex M7 M' ∧ SL W lot) (fun k hk => ?_) ?_
        · simp
          refine exl hC ?_
          refine lc_fm (fun x => some (.tup [x, pn 1])) (fun M8 e8 => e8.at hC) (by unfold LIM; omega) (fun x M8 hx hM8 KT KF kt kf => ?_) fun L M8 nL e8 hL => ?_
          · simp
            exact ⟨by decide, kt _ _ (Fr.refl _ _) rfl⟩
          · rw [List.filterMap_eq_map'] at hL
            refine sort_dict ssl (by omega) hL fun M9 D e9 nD hD => ?_
            refine blt_tup (lstOf_lst hD) (by have := ss_len ssl.key; unfold LIM; omega) ?_
            exact hk _ _ ⟨_, rfl, e8.trans e9, ssl.sub fun x hx => (ss_mem ssl.key).mp hx⟩
        rintro _ M8 ⟨lot, rfl, e8, slot⟩
        have b8 := d7.bx.ex e8
        refine cut_seq (fun ρ' M' => ρ' = [some (.ref a), some Wg.pv, x2, some (pn i), some (.ref b), some W.pv, some (pn j), some (pll lt), some (.ref R), x9, x10, some (.ref C), x12, some (.tup lot), x14, x15, x16, x17, x18] ∧ Ex M8 M') (fun k hk => ?_) ?_
        · simp [F.same, F.left_out, F.lleft_out]
          refine ⟨W, lt, n, d, 3, lot, w, hl, slot.key, rfl, fun M9 e9 => ⟨W, lt, n, d, 3, lot, w, hl, slot.key, rfl, fun M10 e10 => ⟨_, IT_pll (d := 6) (by simp [leftOut, hl.len]; unfold LIM; omega) fun q hq => ?_, rfl, fun M11 e11 => ?_⟩⟩⟩
          · unfold leftOut at hq
            obtain ⟨z, hz, rfl⟩ := List.mem_map.mp hq
            have h1 := (hl.row z.1 (by
              have := List.mem_zipIdx hz
              rw [this.2.2]
              exact List.getElem_mem _)).1
            have h2 := List.length_filter_le (fun d => !decide (sentAt W z.2 d ∈ lot)) z.1
            unfold leftRow LIM
            omega
          · simp
            exact hk _ _ ⟨rfl, e9.trans (e10.trans e11)⟩
        rintro _ M9 ⟨rfl, e9⟩
        have b9 := b8.ex e9
        refine cut_seq (fun ρ' M' => ∃ log, ρ' = [some (.ref a), some Wg.pv, x2, some (pn i), some (.ref b), some W.pv, some (pn j), some (pll lt), some (.ref R), x9, x10, some (.ref C), x12, some (.tup lot), some (plog log), x15, x16, x17, x18] ∧ Dr b M9 M' ∧ LogOk log n d) (fun k hk => ?_) ?_
        · simp [F.take, F.log_drawn]
          refine take_ok b9 (by omega) (by omega) fun M10 u d10 hu => ?_
          simp
          exact ⟨b, W, n, d, 3, lt, 1 + u, w, hl, by omega, sw.lne, by omega, rfl, d10.bx, fun M11 log d11 lo _ => hk _ _ ⟨log, rfl, d10.trans d11, lo⟩⟩
        rintro _ M10 ⟨log, rfl, d10, lo⟩
        have lol := lo.len
        refine cut_seq (fun ρ' M' => ∃ B, ρ' = [some (.ref a), some Wg.pv, x2, some (pn i), some (.ref b), some W.pv, some (pn j), some (pll lt), some (.ref R), x9, x10, some (.ref C), x12, some (.tup lot), some (plog log), some (.ref B), x16, x17, x18] ∧ Ex M10 M' ∧ M' B = some (.lst ((0 :: log.map (·.2)).map pn))) (fun k hk => ?_) ?_
        · simp [F.boards_along]
          exact ⟨log, lol, rfl, fun M11 D e11 nD hD => hk _ _ ⟨D, rfl, e11, hD⟩⟩
        rintro _ M11 ⟨B, rfl, e11, hB⟩
        have sls : SL W (saidSet W log) := fun x hx => by
          obtain ⟨z, _, rfl⟩ := List.mem_map.mp hx
          exact ⟨_, _, rfl⟩
        have slen : (saidSet W log).length ≤ 100 := by simp [saidSet, zl]; omega
        refine cut_seq (fun ρ' M' => ∃ E, ρ' = [some (.ref a), some Wg.pv, x2, some (pn i), some (.ref b), some W.pv, some (pn j), some (pll lt), some (.ref R), x9, x10, some (.ref C), x12, some (.tup lot), some (plog log), some (.ref B), some (.ref E), x17, x18] ∧ Ex M11 M' ∧ M' E = some (.lst (ss (saidSet W log)))) (fun k hk => ?_) ?_
        · simp [F.said, plog, List.zipIdx_map, List.map_map]
          refine lc_map (fun z => some (.tup [sentAt W (((0 :: log.map (·.2))[z.2]?).getD 0) z.1.1, pn 1])) (fun _ _ => trivial) (by simp; unfold LIM; omega) (fun z M12 hz hM12 KT KF kt kf => ?_) fun L M12 nL e12 hL => ?_
          · have hz2 := List.mem_zipIdx hz
            have zi : z.2 < (0 :: log.map (·.2)).length := by simp; omega
            have zm : z.1 ∈ log := by rw [hz2.2.2]; exact List.getElem_mem _
            have zb : (0 :: log.map (·.2))[z.2] < n := by
              have hm := List.getElem_mem zi
              rcases List.mem_cons.mp hm with q | q
              · rw [q]; exact n0
              · obtain ⟨y, hy, e⟩ := List.mem_map.mp q
                rw [← e]; exact (lo.ok y hy).2
            have hx := (lo.ok z.1 zm).1
            simp [pp, F.said, ix_lstN (hM12.at hB)]
            have ep : (pn 0 :: List.map (pn ∘ fun x => x.2) log) = (0 :: log.map (·.2)).map pn := by simp
            rw [ep, List.getElem?_map, List.getElem?_eq_getElem zi]
            refine ⟨W, n, d, 3, _, z.1.1, w, zb, hx, rfl, fun M13 e13 => ⟨by decide, kt _ _ e13 ?_⟩⟩
            rw [List.getElem?_eq_getElem zi]
            rfl
          · have el : (log.zipIdx.filterMap fun z => some (PV.tup [sentAt W (((0 :: log.map (·.2))[z.2]?).getD 0) z.1.1, pn 1])) = (saidSet W log).map fun k => PV.tup [k, pn 1] := by
              unfold saidSet
              rw [List.filterMap_eq_map', zl_idx, List.map_map, List.map_map]
              rfl
            rw [el] at hL
            exact sort_dict sls (by omega) hL fun M13 D e13 nD hD => hk _ _ ⟨D, rfl, e12.trans e13, hD⟩
        rintro _ M12 ⟨E, rfl, e12, hE⟩
        simp [F.same, F.said_in]
        refine ⟨W, log, n, d, 3, w, lo, rfl, fun M13 e13 => ?_⟩
        have ssl2 : (ss (saidSet W log)).length < LIM := by have := ss_len sls.key; unfold LIM; omega
        simp [lstOf_lst (e13.at hE)]
        refine ⟨Nat.le_of_lt ssl2, _, (sls.sub fun x hx => (ss_mem sls.key).mp hx).it (k := 5) w ssl2, rfl, fun M14 e14 => ?_⟩
        simp
        have eb := e11.trans (e12.trans (e13.trans e14))
        exact ⟨exd (e7.trans (e8.trans e9)) (d10.exr eb), d10.bx.ex eb⟩
      · rintro _ M5 ⟨x6, x7, x8, x9, x10, x11, x12, x13, x14, x15, x16, x17, x18, rfl, e5, bx5⟩
        exact ⟨_, _, _, _, _, _, _, _, _, _, _, _, _, _, _, _, _, rfl, e5⟩
    · rintro _ M2 ⟨x2, x3, x4, x5, x6, x7, x8, x9, x10, x11, x12, x13, x14, x15, x16, x17, x18, rfl, e2⟩
      exact hk _ _ ⟨_, _, _, _, _, _, _, _, _, _, _, _, _, _, _, _, _, rfl⟩
  · rintro _ M2 ⟨x2, x3, x4, x5, x6, x7, x8, x9, x10, x11, x12, x13, x14, x15, x16, x17, x18, rfl⟩
    simp
end K74
/-! K79a: texts; the comparison of any plain values. -/
namespace K74
open PySem PL
/-- plain values, to a depth -/
def VT : Nat → PV → Prop
  | 0, p => p = .non ∨ (∃ b, p = .bl b) ∨ (∃ i, p = .int i) ∨ ∃ x, p = .str x ∧ PyData.strOk x = true
  | d + 1, p => (p = .non ∨ (∃ b, p = .bl b) ∨ (∃ i, p = .int i) ∨ ∃ x, p = .str x ∧ PyData.strOk x = true) ∨ ∃ l, p = .tup l ∧ l.length < LIM ∧ ∀ x ∈ l, VT d x
def gSameV (d : Nat) : FSp := fun vs M Q => ∃ p, VT d p ∧ vs = [p, p] ∧ ∀ M', Ex M M' → Q (.bl true) M'
theorem eq_str {x y : Str} {M : MH} {k : Bool → Prop} (h1 : PyData.strOk x = true) (h2 : PyData.strOk y = true) : cmpW .Eq (.str x) (.str y) M k = k (x == y) := by
  show ok (datOf M (.str x)) (fun d => ok (datOf M (.str y)) fun e => (datGood d && datGood e) = true ∧ k (datEq d e)) = _
  simp [datOf, datGood, datEq, PV.good, PV.goodN, pyEq, h1, h2]
theorem ne_str {x y : Str} {M : MH} {k : Bool → Prop} (h1 : PyData.strOk x = true) (h2 : PyData.strOk y = true) : cmpW .NotEq (.str x) (.str y) M k = k (!(x == y)) := by
  show ok (datOf M (.str x)) (fun d => ok (datOf M (.str y)) fun e => (datGood d && datGood e) = true ∧ k (!datEq d e)) = _
  simp [datOf, datGood, datEq, PV.good, PV.goodN, pyEq, h1, h2]
theorem eq_bl {x y : Bool} {M : MH} {k : Bool → Prop} : cmpW .Eq (.bl x) (.bl y) M k = k (x == y) := by
  show ok (datOf M (.bl x)) (fun d => ok (datOf M (.bl y)) fun e => (datGood d && datGood e) = true ∧ k (datEq d e)) = _
  simp [datOf, datGood, datEq, PV.good, PV.goodN, pyEq]
theorem zip_self : ∀ l : List PV, (l.zip l).map (fun z => PV.tup [z.1, z.2]) = l.map fun z => PV.tup [z, z]
  | [] => rfl
  | a :: l => by simp only [List.zip_cons_cons, List.map_cons, zip_self l]
theorem b_law_sameV (d : Nat) (Φ : Fns) (hΦ : ∀ d', d = d' + 1 → Φ.fn "_law_same" = some (gSameV d')) : ∀ vs M Q, gSameV d vs M Q → wpSs Φ m_law_same (EndsP Q) (startP N_law_same vs) M := by
  rintro _ M Q ⟨p, hp, rfl, h⟩
  have base : (p = .non ∨ (∃ b, p = .bl b) ∨ (∃ i, p = .int i) ∨ ∃ x, p = .str x ∧ PyData.strOk x = true) → wpSs Φ m_law_same (EndsP Q) (startP N_law_same [p, p]) M := by
    have hq := h M (Fr.refl _ _)
    rintro (rfl | ⟨b, rfl⟩ | ⟨i, rfl⟩ | ⟨x, rfl, hx⟩)
    · unfold m_law_same
      simp [startP, List.replicate, EndsP, isiOf, tyOf, isNone, eqBl]
      exact hq
    · unfold m_law_same
      cases b <;> simp [startP, List.replicate, EndsP, isiOf, tyOf, isNone, eqBl, eq_bl] <;> exact hq
    · unfold m_law_same
      simp [startP, List.replicate, EndsP, isiOf, tyOf, isNone, eqBl, eq_int]
      exact hq
    · unfold m_law_same
      simp [startP, List.replicate, EndsP, isiOf, tyOf, isNone, eqBl, eq_str hx hx]
      exact hq
  cases d with
  | zero => exact base hp
  | succ d =>
    rcases hp with e | ⟨l, rfl, hl, hx⟩
    · exact base e
    · have hc := hΦ d rfl
      unfold m_law_same
      simp [startP, List.replicate, EndsP, isiOf, tyOf]
      have e1 : (l.zip l).map (fun z => PV.tup [z.1, z.2]) = l.map fun z => PV.tup [z, z] := zip_self l
      rw [e1]
      refine for_map (fun i ρ' M' => ∃ x2 x3, ρ' = [some (.tup l), some (.tup l), x2, x3] ∧ Ex M M') ⟨none, none, rfl, Fr.refl _ _⟩ ?_ ?_
      · rintro i x ρ' M' hx2 ⟨x2, x3, rfl, e⟩
        refine ⟨trivial, ?_⟩
        simp [hc]
        refine ⟨x, hx _ (List.mem_of_getElem? hx2), rfl, fun M2 e2 => ?_⟩
        simp
        exact Ex.trans e e2
      · rintro ρ' M' ⟨x2, x3, rfl, e⟩
        refine ⟨trivial, ?_⟩
        simp
        exact h M' e
/-- looked at -/
def vtB : Nat → PV → Bool
  | 0, p => (match p with | .non => true | .bl _ => true | .int _ => true | .str x => PyData.strOk x | _ => false)
  | d + 1, p => (match p with | .non => true | .bl _ => true | .int _ => true | .str x => PyData.strOk x | .tup l => decide (l.length < LIM) && l.all (vtB d) | _ => false)
theorem VT_of : ∀ {d : Nat} {p : PV}, vtB d p = true → VT d p
  | 0, p, h => by
    unfold vtB at h
    unfold VT
    split at h <;> simp_all
  | d + 1, p, h => by
    unfold vtB at h
    unfold VT
    split at h
    · simp
    · simp
    · simp
    · simp [h]
    · rename_i l
      simp only [Bool.and_eq_true, decide_eq_true_eq] at h
      exact .inr ⟨l, rfl, h.1, fun x hx => VT_of (List.all_eq_true.mp h.2 x hx)⟩
    · cases h
theorem VT_base {d : Nat} {p : PV} (h : p = .non ∨ (∃ b, p = .bl b) ∨ (∃ i, p = .int i) ∨ ∃ x, p = .str x ∧ PyData.strOk x = true) : VT d p := by
  cases d with
  | zero => exact h
  | succ d => exact .inl h
theorem VT_pn {d n : Nat} : VT d (pn n) := VT_base (.inr (.inr (.inl ⟨_, rfl⟩)))
theorem VT_int {d : Nat} {i : Int} : VT d (.int i) := VT_base (.inr (.inr (.inl ⟨_, rfl⟩)))
theorem VT_non {d : Nat} : VT d .non := VT_base (.inl rfl)
theorem VT_bl {d : Nat} {b : Bool} : VT d (.bl b) := VT_base (.inr (.inl ⟨_, rfl⟩))
theorem VT_str {d : Nat} {x : Str} (h : PyData.strOk x = true) : VT d (.str x) := VT_base (.inr (.inr (.inr ⟨_, rfl, h⟩)))
theorem VT_tup {d : Nat} {l : List PV} (hl : l.length < LIM) (h : ∀ x ∈ l, VT d x) : VT (d + 1) (.tup l) := .inr ⟨l, rfl, hl, h⟩
theorem VT_nil {d : Nat} : ∀ x ∈ ([] : List PV), VT d x := fun _ h => nomatch h
theorem VT_cons {d : Nat} {p : PV} {l : List PV} (h : VT d p) (t : ∀ x ∈ l, VT d x) : ∀ x ∈ p :: l, VT d x := fun x hx => by
  rcases List.mem_cons.mp hx with e | e
  · rw [e]; exact h
  · exact t x e
theorem VT_pl {d : Nat} {l : List Nat} (hl : l.length < LIM) : VT (d + 1) (pl l) := VT_tup (by simpa using hl) fun x hx => by
  obtain ⟨u, _, rfl⟩ := List.mem_map.mp hx
  exact VT_pn
theorem VT_pll {d : Nat} {l : List (List Nat)} (hl : l.length < LIM) (h : ∀ q ∈ l, q.length < LIM) : VT (d + 2) (pll l) := VT_tup (by simpa using hl) fun x hx => by
  obtain ⟨u, hu, rfl⟩ := List.mem_map.mp hx
  exact VT_pl (h u hu)
end K74
/-! K79b: entries; what is let behind them. -/
namespace K74
open PySem PL
inductive Wrd where
  | lt | bar | ask
  deriving DecidableEq
def Wrd.s : Wrd → Str
  | .lt => "let"
  | .bar => "barred"
  | .ask => "asked"
inductive En where
  | did (d t : Nat)
  | say (w : Wrd) (d : Nat) (s : List Nat)
def En.pv : En → PV
  | .did d t => .tup [.str "did", pn d, pn t]
  | .say w d s => .tup [.str w.s, pn d, pl s]
def pes (es : List En) : PV := .tup (es.map En.pv)
def EnOk (n d : Nat) : En → Prop
  | .did x t => x < d ∧ t < n
  | .say _ x s => x < d ∧ s.length ≤ 100
def sgAt (W : Wd) (b x : Nat) : List Nat := signOf W ((W.whose[x]?).getD 0) b
theorem sentAt_sn {W : Wd} {b x : Nat} : sentAt W b x = sn x (sgAt W b x) := rfl
/-- the word that an entry tells of a deed at a board -/
def oneW (W : Wd) (b x : Nat) : En → Option Wrd
  | .say .lt d s => if d = x ∧ s = sgAt W b x then some .lt else none
  | .say .bar d s => if d = x ∧ s = sgAt W b x then some .bar else none
  | _ => none
def wordsOf (W : Wd) (b x : Nat) (es : List En) : List Wrd := es.filterMap (oneW W b x)
def isLet (W : Wd) (es : List En) (b x : Nat) : Bool := match (wordsOf W b x es).getLast? with
  | none => (lrow W.lets b).contains x
  | some .lt => (mv W b x).isSome
  | some _ => false
def letRow (W : Wd) (d : Nat) (es : List En) (b : Nat) : List Nat := (List.range d).filter (isLet W es b)
def letBehind (W : Wd) (n d : Nat) (es : List En) : List (List Nat) := (List.range n).map (letRow W d es)
theorem letRow_asc {W : Wd} {d b : Nat} {es : List En} : Asc d (letRow W d es b) := ⟨List.pairwise_lt_range.filter _, fun x hx => by simpa using (List.mem_filter.mp hx).1⟩
theorem letRow_mem {W : Wd} {d b x : Nat} {es : List En} : x ∈ letRow W d es b ↔ x < d ∧ isLet W es b x = true := by
  unfold letRow
  rw [List.mem_filter, List.mem_range]
theorem letBehind_ok {W : Wd} {n d : Nat} {es : List En} (hd : d ≤ 100) : LetOk (letBehind W n d es) n d := ⟨by simp [letBehind], fun q hq => by
  obtain ⟨b, _, rfl⟩ := List.mem_map.mp hq
  have := (letRow_asc (W := W) (d := d) (b := b) (es := es)).len
  exact ⟨by omega, letRow_asc.2⟩⟩
theorem letBehind_at {W : Wd} {n d b : Nat} {es : List En} (hb : b < n) : lrow (letBehind W n d es) b = letRow W d es b := by
  simp [lrow, letBehind, hb]
theorem asc_ext : ∀ {l m : List Nat}, l.Pairwise (· < ·) → m.Pairwise (· < ·) → (∀ x, x ∈ l ↔ x ∈ m) → l = m
  | [], [], _, _, _ => rfl
  | [], b :: m, _, _, h => absurd ((h b).mpr List.mem_cons_self) (by simp)
  | a :: l, [], _, _, h => absurd ((h a).mp List.mem_cons_self) (by simp)
  | a :: l, b :: m, h1, h2, h => by
    obtain ⟨a1, l1⟩ := List.pairwise_cons.mp h1
    obtain ⟨b1, m1⟩ := List.pairwise_cons.mp h2
    have e : a = b := by
      have p := (h a).mp List.mem_cons_self
      have q := (h b).mpr List.mem_cons_self
      rcases List.mem_cons.mp p with p | p
      · exact p
      · rcases List.mem_cons.mp q with q | q
        · exact q.symm
        · have := a1 b q
          have := b1 a p
          omega
    subst e
    congr 1
    refine asc_ext l1 m1 fun x => ⟨fun hx => ?_, fun hx => ?_⟩
    · rcases List.mem_cons.mp ((h x).mp (List.mem_cons_of_mem _ hx)) with z | z
      · have := a1 x hx; omega
      · exact z
    · rcases List.mem_cons.mp ((h x).mpr (List.mem_cons_of_mem _ hx)) with z | z
      · have := b1 x hx; omega
      · exact z
theorem psort_to {l m : List Nat} (nd : l.Nodup) (asc : m.Pairwise (· < ·)) (e : ∀ x, x ∈ l ↔ x ∈ m) : psort (l.map pn) = m.map pn := by
  have so : Sortable (l.map pn) := sort_nat fun x hx => by
    obtain ⟨y, _, rfl⟩ := List.mem_map.mp hx
    exact ⟨y, rfl⟩
  have p : m.Perm l := (List.perm_ext_iff_of_nodup (asc.imp fun h => Nat.ne_of_lt h) nd).mpr fun x => (e x).symm
  refine (psort_uniq so (p.map pn) ?_).symm
  rw [List.pairwise_map]
  exact asc.imp fun {a b} h => by
    show (pyLt (PV.int (b : Int)) (PV.int (a : Int))).getD false = false
    simp [pyLt]
    omega
theorem letBehind_nil {W : Wd} {n d : Nat} (hl : LetOk W.lets n d) (asc : ∀ q ∈ W.lets, q.Pairwise (· < ·)) : letBehind W n d [] = W.lets := by
  apply List.ext_getElem?
  intro i
  by_cases h : i < n
  · have h2 : i < W.lets.length := by rw [hl.len]; exact h
    rw [List.getElem?_eq_getElem (by simp [letBehind, h]), List.getElem?_eq_getElem h2]
    congr 1
    simp [letBehind]
    refine asc_ext letRow_asc.1 (asc _ (List.getElem_mem h2)) fun x => ?_
    rw [letRow_mem]
    have : isLet W [] i x = (lrow W.lets i).contains x := rfl
    rw [this]
    simp [lrow, h2]
    exact fun hx => (hl.row _ (List.getElem_mem h2)).2 x hx
  · rw [List.getElem?_eq_none (by simp [letBehind]; omega), List.getElem?_eq_none (by rw [hl.len]; omega)]
theorem words_snoc {W : Wd} {b x : Nat} {es : List En} {e : En} : wordsOf W b x (es ++ [e]) = wordsOf W b x es ++ (oneW W b x e).toList := by
  unfold wordsOf
  rw [List.filterMap_append]
  cases q : oneW W b x e <;> simp [q]
theorem isLet_snoc {W : Wd} {b x : Nat} {es : List En} {e : En} : isLet W (es ++ [e]) b x = match oneW W b x e with | none => isLet W es b x | some .lt => (mv W b x).isSome | some _ => false := by
  unfold isLet
  rw [words_snoc]
  cases q : oneW W b x e with
  | none => simp
  | some w => cases w <;> simp
theorem letRow_same {W : Wd} {d b : Nat} {es : List En} {e : En} (h : ∀ x, oneW W b x e = none) : letRow W d (es ++ [e]) b = letRow W d es b := by
  unfold letRow
  congr 1
  funext x
  rw [isLet_snoc, h]
theorem eq_sn {a b : Nat} {s t : List Nat} {M : MH} {k : Bool → Prop} : cmpW .Eq (sn a s) (sn b t) M k = k (decide (a = b ∧ s = t)) := by
  have kk : ∀ a s, (sn a s).key = true := fun a s => by
    show (PV.tup [pn a, pl s]).keyN 7 = true
    simp only [PV.keyN, PV.keysN, pl, ints_key, Bool.and_true]
    rfl
  have g := fun a s => key_good (sn a s) 7 (kk a s)
  have e := key_eq (sn a s) (sn b t) 7 7 (kk a s) (kk b t)
  have : pyEq (sn a s) (sn b t) = decide (a = b ∧ s = t) := by
    rw [sn_inj] at e
    by_cases c : a = b ∧ s = t
    · rw [e.mpr c]; simp [c]
    · cases q : pyEq (sn a s) (sn b t) with
      | false => simp [c]
      | true => exact absurd (e.mp q) c
  rw [← this]
  show ok (datOf M (sn a s)) (fun d => ok (datOf M (sn b t)) fun e => (datGood d && datGood e) = true ∧ k (datEq d e)) = _
  have ga : datGood (.pv (sn a s)) = true := g a s
  have gb : datGood (.pv (sn b t)) = true := g b t
  show ((datGood (.pv (sn a s)) && datGood (.pv (sn b t))) = true ∧ k (pyEq (sn a s) (sn b t))) = _
  rw [ga, gb]
  simp
theorem in_strs {x : Str} {l : List Str} {M : MH} {k : Bool → Prop} (h : PyData.strOk x = true) (hl : ∀ y ∈ l, PyData.strOk y = true) : cmpW .In (.str x) (.tup (l.map PV.str)) M k = k (decide (x ∈ l)) := by
  have ks : ∀ y ∈ l.map PV.str, y.key = true := fun y hy => by
    obtain ⟨z, hz, rfl⟩ := List.mem_map.mp hy
    exact hl z hz
  rw [in_tupB (by show PyData.strOk x = true; exact h) (keys_good ks)]
  have hx : (PV.str x).key = true := h
  have am := any_mem (x := .str x) ks hx
  congr 1
  by_cases c : x ∈ l
  · rw [am.mpr (List.mem_map.mpr ⟨x, c, rfl⟩)]; simp [c]
  · cases q : ((l.map PV.str).any fun y => pyEq y (.str x)) with
    | false => simp [c]
    | true =>
      obtain ⟨z, hz, e⟩ := List.mem_map.mp (am.mp q)
      cases e
      exact absurd hz c
theorem notIn_strs {x : Str} {l : List Str} {M : MH} {k : Bool → Prop} (h : PyData.strOk x = true) (hl : ∀ y ∈ l, PyData.strOk y = true) : cmpW .NotIn (.str x) (.tup (l.map PV.str)) M k = k (!decide (x ∈ l)) := in_strs (k := fun c => k (!c)) h hl
theorem wrd_ok (w : Wrd) : PyData.strOk w.s = true := by cases w <;> decide +kernel
end K74
/-! K79c: what is let behind entries, as the program tells it. -/
namespace K74
open PySem PL
def gLetWith : FSp := fun vs M Q => ∃ W n d r es e, WF W n d r ∧ EnOk n d e ∧ vs = [W.pv, pll (letBehind W n d es), e.pv] ∧ ∀ M', Ex M M' → Q (pll (letBehind W n d (es ++ [e]))) M'
theorem letBehind_same {W : Wd} {n d : Nat} {es : List En} {e : En} (h : ∀ b x, oneW W b x e = none) : letBehind W n d (es ++ [e]) = letBehind W n d es := by
  unfold letBehind
  congr 1
  funext b
  exact letRow_same (h b)
theorem letBehind_pv {W : Wd} {n d : Nat} {es : List En} : pll (letBehind W n d es) = .tup ((List.range n).map fun b => pl (letRow W d es b)) := by
  simp [pll, letBehind, Function.comp_def]
theorem pn_pl_sn {x : Nat} {s : List Nat} : PV.tup [pn x, pl s] = sn x s := rfl
theorem keep {M : MH} {a c : Addr} {o u : MO} (h : M a = some o) (n : M c = none) : (M.upd c u) a = some o := by rw [MH.upd_ne (ne_new h n)]; exact h
theorem filt_true {l : List Nat} : l.filter (fun _ => true) = l := List.filter_eq_self.mpr (by simp)
theorem expl {M : MH} {l : List Nat} {k : WI} (q : k (l.map pn) (fun _ => True) M) : exW (pl l) M k := q
theorem oneW_other {W : Wd} {b x y : Nat} {wd : Wrd} {s : List Nat} (h : ¬ (x = y ∧ s = sgAt W b y)) : oneW W b y (.say wd x s) = none := by
  cases wd <;> simp [oneW, h]
theorem row_can {W : Wd} {d b x : Nat} {es : List En} {wd : Wrd} {s : List Nat} (h1 : wd = .lt) (h2 : s = sgAt W b x) (h3 : (mv W b x).isSome = true) (hx : x < d) :
    psort ((((letRow W d es b).filter fun y => !(decide (s = sgAt W b x) && decide (y = x))) ++ [x]).map pn) = (letRow W d (es ++ [.say wd x s]) b).map pn := by
  subst h1
  refine psort_to ?_ letRow_asc.1 fun y => ?_
  · rw [List.nodup_append]
    refine ⟨(letRow_asc.1.imp fun h => Nat.ne_of_lt h).filter _, by simp, fun y hy z hz e => ?_⟩
    have := (List.mem_filter.mp hy).2
    rw [e, List.mem_singleton.mp hz] at this
    simp [← h2] at this
  · rw [List.mem_append, List.mem_filter, List.mem_singleton, letRow_mem, letRow_mem, isLet_snoc]
    by_cases c : y = x
    · subst c
      simp [oneW, ← h2, h3, hx]
    · have := oneW_other (W := W) (b := b) (y := y) (x := x) (wd := .lt) (s := s) fun z => c z.1.symm
      rw [this]
      simp [c]
theorem row_not {W : Wd} {d b x : Nat} {es : List En} {wd : Wrd} {s : List Nat} (hw : wd ≠ .ask) (h : ¬ (wd = .lt ∧ s = sgAt W b x ∧ (mv W b x).isSome = true)) :
    ((letRow W d es b).filter fun y => !(decide (s = sgAt W b x) && decide (y = x))) = letRow W d (es ++ [.say wd x s]) b := by
  refine asc_ext (letRow_asc.1.filter _) letRow_asc.1 fun y => ?_
  rw [List.mem_filter, letRow_mem, letRow_mem, isLet_snoc]
  by_cases c : x = y ∧ s = sgAt W b y
  · obtain ⟨rfl, c2⟩ := c
    have : oneW W b x (.say wd x s) = some wd := by
      cases wd with
      | ask => exact absurd rfl hw
      | lt => simp [oneW, ← c2]
      | bar => simp [oneW, ← c2]
    rw [this]
    cases wd with
    | ask => exact absurd rfl hw
    | lt =>
      have : (mv W b x).isSome = false := by
        cases q : (mv W b x).isSome with
        | false => rfl
        | true => exact absurd ⟨rfl, c2, q⟩ h
      simp [← c2, this]
    | bar => simp [← c2]
  · rw [oneW_other c]
    by_cases c3 : s = sgAt W b x
    · have : y ≠ x := fun z => c ⟨z.symm, by rw [z]; exact c3⟩
      simp [this]
    · simp [c3]
theorem b_let_with (Φ : Fns) (h1 : Φ.fn "sentence_at" = some gSentAt) : ∀ vs M Q, gLetWith vs M Q → wpSs Φ m_let_with (EndsP Q) (startP N_let_with vs) M := by
  rintro _ M Q ⟨W, n, d, r, es, e, w, he, rfl, h⟩
  have n1 := w.n1
  have d1 := w.d1
  unfold m_let_with
  have skip : (∀ b x, oneW W b x e = none) → Q (pll (letBehind W n d es)) M := fun hs => by
    have := h M (Fr.refl _ _)
    rw [letBehind_same hs] at this
    exact this
  have ni : ∀ {x : Str} {k : Bool → Prop}, PyData.strOk x = true → cmpW .NotIn (.str x) (.tup [.str "let", .str "barred"]) M k = k (!decide (x ∈ (["let", "barred"] : List Str))) := fun {x k} hx =>
    notIn_strs (l := ["let", "barred"]) hx (by decide +kernel)
  cases e with
  | did x t =>
    simp [startP, List.replicate, EndsP, En.pv]
    rw [ni (by decide +kernel)]
    have : decide (("did" : Str) ∈ (["let", "barred"] : List Str)) = false := by decide +kernel
    rw [this]
    exact ⟨by decide, skip fun b x => rfl⟩
  | say wd x s =>
    obtain ⟨hx, hs⟩ := he
    simp only [startP, List.replicate, EndsP, En.pv]
    refine cut_seq (fun ρ' M' => ρ' = [some W.pv, some (pll (letBehind W n d es)), some (.tup [.str wd.s, pn x, pl s]), none, none, none, none, none, none, none, none, none, none] ∧ M = M' ∧ wd ≠ .ask) (fun k hk => ?_) ?_
    · simp
      rw [ni (wrd_ok wd)]
      cases wd with
      | ask =>
        have : decide (Wrd.ask.s ∈ (["let", "barred"] : List Str)) = false := by decide +kernel
        rw [this]
        exact ⟨by decide, skip fun b x => rfl⟩
      | lt =>
        have : decide (Wrd.lt.s ∈ (["let", "barred"] : List Str)) = true := by decide +kernel
        rw [this]
        exact ⟨by decide, hk _ _ ⟨rfl, rfl, by decide⟩⟩
      | bar =>
        have : decide (Wrd.bar.s ∈ (["let", "barred"] : List Str)) = true := by decide +kernel
        rw [this]
        exact ⟨by decide, hk _ _ ⟨rfl, rfl, by decide⟩⟩
    rintro _ _ ⟨rfl, rfl, hw⟩
    simp
    intro A hA
    rw [letBehind_pv, enum_tup, List.zipIdx_map, List.map_map]
    refine for_map (l := (List.range n).zipIdx) (fun i ρ' M' => ∃ x7 x8 x9 x10 x12, ρ' = [some W.pv, some (.tup ((List.range n).map fun b => pl (letRow W d es b))), some (.tup [.str wd.s, pn x, pl s]), some (.str wd.s), some (pn x), some (pl s), some (.ref A), x7, x8, x9, x10, none, x12] ∧ Ex M M' ∧ M' A = some (.lst (((List.range n).take i).map fun b => pl (letRow W d (es ++ [.say wd x s]) b)))) ⟨none, none, none, none, none, rfl, Ex.new hA, by rw [MH.upd_same]; rfl⟩ ?_ ?_
    · rintro i z ρ' M1 hz ⟨x7, x8, x9, x10, x12, rfl, e1, f1⟩
      refine ⟨trivial, ?_⟩
      obtain ⟨hi, z2, z1⟩ := zidx_get hz
      simp at hi
      obtain ⟨c0, b⟩ := z
      rw [List.getElem?_range hi] at z1
      simp at z1 z2
      subst z1; subst z2
      have ra := letRow_asc (W := W) (d := d) (b := b) (es := es)
      have rl := ra.len
      refine cut_seq (fun ρ' M' => ρ' = [some W.pv, some (.tup ((List.range n).map fun b => pl (letRow W d es b))), some (.tup [.str wd.s, pn x, pl s]), some (.str wd.s), some (pn x), some (pl s), some (.ref A), some (pn b), some (pl (letRow W d es b)), some (.bl (decide (s = sgAt W b x))), x10, none, x12] ∧ Ex M1 M') (fun k hk => ?_) ?_
      · simp [h1]
        refine ⟨W, n, d, r, b, x, w, hi, hx, rfl, fun M2 e2 => ⟨by decide, ?_⟩⟩
        rw [sentAt_sn, pn_pl_sn, eq_sn]
        refine hk _ _ ⟨?_, e2⟩
        simp [eq_comm]
      rintro _ M2 ⟨rfl, e2⟩
      refine cut_seq (fun ρ' M' => ∃ L, ρ' = [some W.pv, some (.tup ((List.range n).map fun b => pl (letRow W d es b))), some (.tup [.str wd.s, pn x, pl s]), some (.str wd.s), some (pn x), some (pl s), some (.ref A), some (pn b), some (pl (letRow W d es b)), some (.bl (decide (s = sgAt W b x))), some (.ref L), none, x12] ∧ Ex M2 M' ∧ M2 L = none ∧ M' L = some (.lst (((letRow W d es b).filter fun y => !(decide (s = sgAt W b x) && decide (y = x))).map pn))) (fun k hk => ?_) ?_
      · simp
        by_cases c : s = sgAt W b x
        · simp only [c, decide_true, if_true]
          refine expl ?_
          refine lc_map (fun y => if !decide (y = x) then some (pn y) else none) (fun _ _ => trivial) (by unfold LIM; omega) (fun y M3 hy hM3 KT KF kt kf => ?_) fun L M3 nL e3 hL => ?_
          · simp
            by_cases c2 : y = x
            · simp [c2]
              exact kf _ (Fr.refl _ _) (by simp [c2])
            · simp [c2]
              exact kt _ _ (Fr.refl _ _) (by simp [c2])
          · rw [fmp] at hL
            refine hk _ _ ⟨L, by simp [c], e3, nL, ?_⟩
            rw [hL]
            simp [c]
        · have c' := c
          simp only [c, decide_false, Bool.false_eq_true, if_false]
          refine blt_list rfl (by simp; unfold LIM; omega) fun L hL => hk _ _ ⟨L, by simp [c'], Ex.new hL, hL, ?_⟩
          rw [MH.upd_same]
          simp [c', filt_true]
      rintro _ M3 ⟨L, rfl, e3, nL, hL⟩
      refine cut_seq (fun ρ' M' => ρ' = [some W.pv, some (.tup ((List.range n).map fun b => pl (letRow W d es b))), some (.tup [.str wd.s, pn x, pl s]), some (.str wd.s), some (pn x), some (pl s), some (.ref A), some (pn b), some (pl (letRow W d es b)), some (.bl (decide (s = sgAt W b x))), some (.ref L), none, some (.bl (decide (wd = .lt ∧ s = sgAt W b x ∧ (mv W b x).isSome = true)))] ∧ Ex M3 M') (fun k hk => ?_) ?_
      · have hq : ∀ c, c = decide (wd = .lt ∧ s = sgAt W b x ∧ (mv W b x).isSome = true) → k [some W.pv, some (.tup ((List.range n).map fun b => pl (letRow W d es b))), some (.tup [.str wd.s, pn x, pl s]), some (.str wd.s), some (pn x), some (pl s), some (.ref A), some (pn b), some (pl (letRow W d es b)), some (.bl (decide (s = sgAt W b x))), some (.ref L), none, some (.bl c)] M3 := fun c hc => hk _ _ ⟨by rw [hc], Fr.refl _ _⟩
        simp
        rw [eq_str (wrd_ok wd) (by decide +kernel)]
        cases wd with
        | ask => exact absurd rfl hw
        | bar =>
          have : (Wrd.bar.s == ("let" : Str)) = false := by decide +kernel
          rw [this]
          exact hq _ (by simp)
        | lt =>
          have : (Wrd.lt.s == ("let" : Str)) = true := by decide +kernel
          rw [this]
          simp only [if_true]
          by_cases c : s = sgAt W b x
          · simp only [c, decide_true, if_true]
            rw [ix_mv w hi hx]
            simp only [isNone_po]
            have := hq (mv W b x).isSome (by cases mv W b x <;> simp [c])
            simpa [c] using this
          · have := hq false (by simp [c])
            simpa [c] using this
      rintro _ M4 ⟨rfl, e4⟩
      have f4 := e4.at (e3.at (e2.at f1))
      have hL4 := e4.at hL
      have neLA : A ≠ L := ne_new (e2.at f1) nL
      have ex14 := Ex.trans e1 (Ex.trans e2 (Ex.trans e3 e4))
      have fin : ∀ M5, Ex M M5 → M5 A = some (.lst (((List.range n).take b).map fun b => pl (letRow W d (es ++ [.say wd x s]) b))) → mthW .append (.ref A) [pl (letRow W d (es ++ [.say wd x s]) b)] M5 fun _ M6 => Ex M M6 ∧ M6 A = some (.lst ((List.range (min (b + 1) n)).map fun b => pl (letRow W d (es ++ [.say wd x s]) b))) := fun M5 e5 f5 => by
        refine mt_app f5 (by simp; unfold LIM; omega) ⟨e5.over hA, ?_⟩
        rw [MH.upd_same, show min (b + 1) n = b + 1 by omega, List.range_succ, List.take_range, show min b n = b by omega]
        simp
      simp [ty_app f4]
      split
      · rename_i c
        refine ⟨by decide, fun N hN => ?_⟩
        have hL5 := keep (u := .lst [pn x]) hL4 hN
        have e5 := ex14.trans (Ex.new (mo := .lst [pn x]) hN)
        have f5 := keep (u := .lst [pn x]) f4 hN
        have rc := row_can (d := d) (es := es) c.1 c.2.1 c.2.2 hx
        have fl := List.length_filter_le (fun y => !(decide (s = sgAt W b x) && decide (y = x))) (letRow W d es b)
        refine add_refs hL5 (MH.upd_same ..) (by simp; unfold LIM; simp at fl; omega) fun C hC => ?_
        refine blt_sorted (items_lst (MH.upd_same ..)) (by simp; unfold LIM; simp at fl; omega) (sort_nat fun y hy => ?_) fun E hE => ?_
        · rcases List.mem_append.mp hy with q | q
          · obtain ⟨u, _, rfl⟩ := List.mem_map.mp q
            exact ⟨u, rfl⟩
          · exact ⟨x, List.mem_singleton.mp q⟩
        · have hps : psort (((letRow W d es b).filter fun y => !(decide (s = sgAt W b x) && decide (y = x))).map pn ++ [pn x]) = (letRow W d (es ++ [.say wd x s]) b).map pn := by
            rw [← rc]
            simp
          rw [hps]
          have rl2 := (letRow_asc (W := W) (d := d) (b := b) (es := es ++ [.say wd x s])).len
          refine blt_tup (lstOf_lst (MH.upd_same ..)) (by simp; unfold LIM; omega) ?_
          refine fin _ (e5.trans ((Ex.new hC).trans (Ex.new hE))) ?_
          exact keep (keep f5 hC) hE
      · rename_i c
        rw [lstOf_lst hL4]
        have rn := row_not (W := W) (d := d) (b := b) (es := es) hw c
        rw [rn]
        have rl2 := (letRow_asc (W := W) (d := d) (b := b) (es := es ++ [.say wd x s])).len
        exact ⟨by simp; unfold LIM; omega, fin _ ex14 f4⟩
    · rintro ρ' M1 ⟨x7, x8, x9, x10, x12, rfl, e1, f1⟩
      refine ⟨trivial, ?_⟩
      have : (List.range n).take (List.range n).zipIdx.length = List.range n := by simp
      rw [this] at f1
      simp [lstOf_lst f1]
      refine ⟨by unfold LIM; omega, ?_⟩
      have := h M1 e1
      rw [letBehind_pv] at this
      exact this
end K74
/-! K79d: lets along entries, deeds, boards. -/
namespace K74
open PySem PL
theorem getI_last {l : List PV} {x : PV} : getI (l ++ [x]) (-1) = some x := L2.atI_last l x
@[simp] theorem negp {n : Nat} {M : MH} {Q : WK} : negW (pn n) M Q = Q (.int (-(n : Int))) M := rfl
@[simp] theorem cut1 {l : List PV} : cutL l (some 1) none = l.drop 1 := cut_from (i := 1)
structure EsOk (n d : Nat) (es : List En) : Prop where
  len : es.length ≤ 60
  ok : ∀ e ∈ es, EnOk n d e
/-- a world's lets are as they must be -/
structure LW (W : Wd) (n d r : Nat) : Prop where
  wf : WF W n d r
  lets : LetOk W.lets n d
  asc : ∀ q ∈ W.lets, q.Pairwise (· < ·)
def deedsOf (es : List En) : List (Nat × Nat) := es.filterMap fun e => match e with | .did d t => some (d, t) | _ => none
def boardNow (es : List En) : Nat := ((0 :: (deedsOf es).map (·.2)).getLast?).getD 0
theorem deeds_snoc {es : List En} {e : En} : deedsOf (es ++ [e]) = deedsOf es ++ (match e with | .did d t => [(d, t)] | _ => []) := by
  unfold deedsOf
  rw [List.filterMap_append]
  cases e <;> simp
theorem board_did {es : List En} {d t : Nat} : boardNow (es ++ [.did d t]) = t := by
  unfold boardNow
  rw [deeds_snoc]
  show ((0 :: (deedsOf es ++ [(d, t)]).map (·.2)).getLast?).getD 0 = t
  rw [List.map_append, ← List.cons_append, List.map_singleton, List.getLast?_concat]
  rfl
theorem board_say {es : List En} {w : Wrd} {d : Nat} {s : List Nat} : boardNow (es ++ [.say w d s]) = boardNow es := by
  unfold boardNow
  rw [deeds_snoc]
  simp
theorem board_lt {n d : Nat} (n0 : 0 < n) {es : List En} (h : ∀ e ∈ es, EnOk n d e) : boardNow es < n := by
  unfold boardNow
  have : ∀ x ∈ (0 :: (deedsOf es).map (·.2)), x < n := fun x hx => by
    rcases List.mem_cons.mp hx with rfl | hx
    · exact n0
    · obtain ⟨y, hy, rfl⟩ := List.mem_map.mp hx
      obtain ⟨e, he, h2⟩ := List.mem_filterMap.mp hy
      cases e with
      | did d t => cases h2; exact (h _ he).2
      | say w d s => cases h2
  cases q : (0 :: (deedsOf es).map (·.2)).getLast? with
  | none => simp at q
  | some x => exact this x (List.mem_of_getLast? q)
theorem take_succ_at {α : Type} {l : List α} {i : Nat} {x : α} (h : l[i]? = some x) : l.take (i + 1) = l.take i ++ [x] := by
  rw [List.take_add_one, h]; rfl
def letsL (W : Wd) (n d : Nat) (es : List En) (m : Nat) : List PV := (List.range m).map fun i => pll (letBehind W n d (es.take i))
def letsPV (W : Wd) (n d : Nat) (es : List En) : PV := .tup (letsL W n d es (es.length + 1))
theorem letsL_succ {W : Wd} {n d : Nat} {es : List En} {m : Nat} : letsL W n d es (m + 1) = letsL W n d es m ++ [pll (letBehind W n d (es.take m))] := by
  simp [letsL, List.range_succ]
def gLetsAlong : FSp := fun vs M Q => ∃ W n d r es, LW W n d r ∧ EsOk n d es ∧ vs = [W.pv, pes es] ∧ ∀ M', Ex M M' → Q (letsPV W n d es) M'
theorem ix_neg {M : MH} {Q : WK} {l : List PV} {i : Int} {x : PV} (h : getI l i = some x) (q : Q x M) : ixW (.tup l) (.int i) M Q := by
  rw [ix_tup, h]; exact q
theorem ix_lastl {M : MH} {Q : WK} {a : Addr} {l : List PV} {x : PV} (h : M a = some (.lst (l ++ [x]))) (q : Q x M) : ixW (.ref a) (.int (-1)) M Q := by
  rw [ix_lst h, getI_last]; exact q
theorem b_lets_along (Φ : Fns) (h1 : Φ.fn "let_with" = some gLetWith) : ∀ vs M Q, gLetsAlong vs M Q → wpSs Φ m_lets_along (EndsP Q) (startP N_lets_along vs) M := by
  rintro _ M Q ⟨W, n, d, r, es, lw, eo, rfl, h⟩
  have w := lw.wf
  have el := eo.len
  unfold m_lets_along
  simp [startP, List.replicate, EndsP, pes]
  refine ⟨by decide, fun A hA => ?_⟩
  refine for_map (fun i ρ' M' => ∃ x3, ρ' = [some W.pv, some (.tup (es.map En.pv)), some (.ref A), x3] ∧ Ex M M' ∧ M' A = some (.lst (letsL W n d es (i + 1)))) ⟨none, rfl, Ex.new hA, ?_⟩ ?_ ?_
  · rw [MH.upd_same]
    have := letBehind_nil lw.lets lw.asc
    simp [letsL, this]
  · rintro i e ρ' M1 he ⟨x3, rfl, e1, f1⟩
    refine ⟨trivial, ?_⟩
    have hi := (List.getElem?_eq_some_iff.mp he).1
    simp [h1, ty_app f1]
    rw [letsL_succ] at f1
    refine ix_lastl f1 ⟨W, n, d, r, es.take i, e, w, eo.ok e (List.mem_of_getElem? he), rfl, fun M2 e2 => ?_⟩
    rw [← letsL_succ] at f1
    refine mt_app (e2.at f1) (by simp [letsL]; unfold LIM; omega) ⟨(e1.trans e2).over hA, ?_⟩
    rw [MH.upd_same, letsL_succ (m := i + 1), take_succ_at he]
  · rintro ρ' M1 ⟨x3, rfl, e1, f1⟩
    refine ⟨trivial, ?_⟩
    simp [lstOf_lst f1]
    exact ⟨by simp [letsL]; unfold LIM; omega, h M1 e1⟩
def gLetNow : FSp := fun vs M Q => ∃ W n d r es, LW W n d r ∧ EsOk n d es ∧ vs = [W.pv, pes es] ∧ ∀ M', Ex M M' → Q (pll (letBehind W n d es)) M'
theorem b_let_now (Φ : Fns) (h1 : Φ.fn "lets_along" = some gLetsAlong) : ∀ vs M Q, gLetNow vs M Q → wpSs Φ m_let_now (EndsP Q) (startP N_let_now vs) M := by
  rintro _ M Q ⟨W, n, d, r, es, lw, eo, rfl, h⟩
  unfold m_let_now
  simp [startP, List.replicate, EndsP, h1]
  refine ⟨W, n, d, r, es, lw, eo, rfl, fun M1 e1 => ?_⟩
  unfold letsPV
  rw [letsL_succ]
  refine ix_neg getI_last ?_
  have := h M1 e1
  rw [List.take_length]
  exact this
def gDeedsIn : FSp := fun vs M Q => ∃ n d es, EsOk n d es ∧ vs = [pes es] ∧ ∀ M', Ex M M' → Q (plog (deedsOf es)) M'
theorem b_deeds_in (Φ : Fns) (hG : Φ.gl "DID" = some (.str "did")) : ∀ vs M Q, gDeedsIn vs M Q → wpSs Φ m_deeds_in (EndsP Q) (startP N_deeds_in vs) M := by
  rintro _ M Q ⟨n, d, es, eo, rfl, h⟩
  have el := eo.len
  unfold m_deeds_in
  simp [startP, List.replicate, EndsP, pes]
  refine lc_mapT (fun e => match e with | .did d t => some (pp (d, t)) | _ => none) (fun _ _ => trivial) (by unfold LIM; omega) (fun e M1 he hM1 KT KF kt kf => ?_) fun M1 e1 => ?_
  · cases e with
    | did x t =>
      simp [En.pv, hG]
      rw [eq_str (by decide +kernel) (by decide +kernel)]
      have : (("did" : Str) == ("did" : Str)) = true := by decide +kernel
      rw [this]
      exact kt _ _ (Fr.refl _ _) rfl
    | say wd x s =>
      simp [En.pv, hG]
      rw [eq_str (wrd_ok wd) (by decide +kernel)]
      have : (wd.s == ("did" : Str)) = false := by cases wd <;> decide +kernel
      rw [this]
      exact kf _ (Fr.refl _ _) rfl
  · have e : (es.filterMap fun e => match e with | .did d t => some (pp (d, t)) | _ => none) = (deedsOf es).map pp := by
      unfold deedsOf
      rw [List.map_filterMap]
      congr 1
      funext e
      cases e <;> rfl
    have hh := h M1 e1
    unfold plog at hh
    rw [← e] at hh
    exact hh
def gBoardNow : FSp := fun vs M Q => ∃ n d es, EsOk n d es ∧ vs = [pes es] ∧ ∀ M', Ex M M' → Q (pn (boardNow es)) M'
theorem deeds_len {es : List En} : (deedsOf es).length ≤ es.length := List.length_filterMap_le _ _
theorem last_pl {l : List Nat} (h : l ≠ []) : getI (l.map pn) (-1) = some (pn ((l.getLast?).getD 0)) := by
  have := List.dropLast_concat_getLast h
  rw [← this, List.map_append, List.map_singleton, getI_last]
  simp
theorem b_board_now (Φ : Fns) (h1 : Φ.fn "along" = some gAlong) (h2 : Φ.fn "deeds_in" = some gDeedsIn) : ∀ vs M Q, gBoardNow vs M Q → wpSs Φ m_board_now (EndsP Q) (startP N_board_now vs) M := by
  rintro _ M Q ⟨n, d, es, eo, rfl, h⟩
  have el := eo.len
  have dl := deeds_len (es := es)
  unfold m_board_now
  simp [startP, List.replicate, EndsP, h1, h2]
  refine ⟨n, d, es, eo, rfl, fun M1 e1 => ⟨deedsOf es, by omega, rfl, fun M2 e2 => ?_⟩⟩
  unfold pl
  exact ix_neg (last_pl (by simp)) (h M2 (e1.trans e2))
def stuckB (W : Wd) (lt : List (List Nat)) (b : Nat) : Bool := !((W.done[b]?).getD false) && !((W.never[b]?).getD false) && (letDeeds W lt b).isEmpty
def gIsStuck : FSp := fun vs M Q => ∃ W lt n d r b, WF W n d r ∧ LetOk lt n d ∧ b < n ∧ vs = [W.pv, pll lt, pn b] ∧ ∀ M', Ex M M' → Q (.bl (stuckB W lt b)) M'
theorem b_is_stuck (Φ : Fns) (h1 : Φ.fn "let_deeds" = some gLetDeeds) : ∀ vs M Q, gIsStuck vs M Q → wpSs Φ m_is_stuck (EndsP Q) (startP N_is_stuck vs) M := by
  rintro _ M Q ⟨W, lt, n, d, r, b, w, hl, hb, rfl, h⟩
  have h2 : b < W.done.length := by rw [w.done]; exact hb
  have h3 : b < W.never.length := by rw [w.never]; exact hb
  unfold m_is_stuck
  simp [startP, List.replicate, EndsP, pbs, h1, h2, h3]
  unfold stuckB at h
  simp [h2, h3] at h
  have h0 := h M (Fr.refl _ _)
  cases c1 : W.done[b]
  · simp
    cases c2 : W.never[b]
    · simp
      refine ⟨W, lt, n, d, r, b, w, hl, hb, rfl, fun M1 e1 => ?_⟩
      simp
      have := h M1 e1
      simp [c1, c2] at this
      cases q : letDeeds W lt b <;> simp [q] at this ⊢ <;> exact this
    · simp [c1, c2] at h0 ⊢
      exact h0
  · simp [c1] at h0 ⊢
    exact h0
end K74
/-! K79e: breaches, harm, whose it is. -/
namespace K74
open PySem PL
def nv (W : Wd) (b : Nat) : Bool := (W.never[b]?).getD false
def whoseOf (W : Wd) (x : Nat) : Nat := (W.whose[x]?).getD 0
/-- what is wrong with a deed at a board: none, or a pair -/
def breachAt (W : Wd) (lt : List (List Nat)) (b x t : Nat) : Option (List PV) := match mv W b x with
  | none => some [.str "cannot", pn (whoseOf W x)]
  | some l => if x ∈ lrow lt b then (if t ∈ l then none else some [.str "answer", .int (-1)]) else some [.str "let", pn (whoseOf W x)]
def optT : Option (List PV) → PV
  | none => .non
  | some l => .tup l
def gBreachAt : FSp := fun vs M Q => ∃ W lt n d r b x t, WF W n d r ∧ LetOk lt n d ∧ b < n ∧ x < d ∧ vs = [W.pv, pll lt, pn b, pp (x, t)] ∧ ∀ M', Ex M M' → Q (optT (breachAt W lt b x t)) M'
structure GlL (Φ : Fns) : Prop where
  cannot : Φ.gl "CANNOT" = some (.str "cannot")
  lett : Φ.gl "LET" = some (.str "let")
  answer : Φ.gl "ANSWER" = some (.str "answer")
  others : Φ.gl "OTHERS" = some (.int (-1))
theorem b_breach_at (Φ : Fns) (G : GlL Φ) : ∀ vs M Q, gBreachAt vs M Q → wpSs Φ m_breach_at (EndsP Q) (startP N_breach_at vs) M := by
  rintro _ M Q ⟨W, lt, n, d, r, b, x, t, w, hl, hb, hx, rfl, h⟩
  have h0 := h M (Fr.refl _ _)
  have h1 : x < W.whose.length := by rw [w.whose]; exact hx
  unfold breachAt whoseOf at h0
  unfold m_breach_at
  simp only [startP, List.replicate, EndsP]
  refine cut_seq (fun ρ' M' => ρ' = [some W.pv, some (pll lt), some (pn b), some (pp (x, t)), some (pn x), some (pn t), none] ∧ M = M') (fun k hk => ?_) ?_
  · simp [pp]
    exact hk _ _ ⟨rfl, rfl⟩
  rintro _ _ ⟨rfl, rfl⟩
  refine cut_seq (fun ρ' M' => ρ' = [some W.pv, some (pll lt), some (pn b), some (pp (x, t)), some (pn x), some (pn t), some (po (mv W b x))] ∧ M = M') (fun k hk => ?_) ?_
  · simp
    rw [ix_mv w hb hx]
    exact hk _ _ ⟨rfl, rfl⟩
  rintro _ _ ⟨rfl, rfl⟩
  cases q : mv W b x with
  | none =>
    simp [G.cannot, pl, h1]
    simp [q, h1, optT] at h0
    exact ⟨by decide, h0⟩
  | some l =>
    simp [G.answer, G.others, G.lett]
    rw [ix_let hl hb, notIn_natt]
    simp only [q] at h0
    by_cases c : x ∈ lrow lt b
    · simp [c] at h0 ⊢
      show cmpW .In (pn t) (pl l) M _
      rw [in_natt]
      by_cases c2 : t ∈ l
      · simp [c2, optT] at h0 ⊢
        exact h0
      · simp [c2, optT] at h0 ⊢
        exact ⟨by decide, h0⟩
    · simp [c, h1, optT] at h0 ⊢
      simp [pl, h1]
      exact ⟨by decide, h0⟩
/-- the first that is not None -/
def firstP (f : Nat → PV) : Nat → PV
  | 0 => .non
  | m + 1 => if isNone (firstP f m) then f m else firstP f m
theorem isNone_eq {p : PV} (h : isNone p = true) : p = .non := by cases p <;> first | rfl | cases h
theorem firstP_none {f : Nat → PV} : ∀ {m : Nat}, (∀ j < m, f j = .non) → firstP f m = .non
  | 0, _ => rfl
  | m + 1, h => by
    unfold firstP
    rw [firstP_none fun j hj => h j (by omega)]
    simpa using h m (by omega)
theorem firstP_hit {f : Nat → PV} {i : Nat} (h : ∀ j < i, f j = .non) (hi : isNone (f i) = false) : ∀ {m : Nat}, i < m → firstP f m = f i
  | m + 1, hm => by
    unfold firstP
    by_cases c : i = m
    · subst c
      rw [firstP_none h]
      simp
    · rw [firstP_hit h hi (by omega), hi]
      simp
theorem firstP_congr {f g : Nat → PV} : ∀ {m : Nat}, (∀ j < m, f j = g j) → firstP f m = firstP g m
  | 0, _ => rfl
  | m + 1, h => by
    unfold firstP
    rw [firstP_congr fun j hj => h j (by omega), h m (by omega)]
def consT (i : Nat) : Option (List PV) → PV
  | none => .non
  | some l => .tup (pn i :: l)
def brAt (W : Wd) (n d : Nat) (es : List En) (i : Nat) : PV := match es[i]? with
  | some (.did x t) => consT i (breachAt W (letBehind W n d (es.take i)) (boardNow (es.take i)) x t)
  | _ => .non
def breach (W : Wd) (n d : Nat) (es : List En) : PV := firstP (brAt W n d es) es.length
def gBreachAlong : FSp := fun vs M Q => ∃ W n d r es, LW W n d r ∧ EsOk n d es ∧ vs = [W.pv, pes es] ∧ ∀ M', Ex M M' → Q (breach W n d es) M'
theorem EsOk.take {n d i : Nat} {es : List En} (h : EsOk n d es) : EsOk n d (es.take i) := ⟨Nat.le_trans (List.length_take_le' _ _) h.len, fun e he => h.ok e (List.mem_of_mem_take he)⟩
theorem letsL_at {W : Wd} {n d i m : Nat} {es : List En} (h : i < m) : (letsL W n d es m)[i]? = some (pll (letBehind W n d (es.take i))) := by
  simp [letsL, h]
theorem breachAt_len {W : Wd} {lt : List (List Nat)} {b x t : Nat} {l : List PV} (h : breachAt W lt b x t = some l) : l.length = 2 := by
  unfold breachAt at h
  split at h
  · cases h; rfl
  · split at h
    · split at h
      · cases h
      · cases h; rfl
    · cases h; rfl
theorem b_breach_along (Φ : Fns) (h1 : Φ.fn "lets_along" = some gLetsAlong) (h2 : Φ.fn "breach_at" = some gBreachAt) (hG : Φ.gl "DID" = some (.str "did")) : ∀ vs M Q, gBreachAlong vs M Q → wpSs Φ m_breach_along (EndsP Q) (startP N_breach_along vs) M := by
  rintro _ M Q ⟨W, n, d, r, es, lw, eo, rfl, h⟩
  have w := lw.wf
  have el := eo.len
  have n1 := w.n1
  have d1 := w.d1
  unfold m_breach_along
  simp only [startP, List.replicate, EndsP]
  refine cut_seq (fun ρ' M' => ρ' = [some W.pv, some (pes es), some (letsPV W n d es), some (pn 0), none, none, none] ∧ Ex M M') (fun k hk => ?_) ?_
  · simp [h1]
    exact ⟨W, n, d, r, es, lw, eo, rfl, fun M1 e1 => ⟨by decide, hk _ _ ⟨rfl, e1⟩⟩⟩
  rintro _ M1 ⟨rfl, e1⟩
  simp
  rw [show pes es = .tup (es.map En.pv) from rfl, enum_tup, List.zipIdx_map, List.map_map]
  refine for_map (fun i ρ' M' => ∃ x4 x5 x6, ρ' = [some W.pv, some (.tup (es.map En.pv)), some (letsPV W n d es), some (pn (boardNow (es.take i))), x4, x5, x6] ∧ Ex M M' ∧ ∀ j < i, brAt W n d es j = .non) ⟨none, none, none, rfl, e1, by simp⟩ ?_ ?_
  · rintro i z ρ' M2 hz ⟨x4, x5, x6, rfl, e2, hn⟩
    refine ⟨trivial, ?_⟩
    obtain ⟨hi, z2, z1⟩ := zidx_get hz
    obtain ⟨e, i'⟩ := z
    simp at z1 z2
    subst z2
    have ts := take_succ_at z1
    have step : ∀ j < i' + 1, j ≠ i' → brAt W n d es j = .non := fun j hj ne => hn j (by omega)
    cases e with
    | say wd x s =>
      simp [En.pv, hG]
      rw [eq_str (wrd_ok wd) (by decide +kernel)]
      have : (wd.s == ("did" : Str)) = false := by cases wd <;> decide +kernel
      rw [this]
      refine ⟨by rw [ts, board_say], e2, fun j hj => ?_⟩
      by_cases c : j = i'
      · rw [c]; simp [brAt, z1]
      · exact step j hj c
    | did x t =>
      have ho := eo.ok _ (List.mem_of_getElem? z1)
      have hb := board_lt (d := d) w.n0 (es := es.take i') fun e he => eo.ok e (List.mem_of_mem_take he)
      have hbr : brAt W n d es i' = consT i' (breachAt W (letBehind W n d (es.take i')) (boardNow (es.take i')) x t) := by simp [brAt, z1]
      simp [En.pv, hG]
      rw [eq_str (by decide +kernel) (by decide +kernel)]
      have : (("did" : Str) == ("did" : Str)) = true := by decide +kernel
      rw [this]
      simp only [if_true, h2]
      rw [show letsPV W n d es = .tup (letsL W n d es (es.length + 1)) from rfl]
      simp [letsL_at (W := W) (n := n) (d := d) (es := es) (show i' < es.length + 1 by omega), h2]
      refine ⟨W, _, n, d, r, _, x, t, w, letBehind_ok (by omega), hb, ho.1, rfl, fun M3 e3 => ?_⟩
      cases q : breachAt W (letBehind W n d (es.take i')) (boardNow (es.take i')) x t with
      | none =>
        simp [optT]
        refine ⟨by rw [ts, board_did], e2.trans e3, fun j hj => ?_⟩
        by_cases c : j = i'
        · rw [c, hbr, q]; rfl
        · exact step j hj c
      | some l =>
        have ll := breachAt_len q
        simp [optT]
        refine ⟨by decide, by rw [ll]; decide, ?_⟩
        have := h M3 (e2.trans e3)
        unfold breach at this
        rw [firstP_hit (i := i') hn (by rw [hbr, q]; rfl) hi, hbr, q] at this
        exact this
  · rintro ρ' M2 ⟨x4, x5, x6, rfl, e2, hn⟩
    refine ⟨trivial, ?_⟩
    simp at hn
    simp
    have := h M2 e2
    unfold breach at this
    rw [firstP_none hn] at this
    exact this
/-- harm -/
def harmAt (W : Wd) (es : List En) (i : Nat) : PV := match es[i]? with
  | some (.did _ t) => if nv W t then .tup [pn (i + 1), .str "never"] else .non
  | _ => .non
def harm (W : Wd) (n d : Nat) (es : List En) : PV :=
  if nv W 0 then .tup [pn 0, .str "never"] else
    if isNone (firstP (harmAt W es) es.length) then (if stuckB W (letBehind W n d es) (boardNow es) then .tup [pn es.length, .str "stuck"] else .non) else firstP (harmAt W es) es.length
def gHarmAlong : FSp := fun vs M Q => ∃ W n d r es, LW W n d r ∧ EsOk n d es ∧ vs = [W.pv, pes es] ∧ ∀ M', Ex M M' → Q (harm W n d es) M'
structure GlH (Φ : Fns) : Prop where
  did : Φ.gl "DID" = some (.str "did")
  never : Φ.gl "NEVER" = some (.str "never")
  stuck : Φ.gl "STUCK" = some (.str "stuck")
theorem b_harm_along (Φ : Fns) (G : GlH Φ) (h1 : Φ.fn "is_stuck" = some gIsStuck) (h2 : Φ.fn "let_now" = some gLetNow) (h3 : Φ.fn "board_now" = some gBoardNow) : ∀ vs M Q, gHarmAlong vs M Q → wpSs Φ m_harm_along (EndsP Q) (startP N_harm_along vs) M := by
  rintro _ M Q ⟨W, n, d, r, es, lw, eo, rfl, h⟩
  have w := lw.wf
  have el := eo.len
  have n1 := w.n1
  have n0 := w.n0
  have d1 := w.d1
  have h00 : 0 < W.never.length := by rw [w.never]; exact n0
  unfold m_harm_along
  simp only [startP, List.replicate, EndsP]
  refine cut_seq (fun ρ' M' => ρ' = [some W.pv, some (pes es), none, none] ∧ M = M' ∧ nv W 0 = false) (fun k hk => ?_) ?_
  · simp [pbs, h00, G.never]
    cases c : W.never[0] with
    | true =>
      simp
      refine ⟨by decide, ?_⟩
      have := h M (Fr.refl _ _)
      unfold harm nv at this
      simpa [h00, c] using this
    | false =>
      simp
      exact hk _ _ ⟨rfl, rfl, by simp [nv, h00, c]⟩
  rintro _ _ ⟨rfl, rfl, hnv⟩
  refine cut_seq (fun ρ' M' => ∃ x2 x3, ρ' = [some W.pv, some (pes es), x2, x3] ∧ Ex M M' ∧ ∀ j < es.length, harmAt W es j = .non) (fun k hk => ?_) ?_
  · simp
    rw [show pes es = .tup (es.map En.pv) from rfl, enum_tup, List.zipIdx_map, List.map_map]
    refine for_map (fun i ρ' M' => ∃ x2 x3, ρ' = [some W.pv, some (.tup (es.map En.pv)), x2, x3] ∧ Ex M M' ∧ ∀ j < i, harmAt W es j = .non) ⟨none, none, rfl, Fr.refl _ _, by simp⟩ ?_ (fun ρ' M' ⟨x2, x3, e, f, g⟩ => ⟨trivial, hk _ _ ⟨x2, x3, e, f, by simpa using g⟩⟩)
    rintro i z ρ' M2 hz ⟨x2, x3, rfl, e2, hn⟩
    refine ⟨trivial, ?_⟩
    obtain ⟨hi, z2, z1⟩ := zidx_get hz
    obtain ⟨e, i'⟩ := z
    simp at z1 z2
    subst z2
    have step : ∀ j < i' + 1, j ≠ i' → harmAt W es j = .non := fun j hj ne => hn j (by omega)
    cases e with
    | say wd x s =>
      simp [En.pv, G.did]
      rw [eq_str (wrd_ok wd) (by decide +kernel)]
      have : (wd.s == ("did" : Str)) = false := by cases wd <;> decide +kernel
      rw [this]
      refine ⟨e2, fun j hj => ?_⟩
      by_cases c : j = i'
      · rw [c]; simp [harmAt, z1]
      · exact step j hj c
    | did x t =>
      have ho := eo.ok _ (List.mem_of_getElem? z1)
      have ht : t < W.never.length := by rw [w.never]; exact ho.2
      simp [En.pv, G.did]
      rw [eq_str (by decide +kernel) (by decide +kernel)]
      have : (("did" : Str) == ("did" : Str)) = true := by decide +kernel
      rw [this]
      simp [pbs, ht, G.never]
      cases c : W.never[t] with
      | true =>
        simp
        refine ⟨by decide, ?_⟩
        have hh := h M2 e2
        have ha : harmAt W es i' = .tup [pn (i' + 1), .str "never"] := by simp [harmAt, z1, nv, ht, c]
        unfold harm at hh
        rw [hnv, firstP_hit (i := i') hn (by rw [ha]; rfl) hi, ha] at hh
        simpa using hh
      | false =>
        simp
        refine ⟨e2, fun j hj => ?_⟩
        by_cases c2 : j = i'
        · rw [c2]; simp [harmAt, z1, nv, ht, c]
        · exact step j hj c2
  rintro _ M1 ⟨x2, x3, rfl, e1, hn⟩
  have hb := board_lt (d := d) w.n0 eo.ok
  have hf := firstP_none hn
  simp [h1, h2, h3]
  refine ⟨W, n, d, r, es, lw, eo, rfl, fun M2 e2 => ⟨n, d, es, eo, rfl, fun M3 e3 => ⟨W, _, n, d, r, _, w, letBehind_ok (by omega), hb, rfl, fun M4 e4 => ?_⟩⟩⟩
  have hh := h M4 (e1.trans (e2.trans (e3.trans e4)))
  unfold harm at hh
  rw [hnv, hf] at hh
  simp at hh ⊢
  cases c : stuckB W (letBehind W n d es) (boardNow es) with
  | true =>
    simp [c, G.stuck, pes] at hh ⊢
    exact ⟨by decide, hh⟩
  | false =>
    simp [c] at hh ⊢
    exact hh
end K74
/-! K79f: whose it is; worlds that can be done. -/
namespace K74
open PySem PL
theorem firstP_or {f : Nat → PV} : ∀ {m : Nat}, firstP f m = .non ∨ ∃ j < m, firstP f m = f j
  | 0 => .inl rfl
  | m + 1 => by
    unfold firstP
    rcases firstP_or (f := f) (m := m) with e | ⟨j, hj, e⟩
    · rw [e]
      exact .inr ⟨m, by omega, rfl⟩
    · split
      · exact .inr ⟨m, by omega, rfl⟩
      · exact .inr ⟨j, by omega, e⟩
theorem breachAt_shape {W : Wd} {lt : List (List Nat)} {b x t : Nat} : breachAt W lt b x t = none ∨ ∃ s w, breachAt W lt b x t = some [.str s, w] ∧ PyData.strOk s = true ∧ ∃ i, w = .int i := by
  unfold breachAt
  split
  · exact .inr ⟨_, _, rfl, by decide +kernel, _, rfl⟩
  · split
    · split
      · exact .inl rfl
      · exact .inr ⟨_, _, rfl, by decide +kernel, _, rfl⟩
    · exact .inr ⟨_, _, rfl, by decide +kernel, _, rfl⟩
theorem brAt_shape {W : Wd} {n d : Nat} {es : List En} {i : Nat} : brAt W n d es i = .non ∨ ∃ s w, brAt W n d es i = .tup [pn i, .str s, .int w] ∧ PyData.strOk s = true := by
  unfold brAt
  split
  · rename_i x t _
    rcases breachAt_shape (W := W) (lt := letBehind W n d (es.take i)) (b := boardNow (es.take i)) (x := x) (t := t) with e | ⟨s, w, e, h, j, rfl⟩
    · rw [e]; exact .inl rfl
    · rw [e]; exact .inr ⟨s, j, rfl, h⟩
  · exact .inl rfl
theorem breach_shape {W : Wd} {n d : Nat} {es : List En} : breach W n d es = .non ∨ ∃ p s w, breach W n d es = .tup [pn p, .str s, .int w] ∧ PyData.strOk s = true := by
  unfold breach
  rcases firstP_or (f := brAt W n d es) (m := es.length) with e | ⟨j, _, e⟩
  · rw [e]; exact .inl rfl
  · rw [e]
    rcases brAt_shape (W := W) (n := n) (d := d) (es := es) (i := j) with e | ⟨s, w, e, h⟩
    · exact .inl e
    · exact .inr ⟨j, s, w, e, h⟩
theorem harmAt_shape {W : Wd} {es : List En} {i : Nat} : harmAt W es i = .non ∨ harmAt W es i = .tup [pn (i + 1), .str "never"] := by
  unfold harmAt
  split
  · split
    · exact .inr rfl
    · exact .inl rfl
  · exact .inl rfl
theorem harm_shape {W : Wd} {n d : Nat} {es : List En} : harm W n d es = .non ∨ ∃ p s, harm W n d es = .tup [pn p, .str s] ∧ PyData.strOk s = true := by
  unfold harm
  split
  · exact .inr ⟨_, _, rfl, by decide +kernel⟩
  · rcases firstP_or (f := harmAt W es) (m := es.length) with e | ⟨j, _, e⟩
    · rw [e]
      simp only [isNone_non, if_true]
      split
      · exact .inr ⟨_, _, rfl, by decide +kernel⟩
      · exact .inl rfl
    · rcases harmAt_shape (W := W) (es := es) (i := j) with e2 | e2
      · rw [e, e2]
        simp only [isNone_non, if_true]
        split
        · exact .inr ⟨_, _, rfl, by decide +kernel⟩
        · exact .inl rfl
      · rw [e, e2]
        simp only [isNone_tup, Bool.false_eq_true, if_false]
        exact .inr ⟨_, _, rfl, by decide +kernel⟩
def whoseIt (h b : PV) : PV := match h with
  | .tup (.int i :: _) => (match b with
    | .tup [.int p, _, w] => if p < i then w else .int (-2)
    | _ => .int (-2))
  | _ => .non
def gWhoseAlong : FSp := fun vs M Q => ∃ W n d r es, LW W n d r ∧ EsOk n d es ∧ vs = [W.pv, pes es] ∧ ∀ M', Ex M M' → Q (whoseIt (harm W n d es) (breach W n d es)) M'
theorem b_whose_along (Φ : Fns) (h1 : Φ.fn "harm_along" = some gHarmAlong) (h2 : Φ.fn "breach_along" = some gBreachAlong) (hG : Φ.gl "GIVER" = some (.int (-2))) : ∀ vs M Q, gWhoseAlong vs M Q → wpSs Φ m_whose_along (EndsP Q) (startP N_whose_along vs) M := by
  rintro _ M Q ⟨W, n, d, r, es, lw, eo, rfl, h⟩
  unfold m_whose_along
  simp [startP, List.replicate, EndsP, h1, h2]
  refine ⟨W, n, d, r, es, lw, eo, rfl, fun M1 e1 => ⟨W, n, d, r, es, lw, eo, rfl, fun M2 e2 => ⟨by decide, ?_⟩⟩⟩
  have hh := h M2 (e1.trans e2)
  rcases harm_shape (W := W) (n := n) (d := d) (es := es) with e | ⟨p, s, e, _⟩
  · rw [e] at hh ⊢
    simp
    exact hh
  · rcases breach_shape (W := W) (n := n) (d := d) (es := es) with e2 | ⟨p2, s2, w2, e2, _⟩
    · rw [e, e2] at hh ⊢
      simp [hG]
      exact hh
    · rw [e, e2] at hh ⊢
      simp [hG]
      have hh : Q (if (p2 : Int) < (p : Int) then .int w2 else .int (-2)) M2 := hh
      by_cases c : p2 < p
      · simp [c] at hh ⊢
        exact hh
      · simp [c] at hh ⊢
        exact hh
/-! ### the law's -/
theorem b_law_is_stuck (Φ : Fns) (h1 : Φ.fn "_law_goes" = some gLGoes) : ∀ vs M Q, gIsStuck vs M Q → wpSs Φ m_law_is_stuck (EndsP Q) (startP N_law_is_stuck vs) M := by
  rintro _ M Q ⟨W, lt, n, d, r, b, w, hl, hb, rfl, h⟩
  have h2 : b < W.done.length := by rw [w.done]; exact hb
  have h3 : b < W.never.length := by rw [w.never]; exact hb
  unfold m_law_is_stuck
  simp [startP, List.replicate, EndsP, pbs, h1, h2, h3]
  unfold stuckB at h
  simp [h2, h3] at h
  have h0 := h M (Fr.refl _ _)
  cases c1 : W.done[b]
  · simp
    cases c2 : W.never[b]
    · simp
      refine ⟨W, lt, n, d, r, b, w, hl, hb, rfl, fun M1 D e1 nD hD => ?_⟩
      intro N hN
      rw [eq_nil (keep hD hN) (MH.upd_same ..) goods_goes]
      have := h _ (e1.trans (Ex.new (mo := .lst []) hN))
      simp [c1, c2] at this
      cases q : letDeeds W lt b <;> simp [q] at this ⊢ <;> exact this
    · simp [c1, c2] at h0 ⊢
      exact h0
  · simp [c1] at h0 ⊢
    exact h0
end K74
/-! K79g: worlds that can be done, signs, drawn entries. -/
namespace K74
open PySem PL
def Ff : List (List (Option (List Nat))) := [[some [1], some [3]], [some [2], none], [some [1], none], [none, none]]
def Wf : Wd := ⟨[0, 1], Ff, [false, false, false, false], [false, false, false, true], [[0], [1], [2], [3]], [[], []], [[0, 1], [0], [0], []]⟩
theorem mv_fork {b x : Nat} {l : List Nat} (h : mv Wf b x = some l) : l ≠ [] ∧ b < 3 ∧ x < 2 := by
  unfold mv Wf Ff at h
  match b, h with
  | 0, h => match x, h with
    | 0, h => cases h; exact ⟨by decide, by decide, by decide⟩
    | 1, h => cases h; exact ⟨by decide, by decide, by decide⟩
    | x + 2, h => cases h
  | 1, h => match x, h with
    | 0, h => cases h; exact ⟨by decide, by decide, by decide⟩
    | 1, h => cases h
    | x + 2, h => cases h
  | 2, h => match x, h with
    | 0, h => cases h; exact ⟨by decide, by decide, by decide⟩
    | 1, h => cases h
    | x + 2, h => cases h
  | 3, h => match x, h with
    | 0, h => cases h
    | 1, h => cases h
    | x + 2, h => cases h
  | b + 4, h => cases h
theorem tw_fork : TW Wf 4 2 where
  wf := ⟨rfl, by decide, rfl, by decide, by decide, by decide, by decide, rfl, rfl, rfl, by decide, by decide, by decide, by decide, by decide⟩
  lets := ⟨rfl, by decide⟩
  letasc := by decide
  letcan := fun b x h => by
    match b, h with
    | 0, h =>
      have : x = 0 ∨ x = 1 := by simpa [lrow, Wf] using h
      rcases this with rfl | rfl <;> rfl
    | 1, h =>
      have : x = 0 := by simpa [lrow, Wf] using h
      subst this; rfl
    | 2, h =>
      have : x = 0 := by simpa [lrow, Wf] using h
      subst this; rfl
    | 3, h => cases h
    | b + 4, h => cases h
  lotne := fun b x h => (mv_fork h).1 rfl
  bare := fun b h x => by
    cases q : mv Wf b x with
    | none => rfl
    | some l =>
      obtain ⟨_, hb, _⟩ := mv_fork q
      have : b = 0 ∨ b = 1 ∨ b = 2 := by omega
      rcases this with rfl | rfl | rfl <;> exact absurd h (by decide)
  n3 := by decide
  d2 := by decide
  d5 := by decide
  s1 := by decide
  s3 := by decide
  never0 := rfl
  done0 := rfl
def gMade : FSp := fun vs M Q => vs = [pl [0, 1], pmv Ff, pl [3], pn 2] ∧ ∀ M', Ex M M' → Q Wf.pv M'
theorem mul_tup {M : MH} {Q : WK} {l : List PV} {n : Nat} (h0 : l ≠ []) (h1 : l.length ≤ 1000) (h2 : n ≤ 1000) (q : Q (.tup (List.replicate n l).flatten) M) : binW .Mult (.tup l) (pn n) M Q := by
  show (l ≠ [] ∧ l.length ≤ 1000 ∧ 0 ≤ (n : Int) ∧ (n : Int) ≤ 1000) ∧ Q (.tup (List.replicate (n : Int).toNat l).flatten) M
  exact ⟨⟨h0, h1, by omega, by omega⟩, q⟩
theorem b_made (Φ : Fns) : ∀ vs M Q, gMade vs M Q → wpSs Φ m_law_made (EndsP Q) (startP N_law_made vs) M := by
  rintro _ M Q ⟨rfl, h⟩
  unfold m_law_made
  simp only [startP, List.replicate, EndsP]
  refine cut_seq (fun ρ' M' => ρ' = [some (pl [0, 1]), some (pmv Ff), some (pl [3]), some (pn 2), some (pll [[0, 1], [0], [0], []]), none, none, none, none, none] ∧ Ex M M') (fun k hk => ?_) ?_
  · simp
    show exW (.tup (Ff.map fun r => .tup (r.map po))) M _
    rw [ex_tup]
    refine lc_mapT (fun r => some (.tup ((r.zipIdx.filterMap fun z => if z.1.isSome then some (pn z.2) else none)))) (fun _ _ => trivial) (by decide) (fun r M1 hr hM1 KT KF kt kf => ?_) fun M1 e1 => ?_
    · have rl : r.length = 2 := by
        have : ∀ r ∈ Ff, r.length = 2 := by decide
        exact this r hr
      simp [List.zipIdx_map, List.map_map]
      refine lc_mapT (fun z => if z.1.isSome then some (pn z.2) else none) (fun _ _ => trivial) (by simp [rl]; decide) (fun z M2 hz hM2 KT2 KF2 kt2 kf2 => ?_) fun M2 e2 => ?_
      · obtain ⟨o, i⟩ := z
        cases o with
        | none => simp; exact kf2 _ (Fr.refl _ _) (by simp)
        | some l => simp; exact kt2 _ _ (Fr.refl _ _) (by simp)
      · exact kt _ _ e2 rfl
    · exact hk _ _ ⟨rfl, e1⟩
  rintro _ M1 ⟨rfl, e1⟩
  refine cut_seq (fun ρ' M' => ρ' = [some (pl [0, 1]), some (pmv Ff), some (pl [3]), some (pn 2), some (pll [[0, 1], [0], [0], []]), none, none, none, some (pbs [false, false, false, true]), none] ∧ Ex M M') (fun k hk => ?_) ?_
  · simp
    refine rngp (by decide) (lc_mapT (fun x => some (.bl (decide (x ∈ [3])))) (fun _ _ => trivial) (by decide) (fun x M2 hx hM2 KT KF kt kf => ?_) fun M2 e2 => ?_)
    · simp only [wp_bop0, onB_bl, if_true, wp_nm, wp_cmp, wp_var]
      simp
      rw [in_natt]
      exact kt _ _ (Fr.refl _ _) (by simp)
    · exact hk _ _ ⟨rfl, e1.trans e2⟩
  rintro _ M2 ⟨rfl, e2⟩
  simp
  refine ⟨by decide, mul_tup (by simp) (by simp) (by decide) ?_⟩
  refine rngp (by decide) (lc_mapT (fun x => some (pl [x])) (fun _ _ => trivial) (by decide) (fun x M3 hx hM3 KT KF kt kf => ?_) fun M3 e3 => ?_)
  · simp
    exact ⟨by decide, kt _ _ (Fr.refl _ _) rfl⟩
  · refine ⟨by decide, mul_tup (by simp) (by simp) (by decide) ⟨by decide, ?_⟩⟩
    exact h M3 (e2.trans e3)
def gFork : FSp := fun vs M Q => vs = [] ∧ ∀ M', Ex M M' → Q Wf.pv M'
theorem b_fork (Φ : Fns) (h1 : Φ.fn "_law_made" = some gMade) : ∀ vs M Q, gFork vs M Q → wpSs Φ m_law_fork (EndsP Q) (startP N_law_fork vs) M := by
  rintro _ M Q ⟨rfl, h⟩
  unfold m_law_fork
  simp [startP, List.replicate, EndsP, h1]
  repeat (refine ⟨by decide, ?_⟩)
  exact ⟨rfl, h⟩
def gGoodWorld : FSp := fun vs M Q => ∃ b most, vs = [.ref b, pn most] ∧ 4 ≤ most ∧ most ≤ 20 ∧ Bx M b ∧ ∀ M' W n d lt, Dr b M M' → TW W n d → n ≤ most → LetOk lt n d → (∀ q ∈ lt, q.length ≤ 99) → Q (.tup [W.pv, pll lt]) M'
theorem in_nats {M : MH} {a : Addr} {l : List Nat} {x : Nat} {k : Bool → Prop} (h : M a = some (.lst (l.map pn))) : cmpW .In (pn x) (.ref a) M k = k (decide (x ∈ l)) := by
  have := notIn_nats (x := x) (k := fun c => k (!c)) h
  have e : cmpW .NotIn (pn x) (.ref a) M (fun c => k (!c)) = cmpW .In (pn x) (.ref a) M k := by
    show ok (inOf M (pn x) (.ref a)) (fun b => k (!!b)) = ok (inOf M (pn x) (.ref a)) k
    simp
  rw [← e, this]
  simp
theorem b_good_world (Φ : Fns) (h1 : Φ.fn "_law_turn_world" = some gTurnWorld) (h2 : Φ.fn "_law_sure_let" = some gSureLet) (h3 : Φ.fn "_law_fork" = some gFork) : ∀ vs M Q, gGoodWorld vs M Q → wpSs Φ m_law_good_world (EndsP Q) (startP N_law_good_world vs) M := by
  rintro _ M Q ⟨b, most, rfl, m4, m20, hb, h⟩
  unfold m_law_good_world
  simp [startP, List.replicate, EndsP]
  refine rngp (by decide) ?_
  refine for_rng (fun i ρ' M' => ∃ x2 x3 x4 x5, ρ' = [some (.ref b), some (pn most), x2, x3, x4, x5] ∧ Dr b M M') ⟨_, _, _, _, rfl, Dr.refl hb⟩ ?_ ?_
  · rintro i ρ' M1 hi ⟨x2, x3, x4, x5, rfl, d1⟩
    simp [h1, h2]
    refine ⟨b, most, rfl, by omega, m20, d1.bx, fun M2 W n d d2 t hn => ⟨b, W, n, d, 1, t.wf, rfl, d2.bx, fun M3 lt H hs d3 hl hq fH => ?_⟩⟩
    simp [in_nats fH]
    have dd := (d1.trans d2).trans d3
    split
    · exact ⟨by decide, h M3 W n d lt dd t hn hl hq⟩
    · exact dd
  · rintro ρ' M1 ⟨x2, x3, x4, x5, rfl, d1⟩
    simp [h3]
    refine ⟨rfl, fun M2 e2 => ?_⟩
    repeat (refine ⟨by decide, ?_⟩)
    exact h M2 Wf 4 2 [[1], [], [], []] (d1.exr e2) tw_fork (by omega) ⟨rfl, by decide⟩ (by decide)
end K74
/-! K79h: signs, drawn entries, what is let behind entries as the law tells it. -/
namespace K74
open PySem PL
theorem pl_good {l : List Nat} : (pl l).good = true := by
  show (PV.tup (l.map pn)).goodN 7 = true
  simp only [PV.goodN]
  exact goodsN_mem.mpr fun x hx => by
    obtain ⟨u, _, rfl⟩ := List.mem_map.mp hx
    rfl
theorem pls_good {l : List (List Nat)} : PV.goodsN (l.map pl) 7 = true := goodsN_mem.mpr fun x hx => by
  obtain ⟨u, _, rfl⟩ := List.mem_map.mp hx
  exact pl_good
theorem sg_len {W : Wd} {n d r b x : Nat} (w : WF W n d r) : (sgAt W b x).length ≤ 100 := by
  unfold sgAt signOf
  rw [List.length_map]
  cases q : W.sees[(W.whose[x]?).getD 0]? with
  | none => simp
  | some s => exact (w.sees s (List.mem_of_getElem? q)).1
def gSignsOf : FSp := fun vs M Q => ∃ W n d r x, WF W n d r ∧ x < d ∧ vs = [W.pv, pn x] ∧ ∀ M' D (ss : List (List Nat)), Ex M M' → M D = none → M' D = some (.lst (ss.map pl)) → ss ≠ [] → ss.length ≤ 100 → (∀ s ∈ ss, s.length ≤ 100) → Q (.ref D) M'
theorem b_signs_of (Φ : Fns) (h1 : Φ.fn "_law_said" = some gSentAt) : ∀ vs M Q, gSignsOf vs M Q → wpSs Φ m_law_signs_of (EndsP Q) (startP N_law_signs_of vs) M := by
  rintro _ M Q ⟨W, n, d, r, x, w, hx, rfl, h⟩
  have n1 := w.n1
  have n0 := w.n0
  unfold m_law_signs_of
  simp [startP, List.replicate, EndsP, w.rows]
  intro A hA
  refine rngp (by unfold LIM; omega) ?_
  refine for_rng (fun i ρ' M' => ∃ (D : Addr) (ss : List (List Nat)) (x3 x4 : Option PV), ρ' = [some W.pv, some (pn x), some (.ref D), x3, x4] ∧ Ex M M' ∧ M D = none ∧ M' D = some (.lst (ss.map pl)) ∧ (0 < i → ss ≠ []) ∧ ss.length ≤ i ∧ ∀ s ∈ ss, s.length ≤ 100) ⟨A, [], none, none, rfl, Ex.new hA, hA, by rw [MH.upd_same]; rfl, by simp, by simp, by simp⟩ ?_ ?_
  · rintro i ρ' M1 hi ⟨D, ss, x3, x4, rfl, e1, nD, fD, ne, sl, sn'⟩
    refine cut_seq (fun ρ' M' => ρ' = [some W.pv, some (pn x), some (.ref D), some (pn i), some (pl (sgAt W i x))] ∧ Ex M1 M') (fun k hk => ?_) ?_
    · simp [h1]
      refine ⟨W, n, d, r, i, x, w, hi, hx, rfl, fun M2 e2 => ?_⟩
      simp [sentAt]
      exact hk _ _ ⟨rfl, e2⟩
    rintro _ M2 ⟨rfl, e2⟩
    have sgl := sg_len (b := i) (x := x) w
    refine cut_last fun k hk => ?_
    simp
    rw [notIn_lst (e2.at fD) pl_good pls_good]
    have nn : ∀ {M3 : MH} {N : Addr}, Ex M2 M3 → M3 N = none → M N = none := fun {M3 N} e hn => by
      cases q : M N with
      | none => rfl
      | some mo => rw [e.at (e2.at (e1.at q))] at hn; cases hn
    cases c : ((ss.map pl).any fun y => pyEq y (pl (sgAt W i x))) with
    | false =>
      simp
      refine ⟨by decide, fun N hN => add_refs (keep (e2.at fD) hN) (MH.upd_same ..) (by simp; unfold LIM; omega) fun C hC => ?_⟩
      refine hk _ _ ⟨C, ss ++ [sgAt W i x], _, _, rfl, e1.trans (e2.trans ((Ex.new hN).trans (Ex.new hC))), nn (Ex.new hN) hC, by rw [MH.upd_same]; simp, by simp, by simp; omega, fun s hs => ?_⟩
      rcases List.mem_append.mp hs with q | q
      · exact sn' s q
      · rw [List.mem_singleton.mp q]; exact sgl
    | true =>
      simp
      intro N hN
      refine add_refs (keep (e2.at fD) hN) (MH.upd_same ..) (by simp; unfold LIM; omega) fun C hC => ?_
      refine hk _ _ ⟨C, ss, _, _, rfl, e1.trans (e2.trans ((Ex.new hN).trans (Ex.new hC))), nn (Ex.new hN) hC, by rw [MH.upd_same]; simp, ?_, by omega, sn'⟩
      intro _ z
      rw [z] at c
      simp at c
  · rintro ρ' M1 ⟨D, ss, x3, x4, rfl, e1, nD, fD, ne, sl, sn'⟩
    simp
    exact h M1 D ss e1 nD fD (ne n0) (by omega) sn'
def gAnyEntry : FSp := fun vs M Q => ∃ b W n d r, WF W n d r ∧ 0 < d ∧ vs = [.ref b, W.pv] ∧ Bx M b ∧ ∀ M' e, Dr b M M' → EnOk n d e → Q e.pv M'
theorem b_any_entry (Φ : Fns) (h1 : Φ.fn "_law_take" = some gTake) (h2 : Φ.fn "_law_pick" = some gPick) (h3 : Φ.fn "_law_signs_of" = some gSignsOf) : ∀ vs M Q, gAnyEntry vs M Q → wpSs Φ m_law_any_entry (EndsP Q) (startP N_law_any_entry vs) M := by
  rintro _ M Q ⟨b, W, n, d, r, w, d0, rfl, hb, h⟩
  have n1 := w.n1
  have n0 := w.n0
  have d1 := w.d1
  unfold m_law_any_entry
  simp [startP, List.replicate, EndsP, h1, h2, h3, w.whose, w.rows]
  refine take_ok hb d0 (by omega) fun M1 x dr1 hx => ?_
  refine take_ok dr1.bx (by omega) (by omega) fun M2 u dr2 hu => ?_
  have dr := dr1.trans dr2
  simp
  split
  · refine take_ok dr2.bx n0 (by omega) fun M3 t dr3 ht => ⟨by decide, ?_⟩
    exact h M3 (.did x t) (dr.trans dr3) ⟨hx, ht⟩
  · refine ⟨by decide, fun A hA => ?_⟩
    have d3 := dr.new (mo := .lst [.str "let", .str "barred", .str "asked", .str "asked"]) hA
    refine pick_ok d3.bx (.inr ⟨A, dr2.bx.ne hA, rfl, MH.upd_same ..⟩) (by simp) (by simp) fun M4 y d4 hy => ?_
    obtain ⟨wd, rfl⟩ : ∃ wd : Wrd, y = .str wd.s := by
      simp at hy
      rcases hy with rfl | rfl | rfl
      · exact ⟨.lt, rfl⟩
      · exact ⟨.bar, rfl⟩
      · exact ⟨.ask, rfl⟩
    refine ⟨W, n, d, r, x, w, hx, rfl, fun M5 D ss e5 nD fD ne sl sn' => ?_⟩
    have d5 := (d3.trans d4).exr e5
    refine pick_ok d5.bx (.inr ⟨D, d4.bx.ne nD, rfl, fD⟩) (by simpa using ne) (by simp; omega) fun M6 z d6 hz => ⟨by decide, ?_⟩
    obtain ⟨s, hs, rfl⟩ := List.mem_map.mp hz
    exact h M6 (.say wd x s) (d5.trans d6) ⟨hx, sn' s hs⟩
def gLLetBehind : FSp := fun vs M Q => ∃ W n d r es, LW W n d r ∧ EsOk n d es ∧ vs = [W.pv, pes es] ∧ ∀ M', Ex M M' → Q (pll (letBehind W n d es)) M'
theorem strs_good {l : List Str} (h : ∀ y ∈ l, PyData.strOk y = true) : PV.goodsN (l.map PV.str) 7 = true := goodsN_mem.mpr fun x hx => by
  obtain ⟨u, hu, rfl⟩ := List.mem_map.mp hx
  exact h u hu
theorem b_law_let_behind (Φ : Fns) (h1 : Φ.fn "_law_said" = some gSentAt) : ∀ vs M Q, gLLetBehind vs M Q → wpSs Φ m_law_let_behind (EndsP Q) (startP N_law_let_behind vs) M := by
  rintro _ M Q ⟨W, n, d, r, es, lw, eo, rfl, h⟩
  have w := lw.wf
  have n1 := w.n1
  have d1 := w.d1
  have el := eo.len
  unfold m_law_let_behind
  simp [startP, List.replicate, EndsP, w.moves]
  intro A hA
  refine rngp (by unfold LIM; omega) ?_
  refine for_rng (fun i ρ' M' => ∃ x3 x4 x5 x6 x8, ρ' = [some W.pv, some (pes es), some (.ref A), x3, x4, x5, x6, none, x8] ∧ Ex M M' ∧ M' A = some (.lst ((List.range i).map fun b => pl (letRow W d es b)))) ⟨none, none, none, none, none, rfl, Ex.new hA, MH.upd_same ..⟩ ?_ ?_
  · rintro b ρ' M1 hb ⟨x3, x4, x5, x6, x8, rfl, e1, f1⟩
    refine cut_seq (fun ρ' M' => ∃ x5 x6 x8 L, ρ' = [some W.pv, some (pes es), some (.ref A), some (pn b), some (.ref L), x5, x6, none, x8] ∧ Ex M1 M' ∧ M1 L = none ∧ M' L = some (.lst [])) (fun k hk => ?_) ?_
    · simp
      exact fun L hL => hk _ _ ⟨_, _, _, L, rfl, Ex.new hL, hL, MH.upd_same ..⟩
    rintro _ M2 ⟨x5, x6, x8, L, rfl, e2, nL, fL⟩
    refine cut_seq (fun ρ' M' => ∃ x5 x6 x8 L, ρ' = [some W.pv, some (pes es), some (.ref A), some (pn b), some (.ref L), x5, x6, none, x8] ∧ Ex M1 M' ∧ M' L = some (.lst ((letRow W d es b).map pn))) (fun k hk => ?_) ?_
    · simp [w.whose]
      refine rngp (by unfold LIM; omega) ?_
      refine for_rng (fun j ρ' M' => ∃ x5 x6 x8 L, ρ' = [some W.pv, some (pes es), some (.ref A), some (pn b), some (.ref L), x5, x6, none, x8] ∧ Ex M1 M' ∧ M' L = some (.lst (((List.range j).filter (isLet W es b)).map pn))) ⟨_, _, _, L, rfl, e2, fL⟩ ?_ (fun ρ' M' hw => hk _ _ hw)
      clear hk fL nL e2 M2
      rintro x ρ' M2 hx ⟨x5, x6, x8, L, rfl, e2, fL⟩
      refine cut_seq (fun ρ' M' => ∃ U, ρ' = [some W.pv, some (pes es), some (.ref A), some (pn b), some (.ref L), some (pn x), some (.ref U), none, x8] ∧ Ex M2 M' ∧ M' U = some (.lst ((wordsOf W b x es).map fun w => .str w.s))) (fun k hk => ?_) ?_
      · simp
        rw [show pes es = .tup (es.map En.pv) from rfl, ex_tup]
        refine lc_map (fun e => (oneW W b x e).map fun w => .str w.s) (fun _ _ => trivial) (by unfold LIM; omega) (fun e M3 he hM3 KT KF kt kf => ?_) fun U M3 nU e3 hU => ?_
        · have inn : ∀ {y : Str} {k : Bool → Prop}, PyData.strOk y = true → cmpW .In (.str y) (.tup [.str "let", .str "barred"]) M3 k = k (decide (y ∈ (["let", "barred"] : List Str))) := fun {y k} hy =>
            in_strs (l := ["let", "barred"]) hy (by decide +kernel)
          cases e with
          | did x' t =>
            simp [En.pv]
            refine ⟨by decide, ?_⟩
            rw [inn (by decide +kernel)]
            have : decide (("did" : Str) ∈ (["let", "barred"] : List Str)) = false := by decide +kernel
            rw [this]
            exact kf _ (Fr.refl _ _) rfl
          | say wd x' s =>
            simp [En.pv, h1]
            refine ⟨by decide, ?_⟩
            rw [inn (wrd_ok wd)]
            have go : oneW W b x (.say wd x' s) = (if x' = x ∧ s = sgAt W b x then some wd else none) → (if true = true then gSentAt [W.pv, pn b, pn x] M3 fun y M4 => cmpW .Eq (.tup [pn x', pl s]) y M4 fun c => if c = true then KT (.str wd.s) M4 else KF M4 else KF M3) := fun ho => by
              simp only [if_true]
              refine ⟨W, n, d, r, b, x, w, hb, hx, rfl, fun M4 e4 => ?_⟩
              show cmpW .Eq (sn x' s) (sn x (sgAt W b x)) M4 _
              rw [eq_sn]
              by_cases c : x' = x ∧ s = sgAt W b x
              · simp only [c, and_self, decide_true, if_true]
                rw [if_pos c] at ho
                exact kt _ _ e4 (by rw [ho]; rfl)
              · simp only [c, decide_false, Bool.false_eq_true, if_false]
                rw [if_neg c] at ho
                exact kf _ e4 (by rw [ho]; rfl)
            cases wd with
            | ask =>
              have : decide (Wrd.ask.s ∈ (["let", "barred"] : List Str)) = false := by decide +kernel
              rw [this]
              exact kf _ (Fr.refl _ _) rfl
            | lt =>
              have : decide (Wrd.lt.s ∈ (["let", "barred"] : List Str)) = true := by decide +kernel
              rw [this]
              exact go rfl
            | bar =>
              have : decide (Wrd.bar.s ∈ (["let", "barred"] : List Str)) = true := by decide +kernel
              rw [this]
              exact go rfl
        · refine hk _ _ ⟨U, rfl, e3, ?_⟩
          rw [hU]
          unfold wordsOf
          rw [List.map_filterMap]
      rintro _ M3 ⟨U, rfl, e3, fU⟩
      have fL3 := e3.at fL
      have ug : PV.goodsN ((wordsOf W b x es).map fun w => PV.str w.s) 7 = true := goodsN_mem.mpr fun y hy => by
        obtain ⟨u, hu, rfl⟩ := List.mem_map.mp hy
        exact wrd_ok u
      refine cut_seq (fun ρ' M' => ∃ v, ρ' = [some W.pv, some (pes es), some (.ref A), some (pn b), some (.ref L), some (pn x), some (.ref U), none, some (.bl v)] ∧ Ex M3 M' ∧ (v && ((mv W b x).isSome || (wordsOf W b x es).isEmpty)) = isLet W es b x) (fun k hk => ?_) ?_
      · simp
        intro N hN
        rw [eq_nil (keep fU hN) (MH.upd_same ..) ug]
        cases q : wordsOf W b x es with
        | nil =>
          simp
          rw [ix_let lw.lets hb, in_natt]
          exact hk _ _ ⟨_, rfl, Ex.new hN, by simp [isLet, q]⟩
        | cons a l =>
          obtain ⟨m, z, hz⟩ : ∃ m z, a :: l = m ++ [z] := ⟨_, _, (List.dropLast_concat_getLast (List.cons_ne_nil a l)).symm⟩
          rw [q, hz] at fU
          simp only [List.map_append, List.map_singleton] at fU
          simp
          refine ix_lastl (keep fU hN) ?_
          rw [eq_str (wrd_ok z) (by decide +kernel)]
          refine hk _ _ ⟨_, rfl, Ex.new hN, ?_⟩
          unfold isLet
          rw [q, hz, List.getLast?_concat]
          have hne : (m ++ [z]).isEmpty = false := by cases m <;> rfl
          rw [hne]
          have k1 : (Wrd.lt.s == ("let" : Str)) = true := by decide +kernel
          have k2 : (Wrd.bar.s == ("let" : Str)) = false := by decide +kernel
          have k3 : (Wrd.ask.s == ("let" : Str)) = false := by decide +kernel
          cases z
          · rw [k1]; simp
          · rw [k2]; simp
          · rw [k3]; simp
      rintro _ M4 ⟨v, rfl, e4, hv⟩
      have fU4 := e4.at fU
      have fL4 := e4.at fL3
      have ex := e2.trans (e3.trans e4)
      have lln : ((List.range x).filter (isLet W es b)).length ≤ x := by
        have := List.length_filter_le (isLet W es b) (List.range x)
        simpa using this
      refine cut_last fun k hk => ?_
      have yes : isLet W es b x = true → ∀ M5, Ex M4 M5 → 1 ≤ LIM ∧ ∀ a, M5 a = none → binW .Add (.ref L) (.ref a) (M5.upd a (.lst [pn x])) fun y M6 => k [some W.pv, some (pes es), some (.ref A), some (pn b), some y, some (pn x), some (.ref U), none, some (.bl v)] M6 := fun hl M5 e5 => by
        refine ⟨by decide, fun N hN => add_refs (keep (e5.at fL4) hN) (MH.upd_same ..) (by simp; unfold LIM; omega) fun C hC => hk _ _ ⟨_, _, _, C, rfl, ex.trans (e5.trans ((Ex.new hN).trans (Ex.new hC))), ?_⟩⟩
        rw [MH.upd_same, List.range_succ, List.filter_append]
        simp [hl]
      have no : isLet W es b x = false → ∀ M5, Ex M4 M5 → ∀ a, M5 a = none → binW .Add (.ref L) (.ref a) (M5.upd a (.lst [])) fun y M6 => k [some W.pv, some (pes es), some (.ref A), some (pn b), some y, some (pn x), some (.ref U), none, some (.bl v)] M6 := fun hl M5 e5 => by
        refine fun N hN => add_refs (keep (e5.at fL4) hN) (MH.upd_same ..) (by simp; unfold LIM; omega) fun C hC => hk _ _ ⟨_, _, _, C, rfl, ex.trans (e5.trans ((Ex.new hN).trans (Ex.new hC))), ?_⟩
        rw [MH.upd_same, List.range_succ, List.filter_append]
        simp [hl]
      simp
      rw [ix_mv w hb hx]
      cases v with
      | false =>
        simp at hv ⊢
        exact no hv M4 (Fr.refl _ _)
      | true =>
        cases q : mv W b x with
        | some l =>
          simp [q] at hv ⊢
          exact yes hv M4 (Fr.refl _ _)
        | none =>
          simp [q] at hv ⊢
          intro N hN
          rw [eq_nil (keep fU4 hN) (MH.upd_same ..) ug]
          cases z : wordsOf W b x es with
          | nil =>
            simp [z] at hv ⊢
            exact yes hv _ (Ex.new hN)
          | cons a l =>
            simp [z] at hv ⊢
            exact no hv _ (Ex.new hN)
    rintro _ M2 ⟨x5, x6, x8, L, rfl, e2, fL⟩
    have rl := (letRow_asc (W := W) (d := d) (b := b) (es := es)).len
    simp [ty_app (e2.at f1), lstOf_lst fL]
    refine ⟨by unfold LIM; omega, mt_app (e2.at f1) (by simp; unfold LIM; omega) ⟨(e1.trans e2).over hA, ?_⟩⟩
    rw [MH.upd_same, List.range_succ]
    simp [pl]
  · rintro ρ' M1 ⟨x3, x4, x5, x6, x8, rfl, e1, f1⟩
    simp [lstOf_lst f1]
    have := h M1 e1
    rw [letBehind_pv] at this
    exact ⟨by unfold LIM; omega, this⟩
end K74
/-! K79i: what the law says of entries. -/
namespace K74
open PySem PL
theorem did_did : (("did" : Str) == ("did" : Str)) = true := by decide +kernel
theorem wrd_did (w : Wrd) : (w.s == ("did" : Str)) = false := by cases w <;> decide +kernel
theorem ok_did : PyData.strOk ("did" : Str) = true := by decide +kernel
theorem eq_wd {w : Wrd} {M : MH} {k : Bool → Prop} : cmpW .Eq (.str w.s) (.str "did") M k = k false := by rw [eq_str (wrd_ok w) ok_did, wrd_did]
theorem eq_dd {M : MH} {k : Bool → Prop} : cmpW .Eq (.str "did") (.str "did") M k = k true := by rw [eq_str ok_did ok_did, did_did]
theorem b_law_deeds_done (Φ : Fns) : ∀ vs M Q, gDeedsIn vs M Q → wpSs Φ m_law_deeds_done (EndsP Q) (startP N_law_deeds_done vs) M := by
  rintro _ M Q ⟨n, d, es, eo, rfl, h⟩
  have el := eo.len
  unfold m_law_deeds_done
  simp [startP, List.replicate, EndsP, pes]
  refine lc_mapT (fun e => match e with | .did d t => some (pp (d, t)) | _ => none) (fun _ _ => trivial) (by unfold LIM; omega) (fun e M1 he hM1 KT KF kt kf => ?_) fun M1 e1 => ?_
  · cases e with
    | did x t =>
      simp [En.pv, eq_dd]
      exact kt _ _ (Fr.refl _ _) rfl
    | say wd x s =>
      simp [En.pv, eq_wd]
      exact kf _ (Fr.refl _ _) rfl
  · have e : (es.filterMap fun e => match e with | .did d t => some (pp (d, t)) | _ => none) = (deedsOf es).map pp := by
      unfold deedsOf
      rw [List.map_filterMap]
      congr 1
      funext e
      cases e <;> rfl
    have hh := h M1 e1
    unfold plog at hh
    rw [← e] at hh
    exact hh
theorem b_law_board_behind (Φ : Fns) : ∀ vs M Q, gBoardNow vs M Q → wpSs Φ m_law_board_behind (EndsP Q) (startP N_law_board_behind vs) M := by
  rintro _ M Q ⟨n, d, es, eo, rfl, h⟩
  have el := eo.len
  unfold m_law_board_behind
  simp [startP, List.replicate, EndsP, pes]
  refine ⟨by decide, fun A hA => ?_⟩
  refine lc_map (fun e => match e with | .did d t => some (pn t) | _ => none) (fun _ _ => trivial) (by unfold LIM; omega) (fun e M1 he hM1 KT KF kt kf => ?_) fun D M1 nD e1 hD => ?_
  · cases e with
    | did x t =>
      simp [En.pv, eq_dd]
      exact kt _ _ (Fr.refl _ _) rfl
    | say wd x s =>
      simp [En.pv, eq_wd]
      exact kf _ (Fr.refl _ _) rfl
  · have e : (es.filterMap fun e => match e with | .did d t => some (pn t) | _ => none) = ((deedsOf es).map (·.2)).map pn := by
      unfold deedsOf
      rw [List.map_map, List.map_filterMap]
      congr 1
      funext e
      cases e <;> rfl
    have hD2 : M1 D = some (.lst (((deedsOf es).map (·.2)).map pn)) := by rw [hD, ← e] <;> rfl
    have dl := deeds_len (es := es)
    refine add_refs (e1.at (MH.upd_same ..)) hD2 (by simp; unfold LIM; omega) fun C hC => ?_
    have e3 : [pn 0] ++ ((deedsOf es).map (·.2)).map pn = (0 :: (deedsOf es).map (·.2)).map pn := rfl
    rw [e3, ix_lst (MH.upd_same ..), last_pl (by simp)]
    exact h _ ((Ex.new hA).trans (e1.trans (Ex.new hC)))
theorem sl_pes {es : List En} {i : Nat} {M : MH} {Q : WK} : slW (pes es) none (some (i : Int)) M Q = Q (pes (es.take i)) M := by
  show Q (.tup (cutL (es.map En.pv) none (some (i : Int)))) M = _
  rw [cut_to, ← List.map_take]; rfl
theorem ixl {lt : List (List Nat)} {n d b : Nat} {M : MH} {Q : WK} (hl : LetOk lt n d) (hb : b < n) (q : Q (pl (lrow lt b)) M) : ixW (pll lt) (pn b) M Q := by rw [ix_let hl hb]; exact q
theorem b_law_breach_here (Φ : Fns) (h1 : Φ.fn "_law_board_behind" = some gBoardNow) (h2 : Φ.fn "_law_let_behind" = some gLLetBehind) : ∀ vs M Q, gBreachAlong vs M Q → wpSs Φ m_law_breach_here (EndsP Q) (startP N_law_breach_here vs) M := by
  rintro _ M Q ⟨W, n, d, r, es, lw, eo, rfl, h⟩
  have w := lw.wf
  have el := eo.len
  have n1 := w.n1
  have d1 := w.d1
  unfold m_law_breach_here
  simp [startP, List.replicate, EndsP]
  rw [show pes es = .tup (es.map En.pv) from rfl, enum_tup, List.zipIdx_map, List.map_map]
  refine for_map (fun i ρ' M' => ∃ x2 x3 x4 x5 x6 x7, ρ' = [some W.pv, some (pes es), x2, x3, x4, x5, x6, x7] ∧ Ex M M' ∧ ∀ j < i, brAt W n d es j = .non) ⟨none, none, none, none, none, none, rfl, Fr.refl _ _, by simp⟩ ?_ ?_
  · rintro i z ρ' M2 hz ⟨x2, x3, x4, x5, x6, x7, rfl, e2, hn⟩
    refine ⟨trivial, ?_⟩
    obtain ⟨hi, z2, z1⟩ := zidx_get hz
    obtain ⟨e, i'⟩ := z
    simp at z1 z2
    subst z2
    have step : brAt W n d es i' = .non → ∀ j < i' + 1, brAt W n d es j = .non := fun hb j hj => by
      by_cases c : j = i'
      · rw [c]; exact hb
      · exact hn j (by omega)
    have hit : ∀ M3, Ex M M3 → isNone (brAt W n d es i') = false → Q (brAt W n d es i') M3 := fun M3 e3 hb => by
      have := h M3 e3
      unfold breach at this
      rw [firstP_hit (i := i') hn hb hi] at this
      exact this
    simp only [Function.comp_def, wp_tp, wp_tcons, wp_nm, wp_tnil]
    refine cut_last fun k hk => ?_
    cases e with
    | say wd x s =>
      refine ifs_false (fun M' => M2 = M') (fun K hK => ?_) fun M' e => ?_
      · simp [En.pv, eq_wd]
        exact hK _ rfl
      subst e
      exact hk _ _ ⟨_, _, _, _, _, _, rfl, e2, step (by simp [brAt, z1])⟩
    | did x t =>
      have ho := eo.ok _ (List.mem_of_getElem? z1)
      have hb := board_lt (d := d) w.n0 (es := es.take i') fun e he => eo.ok e (List.mem_of_mem_take he)
      have hx : x < W.whose.length := by rw [w.whose]; exact ho.1
      have hbr : brAt W n d es i' = consT i' (breachAt W (letBehind W n d (es.take i')) (boardNow (es.take i')) x t) := by simp [brAt, z1]
      refine ifs_true (fun M' => M2 = M') (fun K hK => ?_) fun M' e => ?_
      · simp [En.pv, eq_dd]
        exact hK _ rfl
      subst e
      refine cut_seq (fun ρ' M' => ρ' = [some W.pv, some (pes es), some (pn i'), some (.tup [.str "did", pn x, pn t]), some (pn (boardNow (es.take i'))), some (pn x), some (pn t), x7] ∧ Ex M M') (fun k2 hk2 => ?_) ?_
      · simp [En.pv, h1, sl_pes]
        exact ⟨n, d, es.take i', eo.take, rfl, fun M3 e3 => ⟨by decide, hk2 _ _ ⟨rfl, e2.trans e3⟩⟩⟩
      rintro _ M3 ⟨rfl, e3⟩
      refine cut_seq (fun ρ' M' => ρ' = [some W.pv, some (pes es), some (pn i'), some (.tup [.str "did", pn x, pn t]), some (pn (boardNow (es.take i'))), some (pn x), some (pn t), some (po (mv W (boardNow (es.take i')) x))] ∧ Ex M M') (fun k2 hk2 => ?_) ?_
      · simp
        rw [ix_mv w hb ho.1]
        exact hk2 _ _ ⟨rfl, e3⟩
      rintro _ M4 ⟨rfl, e4⟩
      unfold breachAt at hbr
      cases q : mv W (boardNow (es.take i')) x with
      | none =>
        refine cut_seq (fun _ _ => False) (fun k2 hk2 => ifs_true (fun M' => M4 = M') (fun K hK => ?_) fun M' e => ?_) (fun _ _ f => f.elim)
        · simp
          exact hK _ rfl
        subst e
        simp [q, consT, whoseOf] at hbr
        simp [pl, hx]
        simp [hx] at hbr
        have := hit M4 e4 (by rw [hbr]; rfl)
        rw [hbr] at this
        exact ⟨by decide, this⟩
      | some l =>
        rw [q] at hbr
        simp only at hbr
        refine cut_seq (fun ρ' M' => ρ' = [some W.pv, some (pes es), some (pn i'), some (.tup [.str "did", pn x, pn t]), some (pn (boardNow (es.take i'))), some (pn x), some (pn t), some (po (some l))] ∧ M4 = M') (fun k2 hk2 => ifs_false (fun M' => M4 = M') (fun K hK => ?_) fun M' e => ?_) ?_
        · simp
          exact hK _ rfl
        · subst e
          exact hk2 _ _ ⟨rfl, rfl⟩
        rintro _ _ ⟨rfl, rfl⟩
        have test : ∀ K : WK, (∀ M5, Ex M M5 → K (.bl (!decide (x ∈ lrow (letBehind W n d (es.take i')) (boardNow (es.take i'))))) M5) → wpE Φ (.cmp .NotIn (.var 5) (.ix (.call "_law_let_behind" (.cons (.var 0) (.cons (.sl (.var 1) .none (.some (.var 2))) .nil)) []) (.var 4))) [some W.pv, some (pes es), some (pn i'), some (.tup [.str "did", pn x, pn t]), some (pn (boardNow (es.take i'))), some (pn x), some (pn t), some (po (some l))] M4 K := fun K hK => by
          simp [h2, sl_pes]
          refine ⟨W, n, d, r, es.take i', lw, eo.take, rfl, fun M5 e5 => ?_⟩
          refine ixl (letBehind_ok (by omega)) hb ?_
          show cmpW .NotIn (pn x) (pl _) M5 _
          rw [notIn_natt]
          exact hK _ (e4.trans e5)
        by_cases c : x ∈ lrow (letBehind W n d (es.take i')) (boardNow (es.take i'))
        · refine cut_seq (fun ρ' M' => ρ' = [some W.pv, some (pes es), some (pn i'), some (.tup [.str "did", pn x, pn t]), some (pn (boardNow (es.take i'))), some (pn x), some (pn t), some (po (some l))] ∧ Ex M M') (fun k2 hk2 => ifs_false (fun M' => Ex M M') (fun K hK => test K fun M5 e5 => ?_) fun M' e => ?_) ?_
          · have := hK M5 e5
            simpa [c] using this
          · exact hk2 _ _ ⟨rfl, e⟩
          rintro _ M5 ⟨rfl, e5⟩
          have test2 : ∀ K : WK, K (.bl (!decide (t ∈ l))) M5 → wpE Φ (.cmp .NotIn (.var 6) (.var 7)) [some W.pv, some (pes es), some (pn i'), some (.tup [.str "did", pn x, pn t]), some (pn (boardNow (es.take i'))), some (pn x), some (pn t), some (po (some l))] M5 K := fun K hK => by
            simp
            show cmpW .NotIn (pn t) (pl l) M5 _
            rw [notIn_natt]
            exact hK
          simp only [c, if_true] at hbr
          by_cases c2 : t ∈ l
          · refine cut_last fun k2 hk2 => ifs_false (fun M' => M5 = M') (fun K hK => test2 K ?_) fun M' e => ?_
            · have := hK M5 rfl
              simpa [c2] using this
            subst e
            simp only [c2, if_true, consT] at hbr
            exact hk2 _ _ (hk _ _ ⟨_, _, _, _, _, _, rfl, e5, step hbr⟩)
          · refine cut_last fun k2 hk2 => ifs_true (fun M' => M5 = M') (fun K hK => test2 K ?_) fun M' e => ?_
            · have := hK M5 rfl
              simpa [c2] using this
            subst e
            simp only [c2, if_false, consT] at hbr
            simp
            have := hit M5 e5 (by rw [hbr]; rfl)
            rw [hbr] at this
            exact ⟨by decide, this⟩
        · refine cut_seq (fun _ _ => False) (fun k2 hk2 => ifs_true (fun M' => Ex M M') (fun K hK => test K fun M5 e5 => ?_) fun M5 e5 => ?_) (fun _ _ f => f.elim)
          · have := hK M5 e5
            simpa [c] using this
          simp only [c, if_false, consT, whoseOf] at hbr
          simp [pl, hx]
          simp [hx] at hbr
          have := hit M5 e5 (by rw [hbr]; rfl)
          rw [hbr] at this
          exact ⟨by decide, this⟩
  · rintro ρ' M2 ⟨x2, x3, x4, x5, x6, x7, rfl, e2, hn⟩
    refine ⟨trivial, ?_⟩
    simp at hn
    simp
    have := h M2 e2
    unfold breach at this
    rw [firstP_none hn] at this
    exact this
end K74
/-! K79j: harm as the law tells it. -/
namespace K74
open PySem PL
/-- a board that never may be, behind so many entries -/
def nvAt (W : Wd) (es : List En) (m : Nat) : Bool := nv W (boardNow (es.take m))
theorem nvAt_did {W : Wd} {es : List En} {m d t : Nat} (h : es[m]? = some (.did d t)) : nvAt W es (m + 1) = nv W t := by
  unfold nvAt
  rw [take_succ_at h, board_did]
theorem nvAt_say {W : Wd} {es : List En} {m d : Nat} {w : Wrd} {s : List Nat} (h : es[m]? = some (.say w d s)) : nvAt W es (m + 1) = nvAt W es m := by
  unfold nvAt
  rw [take_succ_at h, board_say]
theorem harmAt_iff {W : Wd} {es : List En} {m : Nat} (hm : m < es.length) (h : nvAt W es m = false) : nvAt W es (m + 1) = !isNone (harmAt W es m) := by
  have e := List.getElem?_eq_getElem hm
  cases c : es[m] with
  | did d t =>
    rw [c] at e
    rw [nvAt_did e]
    unfold harmAt
    rw [e]
    cases q : nv W t <;> simp [q]
  | say w d s =>
    rw [c] at e
    rw [nvAt_say e, h]
    unfold harmAt
    rw [e]
    rfl
theorem sub0 {a : Nat} {M : MH} {Q : WK} : binW .Sub (pn 0) (pn a) M Q = Q (.int (-(a : Int))) M := by
  show Q (.int (((0 : Nat) : Int) - a)) M = _
  congr 2
  omega
theorem harm_eq {W : Wd} {n d : Nat} {es : List En} : harm W n d es = match (List.range (es.length + 1)).filter (nvAt W es) with
    | m :: _ => .tup [pn m, .str "never"]
    | [] => if stuckB W (letBehind W n d es) (boardNow es) then .tup [pn es.length, .str "stuck"] else .non := by
  have h0 : nvAt W es 0 = nv W 0 := by simp [nvAt, boardNow, deedsOf]
  -- by the first one
  by_cases c : ∃ m ≤ es.length, nvAt W es m = true
  · obtain ⟨m, hm, hv, hf⟩ : ∃ m, m ≤ es.length ∧ nvAt W es m = true ∧ ∀ j < m, nvAt W es j = false := by
      obtain ⟨m, hm, hv⟩ := c
      induction m using Nat.strongRecOn with
      | ind m ih =>
        by_cases z : ∃ j < m, nvAt W es j = true
        · obtain ⟨j, hj, hv2⟩ := z
          exact ih j hj (by omega) hv2
        · exact ⟨m, hm, hv, fun j hj => by
            cases q : nvAt W es j with
            | false => rfl
            | true => exact absurd ⟨j, hj, q⟩ z⟩
    have hfil : (List.range (es.length + 1)).filter (nvAt W es) = m :: ((List.range (es.length + 1)).filter (nvAt W es)).tail := by
      have e : List.range (es.length + 1) = List.range m ++ (m :: (List.range' (m + 1) (es.length - m))) := by
        rw [List.range_eq_range', List.range_eq_range', show es.length + 1 = m + (1 + (es.length - m)) by omega, ← List.range'_append_1]
        congr 1
        rw [Nat.zero_add, Nat.add_comm 1, List.range'_succ]
      rw [e, List.filter_append]
      have : (List.range m).filter (nvAt W es) = [] := List.filter_eq_nil_iff.mpr fun j hj => by rw [hf j (List.mem_range.mp hj)]; simp
      rw [this, List.nil_append, List.filter_cons, hv]
      simp
    rw [hfil]
    unfold harm
    cases m with
    | zero =>
      rw [← h0, hv]
      simp
    | succ j =>
      have hj0 : nv W 0 = false := by rw [← h0]; exact hf 0 (by omega)
      have hh : firstP (harmAt W es) es.length = harmAt W es j := by
        refine firstP_hit (fun i hi => ?_) ?_ (by omega)
        · have := harmAt_iff (m := i) (W := W) (es := es) (by omega) (hf i (by omega))
          rw [hf (i + 1) (by omega)] at this
          exact isNone_eq (by simpa using this.symm)
        · have := harmAt_iff (m := j) (W := W) (es := es) (by omega) (hf j (by omega))
          rw [hv] at this
          simpa using this.symm
      have hn : isNone (harmAt W es j) = false := by
        have := harmAt_iff (m := j) (W := W) (es := es) (by omega) (hf j (by omega))
        rw [hv] at this
        simpa using this.symm
      rcases harmAt_shape (W := W) (es := es) (i := j) with e | e
      · rw [e] at hn; cases hn
      · rw [hj0, hh, e]
        simp
  · have hf : ∀ j ≤ es.length, nvAt W es j = false := fun j hj => by
      cases q : nvAt W es j with
      | false => rfl
      | true => exact absurd ⟨j, hj, q⟩ c
    have hfil : (List.range (es.length + 1)).filter (nvAt W es) = [] := List.filter_eq_nil_iff.mpr fun j hj => by
      rw [hf j (by have := List.mem_range.mp hj; omega)]; simp
    rw [hfil]
    unfold harm
    have hj0 : nv W 0 = false := by rw [← h0]; exact hf 0 (by omega)
    have hh : firstP (harmAt W es) es.length = .non := firstP_none fun i hi => by
      have := harmAt_iff (m := i) (W := W) (es := es) hi (hf i (by omega))
      rw [hf (i + 1) (by omega)] at this
      exact isNone_eq (by simpa using this.symm)
    rw [hj0, hh]
    simp
theorem b_law_harm_here (Φ : Fns) (h1 : Φ.fn "_law_board_behind" = some gBoardNow) (h2 : Φ.fn "_law_let_behind" = some gLLetBehind) (h3 : Φ.fn "_law_is_stuck" = some gIsStuck) : ∀ vs M Q, gHarmAlong vs M Q → wpSs Φ m_law_harm_here (EndsP Q) (startP N_law_harm_here vs) M := by
  rintro _ M Q ⟨W, n, d, r, es, lw, eo, rfl, h⟩
  have w := lw.wf
  have el := eo.len
  have n1 := w.n1
  have d1 := w.d1
  rw [harm_eq] at h
  unfold m_law_harm_here
  simp only [startP, List.replicate, EndsP]
  refine cut_seq (fun ρ' M' => ∃ L, ρ' = [some W.pv, some (pes es), some (.ref L), none] ∧ Ex M M' ∧ M' L = some (.lst (((List.range (es.length + 1)).filter (nvAt W es)).map pn))) (fun k hk => ?_) ?_
  · simp
    rw [show pes es = .tup (es.map En.pv) from rfl]
    simp
    refine rngp (by unfold LIM; omega) ?_
    rw [show (PV.tup (es.map En.pv)) = pes es from rfl]
    refine lc_map (fun m => if nvAt W es m then some (pn m) else none) (fun _ _ => trivial) (by simp; unfold LIM; omega) (fun m M1 hm hM1 KT KF kt kf => ?_) fun L M1 nL e1 hL => ?_
    · simp [h1, sl_pes]
      refine ⟨n, d, es.take m, eo.take, rfl, fun M2 e2 => ?_⟩
      have hb := board_lt (d := d) w.n0 (es := es.take m) fun e he => eo.ok e (List.mem_of_mem_take he)
      have hx : boardNow (es.take m) < W.never.length := by rw [w.never]; exact hb
      simp [pbs, hx]
      have e : nvAt W es m = W.never[boardNow (es.take m)] := by simp [nvAt, nv, hx]
      cases c : W.never[boardNow (es.take m)] with
      | true =>
        simp
        exact kt _ _ e2 (by rw [e, c]; rfl)
      | false =>
        simp
        exact kf _ e2 (by rw [e, c]; rfl)
    · rw [fmp] at hL
      exact hk _ _ ⟨L, rfl, e1, hL⟩
  rintro _ M1 ⟨L, rfl, e1, fL⟩
  cases q : (List.range (es.length + 1)).filter (nvAt W es) with
  | cons m l =>
    rw [q] at fL h
    refine cut_seq (fun _ _ => False) (fun k hk => ifs_true (fun M' => Ex M1 M') (fun K hK => ?_) fun M2 e2 => ?_) (fun _ _ f => f.elim)
    · simp
      intro N hN
      rw [ne_nil (keep fL hN) (MH.upd_same ..) goods_pn]
      exact hK _ (Ex.new hN)
    · simp
      rw [ix_lstN (e2.at fL)]
      simp
      exact ⟨by decide, h M2 (e1.trans e2)⟩
  | nil =>
    rw [q] at fL h
    refine cut_seq (fun ρ' M' => ρ' = [some W.pv, some (pes es), some (.ref L), none] ∧ Ex M M') (fun k hk => ifs_false (fun M' => Ex M1 M') (fun K hK => ?_) fun M2 e2 => ?_) ?_
    · simp
      intro N hN
      rw [ne_nil (keep fL hN) (MH.upd_same ..) goods_pn]
      exact hK _ (Ex.new hN)
    · exact hk _ _ ⟨rfl, e1.trans e2⟩
    rintro _ M2 ⟨rfl, e2⟩
    have hb := board_lt (d := d) w.n0 eo.ok
    simp [h1, h2, h3]
    refine ⟨W, n, d, r, es, lw, eo, rfl, fun M3 e3 => ⟨n, d, es, eo, rfl, fun M4 e4 => ⟨W, _, n, d, r, _, w, letBehind_ok (by omega), hb, rfl, fun M5 e5 => ?_⟩⟩⟩
    have hh := h M5 (e2.trans (e3.trans (e4.trans e5)))
    simp only at hh
    simp
    cases c : stuckB W (letBehind W n d es) (boardNow es) with
    | true =>
      simp [c, pes] at hh ⊢
      exact ⟨by decide, hh⟩
    | false =>
      simp [c] at hh ⊢
      exact hh
theorem b_law_whose_here (Φ : Fns) (h1 : Φ.fn "_law_harm_here" = some gHarmAlong) (h2 : Φ.fn "_law_breach_here" = some gBreachAlong) : ∀ vs M Q, gWhoseAlong vs M Q → wpSs Φ m_law_whose_here (EndsP Q) (startP N_law_whose_here vs) M := by
  rintro _ M Q ⟨W, n, d, r, es, lw, eo, rfl, h⟩
  unfold m_law_whose_here
  simp only [startP, List.replicate, EndsP]
  refine cut_seq (fun ρ' M' => ρ' = [some W.pv, some (pes es), some (harm W n d es), some (breach W n d es)] ∧ Ex M M') (fun k hk => ?_) ?_
  · simp [h1, h2]
    exact ⟨W, n, d, r, es, lw, eo, rfl, fun M1 e1 => ⟨W, n, d, r, es, lw, eo, rfl, fun M2 e2 => ⟨by decide, hk _ _ ⟨rfl, e1.trans e2⟩⟩⟩⟩
  rintro _ M2 ⟨rfl, e2⟩
  have hh := h M2 e2
  rcases harm_shape (W := W) (n := n) (d := d) (es := es) with e | ⟨p, s, e, _⟩
  · rw [e] at hh ⊢
    simp
    exact hh
  · rcases breach_shape (W := W) (n := n) (d := d) (es := es) with e2 | ⟨p2, s2, w2, e2, _⟩
    · rw [e, e2] at hh ⊢
      simp [sub0]
      exact hh
    · rw [e, e2] at hh ⊢
      simp
      have hh : Q (if (p2 : Int) < (p : Int) then .int w2 else .int (-2)) M2 := hh
      rw [sub0]
      by_cases c : p2 < p
      · simp [c] at hh ⊢
        exact hh
      · simp [c] at hh ⊢
        exact hh
end K74
/-! K79k: the law. -/
namespace K74
open PySem PySem.Spec PySem.W PyProof.Rows L2 PL
structure Fn79 (Φ : Fns) : Prop where
  giver : Φ.fn "_law_giver" = some gGiver
  lets_along : Φ.fn "lets_along" = some gLetsAlong
  let_now : Φ.fn "let_now" = some gLetNow
  breach_along : Φ.fn "breach_along" = some gBreachAlong
  whose_along : Φ.fn "whose_along" = some gWhoseAlong
  harm_along : Φ.fn "harm_along" = some gHarmAlong
  board_now : Φ.fn "board_now" = some gBoardNow
  deeds_in : Φ.fn "deeds_in" = some gDeedsIn
  same : Φ.fn "_law_same" = some (gSameV 8)
  box : Φ.fn "_law_box" = some gBox
  signed : Φ.fn "_law_signed" = some gSigned
  good_world : Φ.fn "_law_good_world" = some gGoodWorld
  any_entry : Φ.fn "_law_any_entry" = some gAnyEntry
  take : Φ.fn "_law_take" = some gTake
  pick : Φ.fn "_law_pick" = some gPick
  log_drawn : Φ.fn "_law_log_drawn" = some gLogDrawn
  let_behind : Φ.fn "_law_let_behind" = some gLLetBehind
  deeds_done : Φ.fn "_law_deeds_done" = some gDeedsIn
  board_behind : Φ.fn "_law_board_behind" = some gBoardNow
  breach_here : Φ.fn "_law_breach_here" = some gBreachAlong
  harm_here : Φ.fn "_law_harm_here" = some gHarmAlong
  whose_here : Φ.fn "_law_whose_here" = some gWhoseAlong
  signs_of : Φ.fn "_law_signs_of" = some gSignsOf
def eB : En := .say .bar 1 []
def eD : En := .did 1 2
theorem lw_giver : LW Wg 3 2 1 := ⟨wf_giver, let_giver, by decide⟩
theorem es_ok {n d : Nat} {es : List En} (h1 : es.length ≤ 60) (h2 : ∀ e ∈ es, EnOk n d e) : EsOk n d es := ⟨h1, h2⟩
theorem eB_ok : EnOk 3 2 eB := ⟨by decide, by decide⟩
theorem eD_ok : EnOk 3 2 eD := ⟨by decide, by decide⟩
theorem ok2 {n d : Nat} {e f : En} (h1 : EnOk n d e) (h2 : EnOk n d f) : EsOk n d [e, f] := ⟨by simp, fun x hx => by
  simp at hx
  rcases hx with rfl | rfl
  · exact h1
  · exact h2⟩
theorem ok1 {n d : Nat} {e : En} (h1 : EnOk n d e) : EsOk n d [e] := ⟨by simp, fun x hx => by rw [List.mem_singleton.mp hx]; exact h1⟩
def heard79 : PV := .tup [.tup [pll Wg.lets, pll [[0], [], []], pll [[0], [], []]], .tup [pn 1, .str "let", pn 1], .non, pn 1, .int (-2), .tup [pn 2, .str "never"], .tup [pn 2, .str "stuck"], pll Wg.lets, pn 0, .tup [.tup [pn 1, pn 2]]]
theorem h79a : letsPV Wg 3 2 [eB, eD] = .tup [pll Wg.lets, pll [[0], [], []], pll [[0], [], []]] := by kernel_rfl
theorem h79b : breach Wg 3 2 [eB, eD] = .tup [pn 1, .str "let", pn 1] := by kernel_rfl
theorem h79c : breach Wg 3 2 [eD, eB] = .non := by kernel_rfl
theorem h79d : whoseIt (harm Wg 3 2 [eB, eD]) (breach Wg 3 2 [eB, eD]) = pn 1 := by kernel_rfl
theorem h79e : whoseIt (harm Wg 3 2 [eD, eB]) (breach Wg 3 2 [eD, eB]) = .int (-2) := by kernel_rfl
theorem h79f : harm Wg 3 2 [eB, eD] = .tup [pn 2, .str "never"] := by kernel_rfl
theorem h79g : harm Wg 3 2 [eB, .say .bar 0 [0]] = .tup [pn 2, .str "stuck"] := by kernel_rfl
theorem h79h : letBehind Wg 3 2 [.say .lt 0 [2], .say .bar 0 [1]] = Wg.lets := by kernel_rfl
theorem h79i : boardNow [eB] = 0 := by kernel_rfl
theorem h79j : deedsOf [eD, eB] = [(1, 2)] := by kernel_rfl
theorem take_sub {es : List En} {n d m : Nat} (h : ∀ e ∈ es, EnOk n d e) : ∀ e ∈ es.take m, EnOk n d e := fun e he => h e (List.mem_of_mem_take he)
/-- one entry more, and none does wrong by it -/
theorem breach_say {W : Wd} {n d x : Nat} {es : List En} {w : Wrd} {s : List Nat} : breach W n d (es ++ [.say w x s]) = breach W n d es := by
  have e : ∀ j < es.length, brAt W n d (es ++ [.say w x s]) j = brAt W n d es j := fun j hj => by
    unfold brAt
    rw [List.getElem?_append_left hj, List.take_append_of_le_length (by omega)]
  unfold breach
  rw [List.length_append]
  show firstP _ (es.length + 1) = _
  rw [firstP, firstP_congr e]
  have l : brAt W n d (es ++ [.say w x s]) es.length = .non := by simp [brAt]
  rw [l]
  split
  · rename_i h
    exact (isNone_eq h).symm
  · rfl
theorem VT_breach {W : Wd} {n d k : Nat} {es : List En} : VT (k + 1) (breach W n d es) := by
  rcases breach_shape (W := W) (n := n) (d := d) (es := es) with e | ⟨p, s, w, e, h⟩
  · rw [e]; exact VT_non
  · rw [e]; exact VT_tup (show 3 < LIM by decide) (VT_cons VT_pn (VT_cons (VT_str h) (VT_cons VT_int VT_nil)))
theorem VT_harm {W : Wd} {n d k : Nat} {es : List En} : VT (k + 1) (harm W n d es) := by
  rcases harm_shape (W := W) (n := n) (d := d) (es := es) with e | ⟨p, s, e, h⟩
  · rw [e]; exact VT_non
  · rw [e]; exact VT_tup (show 2 < LIM by decide) (VT_cons VT_pn (VT_cons (VT_str h) VT_nil))
theorem VT_whose {W : Wd} {n d k : Nat} {es : List En} : VT k (whoseIt (harm W n d es) (breach W n d es)) := by
  rcases harm_shape (W := W) (n := n) (d := d) (es := es) with e | ⟨p, s, e, h⟩
  · rw [e]; exact VT_non
  · rcases breach_shape (W := W) (n := n) (d := d) (es := es) with e2 | ⟨p2, s2, w2, e2, h2⟩
    · rw [e, e2]; exact VT_int
    · rw [e, e2]
      show VT k (if (p2 : Int) < (p : Int) then .int w2 else .int (-2))
      split <;> exact VT_int
theorem VT_log {k : Nat} {l : List (Nat × Nat)} (h : l.length < LIM) : VT (k + 2) (plog l) := VT_tup (by simpa using h) fun x hx => by
  obtain ⟨u, _, rfl⟩ := List.mem_map.mp hx
  exact VT_tup (show 2 < LIM by decide) (VT_cons VT_pn (VT_cons VT_pn VT_nil))
theorem VT_letB {W : Wd} {n d k : Nat} {es : List En} (hn : n ≤ 100) (hd : d ≤ 100) : VT (k + 2) (pll (letBehind W n d es)) := VT_pll (by simp [letBehind]; unfold LIM; omega) fun q hq => by
  have := ((letBehind_ok (W := W) (n := n) (es := es) hd).row q hq).1
  unfold LIM; omega
theorem VT_lets {W : Wd} {n d k : Nat} {es : List En} (hn : n ≤ 100) (hd : d ≤ 100) (hl : es.length ≤ 100) : VT (k + 3) (letsPV W n d es) := VT_tup (by simp [letsL]; unfold LIM; omega) fun x hx => by
  obtain ⟨i, _, rfl⟩ := List.mem_map.mp hx
  exact VT_letB hn hd
theorem b_law79 (Φ : Fns) (F : Fn79 Φ) (a : Addr) (ns : List Int) (hn : ns.length ≤ 63) : wpSs Φ m_law_k79 (EndsP fun v _ => v = .bl true) (startP N_law_k79 [.ref a]) (fun b => if b = a then some (.rol (ns.map PV.int)) else none) := by
  have ha : (fun b => if b = a then some (MO.rol (ns.map PV.int)) else none : MH) a = some (.rol (ns.map PV.int)) := by simp
  generalize (fun b => if b = a then some (MO.rol (ns.map PV.int)) else none : MH) = M at ha
  unfold m_law_k79
  simp only [startP, List.replicate, EndsP]
  refine cut_seq (fun ρ' M' => ρ' = [some (.ref a), some Wg.pv, some eB.pv, some eD.pv, none, none, none, none, none, none, none, none, none, none, none, none, none, none, none, none, none] ∧ Ex M M') (fun k hk => ?_) ?_
  · simp [F.giver]
    refine ⟨rfl, ?_⟩
    repeat (refine ⟨by decide, ?_⟩)
    exact hk _ _ ⟨rfl, Fr.refl _ _⟩
  rintro _ M1 ⟨rfl, e1⟩
  refine cut_seq (fun ρ' M' => ρ' = [some (.ref a), some Wg.pv, some eB.pv, some eD.pv, some (pll Wg.lets), some (pll [[0], [], []]), none, none, none, none, none, none, none, none, none, none, none, none, none, none, none] ∧ Ex M M') (fun k hk => ?_) ?_
  · simp
    repeat (refine ⟨by decide, ?_⟩)
    exact hk _ _ ⟨rfl, e1⟩
  clear e1 M1
  rintro _ M1 ⟨rfl, e1⟩
  refine cut_seq (fun ρ' M' => ∃ p, ρ' = [some (.ref a), some Wg.pv, some eB.pv, some eD.pv, some (pll Wg.lets), some (pll [[0], [], []]), some p, none, none, none, none, none, none, none, none, none, none, none, none, none, none] ∧ Ex M M' ∧ p = .tup [letsPV Wg 3 2 [eB, eD], breach Wg 3 2 [eB, eD], breach Wg 3 2 [eD, eB], whoseIt (harm Wg 3 2 [eB, eD]) (breach Wg 3 2 [eB, eD]), whoseIt (harm Wg 3 2 [eD, eB]) (breach Wg 3 2 [eD, eB])]) (fun k hk => ?_) ?_
  · simp [F.lets_along, F.breach_along, F.whose_along]
    refine ⟨by decide, Wg, 3, 2, 1, _, lw_giver, ok2 eB_ok eD_ok, rfl, fun M2 e2 => ?_⟩
    refine ⟨by decide, Wg, 3, 2, 1, _, lw_giver, ok2 eB_ok eD_ok, rfl, fun M3 e3 => ?_⟩
    refine ⟨by decide, Wg, 3, 2, 1, _, lw_giver, ok2 eD_ok eB_ok, rfl, fun M4 e4 => ?_⟩
    refine ⟨by decide, Wg, 3, 2, 1, _, lw_giver, ok2 eB_ok eD_ok, rfl, fun M5 e5 => ?_⟩
    refine ⟨by decide, Wg, 3, 2, 1, _, lw_giver, ok2 eD_ok eB_ok, rfl, fun M6 e6 => ⟨by decide, hk _ _ ⟨_, rfl, ?_, rfl⟩⟩⟩
    exact e1.trans (e2.trans (e3.trans (e4.trans (e5.trans e6))))
  clear e1 M1
  rintro _ M1 ⟨p, rfl, e1, rfl⟩
  rw [h79a, h79d, h79e, h79b, h79c]
  refine cut_seq (fun ρ' M' => ∃ p, ρ' = [some (.ref a), some Wg.pv, some eB.pv, some eD.pv, some (pll Wg.lets), some (pll [[0], [], []]), some p, none, none, none, none, none, none, none, none, none, none, none, none, none, none] ∧ Ex M M' ∧ p = .tup [.tup [pll Wg.lets, pll [[0], [], []], pll [[0], [], []]], .tup [pn 1, .str "let", pn 1], .non, pn 1, .int (-2), .tup [pn 2, .str "never"], .tup [pn 2, .str "stuck"], pll Wg.lets]) (fun k hk => ?_) ?_
  · simp [F.harm_along, F.let_now]
    refine ⟨by decide, Wg, 3, 2, 1, _, lw_giver, ok2 eB_ok eD_ok, rfl, fun M2 e2 => ?_⟩
    refine ⟨by decide, by decide, by decide, Wg, 3, 2, 1, [eB, .say .bar 0 [0]], lw_giver, ok2 eB_ok ⟨by decide, by decide⟩, rfl, fun M3 e3 => ?_⟩
    refine ⟨by decide, by decide, by decide, by decide, by decide, Wg, 3, 2, 1, [.say .lt 0 [2], .say .bar 0 [1]], lw_giver, ok2 ⟨by decide, by decide⟩ ⟨by decide, by decide⟩, rfl, fun M4 e4 => ⟨by decide, by decide, hk _ _ ⟨_, rfl, e1.trans (e2.trans (e3.trans e4)), ?_⟩⟩⟩
    rw [h79f, h79g, h79h]
  clear e1 M1
  rintro _ M1 ⟨p, rfl, e1, rfl⟩
  refine cut_seq (fun ρ' M' => ∃ p, ρ' = [some (.ref a), some Wg.pv, some eB.pv, some eD.pv, some (pll Wg.lets), some (pll [[0], [], []]), some p, none, none, none, none, none, none, none, none, none, none, none, none, none, none] ∧ Ex M M' ∧ p = heard79) (fun k hk => ?_) ?_
  · simp [F.board_now, F.deeds_in]
    refine ⟨by decide, 3, 2, [eB], ok1 eB_ok, rfl, fun M2 e2 => ?_⟩
    refine ⟨by decide, 3, 2, [eD, eB], ok2 eD_ok eB_ok, rfl, fun M3 e3 => ⟨by decide, by decide, hk _ _ ⟨_, rfl, e1.trans (e2.trans e3), ?_⟩⟩⟩
    rw [h79i, h79j]
    rfl
  clear e1 M1
  rintro _ M1 ⟨p, rfl, e1, rfl⟩
  refine cut_seq (fun ρ' M' => ∃ p, ρ' = [some (.ref a), some Wg.pv, some eB.pv, some eD.pv, some (pll Wg.lets), some (pll [[0], [], []]), some p, none, none, none, none, none, none, none, none, none, none, none, none, none, none] ∧ Ex M M') (fun k hk => ifs_false (fun M' => Ex M M') (fun K hK => ?_) fun M' e => hk _ _ ⟨_, rfl, e⟩) ?_
  · simp [F.same]
    repeat (refine ⟨by decide, ?_⟩)
    refine ⟨heard79, VT_of (by decide +kernel), rfl, fun M2 e2 => ?_⟩
    simp
    exact hK _ (e1.trans e2)
  clear e1 M1
  rintro _ M1 ⟨p, rfl, e1⟩
  refine cut_seq (fun ρ' M' => ∃ (x6 x7 x8 x9 x10 x11 x12 x13 x14 x15 x16 x17 x18 x19 x20 : Option PV), ρ' = [some (.ref a), some Wg.pv, some eB.pv, some eD.pv, some (pll Wg.lets), some (pll [[0], [], []]), x6, x7, x8, x9, x10, x11, x12, x13, x14, x15, x16, x17, x18, x19, x20]) (fun k hk => ?_) ?_
  · simp [len_rol (e1.at ha)]
    refine rngp (by unfold LIM; omega) ?_
    refine for_rng (fun i ρ' M' => ∃ (x6 x7 x8 x9 x10 x11 x12 x13 x14 x15 x16 x17 x18 x19 x20 : Option PV), ρ' = [some (.ref a), some Wg.pv, some eB.pv, some eD.pv, some (pll Wg.lets), some (pll [[0], [], []]), x6, x7, x8, x9, x10, x11, x12, x13, x14, x15, x16, x17, x18, x19, x20] ∧ Ex M M') ⟨_, _, _, _, _, _, _, _, _, _, _, _, _, _, _, rfl, e1⟩ ?_ ?_
    · clear e1 M1
      rintro i _ M2 hi ⟨x6, x7, x8, x9, x10, x11, x12, x13, x14, x15, x16, x17, x18, x19, x20, rfl, e2⟩
      refine cut_seq (fun ρ' M' => ∃ b, ρ' = [some (.ref a), some Wg.pv, some eB.pv, some eD.pv, some (pll Wg.lets), some (pll [[0], [], []]), x6, some (pn i), some (.ref b), x9, x10, x11, x12, x13, x14, x15, x16, x17, x18, x19, x20] ∧ Ex M M' ∧ M b = none ∧ Bx M' b) (fun k hk => ?_) ?_
      · simp [F.box]
        refine ⟨a, ns, i, rfl, e2.at ha, hn, by omega, fun M3 b e3 nb bx => hk _ _ ⟨b, rfl, e2.trans e3, ?_, bx⟩⟩
        cases q : M b with
        | none => rfl
        | some mo => rw [e2.at q] at nb; cases nb
      rintro _ M3 ⟨b, rfl, e3, nb, bx3⟩
      have exd : ∀ {M4 M5}, Ex M M4 → Dr b M4 M5 → Ex M M5 := fun e d x mo h hx => d.fr x mo (by simp; exact fun z => by rw [z, nb] at hx; cases hx) (e.at hx)
      refine cut_seq (fun ρ' M' => ∃ W n d, ρ' = [some (.ref a), some Wg.pv, some eB.pv, some eD.pv, some (pll Wg.lets), some (pll [[0], [], []]), x6, some (pn i), some (.ref b), some W.pv, x10, x11, x12, x13, x14, x15, x16, x17, x18, x19, x20] ∧ Ex M M' ∧ Bx M' b ∧ SW W n d ∧ LW W n d 3) (fun k hk => ?_) ?_
      · simp [F.good_world, F.signed]
        refine ⟨b, 8, rfl, by decide, by decide, bx3, fun M4 W n d lt d4 t hn8 hl hq => ?_⟩
        simp
        refine ⟨b, W, n, d, 1, t.wf, by have := t.s3; omega, rfl, d4.bx, fun M5 sees d5 hl hs => ?_⟩
        have sw := SW.of t (by omega) hl hs
        exact hk _ _ ⟨_, n, d, rfl, exd e3 (d4.trans d5), d5.bx, sw, ⟨sw.wf, t.lets, t.letasc⟩⟩
      rintro _ M4 ⟨W, n, d, rfl, e4, bx4, sw, lw⟩
      have w := lw.wf
      have n9 := sw.n9
      have d5 := sw.d5
      have d2 := sw.d2
      have n0 := w.n0
      refine cut_last fun k hk => ?_
      simp only [wp_fors, wp_irng, wp_cons, wp_nil, wp_c, int_lit]
      refine rngp (by decide) ?_
      refine for_rng (fun j ρ' M' => ∃ (x10 x11 x12 x13 x14 x15 x16 x17 x18 x19 x20 : Option PV), ρ' = [some (.ref a), some Wg.pv, some eB.pv, some eD.pv, some (pll Wg.lets), some (pll [[0], [], []]), x6, some (pn i), some (.ref b), some W.pv, x10, x11, x12, x13, x14, x15, x16, x17, x18, x19, x20] ∧ Ex M M' ∧ Bx M' b) ⟨_, _, _, _, _, _, _, _, _, _, _, rfl, e4, bx4⟩ ?_ (fun ρ' M' ⟨_, _, _, _, _, _, _, _, _, _, _, e, h1, h2⟩ => hk _ _ ⟨_, _, _, _, _, _, _, _, _, _, _, _, _, _, _, e, h1⟩)
      clear hk e4 bx4 M4 e3 bx3 M3 e2 M2
      rintro j _ M2 hj ⟨x10, x11, x12, x13, x14, x15, x16, x17, x18, x19, x20, rfl, e2, bx2⟩
      refine cut_seq (fun ρ' M' => ∃ es, ρ' = [some (.ref a), some Wg.pv, some eB.pv, some eD.pv, some (pll Wg.lets), some (pll [[0], [], []]), x6, some (pn i), some (.ref b), some W.pv, some (pn j), some (pes es), x12, x13, x14, x15, x16, x17, x18, x19, x20] ∧ Ex M M' ∧ Bx M' b ∧ EsOk n d es ∧ es.length ≤ 10) (fun k hk => ?_) ?_
      · simp [F.any_entry, F.take]
        refine take_ok bx2 (by decide) (by decide) fun M3 u d3 hu => ?_
        simp
        refine rngp (by unfold LIM; omega) ?_
        refine lc_drrT (fun i acc => ∃ es : List En, acc = es.map En.pv ∧ es.length = i ∧ ∀ e ∈ es, EnOk n d e) d3.bx (by unfold LIM; omega) ⟨[], rfl, rfl, by simp⟩ (fun i acc M4 hi hR d4 KT KF kt kf => ?_) fun M4 acc d4 al hR => ?_
        · obtain ⟨es, rfl, esl, eo⟩ := hR
          simp [F.any_entry]
          refine ⟨b, W, n, d, 3, w, by omega, rfl, d4.bx, fun M5 e d5 he => kt _ _ d5 ⟨es ++ [e], by simp, by simp [esl], fun y hy => ?_⟩⟩
          rcases List.mem_append.mp hy with q | q
          · exact eo y q
          · rw [List.mem_singleton.mp q]; exact he
        · obtain ⟨es, rfl, esl, eo⟩ := hR
          exact hk _ _ ⟨es, rfl, exd e2 (d3.trans d4), d4.bx, ⟨by omega, eo⟩, by omega⟩
      clear e2 bx2 M2
      rintro _ M2 ⟨es, rfl, e2, bx2, eo, el⟩
      refine cut_seq (fun ρ' M' => ∃ es x13, ρ' = [some (.ref a), some Wg.pv, some eB.pv, some eD.pv, some (pll Wg.lets), some (pll [[0], [], []]), x6, some (pn i), some (.ref b), some W.pv, some (pn j), some (pes es), x12, x13, x14, x15, x16, x17, x18, x19, x20] ∧ Ex M M' ∧ Bx M' b ∧ EsOk n d es ∧ es.length ≤ 20) (fun k hk => ?_) ?_
      · rw [wp_ifs]
        refine cut_e (fun v M' => ∃ c, v = .bl c ∧ Dr b M2 M') (fun K hK => ?_) ?_
        · simp [F.take]
          refine take_ok bx2 (by decide) (by decide) fun M3 u d3 hu => ?_
          simp
          exact hK _ _ ⟨_, rfl, d3⟩
        rintro _ M3 ⟨c, rfl, d3⟩
        simp only [onB_bl]
        split
        · refine cut_seq (fun ρ' M' => ∃ log, ρ' = [some (.ref a), some Wg.pv, some eB.pv, some eD.pv, some (pll Wg.lets), some (pll [[0], [], []]), x6, some (pn i), some (.ref b), some W.pv, some (pn j), some (pes es), x12, some (plog log), x14, x15, x16, x17, x18, x19, x20] ∧ Ex M M' ∧ Bx M' b ∧ LogOk log n d ∧ log.length ≤ 8) (fun k2 hk2 => ?_) ?_
          · simp [F.log_drawn]
            refine ⟨b, W, n, d, 3, W.lets, 8, w, lw.lets, by omega, sw.lne, by decide, rfl, d3.bx, fun M4 log d4 lo ll => hk2 _ _ ⟨log, rfl, exd e2 (d3.trans d4), d4.bx, lo, ll⟩⟩
          rintro _ M4 ⟨log, rfl, e4, bx4, lo, ll⟩
          refine cut_last fun k2 hk2 => ?_
          simp
          rw [show plog log = .tup (log.map pp) from rfl, ex_tup]
          refine lc_mapT (fun x => some (En.did x.1 x.2).pv) (fun _ _ => trivial) (by unfold LIM; omega) (fun x M5 hx hM5 KT KF kt kf => ?_) fun M5 e5 => ?_
          · simp [pp]
            exact ⟨by decide, by decide, kt _ _ (Fr.refl _ _) rfl⟩
          · rw [show pes es = .tup (es.map En.pv) from rfl]
            simp
            have c3 : cutL (es.map En.pv) none (some 3) = (es.take 3).map En.pv := by rw [show (3 : Int) = ((3 : Nat) : Int) from rfl, cut_to, List.map_take]
            rw [c3]
            refine ⟨by simp; unfold LIM; omega, ?_⟩
            have e6 : log.map (fun x => (En.did x.1 x.2).pv) ++ (es.take 3).map En.pv = (log.map (fun x => En.did x.1 x.2) ++ es.take 3).map En.pv := by simp [Function.comp_def]
            rw [e6]
            refine hk2 _ _ (hk _ _ ⟨_, _, rfl, e4.trans e5, bx4.ex e5, ⟨by simp; omega, fun y hy => ?_⟩, by simp; omega⟩)
            rcases List.mem_append.mp hy with q | q
            · obtain ⟨z, hz, rfl⟩ := List.mem_map.mp q
              exact lo.ok z hz
            · exact eo.ok y (List.mem_of_mem_take q)
        · exact hk _ _ ⟨es, x13, rfl, exd e2 d3, d3.bx, eo, by omega⟩
      clear e2 bx2 M2 eo el
      rintro _ M2 ⟨es, x13, rfl, e2, bx2, eo, el⟩
      refine cut_seq (fun ρ' M' => ρ' = [some (.ref a), some Wg.pv, some eB.pv, some eD.pv, some (pll Wg.lets), some (pll [[0], [], []]), x6, some (pn i), some (.ref b), some W.pv, some (pn j), some (pes es), x12, x13, x14, some (letsPV W n d es), x16, x17, x18, x19, x20] ∧ Ex M2 M') (fun k hk => ?_) ?_
      · simp [F.let_behind]
        rw [show pes es = .tup (es.map En.pv) from rfl]
        simp
        refine rngp (by unfold LIM; omega) ?_
        rw [show (PV.tup (es.map En.pv)) = pes es from rfl]
        refine lc_mapT (fun m => some (pll (letBehind W n d (es.take m)))) (fun _ _ => trivial) (by simp; unfold LIM; omega) (fun m M3 hm hM3 KT KF kt kf => ?_) fun M3 e3 => ?_
        · simp [F.let_behind, sl_pes]
          exact ⟨W, n, d, 3, es.take m, lw, eo.take, rfl, fun M4 e4 => kt _ _ e4 rfl⟩
        · rw [List.filterMap_eq_map']
          exact hk _ _ ⟨rfl, e3⟩
      rintro _ M3 ⟨rfl, e3⟩
      refine cut_seq (fun ρ' M' => ρ' = [some (.ref a), some Wg.pv, some eB.pv, some eD.pv, some (pll Wg.lets), some (pll [[0], [], []]), x6, some (pn i), some (.ref b), some W.pv, some (pn j), some (pes es), x12, x13, x14, some (letsPV W n d es), x16, x17, x18, x19, x20] ∧ Ex M2 M') (fun k hk => ifs_false (fun M' => Ex M2 M') (fun K hK => ?_) fun M' e => hk _ _ ⟨rfl, e⟩) ?_
      · simp [F.lets_along, F.let_now, F.same]
        refine ⟨W, n, d, 3, es, lw, eo, rfl, fun M4 e4 => ⟨W, n, d, 3, es, lw, eo, rfl, fun M5 e5 => ⟨by decide, ?_⟩⟩⟩
        unfold letsPV
        rw [letsL_succ]
        refine ix_neg getI_last ⟨by decide, .tup [.tup (letsL W n d es es.length ++ [pll (letBehind W n d (es.take es.length))]), pll (letBehind W n d es)], ?_, ?_, fun M6 e6 => ?_⟩
        rotate_left
        · rw [List.take_length]
        · simp
          exact hK _ (e3.trans (e4.trans (e5.trans e6)))
        · refine VT_tup (d := 7) (l := [_, _]) (show 2 < LIM by decide) (VT_cons ?_ (VT_cons (VT_letB (k := 5) w.n1 (by omega)) VT_nil))
          have := VT_lets (W := W) (k := 4) (es := es) w.n1 (show d ≤ 100 by omega) (by omega)
          unfold letsPV at this
          rw [letsL_succ] at this
          exact this
      clear e3 M3
      rintro _ M3 ⟨rfl, e3⟩
      refine cut_seq (fun ρ' M' => ρ' = [some (.ref a), some Wg.pv, some eB.pv, some eD.pv, some (pll Wg.lets), some (pll [[0], [], []]), x6, some (pn i), some (.ref b), some W.pv, some (pn j), some (pes es), x12, x13, x14, some (letsPV W n d es), x16, some (.tup [plog (deedsOf es), pn (boardNow es), breach W n d es, harm W n d es, whoseIt (harm W n d es) (breach W n d es)]), x18, x19, x20] ∧ Ex M2 M') (fun k hk => ?_) ?_
      · simp [F.deeds_in, F.board_now, F.breach_along, F.harm_along, F.whose_along]
        refine ⟨n, d, es, eo, rfl, fun M4 e4 => ⟨n, d, es, eo, rfl, fun M5 e5 => ⟨W, n, d, 3, es, lw, eo, rfl, fun M6 e6 => ⟨W, n, d, 3, es, lw, eo, rfl, fun M7 e7 => ⟨W, n, d, 3, es, lw, eo, rfl, fun M8 e8 => ⟨by decide, hk _ _ ⟨rfl, ?_⟩⟩⟩⟩⟩⟩⟩
        exact e3.trans (e4.trans (e5.trans (e6.trans (e7.trans e8))))
      clear e3 M3
      rintro _ M3 ⟨rfl, e3⟩
      refine cut_seq (fun ρ' M' => ρ' = [some (.ref a), some Wg.pv, some eB.pv, some eD.pv, some (pll Wg.lets), some (pll [[0], [], []]), x6, some (pn i), some (.ref b), some W.pv, some (pn j), some (pes es), x12, x13, x14, some (letsPV W n d es), x16, some (.tup [plog (deedsOf es), pn (boardNow es), breach W n d es, harm W n d es, whoseIt (harm W n d es) (breach W n d es)]), some (.tup [plog (deedsOf es), pn (boardNow es), breach W n d es, harm W n d es, whoseIt (harm W n d es) (breach W n d es)]), x19, x20] ∧ Ex M2 M') (fun k hk => ?_) ?_
      · simp [F.deeds_done, F.board_behind, F.breach_here, F.harm_here, F.whose_here]
        refine ⟨n, d, es, eo, rfl, fun M4 e4 => ⟨n, d, es, eo, rfl, fun M5 e5 => ⟨W, n, d, 3, es, lw, eo, rfl, fun M6 e6 => ⟨W, n, d, 3, es, lw, eo, rfl, fun M7 e7 => ⟨W, n, d, 3, es, lw, eo, rfl, fun M8 e8 => ⟨by decide, hk _ _ ⟨rfl, ?_⟩⟩⟩⟩⟩⟩⟩
        exact e3.trans (e4.trans (e5.trans (e6.trans (e7.trans e8))))
      clear e3 M3
      rintro _ M3 ⟨rfl, e3⟩
      have dl := deeds_len (es := es)
      refine cut_seq (fun ρ' M' => ρ' = [some (.ref a), some Wg.pv, some eB.pv, some eD.pv, some (pll Wg.lets), some (pll [[0], [], []]), x6, some (pn i), some (.ref b), some W.pv, some (pn j), some (pes es), x12, x13, x14, some (letsPV W n d es), x16, some (.tup [plog (deedsOf es), pn (boardNow es), breach W n d es, harm W n d es, whoseIt (harm W n d es) (breach W n d es)]), some (.tup [plog (deedsOf es), pn (boardNow es), breach W n d es, harm W n d es, whoseIt (harm W n d es) (breach W n d es)]), x19, x20] ∧ Ex M2 M') (fun k hk => ifs_false (fun M' => Ex M2 M') (fun K hK => ?_) fun M' e => hk _ _ ⟨rfl, e⟩) ?_
      · simp [F.same]
        refine ⟨_, VT_tup (d := 7) (l := [_, _, _, _, _]) (show 5 < LIM by decide) (VT_cons (VT_log (k := 5) (by unfold LIM; omega)) (VT_cons VT_pn (VT_cons VT_breach (VT_cons VT_harm (VT_cons VT_whose VT_nil))))), rfl, fun M4 e4 => ?_⟩
        simp
        exact hK _ (e3.trans e4)
      clear e3 M3
      rintro _ M3 ⟨rfl, e3⟩
      have bx3 := bx2.ex e3
      refine cut_seq (fun ρ' M' => ∃ x, ρ' = [some (.ref a), some Wg.pv, some eB.pv, some eD.pv, some (pll Wg.lets), some (pll [[0], [], []]), x6, some (pn i), some (.ref b), some W.pv, some (pn j), some (pes es), x12, x13, x14, some (letsPV W n d es), x16, some (.tup [plog (deedsOf es), pn (boardNow es), breach W n d es, harm W n d es, whoseIt (harm W n d es) (breach W n d es)]), some (.tup [plog (deedsOf es), pn (boardNow es), breach W n d es, harm W n d es, whoseIt (harm W n d es) (breach W n d es)]), some (pn x), x20] ∧ Dr b M3 M' ∧ x < d) (fun k hk => ?_) ?_
      · simp [F.take, w.whose]
        exact take_ok bx3 (by omega) (by omega) fun M4 u d4 hu => hk _ _ ⟨u, rfl, d4, hu⟩
      rintro _ M4 ⟨x, rfl, d4, hx⟩
      refine cut_seq (fun ρ' M' => ∃ s, ρ' = [some (.ref a), some Wg.pv, some eB.pv, some eD.pv, some (pll Wg.lets), some (pll [[0], [], []]), x6, some (pn i), some (.ref b), some W.pv, some (pn j), some (pes es), x12, x13, x14, some (letsPV W n d es), x16, some (.tup [plog (deedsOf es), pn (boardNow es), breach W n d es, harm W n d es, whoseIt (harm W n d es) (breach W n d es)]), some (.tup [plog (deedsOf es), pn (boardNow es), breach W n d es, harm W n d es, whoseIt (harm W n d es) (breach W n d es)]), some (pn x), some (pes (es ++ [.say .bar x s]))] ∧ Dr b M3 M' ∧ s.length ≤ 100) (fun k hk => ?_) ?_
      · simp [F.pick, F.signs_of]
        refine ⟨W, n, d, 3, x, w, hx, rfl, fun M5 D ss e5 nD fD ne sl sn' => ?_⟩
        have bx5 := d4.bx.ex e5
        refine pick_ok bx5 (.inr ⟨D, d4.bx.ne nD, rfl, fD⟩) (by simpa using ne) (by simp; omega) fun M6 z d6 hz => ?_
        obtain ⟨s, hs, rfl⟩ := List.mem_map.mp hz
        refine ⟨by decide, by decide, ?_⟩
        rw [show pes es = .tup (es.map En.pv) from rfl]
        simp
        refine ⟨by unfold LIM; omega, ?_⟩
        have e7 : es.map En.pv ++ [PV.tup [.str "barred", pn x, pl s]] = (es ++ [En.say .bar x s]).map En.pv := by simp [En.pv, Wrd.s]
        rw [e7]
        exact hk _ _ ⟨s, rfl, (d4.exr e5).trans d6, sn' s hs⟩
      rintro _ M5 ⟨s, rfl, d5', hs⟩
      refine cut_last fun k hk => ifs_false (fun M' => Ex M5 M') (fun K hK => ?_) fun M' e => hk _ _ ⟨_, _, _, _, _, _, _, _, _, _, _, rfl, (exd (e2.trans e3) d5').trans e, d5'.bx.ex e⟩
      simp [F.same, F.breach_along]
      refine ⟨W, n, d, 3, es ++ [.say .bar x s], lw, ⟨by simp; omega, fun y hy => ?_⟩, rfl, fun M6 e6 => ?_⟩
      · rcases List.mem_append.mp hy with q | q
        · exact eo.ok y q
        · rw [List.mem_singleton.mp q]; exact ⟨hx, hs⟩
      · rw [breach_say]
        refine ⟨_, VT_breach (k := 7), rfl, fun M7 e7 => ?_⟩
        simp
        exact hK _ (e6.trans e7)
    · rintro _ M2 ⟨x6, x7, x8, x9, x10, x11, x12, x13, x14, x15, x16, x17, x18, x19, x20, rfl, e2⟩
      exact hk _ _ ⟨_, _, _, _, _, _, _, _, _, _, _, _, _, _, _, rfl⟩
  · rintro _ M2 ⟨x6, x7, x8, x9, x10, x11, x12, x13, x14, x15, x16, x17, x18, x19, x20, rfl⟩
    simp
end K74
namespace K74
open PySem PySem.Spec PySem.W PyProof.Rows L2 PL
namespace Link
def topS (i : Nat) : Stmt := PySem.Challenge.rw_lefttoyou_k79_whole_what_is_let_as_it_go.prog.main.body.getD i (.Pass ⟨0, 0, 0, 0⟩)
abbrev s_let_deeds : Stmt := topS 1
abbrev cs_let_deeds : CS := ⟨N_let_deeds, defScope s_let_deeds, fun _ => true, [], [], []⟩
theorem c_let_deeds : ssOf (stm 30 cs_let_deeds) (defBody s_let_deeds) = some m_let_deeds := by kernel_rfl
theorem sc_let_deeds : FnScope N_let_deeds ["world", "let", "board"] (defScope s_let_deeds) := ⟨rfl, rfl, rfl, by decide +kernel, rfl, by decide +kernel, by decide +kernel⟩
abbrev s_is_stuck : Stmt := topS 2
abbrev cs_is_stuck : CS := ⟨N_is_stuck, defScope s_is_stuck, fun _ => true, ["let_deeds"], [], []⟩
theorem c_is_stuck : ssOf (stm 30 cs_is_stuck) (defBody s_is_stuck) = some m_is_stuck := by kernel_rfl
theorem sc_is_stuck : FnScope N_is_stuck ["world", "let", "board"] (defScope s_is_stuck) := ⟨rfl, rfl, rfl, by decide +kernel, rfl, by decide +kernel, by decide +kernel⟩
abbrev s_sign_of : Stmt := topS 4
abbrev cs_sign_of : CS := ⟨N_sign_of, defScope s_sign_of, fun _ => true, [], [], []⟩
theorem c_sign_of : ssOf (stm 30 cs_sign_of) (defBody s_sign_of) = some m_sign_of := by kernel_rfl
theorem sc_sign_of : FnScope N_sign_of ["world", "helper", "board"] (defScope s_sign_of) := ⟨rfl, rfl, rfl, by decide +kernel, rfl, by decide +kernel, by decide +kernel⟩
abbrev s_along : Stmt := topS 13
abbrev cs_along : CS := ⟨N_along, defScope s_along, fun _ => true, [], [], []⟩
theorem c_along : ssOf (stm 30 cs_along) (defBody s_along) = some m_along := by kernel_rfl
theorem sc_along : FnScope N_along ["log"] (defScope s_along) := ⟨rfl, rfl, rfl, by decide +kernel, rfl, by decide +kernel, by decide +kernel⟩
abbrev s_breach_at : Stmt := topS 14
abbrev cs_breach_at : CS := ⟨N_breach_at, defScope s_breach_at, fun _ => true, [], [], ["CANNOT", "LET", "ANSWER", "OTHERS"]⟩
theorem c_breach_at : ssOf (stm 30 cs_breach_at) (defBody s_breach_at) = some m_breach_at := by kernel_rfl
theorem sc_breach_at : FnScope N_breach_at ["world", "let", "board", "entry"] (defScope s_breach_at) := ⟨rfl, rfl, rfl, by decide +kernel, rfl, by decide +kernel, by decide +kernel⟩
abbrev s_sentence_at : Stmt := topS 15
abbrev cs_sentence_at : CS := ⟨N_sentence_at, defScope s_sentence_at, fun _ => true, ["sign_of"], [], []⟩
theorem c_sentence_at : ssOf (stm 30 cs_sentence_at) (defBody s_sentence_at) = some m_sentence_at := by kernel_rfl
theorem sc_sentence_at : FnScope N_sentence_at ["world", "board", "deed"] (defScope s_sentence_at) := ⟨rfl, rfl, rfl, by decide +kernel, rfl, by decide +kernel, by decide +kernel⟩
abbrev s_let_with : Stmt := topS 18
abbrev cs_let_with : CS := ⟨N_let_with, defScope s_let_with, fun _ => true, ["sentence_at"], [], []⟩
theorem c_let_with : ssOf (stm 30 cs_let_with) (defBody s_let_with) = some m_let_with := by kernel_rfl
theorem sc_let_with : FnScope N_let_with ["world", "let", "entry"] (defScope s_let_with) := ⟨rfl, rfl, rfl, by decide +kernel, rfl, by decide +kernel, by decide +kernel⟩
abbrev s_lets_along : Stmt := topS 19
abbrev cs_lets_along : CS := ⟨N_lets_along, defScope s_lets_along, fun _ => true, ["let_with"], [], []⟩
theorem c_lets_along : ssOf (stm 30 cs_lets_along) (defBody s_lets_along) = some m_lets_along := by kernel_rfl
theorem sc_lets_along : FnScope N_lets_along ["world", "entries"] (defScope s_lets_along) := ⟨rfl, rfl, rfl, by decide +kernel, rfl, by decide +kernel, by decide +kernel⟩
abbrev s_let_now : Stmt := topS 20
abbrev cs_let_now : CS := ⟨N_let_now, defScope s_let_now, fun _ => true, ["lets_along"], [], []⟩
theorem c_let_now : ssOf (stm 30 cs_let_now) (defBody s_let_now) = some m_let_now := by kernel_rfl
theorem sc_let_now : FnScope N_let_now ["world", "entries"] (defScope s_let_now) := ⟨rfl, rfl, rfl, by decide +kernel, rfl, by decide +kernel, by decide +kernel⟩
abbrev s_deeds_in : Stmt := topS 21
abbrev cs_deeds_in : CS := ⟨N_deeds_in, defScope s_deeds_in, fun _ => true, [], [], ["DID"]⟩
theorem c_deeds_in : ssOf (stm 30 cs_deeds_in) (defBody s_deeds_in) = some m_deeds_in := by kernel_rfl
theorem sc_deeds_in : FnScope N_deeds_in ["entries"] (defScope s_deeds_in) := ⟨rfl, rfl, rfl, by decide +kernel, rfl, by decide +kernel, by decide +kernel⟩
abbrev s_board_now : Stmt := topS 22
abbrev cs_board_now : CS := ⟨N_board_now, defScope s_board_now, fun _ => true, ["along", "deeds_in"], [], []⟩
theorem c_board_now : ssOf (stm 30 cs_board_now) (defBody s_board_now) = some m_board_now := by kernel_rfl
theorem sc_board_now : FnScope N_board_now ["entries"] (defScope s_board_now) := ⟨rfl, rfl, rfl, by decide +kernel, rfl, by decide +kernel, by decide +kernel⟩
abbrev s_breach_along : Stmt := topS 23
abbrev cs_breach_along : CS := ⟨N_breach_along, defScope s_breach_along, fun _ => true, ["lets_along", "breach_at"], [], ["DID"]⟩
theorem c_breach_along : ssOf (stm 30 cs_breach_along) (defBody s_breach_along) = some m_breach_along := by kernel_rfl
theorem sc_breach_along : FnScope N_breach_along ["world", "entries"] (defScope s_breach_along) := ⟨rfl, rfl, rfl, by decide +kernel, rfl, by decide +kernel, by decide +kernel⟩
abbrev s_harm_along : Stmt := topS 24
abbrev cs_harm_along : CS := ⟨N_harm_along, defScope s_harm_along, fun _ => true, ["is_stuck", "let_now", "board_now"], [], ["NEVER", "DID", "STUCK"]⟩
theorem c_harm_along : ssOf (stm 30 cs_harm_along) (defBody s_harm_along) = some m_harm_along := by kernel_rfl
theorem sc_harm_along : FnScope N_harm_along ["world", "entries"] (defScope s_harm_along) := ⟨rfl, rfl, rfl, by decide +kernel, rfl, by decide +kernel, by decide +kernel⟩
abbrev s_whose_along : Stmt := topS 25
abbrev cs_whose_along : CS := ⟨N_whose_along, defScope s_whose_along, fun _ => true, ["harm_along", "breach_along"], [], ["GIVER"]⟩
theorem c_whose_along : ssOf (stm 30 cs_whose_along) (defBody s_whose_along) = some m_whose_along := by kernel_rfl
theorem sc_whose_along : FnScope N_whose_along ["world", "entries"] (defScope s_whose_along) := ⟨rfl, rfl, rfl, by decide +kernel, rfl, by decide +kernel, by decide +kernel⟩
abbrev s_law_box : Stmt := topS 27
abbrev cs_law_box : CS := ⟨N_law_box, defScope s_law_box, fun _ => true, [], [], []⟩
theorem c_law_box : ssOf (stm 30 cs_law_box) (defBody s_law_box) = some m_law_box := by kernel_rfl
theorem sc_law_box : FnScope N_law_box ["script", "k"] (defScope s_law_box) := ⟨rfl, rfl, rfl, by decide +kernel, rfl, by decide +kernel, by decide +kernel⟩
abbrev s_law_take : Stmt := topS 28
abbrev cs_law_take : CS := ⟨N_law_take, defScope s_law_take, fun _ => true, [], [], []⟩
theorem c_law_take : ssOf (stm 30 cs_law_take) (defBody s_law_take) = some m_law_take := by kernel_rfl
theorem sc_law_take : FnScope N_law_take ["box", "many"] (defScope s_law_take) := ⟨rfl, rfl, rfl, by decide +kernel, rfl, by decide +kernel, by decide +kernel⟩
abbrev s_law_pick : Stmt := topS 29
abbrev cs_law_pick : CS := ⟨N_law_pick, defScope s_law_pick, fun _ => true, ["_law_take"], [], []⟩
theorem c_law_pick : ssOf (stm 30 cs_law_pick) (defBody s_law_pick) = some m_law_pick := by kernel_rfl
theorem sc_law_pick : FnScope N_law_pick ["box", "some"] (defScope s_law_pick) := ⟨rfl, rfl, rfl, by decide +kernel, rfl, by decide +kernel, by decide +kernel⟩
abbrev s_law_same : Stmt := topS 30
abbrev cs_law_same : CS := ⟨N_law_same, defScope s_law_same, fun _ => true, ["_law_same"], [], []⟩
theorem c_law_same : ssOf (stm 30 cs_law_same) (defBody s_law_same) = some m_law_same := by kernel_rfl
theorem sc_law_same : FnScope N_law_same ["told", "due"] (defScope s_law_same) := ⟨rfl, rfl, rfl, by decide +kernel, rfl, by decide +kernel, by decide +kernel⟩
abbrev s_law_goes : Stmt := topS 31
abbrev cs_law_goes : CS := ⟨N_law_goes, defScope s_law_goes, fun _ => true, [], [], []⟩
theorem c_law_goes : ssOf (stm 30 cs_law_goes) (defBody s_law_goes) = some m_law_goes := by kernel_rfl
theorem sc_law_goes : FnScope N_law_goes ["world", "let", "board"] (defScope s_law_goes) := ⟨rfl, rfl, rfl, by decide +kernel, rfl, by decide +kernel, by decide +kernel⟩
abbrev s_law_is_end : Stmt := topS 32
abbrev cs_law_is_end : CS := ⟨N_law_is_end, defScope s_law_is_end, fun _ => true, [], [], []⟩
theorem c_law_is_end : ssOf (stm 30 cs_law_is_end) (defBody s_law_is_end) = some m_law_is_end := by kernel_rfl
theorem sc_law_is_end : FnScope N_law_is_end ["world", "board"] (defScope s_law_is_end) := ⟨rfl, rfl, rfl, by decide +kernel, rfl, by decide +kernel, by decide +kernel⟩
abbrev s_law_is_stuck : Stmt := topS 33
abbrev cs_law_is_stuck : CS := ⟨N_law_is_stuck, defScope s_law_is_stuck, fun _ => true, ["_law_goes"], [], []⟩
theorem c_law_is_stuck : ssOf (stm 30 cs_law_is_stuck) (defBody s_law_is_stuck) = some m_law_is_stuck := by kernel_rfl
theorem sc_law_is_stuck : FnScope N_law_is_stuck ["world", "let", "board"] (defScope s_law_is_stuck) := ⟨rfl, rfl, rfl, by decide +kernel, rfl, by decide +kernel, by decide +kernel⟩
abbrev s_law_lots_drawn : Stmt := topS 34
abbrev cs_law_lots_drawn : CS := ⟨N_law_lots_drawn, defScope s_law_lots_drawn, fun _ => true, ["_law_pick", "_law_take"], [], []⟩
theorem c_law_lots_drawn : ssOf (stm 30 cs_law_lots_drawn) (defBody s_law_lots_drawn) = some m_law_lots_drawn := by kernel_rfl
theorem sc_law_lots_drawn : FnScope N_law_lots_drawn ["box", "many", "board"] (defScope s_law_lots_drawn) := ⟨rfl, rfl, rfl, by decide +kernel, rfl, by decide +kernel, by decide +kernel⟩
abbrev s_law_turn_world : Stmt := topS 35
abbrev cs_law_turn_world : CS := ⟨N_law_turn_world, defScope s_law_turn_world, fun _ => true, ["_law_take", "_law_lots_drawn"], [], []⟩
theorem c_law_turn_world : ssOf (stm 30 cs_law_turn_world) (defBody s_law_turn_world) = some m_law_turn_world := by kernel_rfl
theorem sc_law_turn_world : FnScope N_law_turn_world ["box", "most"] (defScope s_law_turn_world) := ⟨rfl, rfl, rfl, by decide +kernel, rfl, by decide +kernel, by decide +kernel⟩
abbrev s_law_sure_let : Stmt := topS 36
abbrev cs_law_sure_let : CS := ⟨N_law_sure_let, defScope s_law_sure_let, fun _ => true, ["_law_is_end", "_law_take", "_law_pick"], [], []⟩
theorem c_law_sure_let : ssOf (stm 30 cs_law_sure_let) (defBody s_law_sure_let) = some m_law_sure_let := by kernel_rfl
theorem sc_law_sure_let : FnScope N_law_sure_let ["box", "world"] (defScope s_law_sure_let) := ⟨rfl, rfl, rfl, by decide +kernel, rfl, by decide +kernel, by decide +kernel⟩
abbrev s_law_good_world : Stmt := topS 37
abbrev cs_law_good_world : CS := ⟨N_law_good_world, defScope s_law_good_world, fun _ => true, ["_law_turn_world", "_law_sure_let", "_law_fork"], [], []⟩
theorem c_law_good_world : ssOf (stm 30 cs_law_good_world) (defBody s_law_good_world) = some m_law_good_world := by kernel_rfl
theorem sc_law_good_world : FnScope N_law_good_world ["box", "most"] (defScope s_law_good_world) := ⟨rfl, rfl, rfl, by decide +kernel, rfl, by decide +kernel, by decide +kernel⟩
abbrev s_law_made : Stmt := topS 38
abbrev cs_law_made : CS := ⟨N_law_made, defScope s_law_made, fun _ => true, [], [], []⟩
theorem c_law_made : ssOf (stm 30 cs_law_made) (defBody s_law_made) = some m_law_made := by kernel_rfl
theorem sc_law_made : FnScope N_law_made ["whose", "moves", "done", "helpers"] (defScope s_law_made) := ⟨rfl, rfl, rfl, by decide +kernel, rfl, by decide +kernel, by decide +kernel⟩
abbrev s_law_fork : Stmt := topS 39
abbrev cs_law_fork : CS := ⟨N_law_fork, defScope s_law_fork, fun _ => true, ["_law_made"], [], []⟩
theorem c_law_fork : ssOf (stm 30 cs_law_fork) (defBody s_law_fork) = some m_law_fork := by kernel_rfl
theorem sc_law_fork : FnScope N_law_fork [] (defScope s_law_fork) := ⟨rfl, rfl, rfl, by decide +kernel, rfl, by decide +kernel, by decide +kernel⟩
abbrev s_law_signed : Stmt := topS 40
abbrev cs_law_signed : CS := ⟨N_law_signed, defScope s_law_signed, fun _ => true, ["_law_pick"], [], []⟩
theorem c_law_signed : ssOf (stm 30 cs_law_signed) (defBody s_law_signed) = some m_law_signed := by kernel_rfl
theorem sc_law_signed : FnScope N_law_signed ["box", "world"] (defScope s_law_signed) := ⟨rfl, rfl, rfl, by decide +kernel, rfl, by decide +kernel, by decide +kernel⟩
abbrev s_law_said : Stmt := topS 41
abbrev cs_law_said : CS := ⟨N_law_said, defScope s_law_said, fun _ => true, [], [], []⟩
theorem c_law_said : ssOf (stm 30 cs_law_said) (defBody s_law_said) = some m_law_said := by kernel_rfl
theorem sc_law_said : FnScope N_law_said ["world", "board", "deed"] (defScope s_law_said) := ⟨rfl, rfl, rfl, by decide +kernel, rfl, by decide +kernel, by decide +kernel⟩
abbrev s_law_log_drawn : Stmt := topS 42
abbrev cs_law_log_drawn : CS := ⟨N_law_log_drawn, defScope s_law_log_drawn, fun _ => true, ["_law_goes", "_law_take", "_law_pick"], [], []⟩
theorem c_law_log_drawn : ssOf (stm 30 cs_law_log_drawn) (defBody s_law_log_drawn) = some m_law_log_drawn := by kernel_rfl
theorem sc_law_log_drawn : FnScope N_law_log_drawn ["box", "world", "let", "many"] (defScope s_law_log_drawn) := ⟨rfl, rfl, rfl, by decide +kernel, rfl, by decide +kernel, by decide +kernel⟩
abbrev s_law_giver : Stmt := topS 43
abbrev cs_law_giver : CS := ⟨N_law_giver, defScope s_law_giver, fun _ => true, [], [], []⟩
theorem c_law_giver : ssOf (stm 30 cs_law_giver) (defBody s_law_giver) = some m_law_giver := by kernel_rfl
theorem sc_law_giver : FnScope N_law_giver [] (defScope s_law_giver) := ⟨rfl, rfl, rfl, by decide +kernel, rfl, by decide +kernel, by decide +kernel⟩
abbrev s_law_signs_of : Stmt := topS 44
abbrev cs_law_signs_of : CS := ⟨N_law_signs_of, defScope s_law_signs_of, fun _ => true, ["_law_said"], [], []⟩
theorem c_law_signs_of : ssOf (stm 30 cs_law_signs_of) (defBody s_law_signs_of) = some m_law_signs_of := by kernel_rfl
theorem sc_law_signs_of : FnScope N_law_signs_of ["world", "deed"] (defScope s_law_signs_of) := ⟨rfl, rfl, rfl, by decide +kernel, rfl, by decide +kernel, by decide +kernel⟩
abbrev s_law_any_entry : Stmt := topS 45
abbrev cs_law_any_entry : CS := ⟨N_law_any_entry, defScope s_law_any_entry, fun _ => true, ["_law_take", "_law_pick", "_law_signs_of"], [], []⟩
theorem c_law_any_entry : ssOf (stm 30 cs_law_any_entry) (defBody s_law_any_entry) = some m_law_any_entry := by kernel_rfl
theorem sc_law_any_entry : FnScope N_law_any_entry ["box", "world"] (defScope s_law_any_entry) := ⟨rfl, rfl, rfl, by decide +kernel, rfl, by decide +kernel, by decide +kernel⟩
abbrev s_law_let_behind : Stmt := topS 46
abbrev cs_law_let_behind : CS := ⟨N_law_let_behind, defScope s_law_let_behind, fun _ => true, ["_law_said"], [], []⟩
theorem c_law_let_behind : ssOf (stm 30 cs_law_let_behind) (defBody s_law_let_behind) = some m_law_let_behind := by kernel_rfl
theorem sc_law_let_behind : FnScope N_law_let_behind ["world", "entries"] (defScope s_law_let_behind) := ⟨rfl, rfl, rfl, by decide +kernel, rfl, by decide +kernel, by decide +kernel⟩
abbrev s_law_deeds_done : Stmt := topS 47
abbrev cs_law_deeds_done : CS := ⟨N_law_deeds_done, defScope s_law_deeds_done, fun _ => true, [], [], []⟩
theorem c_law_deeds_done : ssOf (stm 30 cs_law_deeds_done) (defBody s_law_deeds_done) = some m_law_deeds_done := by kernel_rfl
theorem sc_law_deeds_done : FnScope N_law_deeds_done ["entries"] (defScope s_law_deeds_done) := ⟨rfl, rfl, rfl, by decide +kernel, rfl, by decide +kernel, by decide +kernel⟩
abbrev s_law_board_behind : Stmt := topS 48
abbrev cs_law_board_behind : CS := ⟨N_law_board_behind, defScope s_law_board_behind, fun _ => true, [], [], []⟩
theorem c_law_board_behind : ssOf (stm 30 cs_law_board_behind) (defBody s_law_board_behind) = some m_law_board_behind := by kernel_rfl
theorem sc_law_board_behind : FnScope N_law_board_behind ["entries"] (defScope s_law_board_behind) := ⟨rfl, rfl, rfl, by decide +kernel, rfl, by decide +kernel, by decide +kernel⟩
abbrev s_law_breach_here : Stmt := topS 49
abbrev cs_law_breach_here : CS := ⟨N_law_breach_here, defScope s_law_breach_here, fun _ => true, ["_law_board_behind", "_law_let_behind"], [], []⟩
theorem c_law_breach_here : ssOf (stm 30 cs_law_breach_here) (defBody s_law_breach_here) = some m_law_breach_here := by kernel_rfl
theorem sc_law_breach_here : FnScope N_law_breach_here ["world", "entries"] (defScope s_law_breach_here) := ⟨rfl, rfl, rfl, by decide +kernel, rfl, by decide +kernel, by decide +kernel⟩
abbrev s_law_harm_here : Stmt := topS 50
abbrev cs_law_harm_here : CS := ⟨N_law_harm_here, defScope s_law_harm_here, fun _ => true, ["_law_board_behind", "_law_is_stuck", "_law_let_behind"], [], []⟩
theorem c_law_harm_here : ssOf (stm 30 cs_law_harm_here) (defBody s_law_harm_here) = some m_law_harm_here := by kernel_rfl
theorem sc_law_harm_here : FnScope N_law_harm_here ["world", "entries"] (defScope s_law_harm_here) := ⟨rfl, rfl, rfl, by decide +kernel, rfl, by decide +kernel, by decide +kernel⟩
abbrev s_law_whose_here : Stmt := topS 51
abbrev cs_law_whose_here : CS := ⟨N_law_whose_here, defScope s_law_whose_here, fun _ => true, ["_law_harm_here", "_law_breach_here"], [], []⟩
theorem c_law_whose_here : ssOf (stm 30 cs_law_whose_here) (defBody s_law_whose_here) = some m_law_whose_here := by kernel_rfl
theorem sc_law_whose_here : FnScope N_law_whose_here ["world", "entries"] (defScope s_law_whose_here) := ⟨rfl, rfl, rfl, by decide +kernel, rfl, by decide +kernel, by decide +kernel⟩
abbrev s_law : Stmt := topS 52
abbrev cs_law : CS := ⟨N_law_k79, defScope s_law, fun _ => true, ["_law_giver", "lets_along", "breach_along", "whose_along", "harm_along", "let_now", "board_now", "deeds_in", "_law_same", "_law_box", "_law_signed", "_law_good_world", "_law_take", "_law_any_entry", "_law_log_drawn", "_law_let_behind", "_law_deeds_done", "_law_board_behind", "_law_breach_here", "_law_harm_here", "_law_whose_here", "_law_pick", "_law_signs_of"], [("let_now", 1, ["entries"]), ("harm_along", 1, ["entries"])], []⟩
theorem c_law : ssOf (stm 30 cs_law) (defBody s_law) = some m_law_k79 := by kernel_rfl
theorem sc_law : FnScope N_law_k79 ["script"] (defScope s_law) := ⟨rfl, rfl, rfl, by decide +kernel, rfl, by decide +kernel, by decide +kernel⟩
end Link
end K74
/-! Asm: defs, one behind the other. -/
namespace PL
open PySem PySem.Spec PySem.W PyProof.Rows L2
section
variable {Φ Ψ : Fns} {P : Program} {w : World} {K : PySem.W.Frag} {mg : Str → Option Value} {base : Heap} {j k : Nat}
theorem TCall.mono {f : Str} (h : TCall Φ P w K mg base j f) (l : j ≤ k) : TCall Φ P w K mg base k f := by
  obtain ⟨g, a, fd, ps, h1, h2, h3⟩ := h
  exact ⟨g, a, fd, ps, h1, h2.mono l, h3⟩
theorem TCall.other {f : Str} (h : TCall Φ P w K mg base k f) (e : Ψ.fn f = Φ.fn f) : TCall Ψ P w K mg base k f := by
  obtain ⟨g, a, fd, ps, h1, h2, h3⟩ := h
  exact ⟨g, a, fd, ps, e.trans h1, h2, h3⟩
/-- a def as the top has left it -/
def DefAt (K : PySem.W.Frag) (mg : Str → Option Value) (x : Str) (st : Stmt) (ps : List Str) : Prop := ∃ f fd, Fun K x x st f fd ∧ Binds K fd ps [] ∧ mg x = some (.ref f)
theorem DefAt.tc {x : Str} {st : Stmt} {ps : List Str} {g : FSp} (A : DefAt K mg x st ps) (e : Φ.fn x = some g) (h : ∀ f fd, Fun K x x st f fd → FnOk P w K mg base CX0 k f fd ps (LSp P w K g)) : TCall Φ P w K mg base k x := by
  obtain ⟨f, fd, F, b, m⟩ := A
  exact ⟨g, f, fd, ps, e, h f fd F, m, F.kp, b⟩
/-- a promise that is never asked for -/
def gNever : FSp := fun _ _ _ => False
theorem never_ok {f : Addr} {fd : FuncData} {ps : List Str} : FnOk P w K mg base CX0 k f fd ps (LSp P w K gNever) := ⟨fun vs H Q E ⟨_, _, _, _, _, h, _⟩ => h.elim, fun A outer s H args us vs Q E _ _ _ _ ⟨_, _, _, _, _, h, _⟩ => h.elim⟩
theorem DefAt.never {x : Str} {st : Stmt} {ps : List Str} (A : DefAt K mg x st ps) (e : Φ.fn x = some gNever) : TCall Φ P w K mg base k x := A.tc e fun _ _ _ => never_ok
/-- positions and keywords, all in order -/
def gK {α : Type} (n m : Nat) (us ws : List α) : List α := if us.length = n ∧ ws.length = m then us ++ ws else []
theorem kb_mk {x : Str} {st : Stmt} {f : Addr} {fd : FuncData} {ps ks : List Str} {n m : Nat} (F : Fun K x x st f fd) (hp : ps ≠ [])
    (h : ∀ (kV doc pm : Value) (an : Option Addr) (cdv ct : Value) (us ws : List Value), us.length = n → ws.length = m → bindArgs (PySem.W.fnOf x x (defArgs st) (defBody st) (defScope st) .none kV doc pm an cdv ct) ⟨us, ks.zip ws⟩ = pure (ps.zip (us ++ ws))) : KBinds K fd ps ks (gK n m) (gK n m) := by
  obtain ⟨oc, od, kV, doc, pm, an, cdv, ct, osl, rfl, lk, hcd⟩ := F.ex
  refine ⟨fun s us ws _ hl => ?_, fun {vs us zs ws} r1 r2 => ?_⟩
  · unfold gK at hl ⊢
    split at hl
    · rename_i c
      rw [if_pos c]
      exact .of_eq (h kV doc pm an cdv ct us ws c.1 c.2)
    · cases ps with
      | nil => exact absurd rfl hp
      | cons a l => simp at hl
  · unfold gK
    rw [r1.length, r2.length]
    split
    · exact r1.append r2
    · exact .nil
theorem DefAt.tck {x : Str} {st : Stmt} {ps ks : List Str} {n : Nat} {g : FSp} (A : DefAt K mg x st ps) (e : Φ.fn x = some g) (h : ∀ f fd, Fun K x x st f fd → FnOk P w K mg base CX0 k f fd ps (LSp P w K g)) (h0 : ps ≠ [])
    (hb : ∀ (kV doc pm : Value) (an : Option Addr) (cdv ct : Value) (us ws : List Value), us.length = n → ws.length = ks.length → bindArgs (PySem.W.fnOf x x (defArgs st) (defBody st) (defScope st) .none kV doc pm an cdv ct) ⟨us, ks.zip ws⟩ = pure (ps.zip (us ++ ws))) : TCallK Φ P w K mg base k (x, n, ks) := by
  obtain ⟨f, fd, F, b, m⟩ := A
  exact ⟨g, f, fd, ps, _, _, e, h f fd F, m, F.kp, kb_mk F h0 hb, fun vs zs h1 h2 => by unfold gK; rw [if_pos ⟨h1, h2⟩]⟩
theorem TCallK.mono {c : Str × Nat × List Str} (h : TCallK Φ P w K mg base j c) (l : j ≤ k) : TCallK Φ P w K mg base k c := by
  obtain ⟨g, a, fd, ps, gR, gV, h1, h2, h3⟩ := h
  exact ⟨g, a, fd, ps, gR, gV, h1, h2.mono l, h3⟩
theorem all_nil {α : Type} {p : α → Prop} : ∀ x ∈ ([] : List α), p x := fun _ h => nomatch h
theorem all_cons {α : Type} {p : α → Prop} {a : α} {l : List α} (h : p a) (t : ∀ x ∈ l, p x) : ∀ x ∈ a :: l, p x := fun x hx => by
  rcases List.mem_cons.mp hx with e | e
  · rw [e]; exact h
  · exact t x e
end
/-- as the top leaves a def -/
theorem def_at {K : PySem.W.Frag} {h : Heap} {mg : Str → Option Value} (X : K.In h) (G : h.Ns mainGlobals mg) {x : Str} {st : Stmt} {ps : List Str} {f : Addr} {oc : Value} {od an : Option Addr} {osl : Array (Option Value)} {kV doc pm cdv ct : Value}
    (a : PySem.W.nsIn K mainGlobals x = some (some (.ref f))) (l : K.lookup f = some ⟨oc, od, .func (PySem.W.fnOf x x (defArgs st) (defBody st) (defScope st) .none kV doc pm an cdv ct), osl⟩)
    (c : PySem.W.codeIn K cdv x = true) (k : PySem.W.keepIn K (.ref f) = true)
    (hb : ∀ (kV doc pm : Value) (an : Option Addr) (cdv ct : Value) (us : List Value), us.length = ps.length → bindArgs (PySem.W.fnOf x x (defArgs st) (defBody st) (defScope st) .none kV doc pm an cdv ct) ⟨us, []⟩ = pure (ps.zip us)) : DefAt K mg x st ps := by
  have F := fun_mk (st := st) l c k
  exact ⟨f, _, F, F.binds hb, PySem.W.mg_of X G a⟩
end PL
namespace K74
open PySem PySem.Spec PySem.W PyProof.Rows L2 PL
noncomputable def Φ79 : Fns := ⟨fun x => ([(("let_deeds" : Str), (gLetDeeds : FSp)), (("is_stuck" : Str), (gIsStuck : FSp)), (("sign_of" : Str), (gSignOf : FSp)), (("along" : Str), (gAlong : FSp)), (("breach_at" : Str), (gBreachAt : FSp)), (("sentence_at" : Str), (gSentAt : FSp)), (("let_with" : Str), (gLetWith : FSp)), (("lets_along" : Str), (gLetsAlong : FSp)), (("let_now" : Str), (gLetNow : FSp)), (("deeds_in" : Str), (gDeedsIn : FSp)), (("board_now" : Str), (gBoardNow : FSp)), (("breach_along" : Str), (gBreachAlong : FSp)), (("harm_along" : Str), (gHarmAlong : FSp)), (("whose_along" : Str), (gWhoseAlong : FSp)), (("_law_box" : Str), (gBox : FSp)), (("_law_take" : Str), (gTake : FSp)), (("_law_pick" : Str), (gPick : FSp)), (("_law_same" : Str), ((gSameV 8) : FSp)), (("_law_goes" : Str), (gLGoes : FSp)), (("_law_is_end" : Str), (gIsEnd : FSp)), (("_law_is_stuck" : Str), (gIsStuck : FSp)), (("_law_lots_drawn" : Str), (gLots : FSp)), (("_law_turn_world" : Str), (gTurnWorld : FSp)), (("_law_sure_let" : Str), (gSureLet : FSp)), (("_law_good_world" : Str), (gGoodWorld : FSp)), (("_law_made" : Str), (gMade : FSp)), (("_law_fork" : Str), (gFork : FSp)), (("_law_signed" : Str), (gSigned : FSp)), (("_law_said" : Str), (gSentAt : FSp)), (("_law_log_drawn" : Str), (gLogDrawn : FSp)), (("_law_giver" : Str), (gGiver : FSp)), (("_law_signs_of" : Str), (gSignsOf : FSp)), (("_law_any_entry" : Str), (gAnyEntry : FSp)), (("_law_let_behind" : Str), (gLLetBehind : FSp)), (("_law_deeds_done" : Str), (gDeedsIn : FSp)), (("_law_board_behind" : Str), (gBoardNow : FSp)), (("_law_breach_here" : Str), (gBreachAlong : FSp)), (("_law_harm_here" : Str), (gHarmAlong : FSp)), (("_law_whose_here" : Str), (gWhoseAlong : FSp))] : List (Str × FSp)).lookup x, fun x => ([(("CANNOT" : Str), ((.str "cannot") : PV)), (("LET" : Str), ((.str "let") : PV)), (("ANSWER" : Str), ((.str "answer") : PV)), (("OTHERS" : Str), ((.int (-1)) : PV)), (("DID" : Str), ((.str "did") : PV)), (("NEVER" : Str), ((.str "never") : PV)), (("STUCK" : Str), ((.str "stuck") : PV)), (("GIVER" : Str), ((.int (-2)) : PV))] : List (Str × PV)).lookup x⟩
section
variable {P : Program} {w : World} {K : PySem.W.Frag} {mg : Str → Option Value} {base : Heap}
def Ψ_law_same (g : FSp) : Fns := ⟨fun x => if x == ("_law_same" : Str) then some g else none, fun _ => none⟩
theorem gl_law_same (d : Nat) : ∀ vs M Q, gSameV d vs M Q → vs.length = 2 := by
  intro vs M Q h
  unfold gSameV at h
  repeat (obtain ⟨_, h⟩ := h)
  subst_vars
  rfl
theorem rec_law_same (tb : ∀ x ∈ bltNames, mg x = none) (A : DefAt K mg "_law_same" Link.s_law_same ["told", "due"]) : ∀ d : Nat, ∀ f fd, Fun K "_law_same" "_law_same" Link.s_law_same f fd → FnOk P w K mg base CX0 (d + 1) f fd ["told", "due"] (LSp P w K (gSameV d))
  | 0, f, fd, F => def_ok (Φ := Ψ_law_same gNever) F Link.sc_law_same Link.c_law_same tb (all_cons (A.never rfl) all_nil) all_nil all_nil (gl_law_same _) (b_law_sameV 0 (Ψ_law_same gNever) (fun d e => by omega))
  | d + 1, f, fd, F => def_ok (Φ := Ψ_law_same (gSameV d)) F Link.sc_law_same Link.c_law_same tb (all_cons (A.tc rfl (rec_law_same tb A d)) all_nil) all_nil all_nil (gl_law_same _) (b_law_sameV (d + 1) (Ψ_law_same (gSameV d)) (fun d2 e => by cases e; rfl))
theorem gl_law_giver : ∀ vs M Q, gGiver vs M Q → vs.length = 0 := by
  intro vs M Q h
  unfold gGiver at h
  repeat (obtain ⟨_, h⟩ := h)
  subst_vars
  rfl
theorem gl_sign_of : ∀ vs M Q, gSignOf vs M Q → vs.length = 3 := by
  intro vs M Q h
  unfold gSignOf at h
  repeat (obtain ⟨_, h⟩ := h)
  subst_vars
  rfl
theorem gl_sentence_at : ∀ vs M Q, gSentAt vs M Q → vs.length = 3 := by
  intro vs M Q h
  unfold gSentAt at h
  repeat (obtain ⟨_, h⟩ := h)
  subst_vars
  rfl
theorem gl_let_with : ∀ vs M Q, gLetWith vs M Q → vs.length = 3 := by
  intro vs M Q h
  unfold gLetWith at h
  repeat (obtain ⟨_, h⟩ := h)
  subst_vars
  rfl
theorem gl_lets_along : ∀ vs M Q, gLetsAlong vs M Q → vs.length = 2 := by
  intro vs M Q h
  unfold gLetsAlong at h
  repeat (obtain ⟨_, h⟩ := h)
  subst_vars
  rfl
theorem gl_breach_at : ∀ vs M Q, gBreachAt vs M Q → vs.length = 4 := by
  intro vs M Q h
  unfold gBreachAt at h
  repeat (obtain ⟨_, h⟩ := h)
  subst_vars
  rfl
theorem gl_breach_along : ∀ vs M Q, gBreachAlong vs M Q → vs.length = 2 := by
  intro vs M Q h
  unfold gBreachAlong at h
  repeat (obtain ⟨_, h⟩ := h)
  subst_vars
  rfl
theorem gl_let_deeds : ∀ vs M Q, gLetDeeds vs M Q → vs.length = 3 := by
  intro vs M Q h
  unfold gLetDeeds at h
  repeat (obtain ⟨_, h⟩ := h)
  subst_vars
  rfl
theorem gl_is_stuck : ∀ vs M Q, gIsStuck vs M Q → vs.length = 3 := by
  intro vs M Q h
  unfold gIsStuck at h
  repeat (obtain ⟨_, h⟩ := h)
  subst_vars
  rfl
theorem gl_let_now : ∀ vs M Q, gLetNow vs M Q → vs.length = 2 := by
  intro vs M Q h
  unfold gLetNow at h
  repeat (obtain ⟨_, h⟩ := h)
  subst_vars
  rfl
theorem gl_along : ∀ vs M Q, gAlong vs M Q → vs.length = 1 := by
  intro vs M Q h
  unfold gAlong at h
  repeat (obtain ⟨_, h⟩ := h)
  subst_vars
  rfl
theorem gl_deeds_in : ∀ vs M Q, gDeedsIn vs M Q → vs.length = 1 := by
  intro vs M Q h
  unfold gDeedsIn at h
  repeat (obtain ⟨_, h⟩ := h)
  subst_vars
  rfl
theorem gl_board_now : ∀ vs M Q, gBoardNow vs M Q → vs.length = 1 := by
  intro vs M Q h
  unfold gBoardNow at h
  repeat (obtain ⟨_, h⟩ := h)
  subst_vars
  rfl
theorem gl_harm_along : ∀ vs M Q, gHarmAlong vs M Q → vs.length = 2 := by
  intro vs M Q h
  unfold gHarmAlong at h
  repeat (obtain ⟨_, h⟩ := h)
  subst_vars
  rfl
theorem gl_whose_along : ∀ vs M Q, gWhoseAlong vs M Q → vs.length = 2 := by
  intro vs M Q h
  unfold gWhoseAlong at h
  repeat (obtain ⟨_, h⟩ := h)
  subst_vars
  rfl
theorem gl_law_box : ∀ vs M Q, gBox vs M Q → vs.length = 2 := by
  intro vs M Q h
  unfold gBox at h
  repeat (obtain ⟨_, h⟩ := h)
  subst_vars
  rfl
theorem gl_law_take : ∀ vs M Q, gTake vs M Q → vs.length = 2 := by
  intro vs M Q h
  unfold gTake at h
  repeat (obtain ⟨_, h⟩ := h)
  subst_vars
  rfl
theorem gl_law_pick : ∀ vs M Q, gPick vs M Q → vs.length = 2 := by
  intro vs M Q h
  unfold gPick at h
  repeat (obtain ⟨_, h⟩ := h)
  subst_vars
  rfl
theorem gl_law_signed : ∀ vs M Q, gSigned vs M Q → vs.length = 2 := by
  intro vs M Q h
  unfold gSigned at h
  repeat (obtain ⟨_, h⟩ := h)
  subst_vars
  rfl
theorem gl_law_lots_drawn : ∀ vs M Q, gLots vs M Q → vs.length = 3 := by
  intro vs M Q h
  unfold gLots at h
  repeat (obtain ⟨_, h⟩ := h)
  subst_vars
  rfl
theorem gl_law_turn_world : ∀ vs M Q, gTurnWorld vs M Q → vs.length = 2 := by
  intro vs M Q h
  unfold gTurnWorld at h
  repeat (obtain ⟨_, h⟩ := h)
  subst_vars
  rfl
theorem gl_law_is_end : ∀ vs M Q, gIsEnd vs M Q → vs.length = 2 := by
  intro vs M Q h
  unfold gIsEnd at h
  repeat (obtain ⟨_, h⟩ := h)
  subst_vars
  rfl
theorem gl_law_sure_let : ∀ vs M Q, gSureLet vs M Q → vs.length = 2 := by
  intro vs M Q h
  unfold gSureLet at h
  repeat (obtain ⟨_, h⟩ := h)
  subst_vars
  rfl
theorem gl_law_made : ∀ vs M Q, gMade vs M Q → vs.length = 4 := by
  intro vs M Q h
  unfold gMade at h
  repeat (obtain ⟨_, h⟩ := h)
  subst_vars
  rfl
theorem gl_law_fork : ∀ vs M Q, gFork vs M Q → vs.length = 0 := by
  intro vs M Q h
  unfold gFork at h
  repeat (obtain ⟨_, h⟩ := h)
  subst_vars
  rfl
theorem gl_law_good_world : ∀ vs M Q, gGoodWorld vs M Q → vs.length = 2 := by
  intro vs M Q h
  unfold gGoodWorld at h
  repeat (obtain ⟨_, h⟩ := h)
  subst_vars
  rfl
theorem gl_law_said : ∀ vs M Q, gSentAt vs M Q → vs.length = 3 := by
  intro vs M Q h
  unfold gSentAt at h
  repeat (obtain ⟨_, h⟩ := h)
  subst_vars
  rfl
theorem gl_law_signs_of : ∀ vs M Q, gSignsOf vs M Q → vs.length = 2 := by
  intro vs M Q h
  unfold gSignsOf at h
  repeat (obtain ⟨_, h⟩ := h)
  subst_vars
  rfl
theorem gl_law_any_entry : ∀ vs M Q, gAnyEntry vs M Q → vs.length = 2 := by
  intro vs M Q h
  unfold gAnyEntry at h
  repeat (obtain ⟨_, h⟩ := h)
  subst_vars
  rfl
theorem gl_law_goes : ∀ vs M Q, gLGoes vs M Q → vs.length = 3 := by
  intro vs M Q h
  unfold gLGoes at h
  repeat (obtain ⟨_, h⟩ := h)
  subst_vars
  rfl
theorem gl_law_log_drawn : ∀ vs M Q, gLogDrawn vs M Q → vs.length = 4 := by
  intro vs M Q h
  unfold gLogDrawn at h
  repeat (obtain ⟨_, h⟩ := h)
  subst_vars
  rfl
theorem gl_law_let_behind : ∀ vs M Q, gLLetBehind vs M Q → vs.length = 2 := by
  intro vs M Q h
  unfold gLLetBehind at h
  repeat (obtain ⟨_, h⟩ := h)
  subst_vars
  rfl
theorem gl_law_deeds_done : ∀ vs M Q, gDeedsIn vs M Q → vs.length = 1 := by
  intro vs M Q h
  unfold gDeedsIn at h
  repeat (obtain ⟨_, h⟩ := h)
  subst_vars
  rfl
theorem gl_law_board_behind : ∀ vs M Q, gBoardNow vs M Q → vs.length = 1 := by
  intro vs M Q h
  unfold gBoardNow at h
  repeat (obtain ⟨_, h⟩ := h)
  subst_vars
  rfl
theorem gl_law_breach_here : ∀ vs M Q, gBreachAlong vs M Q → vs.length = 2 := by
  intro vs M Q h
  unfold gBreachAlong at h
  repeat (obtain ⟨_, h⟩ := h)
  subst_vars
  rfl
theorem gl_law_is_stuck : ∀ vs M Q, gIsStuck vs M Q → vs.length = 3 := by
  intro vs M Q h
  unfold gIsStuck at h
  repeat (obtain ⟨_, h⟩ := h)
  subst_vars
  rfl
theorem gl_law_harm_here : ∀ vs M Q, gHarmAlong vs M Q → vs.length = 2 := by
  intro vs M Q h
  unfold gHarmAlong at h
  repeat (obtain ⟨_, h⟩ := h)
  subst_vars
  rfl
theorem gl_law_whose_here : ∀ vs M Q, gWhoseAlong vs M Q → vs.length = 2 := by
  intro vs M Q h
  unfold gWhoseAlong at h
  repeat (obtain ⟨_, h⟩ := h)
  subst_vars
  rfl
theorem ok_law (tb : ∀ x ∈ bltNames, mg x = none) (G_CANNOT : TGlob Φ79 K mg "CANNOT") (G_LET : TGlob Φ79 K mg "LET") (G_ANSWER : TGlob Φ79 K mg "ANSWER") (G_OTHERS : TGlob Φ79 K mg "OTHERS") (G_DID : TGlob Φ79 K mg "DID") (G_NEVER : TGlob Φ79 K mg "NEVER") (G_STUCK : TGlob Φ79 K mg "STUCK") (G_GIVER : TGlob Φ79 K mg "GIVER") (A_let_deeds : DefAt K mg "let_deeds" Link.s_let_deeds ["world", "let", "board"]) (A_is_stuck : DefAt K mg "is_stuck" Link.s_is_stuck ["world", "let", "board"]) (A_sign_of : DefAt K mg "sign_of" Link.s_sign_of ["world", "helper", "board"]) (A_along : DefAt K mg "along" Link.s_along ["log"]) (A_breach_at : DefAt K mg "breach_at" Link.s_breach_at ["world", "let", "board", "entry"]) (A_sentence_at : DefAt K mg "sentence_at" Link.s_sentence_at ["world", "board", "deed"]) (A_let_with : DefAt K mg "let_with" Link.s_let_with ["world", "let", "entry"]) (A_lets_along : DefAt K mg "lets_along" Link.s_lets_along ["world", "entries"]) (A_let_now : DefAt K mg "let_now" Link.s_let_now ["world", "entries"]) (A_deeds_in : DefAt K mg "deeds_in" Link.s_deeds_in ["entries"]) (A_board_now : DefAt K mg "board_now" Link.s_board_now ["entries"]) (A_breach_along : DefAt K mg "breach_along" Link.s_breach_along ["world", "entries"]) (A_harm_along : DefAt K mg "harm_along" Link.s_harm_along ["world", "entries"]) (A_whose_along : DefAt K mg "whose_along" Link.s_whose_along ["world", "entries"]) (A_law_box : DefAt K mg "_law_box" Link.s_law_box ["script", "k"]) (A_law_take : DefAt K mg "_law_take" Link.s_law_take ["box", "many"]) (A_law_pick : DefAt K mg "_law_pick" Link.s_law_pick ["box", "some"]) (A_law_same : DefAt K mg "_law_same" Link.s_law_same ["told", "due"]) (A_law_goes : DefAt K mg "_law_goes" Link.s_law_goes ["world", "let", "board"]) (A_law_is_end : DefAt K mg "_law_is_end" Link.s_law_is_end ["world", "board"]) (A_law_is_stuck : DefAt K mg "_law_is_stuck" Link.s_law_is_stuck ["world", "let", "board"]) (A_law_lots_drawn : DefAt K mg "_law_lots_drawn" Link.s_law_lots_drawn ["box", "many", "board"]) (A_law_turn_world : DefAt K mg "_law_turn_world" Link.s_law_turn_world ["box", "most"]) (A_law_sure_let : DefAt K mg "_law_sure_let" Link.s_law_sure_let ["box", "world"]) (A_law_good_world : DefAt K mg "_law_good_world" Link.s_law_good_world ["box", "most"]) (A_law_made : DefAt K mg "_law_made" Link.s_law_made ["whose", "moves", "done", "helpers"]) (A_law_fork : DefAt K mg "_law_fork" Link.s_law_fork []) (A_law_signed : DefAt K mg "_law_signed" Link.s_law_signed ["box", "world"]) (A_law_said : DefAt K mg "_law_said" Link.s_law_said ["world", "board", "deed"]) (A_law_log_drawn : DefAt K mg "_law_log_drawn" Link.s_law_log_drawn ["box", "world", "let", "many"]) (A_law_giver : DefAt K mg "_law_giver" Link.s_law_giver []) (A_law_signs_of : DefAt K mg "_law_signs_of" Link.s_law_signs_of ["world", "deed"]) (A_law_any_entry : DefAt K mg "_law_any_entry" Link.s_law_any_entry ["box", "world"]) (A_law_let_behind : DefAt K mg "_law_let_behind" Link.s_law_let_behind ["world", "entries"]) (A_law_deeds_done : DefAt K mg "_law_deeds_done" Link.s_law_deeds_done ["entries"]) (A_law_board_behind : DefAt K mg "_law_board_behind" Link.s_law_board_behind ["entries"]) (A_law_breach_here : DefAt K mg "_law_breach_here" Link.s_law_breach_here ["world", "entries"]) (A_law_harm_here : DefAt K mg "_law_harm_here" Link.s_law_harm_here ["world", "entries"]) (A_law_whose_here : DefAt K mg "_law_whose_here" Link.s_law_whose_here ["world", "entries"]) (f : Addr) (fd : FuncData) (F : Fun K "law" "law" Link.s_law f fd) : FnOk P w K mg base CX0 11 f fd ["script"] (LawSp K 63) := by
  have o_law_giver : ∀ f fd, Fun K "_law_giver" "_law_giver" Link.s_law_giver f fd → FnOk P w K mg base CX0 1 f fd [] (LSp P w K gGiver) := fun f fd F => def_ok (Φ := Φ79) F Link.sc_law_giver Link.c_law_giver tb ( all_nil) ( all_nil) ( all_nil) gl_law_giver (b_giver _)
  have T_law_giver : TCall Φ79 P w K mg base 1 "_law_giver" := A_law_giver.tc rfl o_law_giver
  have o_sign_of : ∀ f fd, Fun K "sign_of" "sign_of" Link.s_sign_of f fd → FnOk P w K mg base CX0 1 f fd ["world", "helper", "board"] (LSp P w K gSignOf) := fun f fd F => def_ok (Φ := Φ79) F Link.sc_sign_of Link.c_sign_of tb ( all_nil) ( all_nil) ( all_nil) gl_sign_of (b_sign_of _)
  have T_sign_of : TCall Φ79 P w K mg base 1 "sign_of" := A_sign_of.tc rfl o_sign_of
  have o_sentence_at : ∀ f fd, Fun K "sentence_at" "sentence_at" Link.s_sentence_at f fd → FnOk P w K mg base CX0 2 f fd ["world", "board", "deed"] (LSp P w K gSentAt) := fun f fd F => def_ok (Φ := Φ79) F Link.sc_sentence_at Link.c_sentence_at tb ((all_cons (T_sign_of.mono (by decide)) all_nil)) ( all_nil) ( all_nil) gl_sentence_at (b_sentence_at _ rfl)
  have T_sentence_at : TCall Φ79 P w K mg base 2 "sentence_at" := A_sentence_at.tc rfl o_sentence_at
  have o_let_with : ∀ f fd, Fun K "let_with" "let_with" Link.s_let_with f fd → FnOk P w K mg base CX0 3 f fd ["world", "let", "entry"] (LSp P w K gLetWith) := fun f fd F => def_ok (Φ := Φ79) F Link.sc_let_with Link.c_let_with tb ((all_cons (T_sentence_at.mono (by decide)) all_nil)) ( all_nil) ( all_nil) gl_let_with (b_let_with _ rfl)
  have T_let_with : TCall Φ79 P w K mg base 3 "let_with" := A_let_with.tc rfl o_let_with
  have o_lets_along : ∀ f fd, Fun K "lets_along" "lets_along" Link.s_lets_along f fd → FnOk P w K mg base CX0 4 f fd ["world", "entries"] (LSp P w K gLetsAlong) := fun f fd F => def_ok (Φ := Φ79) F Link.sc_lets_along Link.c_lets_along tb ((all_cons (T_let_with.mono (by decide)) all_nil)) ( all_nil) ( all_nil) gl_lets_along (b_lets_along _ rfl)
  have T_lets_along : TCall Φ79 P w K mg base 4 "lets_along" := A_lets_along.tc rfl o_lets_along
  have o_breach_at : ∀ f fd, Fun K "breach_at" "breach_at" Link.s_breach_at f fd → FnOk P w K mg base CX0 1 f fd ["world", "let", "board", "entry"] (LSp P w K gBreachAt) := fun f fd F => def_ok (Φ := Φ79) F Link.sc_breach_at Link.c_breach_at tb ( all_nil) ( all_nil) ((all_cons G_CANNOT (all_cons G_LET (all_cons G_ANSWER (all_cons G_OTHERS all_nil))))) gl_breach_at (b_breach_at _ ⟨rfl, rfl, rfl, rfl⟩)
  have T_breach_at : TCall Φ79 P w K mg base 1 "breach_at" := A_breach_at.tc rfl o_breach_at
  have o_breach_along : ∀ f fd, Fun K "breach_along" "breach_along" Link.s_breach_along f fd → FnOk P w K mg base CX0 5 f fd ["world", "entries"] (LSp P w K gBreachAlong) := fun f fd F => def_ok (Φ := Φ79) F Link.sc_breach_along Link.c_breach_along tb ((all_cons (T_lets_along.mono (by decide)) (all_cons (T_breach_at.mono (by decide)) all_nil))) ( all_nil) ((all_cons G_DID all_nil)) gl_breach_along (b_breach_along _ rfl rfl rfl)
  have T_breach_along : TCall Φ79 P w K mg base 5 "breach_along" := A_breach_along.tc rfl o_breach_along
  have o_let_deeds : ∀ f fd, Fun K "let_deeds" "let_deeds" Link.s_let_deeds f fd → FnOk P w K mg base CX0 1 f fd ["world", "let", "board"] (LSp P w K gLetDeeds) := fun f fd F => def_ok (Φ := Φ79) F Link.sc_let_deeds Link.c_let_deeds tb ( all_nil) ( all_nil) ( all_nil) gl_let_deeds (b_let_deeds _)
  have T_let_deeds : TCall Φ79 P w K mg base 1 "let_deeds" := A_let_deeds.tc rfl o_let_deeds
  have o_is_stuck : ∀ f fd, Fun K "is_stuck" "is_stuck" Link.s_is_stuck f fd → FnOk P w K mg base CX0 2 f fd ["world", "let", "board"] (LSp P w K gIsStuck) := fun f fd F => def_ok (Φ := Φ79) F Link.sc_is_stuck Link.c_is_stuck tb ((all_cons (T_let_deeds.mono (by decide)) all_nil)) ( all_nil) ( all_nil) gl_is_stuck (b_is_stuck _ rfl)
  have T_is_stuck : TCall Φ79 P w K mg base 2 "is_stuck" := A_is_stuck.tc rfl o_is_stuck
  have o_let_now : ∀ f fd, Fun K "let_now" "let_now" Link.s_let_now f fd → FnOk P w K mg base CX0 5 f fd ["world", "entries"] (LSp P w K gLetNow) := fun f fd F => def_ok (Φ := Φ79) F Link.sc_let_now Link.c_let_now tb ((all_cons (T_lets_along.mono (by decide)) all_nil)) ( all_nil) ( all_nil) gl_let_now (b_let_now _ rfl)
  have T_let_now : TCall Φ79 P w K mg base 5 "let_now" := A_let_now.tc rfl o_let_now
  have o_along : ∀ f fd, Fun K "along" "along" Link.s_along f fd → FnOk P w K mg base CX0 1 f fd ["log"] (LSp P w K gAlong) := fun f fd F => def_ok (Φ := Φ79) F Link.sc_along Link.c_along tb ( all_nil) ( all_nil) ( all_nil) gl_along (b_along _)
  have T_along : TCall Φ79 P w K mg base 1 "along" := A_along.tc rfl o_along
  have o_deeds_in : ∀ f fd, Fun K "deeds_in" "deeds_in" Link.s_deeds_in f fd → FnOk P w K mg base CX0 1 f fd ["entries"] (LSp P w K gDeedsIn) := fun f fd F => def_ok (Φ := Φ79) F Link.sc_deeds_in Link.c_deeds_in tb ( all_nil) ( all_nil) ((all_cons G_DID all_nil)) gl_deeds_in (b_deeds_in _ rfl)
  have T_deeds_in : TCall Φ79 P w K mg base 1 "deeds_in" := A_deeds_in.tc rfl o_deeds_in
  have o_board_now : ∀ f fd, Fun K "board_now" "board_now" Link.s_board_now f fd → FnOk P w K mg base CX0 2 f fd ["entries"] (LSp P w K gBoardNow) := fun f fd F => def_ok (Φ := Φ79) F Link.sc_board_now Link.c_board_now tb ((all_cons (T_along.mono (by decide)) (all_cons (T_deeds_in.mono (by decide)) all_nil))) ( all_nil) ( all_nil) gl_board_now (b_board_now _ rfl rfl)
  have T_board_now : TCall Φ79 P w K mg base 2 "board_now" := A_board_now.tc rfl o_board_now
  have o_harm_along : ∀ f fd, Fun K "harm_along" "harm_along" Link.s_harm_along f fd → FnOk P w K mg base CX0 6 f fd ["world", "entries"] (LSp P w K gHarmAlong) := fun f fd F => def_ok (Φ := Φ79) F Link.sc_harm_along Link.c_harm_along tb ((all_cons (T_is_stuck.mono (by decide)) (all_cons (T_let_now.mono (by decide)) (all_cons (T_board_now.mono (by decide)) all_nil)))) ( all_nil) ((all_cons G_NEVER (all_cons G_DID (all_cons G_STUCK all_nil)))) gl_harm_along (b_harm_along _ ⟨rfl, rfl, rfl⟩ rfl rfl rfl)
  have T_harm_along : TCall Φ79 P w K mg base 6 "harm_along" := A_harm_along.tc rfl o_harm_along
  have o_whose_along : ∀ f fd, Fun K "whose_along" "whose_along" Link.s_whose_along f fd → FnOk P w K mg base CX0 7 f fd ["world", "entries"] (LSp P w K gWhoseAlong) := fun f fd F => def_ok (Φ := Φ79) F Link.sc_whose_along Link.c_whose_along tb ((all_cons (T_harm_along.mono (by decide)) (all_cons (T_breach_along.mono (by decide)) all_nil))) ( all_nil) ((all_cons G_GIVER all_nil)) gl_whose_along (b_whose_along _ rfl rfl rfl)
  have T_whose_along : TCall Φ79 P w K mg base 7 "whose_along" := A_whose_along.tc rfl o_whose_along
  have o_law_same := fun f fd F => rec_law_same (P := P) (w := w) (base := base) tb A_law_same 8 f fd F
  have T_law_same : TCall Φ79 P w K mg base 10 "_law_same" := A_law_same.tc rfl (fun f fd F => (o_law_same f fd F).mono (by decide))
  have o_law_box : ∀ f fd, Fun K "_law_box" "_law_box" Link.s_law_box f fd → FnOk P w K mg base CX0 1 f fd ["script", "k"] (LSp P w K gBox) := fun f fd F => def_ok (Φ := Φ79) F Link.sc_law_box Link.c_law_box tb ( all_nil) ( all_nil) ( all_nil) gl_law_box (b_box _)
  have T_law_box : TCall Φ79 P w K mg base 1 "_law_box" := A_law_box.tc rfl o_law_box
  have o_law_take : ∀ f fd, Fun K "_law_take" "_law_take" Link.s_law_take f fd → FnOk P w K mg base CX0 1 f fd ["box", "many"] (LSp P w K gTake) := fun f fd F => def_ok (Φ := Φ79) F Link.sc_law_take Link.c_law_take tb ( all_nil) ( all_nil) ( all_nil) gl_law_take (b_take _)
  have T_law_take : TCall Φ79 P w K mg base 1 "_law_take" := A_law_take.tc rfl o_law_take
  have o_law_pick : ∀ f fd, Fun K "_law_pick" "_law_pick" Link.s_law_pick f fd → FnOk P w K mg base CX0 2 f fd ["box", "some"] (LSp P w K gPick) := fun f fd F => def_ok (Φ := Φ79) F Link.sc_law_pick Link.c_law_pick tb ((all_cons (T_law_take.mono (by decide)) all_nil)) ( all_nil) ( all_nil) gl_law_pick (b_pick _ rfl)
  have T_law_pick : TCall Φ79 P w K mg base 2 "_law_pick" := A_law_pick.tc rfl o_law_pick
  have o_law_signed : ∀ f fd, Fun K "_law_signed" "_law_signed" Link.s_law_signed f fd → FnOk P w K mg base CX0 3 f fd ["box", "world"] (LSp P w K gSigned) := fun f fd F => def_ok (Φ := Φ79) F Link.sc_law_signed Link.c_law_signed tb ((all_cons (T_law_pick.mono (by decide)) all_nil)) ( all_nil) ( all_nil) gl_law_signed (b_signed _ rfl)
  have T_law_signed : TCall Φ79 P w K mg base 3 "_law_signed" := A_law_signed.tc rfl o_law_signed
  have o_law_lots_drawn : ∀ f fd, Fun K "_law_lots_drawn" "_law_lots_drawn" Link.s_law_lots_drawn f fd → FnOk P w K mg base CX0 3 f fd ["box", "many", "board"] (LSp P w K gLots) := fun f fd F => def_ok (Φ := Φ79) F Link.sc_law_lots_drawn Link.c_law_lots_drawn tb ((all_cons (T_law_pick.mono (by decide)) (all_cons (T_law_take.mono (by decide)) all_nil))) ( all_nil) ( all_nil) gl_law_lots_drawn (b_lots_drawn _ rfl rfl)
  have T_law_lots_drawn : TCall Φ79 P w K mg base 3 "_law_lots_drawn" := A_law_lots_drawn.tc rfl o_law_lots_drawn
  have o_law_turn_world : ∀ f fd, Fun K "_law_turn_world" "_law_turn_world" Link.s_law_turn_world f fd → FnOk P w K mg base CX0 4 f fd ["box", "most"] (LSp P w K gTurnWorld) := fun f fd F => def_ok (Φ := Φ79) F Link.sc_law_turn_world Link.c_law_turn_world tb ((all_cons (T_law_take.mono (by decide)) (all_cons (T_law_lots_drawn.mono (by decide)) all_nil))) ( all_nil) ( all_nil) gl_law_turn_world (b_turn_world _ rfl rfl)
  have T_law_turn_world : TCall Φ79 P w K mg base 4 "_law_turn_world" := A_law_turn_world.tc rfl o_law_turn_world
  have o_law_is_end : ∀ f fd, Fun K "_law_is_end" "_law_is_end" Link.s_law_is_end f fd → FnOk P w K mg base CX0 1 f fd ["world", "board"] (LSp P w K gIsEnd) := fun f fd F => def_ok (Φ := Φ79) F Link.sc_law_is_end Link.c_law_is_end tb ( all_nil) ( all_nil) ( all_nil) gl_law_is_end (b_law_is_end _)
  have T_law_is_end : TCall Φ79 P w K mg base 1 "_law_is_end" := A_law_is_end.tc rfl o_law_is_end
  have o_law_sure_let : ∀ f fd, Fun K "_law_sure_let" "_law_sure_let" Link.s_law_sure_let f fd → FnOk P w K mg base CX0 3 f fd ["box", "world"] (LSp P w K gSureLet) := fun f fd F => def_ok (Φ := Φ79) F Link.sc_law_sure_let Link.c_law_sure_let tb ((all_cons (T_law_is_end.mono (by decide)) (all_cons (T_law_take.mono (by decide)) (all_cons (T_law_pick.mono (by decide)) all_nil)))) ( all_nil) ( all_nil) gl_law_sure_let (b_sure_let _ rfl rfl rfl)
  have T_law_sure_let : TCall Φ79 P w K mg base 3 "_law_sure_let" := A_law_sure_let.tc rfl o_law_sure_let
  have o_law_made : ∀ f fd, Fun K "_law_made" "_law_made" Link.s_law_made f fd → FnOk P w K mg base CX0 1 f fd ["whose", "moves", "done", "helpers"] (LSp P w K gMade) := fun f fd F => def_ok (Φ := Φ79) F Link.sc_law_made Link.c_law_made tb ( all_nil) ( all_nil) ( all_nil) gl_law_made (b_made _)
  have T_law_made : TCall Φ79 P w K mg base 1 "_law_made" := A_law_made.tc rfl o_law_made
  have o_law_fork : ∀ f fd, Fun K "_law_fork" "_law_fork" Link.s_law_fork f fd → FnOk P w K mg base CX0 2 f fd [] (LSp P w K gFork) := fun f fd F => def_ok (Φ := Φ79) F Link.sc_law_fork Link.c_law_fork tb ((all_cons (T_law_made.mono (by decide)) all_nil)) ( all_nil) ( all_nil) gl_law_fork (b_fork _ rfl)
  have T_law_fork : TCall Φ79 P w K mg base 2 "_law_fork" := A_law_fork.tc rfl o_law_fork
  have o_law_good_world : ∀ f fd, Fun K "_law_good_world" "_law_good_world" Link.s_law_good_world f fd → FnOk P w K mg base CX0 5 f fd ["box", "most"] (LSp P w K gGoodWorld) := fun f fd F => def_ok (Φ := Φ79) F Link.sc_law_good_world Link.c_law_good_world tb ((all_cons (T_law_turn_world.mono (by decide)) (all_cons (T_law_sure_let.mono (by decide)) (all_cons (T_law_fork.mono (by decide)) all_nil)))) ( all_nil) ( all_nil) gl_law_good_world (b_good_world _ rfl rfl rfl)
  have T_law_good_world : TCall Φ79 P w K mg base 5 "_law_good_world" := A_law_good_world.tc rfl o_law_good_world
  have o_law_said : ∀ f fd, Fun K "_law_said" "_law_said" Link.s_law_said f fd → FnOk P w K mg base CX0 1 f fd ["world", "board", "deed"] (LSp P w K gSentAt) := fun f fd F => def_ok (Φ := Φ79) F Link.sc_law_said Link.c_law_said tb ( all_nil) ( all_nil) ( all_nil) gl_law_said (b_law_said _)
  have T_law_said : TCall Φ79 P w K mg base 1 "_law_said" := A_law_said.tc rfl o_law_said
  have o_law_signs_of : ∀ f fd, Fun K "_law_signs_of" "_law_signs_of" Link.s_law_signs_of f fd → FnOk P w K mg base CX0 2 f fd ["world", "deed"] (LSp P w K gSignsOf) := fun f fd F => def_ok (Φ := Φ79) F Link.sc_law_signs_of Link.c_law_signs_of tb ((all_cons (T_law_said.mono (by decide)) all_nil)) ( all_nil) ( all_nil) gl_law_signs_of (b_signs_of _ rfl)
  have T_law_signs_of : TCall Φ79 P w K mg base 2 "_law_signs_of" := A_law_signs_of.tc rfl o_law_signs_of
  have o_law_any_entry : ∀ f fd, Fun K "_law_any_entry" "_law_any_entry" Link.s_law_any_entry f fd → FnOk P w K mg base CX0 3 f fd ["box", "world"] (LSp P w K gAnyEntry) := fun f fd F => def_ok (Φ := Φ79) F Link.sc_law_any_entry Link.c_law_any_entry tb ((all_cons (T_law_take.mono (by decide)) (all_cons (T_law_pick.mono (by decide)) (all_cons (T_law_signs_of.mono (by decide)) all_nil)))) ( all_nil) ( all_nil) gl_law_any_entry (b_any_entry _ rfl rfl rfl)
  have T_law_any_entry : TCall Φ79 P w K mg base 3 "_law_any_entry" := A_law_any_entry.tc rfl o_law_any_entry
  have o_law_goes : ∀ f fd, Fun K "_law_goes" "_law_goes" Link.s_law_goes f fd → FnOk P w K mg base CX0 1 f fd ["world", "let", "board"] (LSp P w K gLGoes) := fun f fd F => def_ok (Φ := Φ79) F Link.sc_law_goes Link.c_law_goes tb ( all_nil) ( all_nil) ( all_nil) gl_law_goes (b_law_goes _)
  have T_law_goes : TCall Φ79 P w K mg base 1 "_law_goes" := A_law_goes.tc rfl o_law_goes
  have o_law_log_drawn : ∀ f fd, Fun K "_law_log_drawn" "_law_log_drawn" Link.s_law_log_drawn f fd → FnOk P w K mg base CX0 3 f fd ["box", "world", "let", "many"] (LSp P w K gLogDrawn) := fun f fd F => def_ok (Φ := Φ79) F Link.sc_law_log_drawn Link.c_law_log_drawn tb ((all_cons (T_law_goes.mono (by decide)) (all_cons (T_law_take.mono (by decide)) (all_cons (T_law_pick.mono (by decide)) all_nil)))) ( all_nil) ( all_nil) gl_law_log_drawn (b_log_drawn _ rfl rfl rfl)
  have T_law_log_drawn : TCall Φ79 P w K mg base 3 "_law_log_drawn" := A_law_log_drawn.tc rfl o_law_log_drawn
  have o_law_let_behind : ∀ f fd, Fun K "_law_let_behind" "_law_let_behind" Link.s_law_let_behind f fd → FnOk P w K mg base CX0 2 f fd ["world", "entries"] (LSp P w K gLLetBehind) := fun f fd F => def_ok (Φ := Φ79) F Link.sc_law_let_behind Link.c_law_let_behind tb ((all_cons (T_law_said.mono (by decide)) all_nil)) ( all_nil) ( all_nil) gl_law_let_behind (b_law_let_behind _ rfl)
  have T_law_let_behind : TCall Φ79 P w K mg base 2 "_law_let_behind" := A_law_let_behind.tc rfl o_law_let_behind
  have o_law_deeds_done : ∀ f fd, Fun K "_law_deeds_done" "_law_deeds_done" Link.s_law_deeds_done f fd → FnOk P w K mg base CX0 1 f fd ["entries"] (LSp P w K gDeedsIn) := fun f fd F => def_ok (Φ := Φ79) F Link.sc_law_deeds_done Link.c_law_deeds_done tb ( all_nil) ( all_nil) ( all_nil) gl_law_deeds_done (b_law_deeds_done _)
  have T_law_deeds_done : TCall Φ79 P w K mg base 1 "_law_deeds_done" := A_law_deeds_done.tc rfl o_law_deeds_done
  have o_law_board_behind : ∀ f fd, Fun K "_law_board_behind" "_law_board_behind" Link.s_law_board_behind f fd → FnOk P w K mg base CX0 1 f fd ["entries"] (LSp P w K gBoardNow) := fun f fd F => def_ok (Φ := Φ79) F Link.sc_law_board_behind Link.c_law_board_behind tb ( all_nil) ( all_nil) ( all_nil) gl_law_board_behind (b_law_board_behind _)
  have T_law_board_behind : TCall Φ79 P w K mg base 1 "_law_board_behind" := A_law_board_behind.tc rfl o_law_board_behind
  have o_law_breach_here : ∀ f fd, Fun K "_law_breach_here" "_law_breach_here" Link.s_law_breach_here f fd → FnOk P w K mg base CX0 3 f fd ["world", "entries"] (LSp P w K gBreachAlong) := fun f fd F => def_ok (Φ := Φ79) F Link.sc_law_breach_here Link.c_law_breach_here tb ((all_cons (T_law_board_behind.mono (by decide)) (all_cons (T_law_let_behind.mono (by decide)) all_nil))) ( all_nil) ( all_nil) gl_law_breach_here (b_law_breach_here _ rfl rfl)
  have T_law_breach_here : TCall Φ79 P w K mg base 3 "_law_breach_here" := A_law_breach_here.tc rfl o_law_breach_here
  have o_law_is_stuck : ∀ f fd, Fun K "_law_is_stuck" "_law_is_stuck" Link.s_law_is_stuck f fd → FnOk P w K mg base CX0 2 f fd ["world", "let", "board"] (LSp P w K gIsStuck) := fun f fd F => def_ok (Φ := Φ79) F Link.sc_law_is_stuck Link.c_law_is_stuck tb ((all_cons (T_law_goes.mono (by decide)) all_nil)) ( all_nil) ( all_nil) gl_law_is_stuck (b_law_is_stuck _ rfl)
  have T_law_is_stuck : TCall Φ79 P w K mg base 2 "_law_is_stuck" := A_law_is_stuck.tc rfl o_law_is_stuck
  have o_law_harm_here : ∀ f fd, Fun K "_law_harm_here" "_law_harm_here" Link.s_law_harm_here f fd → FnOk P w K mg base CX0 3 f fd ["world", "entries"] (LSp P w K gHarmAlong) := fun f fd F => def_ok (Φ := Φ79) F Link.sc_law_harm_here Link.c_law_harm_here tb ((all_cons (T_law_board_behind.mono (by decide)) (all_cons (T_law_is_stuck.mono (by decide)) (all_cons (T_law_let_behind.mono (by decide)) all_nil)))) ( all_nil) ( all_nil) gl_law_harm_here (b_law_harm_here _ rfl rfl rfl)
  have T_law_harm_here : TCall Φ79 P w K mg base 3 "_law_harm_here" := A_law_harm_here.tc rfl o_law_harm_here
  have o_law_whose_here : ∀ f fd, Fun K "_law_whose_here" "_law_whose_here" Link.s_law_whose_here f fd → FnOk P w K mg base CX0 4 f fd ["world", "entries"] (LSp P w K gWhoseAlong) := fun f fd F => def_ok (Φ := Φ79) F Link.sc_law_whose_here Link.c_law_whose_here tb ((all_cons (T_law_harm_here.mono (by decide)) (all_cons (T_law_breach_here.mono (by decide)) all_nil))) ( all_nil) ( all_nil) gl_law_whose_here (b_law_whose_here _ rfl rfl)
  have T_law_whose_here : TCall Φ79 P w K mg base 4 "_law_whose_here" := A_law_whose_here.tc rfl o_law_whose_here
  exact law_ok (Φ := Φ79) F Link.sc_law Link.c_law tb ((all_cons (T_law_giver.mono (by decide)) (all_cons (T_lets_along.mono (by decide)) (all_cons (T_breach_along.mono (by decide)) (all_cons (T_whose_along.mono (by decide)) (all_cons (T_harm_along.mono (by decide)) (all_cons (T_let_now.mono (by decide)) (all_cons (T_board_now.mono (by decide)) (all_cons (T_deeds_in.mono (by decide)) (all_cons (T_law_same.mono (by decide)) (all_cons (T_law_box.mono (by decide)) (all_cons (T_law_signed.mono (by decide)) (all_cons (T_law_good_world.mono (by decide)) (all_cons (T_law_take.mono (by decide)) (all_cons (T_law_any_entry.mono (by decide)) (all_cons (T_law_log_drawn.mono (by decide)) (all_cons (T_law_let_behind.mono (by decide)) (all_cons (T_law_deeds_done.mono (by decide)) (all_cons (T_law_board_behind.mono (by decide)) (all_cons (T_law_breach_here.mono (by decide)) (all_cons (T_law_harm_here.mono (by decide)) (all_cons (T_law_whose_here.mono (by decide)) (all_cons (T_law_pick.mono (by decide)) (all_cons (T_law_signs_of.mono (by decide)) all_nil)))))))))))))))))))))))) ((all_cons (A_let_now.tck (n := 1) (ks := ["entries"]) rfl (fun f fd F => (o_let_now f fd F).mono (by decide)) (by decide) (fun _ _ _ _ _ _ us ws h1 h2 => match us, ws, h1, h2 with | [_], [_], _, _ => rfl)) (all_cons (A_harm_along.tck (n := 1) (ks := ["entries"]) rfl (fun f fd F => (o_harm_along f fd F).mono (by decide)) (by decide) (fun _ _ _ _ _ _ us ws h1 h2 => match us, ws, h1, h2 with | [_], [_], _, _ => rfl)) all_nil))) ( all_nil) (fun a ns hn => b_law79 _ ⟨rfl, rfl, rfl, rfl, rfl, rfl, rfl, rfl, rfl, rfl, rfl, rfl, rfl, rfl, rfl, rfl, rfl, rfl, rfl, rfl, rfl, rfl, rfl⟩ a ns hn)
end
open PyProof.Rows in
theorem all_mk {l : PySem.W.OpenLaw} {w : World} {K : PySem.W.Frag} {h : Heap} {mg : Str → Option Value} {fa : Addr} (X : K.In h) (G : h.Ns mainGlobals mg) (hfa : mg "law" = some (.ref fa)) {f_let_deeds : Addr} {oc_let_deeds : Value} {od_let_deeds an_let_deeds : Option Addr} {osl_let_deeds : Array (Option Value)} {kV_let_deeds doc_let_deeds pm_let_deeds cd_let_deeds ct_let_deeds : Value} {f_is_stuck : Addr} {oc_is_stuck : Value} {od_is_stuck an_is_stuck : Option Addr} {osl_is_stuck : Array (Option Value)} {kV_is_stuck doc_is_stuck pm_is_stuck cd_is_stuck ct_is_stuck : Value} {f_sign_of : Addr} {oc_sign_of : Value} {od_sign_of an_sign_of : Option Addr} {osl_sign_of : Array (Option Value)} {kV_sign_of doc_sign_of pm_sign_of cd_sign_of ct_sign_of : Value} {f_along : Addr} {oc_along : Value} {od_along an_along : Option Addr} {osl_along : Array (Option Value)} {kV_along doc_along pm_along cd_along ct_along : Value} {f_breach_at : Addr} {oc_breach_at : Value} {od_breach_at an_breach_at : Option Addr} {osl_breach_at : Array (Option Value)} {kV_breach_at doc_breach_at pm_breach_at cd_breach_at ct_breach_at : Value} {f_sentence_at : Addr} {oc_sentence_at : Value} {od_sentence_at an_sentence_at : Option Addr} {osl_sentence_at : Array (Option Value)} {kV_sentence_at doc_sentence_at pm_sentence_at cd_sentence_at ct_sentence_at : Value} {f_let_with : Addr} {oc_let_with : Value} {od_let_with an_let_with : Option Addr} {osl_let_with : Array (Option Value)} {kV_let_with doc_let_with pm_let_with cd_let_with ct_let_with : Value} {f_lets_along : Addr} {oc_lets_along : Value} {od_lets_along an_lets_along : Option Addr} {osl_lets_along : Array (Option Value)} {kV_lets_along doc_lets_along pm_lets_along cd_lets_along ct_lets_along : Value} {f_let_now : Addr} {oc_let_now : Value} {od_let_now an_let_now : Option Addr} {osl_let_now : Array (Option Value)} {kV_let_now doc_let_now pm_let_now cd_let_now ct_let_now : Value} {f_deeds_in : Addr} {oc_deeds_in : Value} {od_deeds_in an_deeds_in : Option Addr} {osl_deeds_in : Array (Option Value)} {kV_deeds_in doc_deeds_in pm_deeds_in cd_deeds_in ct_deeds_in : Value} {f_board_now : Addr} {oc_board_now : Value} {od_board_now an_board_now : Option Addr} {osl_board_now : Array (Option Value)} {kV_board_now doc_board_now pm_board_now cd_board_now ct_board_now : Value} {f_breach_along : Addr} {oc_breach_along : Value} {od_breach_along an_breach_along : Option Addr} {osl_breach_along : Array (Option Value)} {kV_breach_along doc_breach_along pm_breach_along cd_breach_along ct_breach_along : Value} {f_harm_along : Addr} {oc_harm_along : Value} {od_harm_along an_harm_along : Option Addr} {osl_harm_along : Array (Option Value)} {kV_harm_along doc_harm_along pm_harm_along cd_harm_along ct_harm_along : Value} {f_whose_along : Addr} {oc_whose_along : Value} {od_whose_along an_whose_along : Option Addr} {osl_whose_along : Array (Option Value)} {kV_whose_along doc_whose_along pm_whose_along cd_whose_along ct_whose_along : Value} {f_law_box : Addr} {oc_law_box : Value} {od_law_box an_law_box : Option Addr} {osl_law_box : Array (Option Value)} {kV_law_box doc_law_box pm_law_box cd_law_box ct_law_box : Value} {f_law_take : Addr} {oc_law_take : Value} {od_law_take an_law_take : Option Addr} {osl_law_take : Array (Option Value)} {kV_law_take doc_law_take pm_law_take cd_law_take ct_law_take : Value} {f_law_pick : Addr} {oc_law_pick : Value} {od_law_pick an_law_pick : Option Addr} {osl_law_pick : Array (Option Value)} {kV_law_pick doc_law_pick pm_law_pick cd_law_pick ct_law_pick : Value} {f_law_same : Addr} {oc_law_same : Value} {od_law_same an_law_same : Option Addr} {osl_law_same : Array (Option Value)} {kV_law_same doc_law_same pm_law_same cd_law_same ct_law_same : Value} {f_law_goes : Addr} {oc_law_goes : Value} {od_law_goes an_law_goes : Option Addr} {osl_law_goes : Array (Option Value)} {kV_law_goes doc_law_goes pm_law_goes cd_law_goes ct_law_goes : Value} {f_law_is_end : Addr} {oc_law_is_end : Value} {od_law_is_end an_law_is_end : Option Addr} {osl_law_is_end : Array (Option Value)} {kV_law_is_end doc_law_is_end pm_law_is_end cd_law_is_end ct_law_is_end : Value} {f_law_is_stuck : Addr} {oc_law_is_stuck : Value} {od_law_is_stuck an_law_is_stuck : Option Addr} {osl_law_is_stuck : Array (Option Value)} {kV_law_is_stuck doc_law_is_stuck pm_law_is_stuck cd_law_is_stuck ct_law_is_stuck : Value} {f_law_lots_drawn : Addr} {oc_law_lots_drawn : Value} {od_law_lots_drawn an_law_lots_drawn : Option Addr} {osl_law_lots_drawn : Array (Option Value)} {kV_law_lots_drawn doc_law_lots_drawn pm_law_lots_drawn cd_law_lots_drawn ct_law_lots_drawn : Value} {f_law_turn_world : Addr} {oc_law_turn_world : Value} {od_law_turn_world an_law_turn_world : Option Addr} {osl_law_turn_world : Array (Option Value)} {kV_law_turn_world doc_law_turn_world pm_law_turn_world cd_law_turn_world ct_law_turn_world : Value} {f_law_sure_let : Addr} {oc_law_sure_let : Value} {od_law_sure_let an_law_sure_let : Option Addr} {osl_law_sure_let : Array (Option Value)} {kV_law_sure_let doc_law_sure_let pm_law_sure_let cd_law_sure_let ct_law_sure_let : Value} {f_law_good_world : Addr} {oc_law_good_world : Value} {od_law_good_world an_law_good_world : Option Addr} {osl_law_good_world : Array (Option Value)} {kV_law_good_world doc_law_good_world pm_law_good_world cd_law_good_world ct_law_good_world : Value} {f_law_made : Addr} {oc_law_made : Value} {od_law_made an_law_made : Option Addr} {osl_law_made : Array (Option Value)} {kV_law_made doc_law_made pm_law_made cd_law_made ct_law_made : Value} {f_law_fork : Addr} {oc_law_fork : Value} {od_law_fork an_law_fork : Option Addr} {osl_law_fork : Array (Option Value)} {kV_law_fork doc_law_fork pm_law_fork cd_law_fork ct_law_fork : Value} {f_law_signed : Addr} {oc_law_signed : Value} {od_law_signed an_law_signed : Option Addr} {osl_law_signed : Array (Option Value)} {kV_law_signed doc_law_signed pm_law_signed cd_law_signed ct_law_signed : Value} {f_law_said : Addr} {oc_law_said : Value} {od_law_said an_law_said : Option Addr} {osl_law_said : Array (Option Value)} {kV_law_said doc_law_said pm_law_said cd_law_said ct_law_said : Value} {f_law_log_drawn : Addr} {oc_law_log_drawn : Value} {od_law_log_drawn an_law_log_drawn : Option Addr} {osl_law_log_drawn : Array (Option Value)} {kV_law_log_drawn doc_law_log_drawn pm_law_log_drawn cd_law_log_drawn ct_law_log_drawn : Value} {f_law_giver : Addr} {oc_law_giver : Value} {od_law_giver an_law_giver : Option Addr} {osl_law_giver : Array (Option Value)} {kV_law_giver doc_law_giver pm_law_giver cd_law_giver ct_law_giver : Value} {f_law_signs_of : Addr} {oc_law_signs_of : Value} {od_law_signs_of an_law_signs_of : Option Addr} {osl_law_signs_of : Array (Option Value)} {kV_law_signs_of doc_law_signs_of pm_law_signs_of cd_law_signs_of ct_law_signs_of : Value} {f_law_any_entry : Addr} {oc_law_any_entry : Value} {od_law_any_entry an_law_any_entry : Option Addr} {osl_law_any_entry : Array (Option Value)} {kV_law_any_entry doc_law_any_entry pm_law_any_entry cd_law_any_entry ct_law_any_entry : Value} {f_law_let_behind : Addr} {oc_law_let_behind : Value} {od_law_let_behind an_law_let_behind : Option Addr} {osl_law_let_behind : Array (Option Value)} {kV_law_let_behind doc_law_let_behind pm_law_let_behind cd_law_let_behind ct_law_let_behind : Value} {f_law_deeds_done : Addr} {oc_law_deeds_done : Value} {od_law_deeds_done an_law_deeds_done : Option Addr} {osl_law_deeds_done : Array (Option Value)} {kV_law_deeds_done doc_law_deeds_done pm_law_deeds_done cd_law_deeds_done ct_law_deeds_done : Value} {f_law_board_behind : Addr} {oc_law_board_behind : Value} {od_law_board_behind an_law_board_behind : Option Addr} {osl_law_board_behind : Array (Option Value)} {kV_law_board_behind doc_law_board_behind pm_law_board_behind cd_law_board_behind ct_law_board_behind : Value} {f_law_breach_here : Addr} {oc_law_breach_here : Value} {od_law_breach_here an_law_breach_here : Option Addr} {osl_law_breach_here : Array (Option Value)} {kV_law_breach_here doc_law_breach_here pm_law_breach_here cd_law_breach_here ct_law_breach_here : Value} {f_law_harm_here : Addr} {oc_law_harm_here : Value} {od_law_harm_here an_law_harm_here : Option Addr} {osl_law_harm_here : Array (Option Value)} {kV_law_harm_here doc_law_harm_here pm_law_harm_here cd_law_harm_here ct_law_harm_here : Value} {f_law_whose_here : Addr} {oc_law_whose_here : Value} {od_law_whose_here an_law_whose_here : Option Addr} {osl_law_whose_here : Array (Option Value)} {kV_law_whose_here doc_law_whose_here pm_law_whose_here cd_law_whose_here ct_law_whose_here : Value} {f_law : Addr} {oc_law : Value} {od_law an_law : Option Addr} {osl_law : Array (Option Value)} {kV_law doc_law pm_law cd_law ct_law : Value} {u_CANNOT : Value} {u_LET : Value} {u_ANSWER : Value} {u_OTHERS : Value} {u_DID : Value} {u_NEVER : Value} {u_STUCK : Value} {u_GIVER : Value} (a_let_deeds : PySem.W.nsIn K mainGlobals "let_deeds" = some (some (.ref f_let_deeds))) (l_let_deeds : K.lookup f_let_deeds = some ⟨oc_let_deeds, od_let_deeds, .func (PySem.W.fnOf "let_deeds" "let_deeds" (defArgs Link.s_let_deeds) (defBody Link.s_let_deeds) (defScope Link.s_let_deeds) .none kV_let_deeds doc_let_deeds pm_let_deeds an_let_deeds cd_let_deeds ct_let_deeds), osl_let_deeds⟩) (c_let_deeds : PySem.W.codeIn K cd_let_deeds "let_deeds" = true) (k_let_deeds : PySem.W.keepIn K (.ref f_let_deeds) = true) (a_is_stuck : PySem.W.nsIn K mainGlobals "is_stuck" = some (some (.ref f_is_stuck))) (l_is_stuck : K.lookup f_is_stuck = some ⟨oc_is_stuck, od_is_stuck, .func (PySem.W.fnOf "is_stuck" "is_stuck" (defArgs Link.s_is_stuck) (defBody Link.s_is_stuck) (defScope Link.s_is_stuck) .none kV_is_stuck doc_is_stuck pm_is_stuck an_is_stuck cd_is_stuck ct_is_stuck), osl_is_stuck⟩) (c_is_stuck : PySem.W.codeIn K cd_is_stuck "is_stuck" = true) (k_is_stuck : PySem.W.keepIn K (.ref f_is_stuck) = true) (a_sign_of : PySem.W.nsIn K mainGlobals "sign_of" = some (some (.ref f_sign_of))) (l_sign_of : K.lookup f_sign_of = some ⟨oc_sign_of, od_sign_of, .func (PySem.W.fnOf "sign_of" "sign_of" (defArgs Link.s_sign_of) (defBody Link.s_sign_of) (defScope Link.s_sign_of) .none kV_sign_of doc_sign_of pm_sign_of an_sign_of cd_sign_of ct_sign_of), osl_sign_of⟩) (c_sign_of : PySem.W.codeIn K cd_sign_of "sign_of" = true) (k_sign_of : PySem.W.keepIn K (.ref f_sign_of) = true) (a_along : PySem.W.nsIn K mainGlobals "along" = some (some (.ref f_along))) (l_along : K.lookup f_along = some ⟨oc_along, od_along, .func (PySem.W.fnOf "along" "along" (defArgs Link.s_along) (defBody Link.s_along) (defScope Link.s_along) .none kV_along doc_along pm_along an_along cd_along ct_along), osl_along⟩) (c_along : PySem.W.codeIn K cd_along "along" = true) (k_along : PySem.W.keepIn K (.ref f_along) = true) (a_breach_at : PySem.W.nsIn K mainGlobals "breach_at" = some (some (.ref f_breach_at))) (l_breach_at : K.lookup f_breach_at = some ⟨oc_breach_at, od_breach_at, .func (PySem.W.fnOf "breach_at" "breach_at" (defArgs Link.s_breach_at) (defBody Link.s_breach_at) (defScope Link.s_breach_at) .none kV_breach_at doc_breach_at pm_breach_at an_breach_at cd_breach_at ct_breach_at), osl_breach_at⟩) (c_breach_at : PySem.W.codeIn K cd_breach_at "breach_at" = true) (k_breach_at : PySem.W.keepIn K (.ref f_breach_at) = true) (a_sentence_at : PySem.W.nsIn K mainGlobals "sentence_at" = some (some (.ref f_sentence_at))) (l_sentence_at : K.lookup f_sentence_at = some ⟨oc_sentence_at, od_sentence_at, .func (PySem.W.fnOf "sentence_at" "sentence_at" (defArgs Link.s_sentence_at) (defBody Link.s_sentence_at) (defScope Link.s_sentence_at) .none kV_sentence_at doc_sentence_at pm_sentence_at an_sentence_at cd_sentence_at ct_sentence_at), osl_sentence_at⟩) (c_sentence_at : PySem.W.codeIn K cd_sentence_at "sentence_at" = true) (k_sentence_at : PySem.W.keepIn K (.ref f_sentence_at) = true) (a_let_with : PySem.W.nsIn K mainGlobals "let_with" = some (some (.ref f_let_with))) (l_let_with : K.lookup f_let_with = some ⟨oc_let_with, od_let_with, .func (PySem.W.fnOf "let_with" "let_with" (defArgs Link.s_let_with) (defBody Link.s_let_with) (defScope Link.s_let_with) .none kV_let_with doc_let_with pm_let_with an_let_with cd_let_with ct_let_with), osl_let_with⟩) (c_let_with : PySem.W.codeIn K cd_let_with "let_with" = true) (k_let_with : PySem.W.keepIn K (.ref f_let_with) = true) (a_lets_along : PySem.W.nsIn K mainGlobals "lets_along" = some (some (.ref f_lets_along))) (l_lets_along : K.lookup f_lets_along = some ⟨oc_lets_along, od_lets_along, .func (PySem.W.fnOf "lets_along" "lets_along" (defArgs Link.s_lets_along) (defBody Link.s_lets_along) (defScope Link.s_lets_along) .none kV_lets_along doc_lets_along pm_lets_along an_lets_along cd_lets_along ct_lets_along), osl_lets_along⟩) (c_lets_along : PySem.W.codeIn K cd_lets_along "lets_along" = true) (k_lets_along : PySem.W.keepIn K (.ref f_lets_along) = true) (a_let_now : PySem.W.nsIn K mainGlobals "let_now" = some (some (.ref f_let_now))) (l_let_now : K.lookup f_let_now = some ⟨oc_let_now, od_let_now, .func (PySem.W.fnOf "let_now" "let_now" (defArgs Link.s_let_now) (defBody Link.s_let_now) (defScope Link.s_let_now) .none kV_let_now doc_let_now pm_let_now an_let_now cd_let_now ct_let_now), osl_let_now⟩) (c_let_now : PySem.W.codeIn K cd_let_now "let_now" = true) (k_let_now : PySem.W.keepIn K (.ref f_let_now) = true) (a_deeds_in : PySem.W.nsIn K mainGlobals "deeds_in" = some (some (.ref f_deeds_in))) (l_deeds_in : K.lookup f_deeds_in = some ⟨oc_deeds_in, od_deeds_in, .func (PySem.W.fnOf "deeds_in" "deeds_in" (defArgs Link.s_deeds_in) (defBody Link.s_deeds_in) (defScope Link.s_deeds_in) .none kV_deeds_in doc_deeds_in pm_deeds_in an_deeds_in cd_deeds_in ct_deeds_in), osl_deeds_in⟩) (c_deeds_in : PySem.W.codeIn K cd_deeds_in "deeds_in" = true) (k_deeds_in : PySem.W.keepIn K (.ref f_deeds_in) = true) (a_board_now : PySem.W.nsIn K mainGlobals "board_now" = some (some (.ref f_board_now))) (l_board_now : K.lookup f_board_now = some ⟨oc_board_now, od_board_now, .func (PySem.W.fnOf "board_now" "board_now" (defArgs Link.s_board_now) (defBody Link.s_board_now) (defScope Link.s_board_now) .none kV_board_now doc_board_now pm_board_now an_board_now cd_board_now ct_board_now), osl_board_now⟩) (c_board_now : PySem.W.codeIn K cd_board_now "board_now" = true) (k_board_now : PySem.W.keepIn K (.ref f_board_now) = true) (a_breach_along : PySem.W.nsIn K mainGlobals "breach_along" = some (some (.ref f_breach_along))) (l_breach_along : K.lookup f_breach_along = some ⟨oc_breach_along, od_breach_along, .func (PySem.W.fnOf "breach_along" "breach_along" (defArgs Link.s_breach_along) (defBody Link.s_breach_along) (defScope Link.s_breach_along) .none kV_breach_along doc_breach_along pm_breach_along an_breach_along cd_breach_along ct_breach_along), osl_breach_along⟩) (c_breach_along : PySem.W.codeIn K cd_breach_along "breach_along" = true) (k_breach_along : PySem.W.keepIn K (.ref f_breach_along) = true) (a_harm_along : PySem.W.nsIn K mainGlobals "harm_along" = some (some (.ref f_harm_along))) (l_harm_along : K.lookup f_harm_along = some ⟨oc_harm_along, od_harm_along, .func (PySem.W.fnOf "harm_along" "harm_along" (defArgs Link.s_harm_along) (defBody Link.s_harm_along) (defScope Link.s_harm_along) .none kV_harm_along doc_harm_along pm_harm_along an_harm_along cd_harm_along ct_harm_along), osl_harm_along⟩) (c_harm_along : PySem.W.codeIn K cd_harm_along "harm_along" = true) (k_harm_along : PySem.W.keepIn K (.ref f_harm_along) = true) (a_whose_along : PySem.W.nsIn K mainGlobals "whose_along" = some (some (.ref f_whose_along))) (l_whose_along : K.lookup f_whose_along = some ⟨oc_whose_along, od_whose_along, .func (PySem.W.fnOf "whose_along" "whose_along" (defArgs Link.s_whose_along) (defBody Link.s_whose_along) (defScope Link.s_whose_along) .none kV_whose_along doc_whose_along pm_whose_along an_whose_along cd_whose_along ct_whose_along), osl_whose_along⟩) (c_whose_along : PySem.W.codeIn K cd_whose_along "whose_along" = true) (k_whose_along : PySem.W.keepIn K (.ref f_whose_along) = true) (a_law_box : PySem.W.nsIn K mainGlobals "_law_box" = some (some (.ref f_law_box))) (l_law_box : K.lookup f_law_box = some ⟨oc_law_box, od_law_box, .func (PySem.W.fnOf "_law_box" "_law_box" (defArgs Link.s_law_box) (defBody Link.s_law_box) (defScope Link.s_law_box) .none kV_law_box doc_law_box pm_law_box an_law_box cd_law_box ct_law_box), osl_law_box⟩) (c_law_box : PySem.W.codeIn K cd_law_box "_law_box" = true) (k_law_box : PySem.W.keepIn K (.ref f_law_box) = true) (a_law_take : PySem.W.nsIn K mainGlobals "_law_take" = some (some (.ref f_law_take))) (l_law_take : K.lookup f_law_take = some ⟨oc_law_take, od_law_take, .func (PySem.W.fnOf "_law_take" "_law_take" (defArgs Link.s_law_take) (defBody Link.s_law_take) (defScope Link.s_law_take) .none kV_law_take doc_law_take pm_law_take an_law_take cd_law_take ct_law_take), osl_law_take⟩) (c_law_take : PySem.W.codeIn K cd_law_take "_law_take" = true) (k_law_take : PySem.W.keepIn K (.ref f_law_take) = true) (a_law_pick : PySem.W.nsIn K mainGlobals "_law_pick" = some (some (.ref f_law_pick))) (l_law_pick : K.lookup f_law_pick = some ⟨oc_law_pick, od_law_pick, .func (PySem.W.fnOf "_law_pick" "_law_pick" (defArgs Link.s_law_pick) (defBody Link.s_law_pick) (defScope Link.s_law_pick) .none kV_law_pick doc_law_pick pm_law_pick an_law_pick cd_law_pick ct_law_pick), osl_law_pick⟩) (c_law_pick : PySem.W.codeIn K cd_law_pick "_law_pick" = true) (k_law_pick : PySem.W.keepIn K (.ref f_law_pick) = true) (a_law_same : PySem.W.nsIn K mainGlobals "_law_same" = some (some (.ref f_law_same))) (l_law_same : K.lookup f_law_same = some ⟨oc_law_same, od_law_same, .func (PySem.W.fnOf "_law_same" "_law_same" (defArgs Link.s_law_same) (defBody Link.s_law_same) (defScope Link.s_law_same) .none kV_law_same doc_law_same pm_law_same an_law_same cd_law_same ct_law_same), osl_law_same⟩) (c_law_same : PySem.W.codeIn K cd_law_same "_law_same" = true) (k_law_same : PySem.W.keepIn K (.ref f_law_same) = true) (a_law_goes : PySem.W.nsIn K mainGlobals "_law_goes" = some (some (.ref f_law_goes))) (l_law_goes : K.lookup f_law_goes = some ⟨oc_law_goes, od_law_goes, .func (PySem.W.fnOf "_law_goes" "_law_goes" (defArgs Link.s_law_goes) (defBody Link.s_law_goes) (defScope Link.s_law_goes) .none kV_law_goes doc_law_goes pm_law_goes an_law_goes cd_law_goes ct_law_goes), osl_law_goes⟩) (c_law_goes : PySem.W.codeIn K cd_law_goes "_law_goes" = true) (k_law_goes : PySem.W.keepIn K (.ref f_law_goes) = true) (a_law_is_end : PySem.W.nsIn K mainGlobals "_law_is_end" = some (some (.ref f_law_is_end))) (l_law_is_end : K.lookup f_law_is_end = some ⟨oc_law_is_end, od_law_is_end, .func (PySem.W.fnOf "_law_is_end" "_law_is_end" (defArgs Link.s_law_is_end) (defBody Link.s_law_is_end) (defScope Link.s_law_is_end) .none kV_law_is_end doc_law_is_end pm_law_is_end an_law_is_end cd_law_is_end ct_law_is_end), osl_law_is_end⟩) (c_law_is_end : PySem.W.codeIn K cd_law_is_end "_law_is_end" = true) (k_law_is_end : PySem.W.keepIn K (.ref f_law_is_end) = true) (a_law_is_stuck : PySem.W.nsIn K mainGlobals "_law_is_stuck" = some (some (.ref f_law_is_stuck))) (l_law_is_stuck : K.lookup f_law_is_stuck = some ⟨oc_law_is_stuck, od_law_is_stuck, .func (PySem.W.fnOf "_law_is_stuck" "_law_is_stuck" (defArgs Link.s_law_is_stuck) (defBody Link.s_law_is_stuck) (defScope Link.s_law_is_stuck) .none kV_law_is_stuck doc_law_is_stuck pm_law_is_stuck an_law_is_stuck cd_law_is_stuck ct_law_is_stuck), osl_law_is_stuck⟩) (c_law_is_stuck : PySem.W.codeIn K cd_law_is_stuck "_law_is_stuck" = true) (k_law_is_stuck : PySem.W.keepIn K (.ref f_law_is_stuck) = true) (a_law_lots_drawn : PySem.W.nsIn K mainGlobals "_law_lots_drawn" = some (some (.ref f_law_lots_drawn))) (l_law_lots_drawn : K.lookup f_law_lots_drawn = some ⟨oc_law_lots_drawn, od_law_lots_drawn, .func (PySem.W.fnOf "_law_lots_drawn" "_law_lots_drawn" (defArgs Link.s_law_lots_drawn) (defBody Link.s_law_lots_drawn) (defScope Link.s_law_lots_drawn) .none kV_law_lots_drawn doc_law_lots_drawn pm_law_lots_drawn an_law_lots_drawn cd_law_lots_drawn ct_law_lots_drawn), osl_law_lots_drawn⟩) (c_law_lots_drawn : PySem.W.codeIn K cd_law_lots_drawn "_law_lots_drawn" = true) (k_law_lots_drawn : PySem.W.keepIn K (.ref f_law_lots_drawn) = true) (a_law_turn_world : PySem.W.nsIn K mainGlobals "_law_turn_world" = some (some (.ref f_law_turn_world))) (l_law_turn_world : K.lookup f_law_turn_world = some ⟨oc_law_turn_world, od_law_turn_world, .func (PySem.W.fnOf "_law_turn_world" "_law_turn_world" (defArgs Link.s_law_turn_world) (defBody Link.s_law_turn_world) (defScope Link.s_law_turn_world) .none kV_law_turn_world doc_law_turn_world pm_law_turn_world an_law_turn_world cd_law_turn_world ct_law_turn_world), osl_law_turn_world⟩) (c_law_turn_world : PySem.W.codeIn K cd_law_turn_world "_law_turn_world" = true) (k_law_turn_world : PySem.W.keepIn K (.ref f_law_turn_world) = true) (a_law_sure_let : PySem.W.nsIn K mainGlobals "_law_sure_let" = some (some (.ref f_law_sure_let))) (l_law_sure_let : K.lookup f_law_sure_let = some ⟨oc_law_sure_let, od_law_sure_let, .func (PySem.W.fnOf "_law_sure_let" "_law_sure_let" (defArgs Link.s_law_sure_let) (defBody Link.s_law_sure_let) (defScope Link.s_law_sure_let) .none kV_law_sure_let doc_law_sure_let pm_law_sure_let an_law_sure_let cd_law_sure_let ct_law_sure_let), osl_law_sure_let⟩) (c_law_sure_let : PySem.W.codeIn K cd_law_sure_let "_law_sure_let" = true) (k_law_sure_let : PySem.W.keepIn K (.ref f_law_sure_let) = true) (a_law_good_world : PySem.W.nsIn K mainGlobals "_law_good_world" = some (some (.ref f_law_good_world))) (l_law_good_world : K.lookup f_law_good_world = some ⟨oc_law_good_world, od_law_good_world, .func (PySem.W.fnOf "_law_good_world" "_law_good_world" (defArgs Link.s_law_good_world) (defBody Link.s_law_good_world) (defScope Link.s_law_good_world) .none kV_law_good_world doc_law_good_world pm_law_good_world an_law_good_world cd_law_good_world ct_law_good_world), osl_law_good_world⟩) (c_law_good_world : PySem.W.codeIn K cd_law_good_world "_law_good_world" = true) (k_law_good_world : PySem.W.keepIn K (.ref f_law_good_world) = true) (a_law_made : PySem.W.nsIn K mainGlobals "_law_made" = some (some (.ref f_law_made))) (l_law_made : K.lookup f_law_made = some ⟨oc_law_made, od_law_made, .func (PySem.W.fnOf "_law_made" "_law_made" (defArgs Link.s_law_made) (defBody Link.s_law_made) (defScope Link.s_law_made) .none kV_law_made doc_law_made pm_law_made an_law_made cd_law_made ct_law_made), osl_law_made⟩) (c_law_made : PySem.W.codeIn K cd_law_made "_law_made" = true) (k_law_made : PySem.W.keepIn K (.ref f_law_made) = true) (a_law_fork : PySem.W.nsIn K mainGlobals "_law_fork" = some (some (.ref f_law_fork))) (l_law_fork : K.lookup f_law_fork = some ⟨oc_law_fork, od_law_fork, .func (PySem.W.fnOf "_law_fork" "_law_fork" (defArgs Link.s_law_fork) (defBody Link.s_law_fork) (defScope Link.s_law_fork) .none kV_law_fork doc_law_fork pm_law_fork an_law_fork cd_law_fork ct_law_fork), osl_law_fork⟩) (c_law_fork : PySem.W.codeIn K cd_law_fork "_law_fork" = true) (k_law_fork : PySem.W.keepIn K (.ref f_law_fork) = true) (a_law_signed : PySem.W.nsIn K mainGlobals "_law_signed" = some (some (.ref f_law_signed))) (l_law_signed : K.lookup f_law_signed = some ⟨oc_law_signed, od_law_signed, .func (PySem.W.fnOf "_law_signed" "_law_signed" (defArgs Link.s_law_signed) (defBody Link.s_law_signed) (defScope Link.s_law_signed) .none kV_law_signed doc_law_signed pm_law_signed an_law_signed cd_law_signed ct_law_signed), osl_law_signed⟩) (c_law_signed : PySem.W.codeIn K cd_law_signed "_law_signed" = true) (k_law_signed : PySem.W.keepIn K (.ref f_law_signed) = true) (a_law_said : PySem.W.nsIn K mainGlobals "_law_said" = some (some (.ref f_law_said))) (l_law_said : K.lookup f_law_said = some ⟨oc_law_said, od_law_said, .func (PySem.W.fnOf "_law_said" "_law_said" (defArgs Link.s_law_said) (defBody Link.s_law_said) (defScope Link.s_law_said) .none kV_law_said doc_law_said pm_law_said an_law_said cd_law_said ct_law_said), osl_law_said⟩) (c_law_said : PySem.W.codeIn K cd_law_said "_law_said" = true) (k_law_said : PySem.W.keepIn K (.ref f_law_said) = true) (a_law_log_drawn : PySem.W.nsIn K mainGlobals "_law_log_drawn" = some (some (.ref f_law_log_drawn))) (l_law_log_drawn : K.lookup f_law_log_drawn = some ⟨oc_law_log_drawn, od_law_log_drawn, .func (PySem.W.fnOf "_law_log_drawn" "_law_log_drawn" (defArgs Link.s_law_log_drawn) (defBody Link.s_law_log_drawn) (defScope Link.s_law_log_drawn) .none kV_law_log_drawn doc_law_log_drawn pm_law_log_drawn an_law_log_drawn cd_law_log_drawn ct_law_log_drawn), osl_law_log_drawn⟩) (c_law_log_drawn : PySem.W.codeIn K cd_law_log_drawn "_law_log_drawn" = true) (k_law_log_drawn : PySem.W.keepIn K (.ref f_law_log_drawn) = true) (a_law_giver : PySem.W.nsIn K mainGlobals "_law_giver" = some (some (.ref f_law_giver))) (l_law_giver : K.lookup f_law_giver = some ⟨oc_law_giver, od_law_giver, .func (PySem.W.fnOf "_law_giver" "_law_giver" (defArgs Link.s_law_giver) (defBody Link.s_law_giver) (defScope Link.s_law_giver) .none kV_law_giver doc_law_giver pm_law_giver an_law_giver cd_law_giver ct_law_giver), osl_law_giver⟩) (c_law_giver : PySem.W.codeIn K cd_law_giver "_law_giver" = true) (k_law_giver : PySem.W.keepIn K (.ref f_law_giver) = true) (a_law_signs_of : PySem.W.nsIn K mainGlobals "_law_signs_of" = some (some (.ref f_law_signs_of))) (l_law_signs_of : K.lookup f_law_signs_of = some ⟨oc_law_signs_of, od_law_signs_of, .func (PySem.W.fnOf "_law_signs_of" "_law_signs_of" (defArgs Link.s_law_signs_of) (defBody Link.s_law_signs_of) (defScope Link.s_law_signs_of) .none kV_law_signs_of doc_law_signs_of pm_law_signs_of an_law_signs_of cd_law_signs_of ct_law_signs_of), osl_law_signs_of⟩) (c_law_signs_of : PySem.W.codeIn K cd_law_signs_of "_law_signs_of" = true) (k_law_signs_of : PySem.W.keepIn K (.ref f_law_signs_of) = true) (a_law_any_entry : PySem.W.nsIn K mainGlobals "_law_any_entry" = some (some (.ref f_law_any_entry))) (l_law_any_entry : K.lookup f_law_any_entry = some ⟨oc_law_any_entry, od_law_any_entry, .func (PySem.W.fnOf "_law_any_entry" "_law_any_entry" (defArgs Link.s_law_any_entry) (defBody Link.s_law_any_entry) (defScope Link.s_law_any_entry) .none kV_law_any_entry doc_law_any_entry pm_law_any_entry an_law_any_entry cd_law_any_entry ct_law_any_entry), osl_law_any_entry⟩) (c_law_any_entry : PySem.W.codeIn K cd_law_any_entry "_law_any_entry" = true) (k_law_any_entry : PySem.W.keepIn K (.ref f_law_any_entry) = true) (a_law_let_behind : PySem.W.nsIn K mainGlobals "_law_let_behind" = some (some (.ref f_law_let_behind))) (l_law_let_behind : K.lookup f_law_let_behind = some ⟨oc_law_let_behind, od_law_let_behind, .func (PySem.W.fnOf "_law_let_behind" "_law_let_behind" (defArgs Link.s_law_let_behind) (defBody Link.s_law_let_behind) (defScope Link.s_law_let_behind) .none kV_law_let_behind doc_law_let_behind pm_law_let_behind an_law_let_behind cd_law_let_behind ct_law_let_behind), osl_law_let_behind⟩) (c_law_let_behind : PySem.W.codeIn K cd_law_let_behind "_law_let_behind" = true) (k_law_let_behind : PySem.W.keepIn K (.ref f_law_let_behind) = true) (a_law_deeds_done : PySem.W.nsIn K mainGlobals "_law_deeds_done" = some (some (.ref f_law_deeds_done))) (l_law_deeds_done : K.lookup f_law_deeds_done = some ⟨oc_law_deeds_done, od_law_deeds_done, .func (PySem.W.fnOf "_law_deeds_done" "_law_deeds_done" (defArgs Link.s_law_deeds_done) (defBody Link.s_law_deeds_done) (defScope Link.s_law_deeds_done) .none kV_law_deeds_done doc_law_deeds_done pm_law_deeds_done an_law_deeds_done cd_law_deeds_done ct_law_deeds_done), osl_law_deeds_done⟩) (c_law_deeds_done : PySem.W.codeIn K cd_law_deeds_done "_law_deeds_done" = true) (k_law_deeds_done : PySem.W.keepIn K (.ref f_law_deeds_done) = true) (a_law_board_behind : PySem.W.nsIn K mainGlobals "_law_board_behind" = some (some (.ref f_law_board_behind))) (l_law_board_behind : K.lookup f_law_board_behind = some ⟨oc_law_board_behind, od_law_board_behind, .func (PySem.W.fnOf "_law_board_behind" "_law_board_behind" (defArgs Link.s_law_board_behind) (defBody Link.s_law_board_behind) (defScope Link.s_law_board_behind) .none kV_law_board_behind doc_law_board_behind pm_law_board_behind an_law_board_behind cd_law_board_behind ct_law_board_behind), osl_law_board_behind⟩) (c_law_board_behind : PySem.W.codeIn K cd_law_board_behind "_law_board_behind" = true) (k_law_board_behind : PySem.W.keepIn K (.ref f_law_board_behind) = true) (a_law_breach_here : PySem.W.nsIn K mainGlobals "_law_breach_here" = some (some (.ref f_law_breach_here))) (l_law_breach_here : K.lookup f_law_breach_here = some ⟨oc_law_breach_here, od_law_breach_here, .func (PySem.W.fnOf "_law_breach_here" "_law_breach_here" (defArgs Link.s_law_breach_here) (defBody Link.s_law_breach_here) (defScope Link.s_law_breach_here) .none kV_law_breach_here doc_law_breach_here pm_law_breach_here an_law_breach_here cd_law_breach_here ct_law_breach_here), osl_law_breach_here⟩) (c_law_breach_here : PySem.W.codeIn K cd_law_breach_here "_law_breach_here" = true) (k_law_breach_here : PySem.W.keepIn K (.ref f_law_breach_here) = true) (a_law_harm_here : PySem.W.nsIn K mainGlobals "_law_harm_here" = some (some (.ref f_law_harm_here))) (l_law_harm_here : K.lookup f_law_harm_here = some ⟨oc_law_harm_here, od_law_harm_here, .func (PySem.W.fnOf "_law_harm_here" "_law_harm_here" (defArgs Link.s_law_harm_here) (defBody Link.s_law_harm_here) (defScope Link.s_law_harm_here) .none kV_law_harm_here doc_law_harm_here pm_law_harm_here an_law_harm_here cd_law_harm_here ct_law_harm_here), osl_law_harm_here⟩) (c_law_harm_here : PySem.W.codeIn K cd_law_harm_here "_law_harm_here" = true) (k_law_harm_here : PySem.W.keepIn K (.ref f_law_harm_here) = true) (a_law_whose_here : PySem.W.nsIn K mainGlobals "_law_whose_here" = some (some (.ref f_law_whose_here))) (l_law_whose_here : K.lookup f_law_whose_here = some ⟨oc_law_whose_here, od_law_whose_here, .func (PySem.W.fnOf "_law_whose_here" "_law_whose_here" (defArgs Link.s_law_whose_here) (defBody Link.s_law_whose_here) (defScope Link.s_law_whose_here) .none kV_law_whose_here doc_law_whose_here pm_law_whose_here an_law_whose_here cd_law_whose_here ct_law_whose_here), osl_law_whose_here⟩) (c_law_whose_here : PySem.W.codeIn K cd_law_whose_here "_law_whose_here" = true) (k_law_whose_here : PySem.W.keepIn K (.ref f_law_whose_here) = true) (a_law : PySem.W.nsIn K mainGlobals "law" = some (some (.ref f_law))) (l_law : K.lookup f_law = some ⟨oc_law, od_law, .func (PySem.W.fnOf "law" "law" (defArgs Link.s_law) (defBody Link.s_law) (defScope Link.s_law) .none kV_law doc_law pm_law an_law cd_law ct_law), osl_law⟩) (c_law : PySem.W.codeIn K cd_law "law" = true) (k_law : PySem.W.keepIn K (.ref f_law) = true) (z_len : PySem.W.nsIn K mainGlobals "len" = some none) (z_tuple : PySem.W.nsIn K mainGlobals "tuple" = some none) (z_list : PySem.W.nsIn K mainGlobals "list" = some none) (z_sorted : PySem.W.nsIn K mainGlobals "sorted" = some none) (z_dict : PySem.W.nsIn K mainGlobals "dict" = some none) (z_int : PySem.W.nsIn K mainGlobals "int" = some none) (z_abs : PySem.W.nsIn K mainGlobals "abs" = some none) (z_max : PySem.W.nsIn K mainGlobals "max" = some none) (z_min : PySem.W.nsIn K mainGlobals "min" = some none) (z_all : PySem.W.nsIn K mainGlobals "all" = some none) (z_any : PySem.W.nsIn K mainGlobals "any" = some none) (z_bool : PySem.W.nsIn K mainGlobals "bool" = some none) (z_str : PySem.W.nsIn K mainGlobals "str" = some none) (z_isinstance : PySem.W.nsIn K mainGlobals "isinstance" = some none) (z_range : PySem.W.nsIn K mainGlobals "range" = some none) (z_enumerate : PySem.W.nsIn K mainGlobals "enumerate" = some none) (z_zip : PySem.W.nsIn K mainGlobals "zip" = some none) (g_CANNOT : PySem.W.nsIn K mainGlobals "CANNOT" = some (some u_CANNOT)) (r_CANNOT : ∃ v, RelV v u_CANNOT ∧ ∀ H, Rep K H (.str "cannot") v) (g_LET : PySem.W.nsIn K mainGlobals "LET" = some (some u_LET)) (r_LET : ∃ v, RelV v u_LET ∧ ∀ H, Rep K H (.str "let") v) (g_ANSWER : PySem.W.nsIn K mainGlobals "ANSWER" = some (some u_ANSWER)) (r_ANSWER : ∃ v, RelV v u_ANSWER ∧ ∀ H, Rep K H (.str "answer") v) (g_OTHERS : PySem.W.nsIn K mainGlobals "OTHERS" = some (some u_OTHERS)) (r_OTHERS : ∃ v, RelV v u_OTHERS ∧ ∀ H, Rep K H (.int (-1)) v) (g_DID : PySem.W.nsIn K mainGlobals "DID" = some (some u_DID)) (r_DID : ∃ v, RelV v u_DID ∧ ∀ H, Rep K H (.str "did") v) (g_NEVER : PySem.W.nsIn K mainGlobals "NEVER" = some (some u_NEVER)) (r_NEVER : ∃ v, RelV v u_NEVER ∧ ∀ H, Rep K H (.str "never") v) (g_STUCK : PySem.W.nsIn K mainGlobals "STUCK" = some (some u_STUCK)) (r_STUCK : ∃ v, RelV v u_STUCK ∧ ∀ H, Rep K H (.str "stuck") v) (g_GIVER : PySem.W.nsIn K mainGlobals "GIVER" = some (some u_GIVER)) (r_GIVER : ∃ v, RelV v u_GIVER ∧ ∀ H, Rep K H (.int (-2)) v) :
    ∃ fd : FuncData, (∀ (s : Shared) (v : Value), BindsTo s fd ⟨[v], []⟩ [("script", v)]) ∧ ∀ base : Heap, K.In base → base.Ns mainGlobals mg → FnOk l.prog w K mg base CX0 11 fa fd ["script"] (LawSp K 63) := by
  have e := hfa.symm.trans (PySem.W.mg_of X G a_law)
  cases e
  have FL := fun_mk (st := Link.s_law) l_law c_law k_law
  have tb : ∀ x ∈ bltNames, mg x = none := (all_cons (PySem.W.mg_none_of X G z_len) (all_cons (PySem.W.mg_none_of X G z_tuple) (all_cons (PySem.W.mg_none_of X G z_list) (all_cons (PySem.W.mg_none_of X G z_sorted) (all_cons (PySem.W.mg_none_of X G z_dict) (all_cons (PySem.W.mg_none_of X G z_int) (all_cons (PySem.W.mg_none_of X G z_abs) (all_cons (PySem.W.mg_none_of X G z_max) (all_cons (PySem.W.mg_none_of X G z_min) (all_cons (PySem.W.mg_none_of X G z_all) (all_cons (PySem.W.mg_none_of X G z_any) (all_cons (PySem.W.mg_none_of X G z_bool) (all_cons (PySem.W.mg_none_of X G z_str) (all_cons (PySem.W.mg_none_of X G z_isinstance) (all_cons (PySem.W.mg_none_of X G z_range) (all_cons (PySem.W.mg_none_of X G z_enumerate) (all_cons (PySem.W.mg_none_of X G z_zip) all_nil)))))))))))))))))
  exact ⟨PySem.W.fnOf "law" "law" (defArgs Link.s_law) (defBody Link.s_law) (defScope Link.s_law) .none kV_law doc_law pm_law an_law cd_law ct_law, fun s v => .of_eq rfl, fun base _ _ => ok_law tb (let ⟨v, h1, h2⟩ := r_CANNOT; ⟨_, v, _, rfl, PySem.W.mg_of X G g_CANNOT, h1, h2⟩) (let ⟨v, h1, h2⟩ := r_LET; ⟨_, v, _, rfl, PySem.W.mg_of X G g_LET, h1, h2⟩) (let ⟨v, h1, h2⟩ := r_ANSWER; ⟨_, v, _, rfl, PySem.W.mg_of X G g_ANSWER, h1, h2⟩) (let ⟨v, h1, h2⟩ := r_OTHERS; ⟨_, v, _, rfl, PySem.W.mg_of X G g_OTHERS, h1, h2⟩) (let ⟨v, h1, h2⟩ := r_DID; ⟨_, v, _, rfl, PySem.W.mg_of X G g_DID, h1, h2⟩) (let ⟨v, h1, h2⟩ := r_NEVER; ⟨_, v, _, rfl, PySem.W.mg_of X G g_NEVER, h1, h2⟩) (let ⟨v, h1, h2⟩ := r_STUCK; ⟨_, v, _, rfl, PySem.W.mg_of X G g_STUCK, h1, h2⟩) (let ⟨v, h1, h2⟩ := r_GIVER; ⟨_, v, _, rfl, PySem.W.mg_of X G g_GIVER, h1, h2⟩) (def_at X G a_let_deeds l_let_deeds c_let_deeds k_let_deeds (fun _ _ _ _ _ _ us hl => match us, hl with | [_, _, _], _ => rfl)) (def_at X G a_is_stuck l_is_stuck c_is_stuck k_is_stuck (fun _ _ _ _ _ _ us hl => match us, hl with | [_, _, _], _ => rfl)) (def_at X G a_sign_of l_sign_of c_sign_of k_sign_of (fun _ _ _ _ _ _ us hl => match us, hl with | [_, _, _], _ => rfl)) (def_at X G a_along l_along c_along k_along (fun _ _ _ _ _ _ us hl => match us, hl with | [_], _ => rfl)) (def_at X G a_breach_at l_breach_at c_breach_at k_breach_at (fun _ _ _ _ _ _ us hl => match us, hl with | [_, _, _, _], _ => rfl)) (def_at X G a_sentence_at l_sentence_at c_sentence_at k_sentence_at (fun _ _ _ _ _ _ us hl => match us, hl with | [_, _, _], _ => rfl)) (def_at X G a_let_with l_let_with c_let_with k_let_with (fun _ _ _ _ _ _ us hl => match us, hl with | [_, _, _], _ => rfl)) (def_at X G a_lets_along l_lets_along c_lets_along k_lets_along (fun _ _ _ _ _ _ us hl => match us, hl with | [_, _], _ => rfl)) (def_at X G a_let_now l_let_now c_let_now k_let_now (fun _ _ _ _ _ _ us hl => match us, hl with | [_, _], _ => rfl)) (def_at X G a_deeds_in l_deeds_in c_deeds_in k_deeds_in (fun _ _ _ _ _ _ us hl => match us, hl with | [_], _ => rfl)) (def_at X G a_board_now l_board_now c_board_now k_board_now (fun _ _ _ _ _ _ us hl => match us, hl with | [_], _ => rfl)) (def_at X G a_breach_along l_breach_along c_breach_along k_breach_along (fun _ _ _ _ _ _ us hl => match us, hl with | [_, _], _ => rfl)) (def_at X G a_harm_along l_harm_along c_harm_along k_harm_along (fun _ _ _ _ _ _ us hl => match us, hl with | [_, _], _ => rfl)) (def_at X G a_whose_along l_whose_along c_whose_along k_whose_along (fun _ _ _ _ _ _ us hl => match us, hl with | [_, _], _ => rfl)) (def_at X G a_law_box l_law_box c_law_box k_law_box (fun _ _ _ _ _ _ us hl => match us, hl with | [_, _], _ => rfl)) (def_at X G a_law_take l_law_take c_law_take k_law_take (fun _ _ _ _ _ _ us hl => match us, hl with | [_, _], _ => rfl)) (def_at X G a_law_pick l_law_pick c_law_pick k_law_pick (fun _ _ _ _ _ _ us hl => match us, hl with | [_, _], _ => rfl)) (def_at X G a_law_same l_law_same c_law_same k_law_same (fun _ _ _ _ _ _ us hl => match us, hl with | [_, _], _ => rfl)) (def_at X G a_law_goes l_law_goes c_law_goes k_law_goes (fun _ _ _ _ _ _ us hl => match us, hl with | [_, _, _], _ => rfl)) (def_at X G a_law_is_end l_law_is_end c_law_is_end k_law_is_end (fun _ _ _ _ _ _ us hl => match us, hl with | [_, _], _ => rfl)) (def_at X G a_law_is_stuck l_law_is_stuck c_law_is_stuck k_law_is_stuck (fun _ _ _ _ _ _ us hl => match us, hl with | [_, _, _], _ => rfl)) (def_at X G a_law_lots_drawn l_law_lots_drawn c_law_lots_drawn k_law_lots_drawn (fun _ _ _ _ _ _ us hl => match us, hl with | [_, _, _], _ => rfl)) (def_at X G a_law_turn_world l_law_turn_world c_law_turn_world k_law_turn_world (fun _ _ _ _ _ _ us hl => match us, hl with | [_, _], _ => rfl)) (def_at X G a_law_sure_let l_law_sure_let c_law_sure_let k_law_sure_let (fun _ _ _ _ _ _ us hl => match us, hl with | [_, _], _ => rfl)) (def_at X G a_law_good_world l_law_good_world c_law_good_world k_law_good_world (fun _ _ _ _ _ _ us hl => match us, hl with | [_, _], _ => rfl)) (def_at X G a_law_made l_law_made c_law_made k_law_made (fun _ _ _ _ _ _ us hl => match us, hl with | [_, _, _, _], _ => rfl)) (def_at X G a_law_fork l_law_fork c_law_fork k_law_fork (fun _ _ _ _ _ _ us hl => match us, hl with | [], _ => rfl)) (def_at X G a_law_signed l_law_signed c_law_signed k_law_signed (fun _ _ _ _ _ _ us hl => match us, hl with | [_, _], _ => rfl)) (def_at X G a_law_said l_law_said c_law_said k_law_said (fun _ _ _ _ _ _ us hl => match us, hl with | [_, _, _], _ => rfl)) (def_at X G a_law_log_drawn l_law_log_drawn c_law_log_drawn k_law_log_drawn (fun _ _ _ _ _ _ us hl => match us, hl with | [_, _, _, _], _ => rfl)) (def_at X G a_law_giver l_law_giver c_law_giver k_law_giver (fun _ _ _ _ _ _ us hl => match us, hl with | [], _ => rfl)) (def_at X G a_law_signs_of l_law_signs_of c_law_signs_of k_law_signs_of (fun _ _ _ _ _ _ us hl => match us, hl with | [_, _], _ => rfl)) (def_at X G a_law_any_entry l_law_any_entry c_law_any_entry k_law_any_entry (fun _ _ _ _ _ _ us hl => match us, hl with | [_, _], _ => rfl)) (def_at X G a_law_let_behind l_law_let_behind c_law_let_behind k_law_let_behind (fun _ _ _ _ _ _ us hl => match us, hl with | [_, _], _ => rfl)) (def_at X G a_law_deeds_done l_law_deeds_done c_law_deeds_done k_law_deeds_done (fun _ _ _ _ _ _ us hl => match us, hl with | [_], _ => rfl)) (def_at X G a_law_board_behind l_law_board_behind c_law_board_behind k_law_board_behind (fun _ _ _ _ _ _ us hl => match us, hl with | [_], _ => rfl)) (def_at X G a_law_breach_here l_law_breach_here c_law_breach_here k_law_breach_here (fun _ _ _ _ _ _ us hl => match us, hl with | [_, _], _ => rfl)) (def_at X G a_law_harm_here l_law_harm_here c_law_harm_here k_law_harm_here (fun _ _ _ _ _ _ us hl => match us, hl with | [_, _], _ => rfl)) (def_at X G a_law_whose_here l_law_whose_here c_law_whose_here k_law_whose_here (fun _ _ _ _ _ _ us hl => match us, hl with | [_, _], _ => rfl)) fa _ FL⟩
end K74
open PySem PySem.W PyProof.Rows
set_option maxHeartbeats 0 in
theorem PySem.Challenge.cw_lefttoyou_k79_whole_what_is_let_as_it_go_holds : PySem.Challenge.rw_lefttoyou_k79_whole_what_is_let_as_it_go.Holds := by
  w_on; o_law; k_head; (case hw => w_witness2)
  k_fill
  refine L2.walk_of (l := PySem.Challenge.rw_lefttoyou_k79_whole_what_is_let_as_it_go) (n := 63) (k := 11) (x := "script") (CX := fun _ => L2.CX0) (sp := fun w => PL.LawSp _ 63) rfl (by decide) rfl ⟨rfl, by decide, by decide⟩ (fun w h Y => PySem.W.kIn_of Y) ?F (fun _ _ a ns hl hO hS => ⟨a, ns, rfl, hl, hO, hS, fun _ => rfl⟩) (fun _ _ _ _ _ h => h)
  case F =>
    intro w mg fa h KX G hmg
    refine' K74.all_mk KX G hmg ?a_let_deeds ?l_let_deeds ?c_let_deeds ?k_let_deeds ?a_is_stuck ?l_is_stuck ?c_is_stuck ?k_is_stuck ?a_sign_of ?l_sign_of ?c_sign_of ?k_sign_of ?a_along ?l_along ?c_along ?k_along ?a_breach_at ?l_breach_at ?c_breach_at ?k_breach_at ?a_sentence_at ?l_sentence_at ?c_sentence_at ?k_sentence_at ?a_let_with ?l_let_with ?c_let_with ?k_let_with ?a_lets_along ?l_lets_along ?c_lets_along ?k_lets_along ?a_let_now ?l_let_now ?c_let_now ?k_let_now ?a_deeds_in ?l_deeds_in ?c_deeds_in ?k_deeds_in ?a_board_now ?l_board_now ?c_board_now ?k_board_now ?a_breach_along ?l_breach_along ?c_breach_along ?k_breach_along ?a_harm_along ?l_harm_along ?c_harm_along ?k_harm_along ?a_whose_along ?l_whose_along ?c_whose_along ?k_whose_along ?a_law_box ?l_law_box ?c_law_box ?k_law_box ?a_law_take ?l_law_take ?c_law_take ?k_law_take ?a_law_pick ?l_law_pick ?c_law_pick ?k_law_pick ?a_law_same ?l_law_same ?c_law_same ?k_law_same ?a_law_goes ?l_law_goes ?c_law_goes ?k_law_goes ?a_law_is_end ?l_law_is_end ?c_law_is_end ?k_law_is_end ?a_law_is_stuck ?l_law_is_stuck ?c_law_is_stuck ?k_law_is_stuck ?a_law_lots_drawn ?l_law_lots_drawn ?c_law_lots_drawn ?k_law_lots_drawn ?a_law_turn_world ?l_law_turn_world ?c_law_turn_world ?k_law_turn_world ?a_law_sure_let ?l_law_sure_let ?c_law_sure_let ?k_law_sure_let ?a_law_good_world ?l_law_good_world ?c_law_good_world ?k_law_good_world ?a_law_made ?l_law_made ?c_law_made ?k_law_made ?a_law_fork ?l_law_fork ?c_law_fork ?k_law_fork ?a_law_signed ?l_law_signed ?c_law_signed ?k_law_signed ?a_law_said ?l_law_said ?c_law_said ?k_law_said ?a_law_log_drawn ?l_law_log_drawn ?c_law_log_drawn ?k_law_log_drawn ?a_law_giver ?l_law_giver ?c_law_giver ?k_law_giver ?a_law_signs_of ?l_law_signs_of ?c_law_signs_of ?k_law_signs_of ?a_law_any_entry ?l_law_any_entry ?c_law_any_entry ?k_law_any_entry ?a_law_let_behind ?l_law_let_behind ?c_law_let_behind ?k_law_let_behind ?a_law_deeds_done ?l_law_deeds_done ?c_law_deeds_done ?k_law_deeds_done ?a_law_board_behind ?l_law_board_behind ?c_law_board_behind ?k_law_board_behind ?a_law_breach_here ?l_law_breach_here ?c_law_breach_here ?k_law_breach_here ?a_law_harm_here ?l_law_harm_here ?c_law_harm_here ?k_law_harm_here ?a_law_whose_here ?l_law_whose_here ?c_law_whose_here ?k_law_whose_here ?a_law ?l_law ?c_law ?k_law ?z_len ?z_tuple ?z_list ?z_sorted ?z_dict ?z_int ?z_abs ?z_max ?z_min ?z_all ?z_any ?z_bool ?z_str ?z_isinstance ?z_range ?z_enumerate ?z_zip ?g_CANNOT ?r_CANNOT ?g_LET ?r_LET ?g_ANSWER ?r_ANSWER ?g_OTHERS ?r_OTHERS ?g_DID ?r_DID ?g_NEVER ?r_NEVER ?g_STUCK ?r_STUCK ?g_GIVER ?r_GIVER
    (case a_let_deeds => k_is)
    (case l_let_deeds => k_is)
    (case c_let_deeds => k_is)
    (case k_let_deeds => k_is)
    (case a_is_stuck => k_is)
    (case l_is_stuck => k_is)
    (case c_is_stuck => k_is)
    (case k_is_stuck => k_is)
    (case a_sign_of => k_is)
    (case l_sign_of => k_is)
    (case c_sign_of => k_is)
    (case k_sign_of => k_is)
    (case a_along => k_is)
    (case l_along => k_is)
    (case c_along => k_is)
    (case k_along => k_is)
    (case a_breach_at => k_is)
    (case l_breach_at => k_is)
    (case c_breach_at => k_is)
    (case k_breach_at => k_is)
    (case a_sentence_at => k_is)
    (case l_sentence_at => k_is)
    (case c_sentence_at => k_is)
    (case k_sentence_at => k_is)
    (case a_let_with => k_is)
    (case l_let_with => k_is)
    (case c_let_with => k_is)
    (case k_let_with => k_is)
    (case a_lets_along => k_is)
    (case l_lets_along => k_is)
    (case c_lets_along => k_is)
    (case k_lets_along => k_is)
    (case a_let_now => k_is)
    (case l_let_now => k_is)
    (case c_let_now => k_is)
    (case k_let_now => k_is)
    (case a_deeds_in => k_is)
    (case l_deeds_in => k_is)
    (case c_deeds_in => k_is)
    (case k_deeds_in => k_is)
    (case a_board_now => k_is)
    (case l_board_now => k_is)
    (case c_board_now => k_is)
    (case k_board_now => k_is)
    (case a_breach_along => k_is)
    (case l_breach_along => k_is)
    (case c_breach_along => k_is)
    (case k_breach_along => k_is)
    (case a_harm_along => k_is)
    (case l_harm_along => k_is)
    (case c_harm_along => k_is)
    (case k_harm_along => k_is)
    (case a_whose_along => k_is)
    (case l_whose_along => k_is)
    (case c_whose_along => k_is)
    (case k_whose_along => k_is)
    (case a_law_box => k_is)
    (case l_law_box => k_is)
    (case c_law_box => k_is)
    (case k_law_box => k_is)
    (case a_law_take => k_is)
    (case l_law_take => k_is)
    (case c_law_take => k_is)
    (case k_law_take => k_is)
    (case a_law_pick => k_is)
    (case l_law_pick => k_is)
    (case c_law_pick => k_is)
    (case k_law_pick => k_is)
    (case a_law_same => k_is)
    (case l_law_same => k_is)
    (case c_law_same => k_is)
    (case k_law_same => k_is)
    (case a_law_goes => k_is)
    (case l_law_goes => k_is)
    (case c_law_goes => k_is)
    (case k_law_goes => k_is)
    (case a_law_is_end => k_is)
    (case l_law_is_end => k_is)
    (case c_law_is_end => k_is)
    (case k_law_is_end => k_is)
    (case a_law_is_stuck => k_is)
    (case l_law_is_stuck => k_is)
    (case c_law_is_stuck => k_is)
    (case k_law_is_stuck => k_is)
    (case a_law_lots_drawn => k_is)
    (case l_law_lots_drawn => k_is)
    (case c_law_lots_drawn => k_is)
    (case k_law_lots_drawn => k_is)
    (case a_law_turn_world => k_is)
    (case l_law_turn_world => k_is)
    (case c_law_turn_world => k_is)
    (case k_law_turn_world => k_is)
    (case a_law_sure_let => k_is)
    (case l_law_sure_let => k_is)
    (case c_law_sure_let => k_is)
    (case k_law_sure_let => k_is)
    (case a_law_good_world => k_is)
    (case l_law_good_world => k_is)
    (case c_law_good_world => k_is)
    (case k_law_good_world => k_is)
    (case a_law_made => k_is)
    (case l_law_made => k_is)
    (case c_law_made => k_is)
    (case k_law_made => k_is)
    (case a_law_fork => k_is)
    (case l_law_fork => k_is)
    (case c_law_fork => k_is)
    (case k_law_fork => k_is)
    (case a_law_signed => k_is)
    (case l_law_signed => k_is)
    (case c_law_signed => k_is)
    (case k_law_signed => k_is)
    (case a_law_said => k_is)
    (case l_law_said => k_is)
    (case c_law_said => k_is)
    (case k_law_said => k_is)
    (case a_law_log_drawn => k_is)
    (case l_law_log_drawn => k_is)
    (case c_law_log_drawn => k_is)
    (case k_law_log_drawn => k_is)
    (case a_law_giver => k_is)
    (case l_law_giver => k_is)
    (case c_law_giver => k_is)
    (case k_law_giver => k_is)
    (case a_law_signs_of => k_is)
    (case l_law_signs_of => k_is)
    (case c_law_signs_of => k_is)
    (case k_law_signs_of => k_is)
    (case a_law_any_entry => k_is)
    (case l_law_any_entry => k_is)
    (case c_law_any_entry => k_is)
    (case k_law_any_entry => k_is)
    (case a_law_let_behind => k_is)
    (case l_law_let_behind => k_is)
    (case c_law_let_behind => k_is)
    (case k_law_let_behind => k_is)
    (case a_law_deeds_done => k_is)
    (case l_law_deeds_done => k_is)
    (case c_law_deeds_done => k_is)
    (case k_law_deeds_done => k_is)
    (case a_law_board_behind => k_is)
    (case l_law_board_behind => k_is)
    (case c_law_board_behind => k_is)
    (case k_law_board_behind => k_is)
    (case a_law_breach_here => k_is)
    (case l_law_breach_here => k_is)
    (case c_law_breach_here => k_is)
    (case k_law_breach_here => k_is)
    (case a_law_harm_here => k_is)
    (case l_law_harm_here => k_is)
    (case c_law_harm_here => k_is)
    (case k_law_harm_here => k_is)
    (case a_law_whose_here => k_is)
    (case l_law_whose_here => k_is)
    (case c_law_whose_here => k_is)
    (case k_law_whose_here => k_is)
    (case a_law => k_is)
    (case l_law => k_is)
    (case c_law => k_is)
    (case k_law => k_is)
    (case z_len => k_is)
    (case z_tuple => k_is)
    (case z_list => k_is)
    (case z_sorted => k_is)
    (case z_dict => k_is)
    (case z_int => k_is)
    (case z_abs => k_is)
    (case z_max => k_is)
    (case z_min => k_is)
    (case z_all => k_is)
    (case z_any => k_is)
    (case z_bool => k_is)
    (case z_str => k_is)
    (case z_isinstance => k_is)
    (case z_range => k_is)
    (case z_enumerate => k_is)
    (case z_zip => k_is)
    (case g_CANNOT => k_is)
    (case g_LET => k_is)
    (case g_ANSWER => k_is)
    (case g_OTHERS => k_is)
    (case g_DID => k_is)
    (case g_NEVER => k_is)
    (case g_STUCK => k_is)
    (case g_GIVER => k_is)
    (case r_CANNOT => exact ⟨(.str "cannot"), ⟨_, rfl⟩, fun H => by unfold PL.Rep; rfl⟩)
    (case r_LET => exact ⟨(.str "let"), ⟨_, rfl⟩, fun H => by unfold PL.Rep; rfl⟩)
    (case r_ANSWER => exact ⟨(.str "answer"), ⟨_, rfl⟩, fun H => by unfold PL.Rep; rfl⟩)
    (case r_OTHERS => exact ⟨(.int (-1)), ⟨_, rfl⟩, fun H => by unfold PL.Rep; rfl⟩)
    (case r_DID => exact ⟨(.str "did"), ⟨_, rfl⟩, fun H => by unfold PL.Rep; rfl⟩)
    (case r_NEVER => exact ⟨(.str "never"), ⟨_, rfl⟩, fun H => by unfold PL.Rep; rfl⟩)
    (case r_STUCK => exact ⟨(.str "stuck"), ⟨_, rfl⟩, fun H => by unfold PL.Rep; rfl⟩)
    (case r_GIVER => exact ⟨(.int (-2)), ⟨_, rfl⟩, fun H => by unfold PL.Rep; rfl⟩)
