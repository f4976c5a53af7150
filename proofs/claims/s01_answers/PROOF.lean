import PyProof.Rows.All
import Wide.All
import OpenK.AllK
import Wide.FinOn
import Open.SpecLaws
import KE.OsGo
import HandS.ForSpec
import HandS.Comp
import HandS.Iter
import HandS.Style
import HandS.Text
import PySem.Challenge.RW_surelyforgotten_s01_answers
import PyKs189
set_option Elab.async false
set_option maxRecDepth 100000
set_option maxHeartbeats 2000000
/-! SfMath: the plain law, no program in sight: mirrors of the given defs over lists of numbers, and what they have to do with the specification. -/
namespace SF
open Ks189 (Bytes Ref Node Ev Dev Page zeros xor none_ other pageOf nodeAt right_ had leafOf)

abbrev pad := Ks189Neutral.pad
abbrev intL := Ks189Neutral.ints

/-! ### what is asked, as numbers -/
def evNums : Ev → List Int
  | .know _ => [1]
  | .keep r => 2 :: intL r
  | .read p _ => [3, (p : Int)]
  | .write p b => 4 :: (p : Int) :: intL b
  | .any _ => [5]
  | .mix k _ => 6 :: intL k
def tells (es : List Ev) : List Int := es.flatMap evNums
theorem tells_nil : tells [] = [] := rfl
theorem tells_more (es : List Ev) (e : Ev) : tells (es ++ [e]) = tells es ++ evNums e := by
  unfold tells
  rw [List.flatMap_append, List.flatMap_cons, List.flatMap_nil, List.append_nil]
def Small (es : List Ev) : Prop := ∀ e ∈ es, (evNums e).length ≤ 98
theorem Small.nil : Small [] := fun _ h => absurd h (by simp)
theorem Small.more {es : List Ev} {e : Ev} (h : Small es) (q : (evNums e).length ≤ 98) : Small (es ++ [e]) := fun x hx => by
  rcases List.mem_append.mp hx with z | z
  · exact h x z
  · rw [List.mem_singleton.mp z]
    exact q
theorem tells_len : ∀ {es : List Ev}, Small es → (tells es).length ≤ 98 * es.length
  | [], _ => Nat.le_refl _
  | e :: r, h => by
    have ih := tells_len (es := r) fun x hx => h x (List.mem_cons_of_mem _ hx)
    have he := h e (List.mem_cons_self ..)
    show (evNums e ++ tells r).length ≤ 98 * (r.length + 1)
    rw [List.length_append]
    omega
theorem ints_len (b : Bytes) : (intL b).length = b.length := List.length_map ..
theorem ints_app (a b : Bytes) : intL (a ++ b) = intL a ++ intL b := List.map_append ..

/-! ### bytes -/
theorem len_zeros (n : Nat) : (zeros n).length = n := List.length_replicate
theorem len_pad (k : Bytes) : (pad k).length = 96 := by
  show (List.map _ (List.range 96)).length = 96
  rw [List.length_map, List.length_range]
theorem len_xor {a b : Bytes} (ha : a.length = 96) (hb : b.length = 96) : (xor a b).length = 96 := by
  show (List.zipWith _ a b).length = 96
  rw [List.length_zipWith, ha, hb]
  rfl

/-! ### links and contents -/
def childRef (b : Bytes) (right : Bool) : Ref := if right then ⟨b.getD 65 0, (b.drop 32).take 32⟩ else ⟨b.getD 64 0, b.take 32⟩
def nodeAny (b : Bytes) : Node := ⟨childRef b false, childRef b true⟩
theorem child_any (b : Bytes) (r : Bool) : (nodeAny b).child r = childRef b r := by cases r <;> rfl
def Fit (b : Bytes) : Prop := b.getD 64 0 ≤ 2 ∧ b.getD 65 0 ≤ 2
instance (b : Bytes) : Decidable (Fit b) := inferInstanceAs (Decidable (_ ∧ _))
theorem nodeOf_fit {b : Bytes} (h : Fit b) : Ks189.nodeOf b = some (nodeAny b) := if_pos h
theorem nodeOf_not {b : Bytes} (h : ¬ Fit b) : Ks189.nodeOf b = none := if_neg h
def withChild (b : Bytes) (right : Bool) (x : Ref) : Bytes := ((nodeAny b).with_ right x).bytes
def RefOk (r : Ref) : Prop := r.key.length = 32
theorem none_ok : RefOk none_ := len_zeros 32
theorem child_ok {b : Bytes} (h : b.length = 96) (r : Bool) : RefOk (childRef b r) := by
  cases r
  · show (b.take 32).length = 32
    rw [List.length_take, h]
    rfl
  · show ((b.drop 32).take 32).length = 32
    rw [List.length_take, List.length_drop, h]
    rfl
theorem root_ok {b : Bytes} (h : b.length = 40) : RefOk (Ks189.rootOf b) := by
  show ((b.drop 4).take 32).length = 32
  rw [List.length_take, List.length_drop, h]
  rfl
theorem bytes_len {n : Node} (h1 : RefOk n.l) (h2 : RefOk n.r) : n.bytes.length = 96 := by
  have e1 : n.l.key.length = 32 := h1
  have e2 : n.r.key.length = 32 := h2
  show (n.l.key ++ n.r.key ++ [n.l.copy, n.r.copy] ++ zeros 30).length = 96
  rw [List.length_append, List.length_append, List.length_append, e1, e2, len_zeros]
  rfl
theorem withChild_len {b : Bytes} (h : b.length = 96) (r : Bool) {x : Ref} (hx : RefOk x) : (withChild b r x).length = 96 := by
  cases r
  · exact bytes_len (n := ⟨x, childRef b true⟩) hx (child_ok h true)
  · exact bytes_len (n := ⟨childRef b false, x⟩) (child_ok h false) hx
theorem nodeAny_zeros : nodeAny (zeros 96) = Ks189.empty := by decide +kernel

/-! ### going the way -/
structure Way where
  evs : List Ev
  links : List Ref
  conts : List Bytes
  ok : Bool
def Way.cons (e : List Ev) (l : Ref) (c : Bytes) (y : Way) : Way := ⟨e ++ y.evs, l :: y.links, c :: y.conts, y.ok⟩
/-- what stands under a node that is there -/
def under (d : Dev) (i deep : Nat) (x : Ref) : Bytes := xor (d.page (pageOf (nodeAt i deep) x.copy)) (pad x.key)
def readEvs (d : Dev) (i deep : Nat) (x : Ref) : List Ev := [.read (pageOf (nodeAt i deep) x.copy) (d.page (pageOf (nodeAt i deep) x.copy)), .mix x.key (pad x.key)]
def gw (d : Dev) (i : Nat) : Nat → Nat → Ref → Way
  | 0, _, _ => ⟨[], [], [], true⟩
  | k + 1, deep, x =>
    if x.copy = 0 then Way.cons [] none_ (zeros 96) (gw d i k (deep + 1) none_)
    else if Fit (under d i deep x) then Way.cons (readEvs d i deep x) (childRef (under d i deep x) (right_ i deep)) (under d i deep x) (gw d i k (deep + 1) (childRef (under d i deep x) (right_ i deep)))
    else ⟨readEvs d i deep x, [], [], false⟩
theorem gw_none (d : Dev) (i : Nat) : ∀ k deep, gw d i k deep none_ = ⟨[], List.replicate k none_, List.replicate k (zeros 96), true⟩
  | 0, _ => rfl
  | k + 1, deep => by
    show (if none_.copy = 0 then Way.cons [] none_ (zeros 96) (gw d i k (deep + 1) none_) else _) = _
    rw [if_pos (show none_.copy = 0 from rfl), gw_none d i k (deep + 1)]
    rfl
/-- the links (from x on) and the contents are what the specification's way says -/
structure Rel (k : Nat) (x : Ref) (w : List (Nat × Node)) (r : Ref) (links : List Ref) (conts : List Bytes) : Prop where
  ll : links.length = k
  cl : conts.length = k
  wl : w.length ≤ k
  at_ : ∀ j, j < k → had w j = (((x :: links).getD j none_).copy, nodeAny (conts.getD j (zeros 96)))
  end_ : (x :: links).getD k none_ = if w.length = k then r else none_
theorem getD_rep {α : Type} {a : α} : ∀ (k j : Nat), (List.replicate k a).getD j a = a
  | 0, _ => rfl
  | k + 1, 0 => rfl
  | k + 1, j + 1 => getD_rep k j
theorem had_nil (j : Nat) : had [] j = (0, Ks189.empty) := rfl
theorem had_zero (a : Nat × Node) (l : List (Nat × Node)) : had (a :: l) 0 = a := rfl
theorem had_succ (a : Nat × Node) (l : List (Nat × Node)) (j : Nat) : had (a :: l) (j + 1) = had l j := rfl
/-- the specification's answer and the mirror's -/
def Told (k : Nat) (x : Ref) (z : List Ev × Option (List (Nat × Node) × Ref)) (y : Way) : Prop :=
  y.evs = z.1 ∧ (z.2 = none ∧ y.ok = false ∨ ∃ w r, z.2 = some (w, r) ∧ y.ok = true ∧ Rel k x w r y.links y.conts)
theorem gw_go (d : Dev) (i : Nat) : ∀ k deep x, Told k x (Ks189.go pad d i k deep x) (gw d i k deep x)
  | 0, deep, x => ⟨rfl, .inr ⟨[], x, rfl, rfl, rfl, rfl, Nat.le_refl _, fun j h => absurd h (Nat.not_lt_zero _), rfl⟩⟩
  | k + 1, deep, x => by
    by_cases h0 : x.copy = 0
    · have e1 : Ks189.go pad d i (k + 1) deep x = ([], some ([], x)) := if_pos h0
      have e2 : gw d i (k + 1) deep x = ⟨[], List.replicate (k + 1) none_, List.replicate (k + 1) (zeros 96), true⟩ := by
        refine (if_pos h0).trans ?_
        rw [gw_none]
        rfl
      rw [e1, e2]
      refine ⟨rfl, .inr ⟨[], x, rfl, rfl, List.length_replicate, List.length_replicate, Nat.zero_le _, fun j hj => ?_, ?_⟩⟩
      · show (0, Ks189.empty) = (((x :: List.replicate (k + 1) none_).getD j none_).copy, nodeAny ((List.replicate (k + 1) (zeros 96)).getD j (zeros 96)))
        rw [getD_rep, nodeAny_zeros]
        cases j with
        | zero => show _ = (x.copy, _); rw [h0]
        | succ j =>
          show _ = (((List.replicate (k + 1) none_).getD j none_).copy, _)
          rw [getD_rep]
          rfl
      · show (List.replicate (k + 1) none_).getD k none_ = _
        rw [getD_rep, if_neg (by simp)]
    · by_cases hf : Fit (under d i deep x)
      · have ih := gw_go d i k (deep + 1) (childRef (under d i deep x) (right_ i deep))
        have e1 : Ks189.go pad d i (k + 1) deep x = (readEvs d i deep x ++ (Ks189.go pad d i k (deep + 1) ((nodeAny (under d i deep x)).child (right_ i deep))).1, (Ks189.go pad d i k (deep + 1) ((nodeAny (under d i deep x)).child (right_ i deep))).2.map fun (z : List (Nat × Node) × Ref) => ((x.copy, nodeAny (under d i deep x)) :: z.1, z.2)) := by
          refine (if_neg h0).trans ?_
          show (match Ks189.nodeOf (under d i deep x) with
            | none => (readEvs d i deep x, none)
            | some n => (readEvs d i deep x ++ (Ks189.go pad d i k (deep + 1) (n.child (right_ i deep))).1, (Ks189.go pad d i k (deep + 1) (n.child (right_ i deep))).2.map fun (z : List (Nat × Node) × Ref) => ((x.copy, n) :: z.1, z.2))) = _
          rw [nodeOf_fit hf]
        have e2 : gw d i (k + 1) deep x = Way.cons (readEvs d i deep x) (childRef (under d i deep x) (right_ i deep)) (under d i deep x) (gw d i k (deep + 1) (childRef (under d i deep x) (right_ i deep))) := (if_neg h0).trans (if_pos hf)
        rw [e1, e2, child_any]
        generalize Ks189.go pad d i k (deep + 1) (childRef (under d i deep x) (right_ i deep)) = z at ih
        generalize gw d i k (deep + 1) (childRef (under d i deep x) (right_ i deep)) = y at ih
        obtain ⟨ie, ih⟩ := ih
        refine ⟨congrArg (readEvs d i deep x ++ ·) ie, ?_⟩
        rcases ih with ⟨a, b⟩ | ⟨w, r, a, b, R⟩
        · exact .inl ⟨by rw [a]; rfl, b⟩
        · refine .inr ⟨(x.copy, nodeAny (under d i deep x)) :: w, r, by rw [a]; rfl, b, congrArg (· + 1) R.ll, congrArg (· + 1) R.cl, Nat.succ_le_succ R.wl, fun j hj => ?_, ?_⟩
          · cases j with
            | zero => rfl
            | succ j =>
              rw [had_succ, R.at_ j (Nat.lt_of_succ_lt_succ hj)]
              rfl
          · show (childRef (under d i deep x) (right_ i deep) :: y.links).getD k none_ = _
            rw [R.end_]
            by_cases q : w.length = k
            · rw [if_pos q]
              exact (if_pos (show w.length + 1 = k + 1 by omega)).symm
            · rw [if_neg q]
              exact (if_neg (show ¬ w.length + 1 = k + 1 by omega)).symm
      · have e1 : Ks189.go pad d i (k + 1) deep x = (readEvs d i deep x, none) := by
          refine (if_neg h0).trans ?_
          show (match Ks189.nodeOf (under d i deep x) with
            | none => (readEvs d i deep x, none)
            | some n => (readEvs d i deep x ++ (Ks189.go pad d i k (deep + 1) (n.child (right_ i deep))).1, (Ks189.go pad d i k (deep + 1) (n.child (right_ i deep))).2.map fun (z : List (Nat × Node) × Ref) => ((x.copy, n) :: z.1, z.2))) = _
          rw [nodeOf_not hf]
        have e2 : gw d i (k + 1) deep x = ⟨readEvs d i deep x, [], [], false⟩ := (if_neg h0).trans (if_neg hf)
        rw [e1, e2]
        exact ⟨rfl, .inl ⟨rfl, rfl⟩⟩
/-- the whole way, from the register on -/
def goW (d : Dev) (i : Nat) : Way := if 2 < (Ks189.rootOf d.reg).copy then ⟨[.know d.reg], [], [], false⟩ else
  ⟨.know d.reg :: (gw d i 10 0 (Ks189.rootOf d.reg)).evs, (gw d i 10 0 (Ks189.rootOf d.reg)).links, (gw d i 10 0 (Ks189.rootOf d.reg)).conts, (gw d i 10 0 (Ks189.rootOf d.reg)).ok⟩
theorem goW_way (d : Dev) (i : Nat) : Told 10 (Ks189.rootOf d.reg) (Ks189.way pad d i) (goW d i) := by
  by_cases h : 2 < (Ks189.rootOf d.reg).copy
  · have e1 : Ks189.way pad d i = ([.know d.reg], none) := if_pos h
    have e2 : goW d i = ⟨[.know d.reg], [], [], false⟩ := if_pos h
    rw [e1, e2]
    exact ⟨rfl, .inl ⟨rfl, rfl⟩⟩
  · have e1 : Ks189.way pad d i = (.know d.reg :: (Ks189.go pad d i 10 0 (Ks189.rootOf d.reg)).1, (Ks189.go pad d i 10 0 (Ks189.rootOf d.reg)).2) := if_neg h
    have e2 : goW d i = ⟨.know d.reg :: (gw d i 10 0 (Ks189.rootOf d.reg)).evs, (gw d i 10 0 (Ks189.rootOf d.reg)).links, (gw d i 10 0 (Ks189.rootOf d.reg)).conts, (gw d i 10 0 (Ks189.rootOf d.reg)).ok⟩ := if_neg h
    rw [e1, e2]
    obtain ⟨a, b⟩ := gw_go d i 10 0 (Ks189.rootOf d.reg)
    exact ⟨congrArg (Ev.know d.reg :: ·) a, b⟩
/-- the links with the root's ahead -/
def linksOf (d : Dev) (i : Nat) : List Ref := Ks189.rootOf d.reg :: (goW d i).links
def DevOk (d : Dev) : Prop := d.reg.length = 40 ∧ ∀ p, p < 4096 → (d.page p).length = 96

/-! ### writing it anew -/
def linkAt (links : List Ref) (keys : List Bytes) (d : Nat) : Ref := ⟨other (links.getD d none_).copy, keys.getD d []⟩
def rn (i : Nat) (links : List Ref) (conts keys : List Bytes) : Nat → Bytes → List Page
  | 0, _ => []
  | d + 1, b => ⟨nodeAt i d, (linkAt links keys d).copy, (linkAt links keys d).key, b⟩ :: rn i links conts keys d (withChild (conts.getD (d - 1) (zeros 96)) (right_ i (d - 1)) (linkAt links keys d))
theorem rn_upward {i : Nat} {links : List Ref} {conts keys : List Bytes} {w : List (Nat × Node)} (h : ∀ j, j < 10 → had w j = ((links.getD j none_).copy, nodeAny (conts.getD j (zeros 96)))) :
    ∀ d, d ≤ 10 → ∀ x, rn i links conts keys d (withChild (conts.getD (d - 1) (zeros 96)) (right_ i (d - 1)) x) = Ks189.upward i w keys d x
  | 0, _, _ => rfl
  | d + 1, hd, x => by
    have e := h d (by omega)
    have ih := rn_upward h (keys := keys) (i := i) d (by omega) (linkAt links keys d)
    show (⟨nodeAt i d, (linkAt links keys d).copy, (linkAt links keys d).key, withChild (conts.getD d (zeros 96)) (right_ i d) x⟩ : Page) :: rn i links conts keys d (withChild (conts.getD (d - 1) (zeros 96)) (right_ i (d - 1)) (linkAt links keys d)) =
      ⟨nodeAt i d, other (had w d).1, keys.getD d [], ((had w d).2.with_ (right_ i d) x).bytes⟩ :: Ks189.upward i w keys d ⟨other (had w d).1, keys.getD d []⟩
    rw [ih, e]
    rfl
theorem nodeAt_leaf (i : Nat) : nodeAt i 10 = 1024 + i := Nat.div_one _
theorem leaf_is {x : Ref} {w : List (Nat × Node)} {r : Ref} {links : List Ref} {conts : List Bytes} (R : Rel 10 x w r links conts) : (x :: links).getD 10 none_ = leafOf (w, r) := R.end_
theorem rn_put {i : Nat} {x : Ref} {w : List (Nat × Node)} {r : Ref} {links : List Ref} {conts : List Bytes} (keys : List Bytes) (R : Rel 10 x w r links conts) (b : Bytes) :
    rn i (x :: links) conts keys 11 (b ++ zeros 32) = Ks189.pagesPut i (w, r) keys b := by
  have e := rn_upward (i := i) (keys := keys) R.at_ 10 (Nat.le_refl _) (linkAt (x :: links) keys 10)
  show (⟨nodeAt i 10, (linkAt (x :: links) keys 10).copy, (linkAt (x :: links) keys 10).key, b ++ zeros 32⟩ : Page) :: rn i (x :: links) conts keys 10 (withChild (conts.getD (10 - 1) (zeros 96)) (right_ i (10 - 1)) (linkAt (x :: links) keys 10)) =
    ⟨1024 + i, other (leafOf (w, r)).copy, keys.getD 10 [], b ++ zeros 32⟩ :: Ks189.upward i w keys 10 ⟨other (leafOf (w, r)).copy, keys.getD 10 []⟩
  rw [e, nodeAt_leaf, ← leaf_is R]
  rfl
/-- how many stay, of the nodes above the j-th -/
def stayN (conts : List Bytes) (i j : Nat) : Nat := ((List.range j).filter fun d => (childRef (conts.getD d (zeros 96)) (!right_ i d)).copy != 0).foldl (fun _ d => d + 1) 0
theorem stayN_zero (conts : List Bytes) (i : Nat) : stayN conts i 0 = 0 := rfl
theorem stayN_succ (conts : List Bytes) (i j : Nat) : stayN conts i (j + 1) = if (childRef (conts.getD j (zeros 96)) (!right_ i j)).copy ≠ 0 then j + 1 else stayN conts i j := by
  unfold stayN
  rw [List.range_succ, List.filter_append, List.foldl_append]
  by_cases h : (childRef (conts.getD j (zeros 96)) (!right_ i j)).copy = 0
  · rw [if_neg (fun q => q h)]
    have e : ((childRef (conts.getD j (zeros 96)) (!right_ i j)).copy != 0) = false := by rw [h]; rfl
    rw [List.filter_cons, e]
    rfl
  · rw [if_pos h]
    have e : ((childRef (conts.getD j (zeros 96)) (!right_ i j)).copy != 0) = true := bne_iff_ne.mpr h
    rw [List.filter_cons, e]
    rfl
theorem stayN_le (conts : List Bytes) (i : Nat) : ∀ j, stayN conts i j ≤ j
  | 0 => Nat.le_refl _
  | j + 1 => by
    rw [stayN_succ]
    have ih := stayN_le conts i j
    split
    · exact Nat.le_refl _
    · omega
theorem filter_cong {α : Type} {p q : α → Bool} : ∀ {l : List α}, (∀ x ∈ l, p x = q x) → l.filter p = l.filter q
  | [], _ => rfl
  | a :: r, h => by
    rw [List.filter_cons, List.filter_cons, h a (List.mem_cons_self ..), filter_cong (l := r) fun x hx => h x (List.mem_cons_of_mem _ hx)]
theorem stay_is {i : Nat} {x : Ref} {w : List (Nat × Node)} {r : Ref} {links : List Ref} {conts : List Bytes} (R : Rel 10 x w r links conts) : Ks189.stay i w = stayN conts i 10 := by
  show ((List.range 10).filter fun d => ((had w d).2.child (!right_ i d)).copy != 0).foldl (fun _ d => d + 1) 0 = ((List.range 10).filter fun d => (childRef (conts.getD d (zeros 96)) (!right_ i d)).copy != 0).foldl (fun _ d => d + 1) 0
  rw [filter_cong fun d hd => ?_]
  rw [R.at_ d (List.mem_range.mp hd)]
  show ((((nodeAny (conts.getD d (zeros 96))).child (!right_ i d)).copy != 0)) = _
  rw [child_any]
theorem rn_forget {i : Nat} {x : Ref} {w : List (Nat × Node)} {r : Ref} {links : List Ref} {conts : List Bytes} (keys : List Bytes) (R : Rel 10 x w r links conts) :
    rn i (x :: links) conts keys (stayN conts i 10) (withChild (conts.getD (stayN conts i 10 - 1) (zeros 96)) (right_ i (stayN conts i 10 - 1)) none_) = Ks189.pagesForget i (w, r) keys := by
  have e := rn_upward (i := i) (keys := keys) R.at_ (stayN conts i 10) (stayN_le ..) none_
  rw [e]
  show _ = Ks189.upward i w keys (Ks189.stay i w) none_
  rw [stay_is R]
/-- the register that tells a link -/
def regLink (r : Ref) : Bytes := [r.copy, 0, 0, 0] ++ r.key ++ zeros 4
theorem other_ne (c : Nat) : other c ≠ 0 := by
  unfold other
  split <;> decide
theorem other_le (c : Nat) : other c ≤ 2 := by
  unfold other
  split <;> decide
theorem last_rn {i : Nat} {links : List Ref} {conts keys : List Bytes} : ∀ (d : Nat) (b : Bytes), Ks189.last (rn i links conts keys (d + 1) b) = regLink (linkAt links keys 0)
  | 0, b => by
    show Ks189.regOf ⟨other (links.getD 0 none_).copy, keys.getD 0 []⟩ = _
    exact if_neg (other_ne _)
  | d + 1, b => by
    have ih := last_rn (i := i) (links := links) (conts := conts) (keys := keys) d (withChild (conts.getD d (zeros 96)) (right_ i d) (linkAt links keys (d + 1)))
    rw [← ih]
    rfl
/-- the script, cut into keys -/
def keysIn (sc : Bytes) (n : Nat) : List Bytes := (List.range n).map fun j => (sc.drop (32 * j)).take 32
theorem keysIn_len (sc : Bytes) (n : Nat) : (keysIn sc n).length = n := by
  show (List.map _ (List.range n)).length = n
  rw [List.length_map, List.length_range]
theorem keysIn_get {sc : Bytes} {n j : Nat} (h : j < n) : (keysIn sc n)[j]? = some ((sc.drop (32 * j)).take 32) := by
  show (List.map _ (List.range n))[j]? = _
  rw [List.getElem?_map, List.getElem?_range h]
  rfl
theorem keysIn_succ (sc : Bytes) (n : Nat) : keysIn sc (n + 1) = keysIn sc n ++ [(sc.drop (32 * n)).take 32] := by
  show List.map _ (List.range (n + 1)) = _
  rw [List.range_succ, List.map_append]
  rfl
end SF

set_option Elab.async false
set_option maxRecDepth 100000
set_option maxHeartbeats 2000000
/-! SfMathB: the specification's calls by the mirrors; the reading of the calls. -/
namespace SF
open Ks189 (Bytes Ref Node Ev Dev Page zeros xor none_ other pageOf nodeAt right_ had leafOf)

/-! ### the calls -/
abbrev leafLink (d : Dev) (i : Nat) : Ref := (linksOf d i).getD 10 none_
abbrev contsOf (d : Dev) (i : Nat) : List Bytes := (goW d i).conts
theorem not_ge {i : Nat} (h : i < 1024) : ¬ Ks189.SLOTS ≤ i := Nat.not_le.mpr h
/-- what the specification's way is, by the mirror -/
theorem way_bad {d : Dev} {i : Nat} (h : (goW d i).ok = false) : Ks189.way pad d i = ((goW d i).evs, none) := by
  obtain ⟨e, q⟩ := goW_way d i
  rcases q with ⟨a, _⟩ | ⟨w, r, _, b, _⟩
  · rw [e, ← a]
  · rw [h] at b
    cases b
theorem way_good {d : Dev} {i : Nat} (h : (goW d i).ok = true) : ∃ w r, Ks189.way pad d i = ((goW d i).evs, some (w, r)) ∧ Rel 10 (Ks189.rootOf d.reg) w r (goW d i).links (goW d i).conts := by
  obtain ⟨e, q⟩ := goW_way d i
  rcases q with ⟨_, b⟩ | ⟨w, r, a, _, R⟩
  · rw [h] at b
    cases b
  · exact ⟨w, r, by rw [e, ← a], R⟩
theorem act_get_big {d : Dev} {keys : List Bytes} {i : Nat} (h : ¬ i < 1024) : Ks189.act pad d keys (.get i) = ([], Ks189.say (-22)) := if_pos (Nat.not_lt.mp h)
theorem act_put_big {d : Dev} {keys : List Bytes} {i : Nat} {x : Bytes} (h : ¬ i < 1024) : Ks189.act pad d keys (.put i x) = ([], Ks189.say (-22)) := if_pos (Nat.not_lt.mp h)
theorem act_forget_big {d : Dev} {keys : List Bytes} {i : Nat} (h : ¬ i < 1024) : Ks189.act pad d keys (.forget i) = ([], Ks189.say (-22)) := if_pos (Nat.not_lt.mp h)
theorem act_get_bad {d : Dev} {keys : List Bytes} {i : Nat} (h : i < 1024) (b : (goW d i).ok = false) : Ks189.act pad d keys (.get i) = ((goW d i).evs, Ks189.say (-71)) := by
  refine (if_neg (not_ge h)).trans ?_
  rw [way_bad b]
theorem act_put_bad {d : Dev} {keys : List Bytes} {i : Nat} {x : Bytes} (h : i < 1024) (b : (goW d i).ok = false) : Ks189.act pad d keys (.put i x) = ((goW d i).evs, Ks189.say (-71)) := by
  refine (if_neg (not_ge h)).trans ?_
  rw [way_bad b]
theorem act_forget_bad {d : Dev} {keys : List Bytes} {i : Nat} (h : i < 1024) (b : (goW d i).ok = false) : Ks189.act pad d keys (.forget i) = ((goW d i).evs, Ks189.say (-71)) := by
  refine (if_neg (not_ge h)).trans ?_
  rw [way_bad b]
theorem act_get_none {d : Dev} {keys : List Bytes} {i : Nat} (h : i < 1024) (g : (goW d i).ok = true) (z : (leafLink d i).copy = 0) : Ks189.act pad d keys (.get i) = ((goW d i).evs, Ks189.say (-2)) := by
  obtain ⟨w, r, e, R⟩ := way_good g
  have l := leaf_is R
  have z' : (leafOf (w, r)).copy = 0 := by rw [← l]; exact z
  refine (if_neg (not_ge h)).trans ?_
  rw [e]
  exact if_pos z'
theorem act_forget_none {d : Dev} {keys : List Bytes} {i : Nat} (h : i < 1024) (g : (goW d i).ok = true) (z : (leafLink d i).copy = 0) : Ks189.act pad d keys (.forget i) = ((goW d i).evs, Ks189.say (-2)) := by
  obtain ⟨w, r, e, R⟩ := way_good g
  have l := leaf_is R
  have z' : (leafOf (w, r)).copy = 0 := by rw [← l]; exact z
  refine (if_neg (not_ge h)).trans ?_
  rw [e]
  exact if_pos z'
theorem act_get_some {d : Dev} {keys : List Bytes} {i : Nat} (h : i < 1024) (g : (goW d i).ok = true) (z : ¬ (leafLink d i).copy = 0) :
    Ks189.act pad d keys (.get i) = ((goW d i).evs ++ readEvs d i 10 (leafLink d i), { ret := 0, out := (under d i 10 (leafLink d i)).take 64 }) := by
  obtain ⟨w, r, e, R⟩ := way_good g
  have l : leafLink d i = leafOf (w, r) := leaf_is R
  have z' : ¬ (leafOf (w, r)).copy = 0 := by rw [← l]; exact z
  refine (if_neg (not_ge h)).trans ?_
  rw [e, l]
  refine (if_neg z').trans ?_
  unfold readEvs under
  rw [nodeAt_leaf]
  rfl
theorem act_put_good {d : Dev} {keys : List Bytes} {i : Nat} {x : Bytes} (h : i < 1024) (g : (goW d i).ok = true) :
    Ks189.act pad d keys (.put i x) = ((goW d i).evs ++ Ks189.wrote pad keys (rn i (linksOf d i) (contsOf d i) keys 11 (x ++ zeros 32)), Ks189.say 0) := by
  obtain ⟨w, r, e, R⟩ := way_good g
  refine (if_neg (not_ge h)).trans ?_
  rw [e]
  show ((goW d i).evs ++ Ks189.wrote pad keys (Ks189.pagesPut i (w, r) keys x), Ks189.say 0) = _
  rw [← rn_put keys R x]
  rfl
theorem act_forget_good {d : Dev} {keys : List Bytes} {i : Nat} (h : i < 1024) (g : (goW d i).ok = true) (z : ¬ (leafLink d i).copy = 0) :
    Ks189.act pad d keys (.forget i) = ((goW d i).evs ++ Ks189.wrote pad keys (rn i (linksOf d i) (contsOf d i) keys (stayN (contsOf d i) i 10) (withChild ((contsOf d i).getD (stayN (contsOf d i) i 10 - 1) (zeros 96)) (right_ i (stayN (contsOf d i) i 10 - 1)) none_)), Ks189.say 0) := by
  obtain ⟨w, r, e, R⟩ := way_good g
  have l : leafLink d i = leafOf (w, r) := leaf_is R
  have z' : ¬ (leafOf (w, r)).copy = 0 := by rw [← l]; exact z
  refine (if_neg (not_ge h)).trans ?_
  rw [e]
  refine (if_neg z').trans ?_
  show ((goW d i).evs ++ Ks189.wrote pad keys (Ks189.pagesForget i (w, r) keys), Ks189.say 0) = _
  rw [← rn_forget keys R]
  rfl
theorem needs_put_big {d : Dev} {i : Nat} {x : Bytes} (h : ¬ i < 1024) : Ks189.needs pad d (.put i x) = 0 := if_neg fun q => h q.1
theorem needs_forget_big {d : Dev} {i : Nat} (h : ¬ i < 1024) : Ks189.needs pad d (.forget i) = 0 := if_neg h
theorem needs_put_bad {d : Dev} {i : Nat} {x : Bytes} (b : (goW d i).ok = false) : Ks189.needs pad d (.put i x) = 0 := by
  refine if_neg fun q => ?_
  rw [way_bad b] at q
  exact Bool.noConfusion q.2
theorem needs_put_good {d : Dev} {i : Nat} {x : Bytes} (h : i < 1024) (g : (goW d i).ok = true) : Ks189.needs pad d (.put i x) = 11 := by
  obtain ⟨w, r, e, R⟩ := way_good g
  exact if_pos ⟨h, by rw [e]; rfl⟩
theorem needs_forget_bad {d : Dev} {i : Nat} (h : i < 1024) (b : (goW d i).ok = false) : Ks189.needs pad d (.forget i) = 0 := by
  refine (if_pos h).trans ?_
  rw [way_bad b]
theorem needs_forget_none {d : Dev} {i : Nat} (h : i < 1024) (g : (goW d i).ok = true) (z : (leafLink d i).copy = 0) : Ks189.needs pad d (.forget i) = 0 := by
  obtain ⟨w, r, e, R⟩ := way_good g
  have l : leafLink d i = leafOf (w, r) := leaf_is R
  refine (if_pos h).trans ?_
  rw [e]
  exact if_pos (by rw [← l]; exact z)
theorem needs_forget_good {d : Dev} {i : Nat} (h : i < 1024) (g : (goW d i).ok = true) (z : ¬ (leafLink d i).copy = 0) : Ks189.needs pad d (.forget i) = stayN (contsOf d i) i 10 := by
  obtain ⟨w, r, e, R⟩ := way_good g
  have l : leafLink d i = leafOf (w, r) := leaf_is R
  refine (if_pos h).trans ?_
  rw [e]
  refine (if_neg (by rw [← l]; exact z)).trans ?_
  exact stay_is R

/-! ### one call of the calls -/
abbrev natL := Ks189Neutral.nats
def told1 (x : List Ev × Ks189.Ans) : List Int := x.2.ret :: (intL x.2.out ++ ((x.1.length : Int) :: tells x.1))
theorem step_clear (s : Dev) : Ks189Neutral.step s [[0]] = (s.after (Ks189.act pad s [] .clear).1, told1 (Ks189.act pad s [] .clear)) := rfl
theorem step_put (s : Dev) (a : Int) (b sc : List Int) : Ks189Neutral.step s [[1, a], b, sc] = (s.after (Ks189.act pad s (keysIn (natL sc) ((natL sc).length / 32)) (.put a.toNat (natL b))).1, told1 (Ks189.act pad s (keysIn (natL sc) ((natL sc).length / 32)) (.put a.toNat (natL b)))) := rfl
theorem step_get (s : Dev) (a : Int) : Ks189Neutral.step s [[2, a]] = (s.after (Ks189.act pad s [] (.get a.toNat)).1, told1 (Ks189.act pad s [] (.get a.toNat))) := rfl
theorem step_forget (s : Dev) (a : Int) (sc : List Int) : Ks189Neutral.step s [[3, a], sc] = (s.after (Ks189.act pad s (keysIn (natL sc) ((natL sc).length / 32)) (.forget a.toNat)).1, told1 (Ks189.act pad s (keysIn (natL sc) ((natL sc).length / 32)) (.forget a.toNat))) := rfl
theorem step_reg (s : Dev) (b : List Int) : Ks189Neutral.step s [[4], b] = ({ s with reg := natL b }, [0]) := rfl
theorem step_page (s : Dev) (a : Int) (b : List Int) : Ks189Neutral.step s [[5, a], b] = (s.on (.write a.toNat (natL b)), [0]) := rfl
end SF

set_option Elab.async false
set_option maxRecDepth 100000
set_option maxHeartbeats 2000000
/-! SfMathC: the reading of the calls from one list, the line of calls. -/
namespace SF
open Ks189 (Bytes Ref Node Ev Dev Page zeros xor none_ other pageOf nodeAt right_ had leafOf)

theorem drop_cons {α : Type} {ns : List α} {j : Nat} {p : α} {r : List α} (h : ns.drop j = p :: r) : ns[j]? = some p ∧ r = ns.drop (j + 1) ∧ j < ns.length := by
  have e1 : ns[j]? = some p := by
    have : (ns.drop j)[0]? = some p := by rw [h]; rfl
    rw [List.getElem?_drop] at this
    exact this
  refine ⟨e1, ?_, (List.getElem?_eq_some_iff.mp e1).1⟩
  have : (ns.drop j).drop 1 = r := by rw [h]; rfl
  rw [List.drop_drop] at this
  exact this.symm
theorem row_at {ns x s : List Int} {j : Nat} (h : PyFlat.row (ns.drop j) = some (x, s)) :
    ∃ n : Nat, ns[j]? = some (n : Int) ∧ j + 1 + n ≤ ns.length ∧ x = (ns.drop (j + 1)).take n ∧ s = ns.drop (j + 1 + n) := by
  cases e : ns.drop j with
  | nil =>
    rw [e] at h
    cases h
  | cons p r =>
    rw [e] at h
    obtain ⟨e1, e2, e3⟩ := drop_cons e
    have h' : (if 0 ≤ p ∧ p.toNat ≤ r.length then some (r.take p.toNat, r.drop p.toNat) else none) = some (x, s) := h
    by_cases c : 0 ≤ p ∧ p.toNat ≤ r.length
    · rw [if_pos c] at h'
      have h2 := Option.some.inj h'
      have hx : x = r.take p.toNat := (congrArg Prod.fst h2).symm
      have hs : s = r.drop p.toNat := (congrArg Prod.snd h2).symm
      obtain ⟨c1, c2⟩ := c
      have rl : r.length = ns.length - (j + 1) := by rw [e2, List.length_drop]
      refine ⟨p.toNat, ?_, by omega, by rw [hx, e2], ?_⟩
      · rw [e1, Int.toNat_of_nonneg c1]
      · rw [hs, e2, List.drop_drop]
    · rw [if_neg c] at h'
      cases h'
/-- the call that stands at a place, and the place behind it -/
inductive ReadAt (ns : List Int) (j : Nat) : List (List Int) → Nat → Prop
  | clear : ns[j]? = some 0 → ReadAt ns j [[0]] (j + 1)
  | put (a : Int) (n m : Nat) : ns[j]? = some 1 → ns[j + 1]? = some a → ns[j + 2]? = some (n : Int) → j + 2 + 1 + n ≤ ns.length → ns[j + 2 + 1 + n]? = some (m : Int) → j + 2 + 1 + n + 1 + m ≤ ns.length →
      ReadAt ns j [[1, a], (ns.drop (j + 2 + 1)).take n, (ns.drop (j + 2 + 1 + n + 1)).take m] (j + 2 + 1 + n + 1 + m)
  | get (a : Int) : ns[j]? = some 2 → ns[j + 1]? = some a → ReadAt ns j [[2, a]] (j + 2)
  | forget (a : Int) (m : Nat) : ns[j]? = some 3 → ns[j + 1]? = some a → ns[j + 2]? = some (m : Int) → j + 2 + 1 + m ≤ ns.length → ReadAt ns j [[3, a], (ns.drop (j + 2 + 1)).take m] (j + 2 + 1 + m)
  | reg (n : Nat) : ns[j]? = some 4 → ns[j + 1]? = some (n : Int) → j + 1 + 1 + n ≤ ns.length → ReadAt ns j [[4], (ns.drop (j + 1 + 1)).take n] (j + 1 + 1 + n)
  | page (a : Int) (n : Nat) : ns[j]? = some 5 → ns[j + 1]? = some a → ns[j + 2]? = some (n : Int) → j + 2 + 1 + n ≤ ns.length → ReadAt ns j [[5, a], (ns.drop (j + 2 + 1)).take n] (j + 2 + 1 + n)
theorem ReadAt.lt {ns : List Int} {j b : Nat} {c : List (List Int)} (h : ReadAt ns j c b) : j < b := by
  cases h <;> omega
theorem ReadAt.le {ns : List Int} {j b : Nat} {c : List (List Int)} (h : ReadAt ns j c b) : b ≤ ns.length := by
  cases h with
  | clear e => exact (List.getElem?_eq_some_iff.mp e).1
  | put a n m _ _ _ _ _ z => exact z
  | get a _ e => exact (List.getElem?_eq_some_iff.mp e).1
  | forget a m _ _ _ z => exact z
  | reg n _ _ z => exact z
  | page a n _ _ _ z => exact z
theorem ne_len {ns : List Int} {j k : Nat} (h : ¬ (ns.drop (j + 1)).length < k) (hj : j < ns.length) : j + 1 + k ≤ ns.length := by
  rw [List.length_drop] at h
  omega
theorem call_read {ns : List Int} {j : Nat} {c : List (List Int)} {t : List Int} (hj : j < ns.length) (h : PyFlat.call PyKs189.shape (ns.drop j) = some (c, t)) : ∃ b, ReadAt ns j c b ∧ t = ns.drop b := by
  have ej : ns.drop j = ns[j] :: ns.drop (j + 1) := List.drop_eq_getElem_cons hj
  have g : ns[j]? = some ns[j] := List.getElem?_eq_getElem hj
  generalize ns[j] = p at ej g
  rw [ej] at h
  have h1 : (match PyKs189.shape p with
    | none => none
    | some (n, k) => if (ns.drop (j + 1)).length < n then none else match PyFlat.rows k ((ns.drop (j + 1)).drop n) with
      | none => none
      | some (xs, t) => some ((p :: (ns.drop (j + 1)).take n) :: xs, t)) = some (c, t) := h
  have one : ¬ (ns.drop (j + 1)).length < 1 → ∃ a, ns[j + 1]? = some a ∧ (ns.drop (j + 1)).take 1 = [a] ∧ (ns.drop (j + 1)).drop 1 = ns.drop (j + 2) := fun q => by
    have l := ne_len q hj
    have hj1 : j + 1 < ns.length := by omega
    refine ⟨ns[j + 1], List.getElem?_eq_getElem hj1, ?_, by rw [List.drop_drop]⟩
    rw [List.drop_eq_getElem_cons hj1]
    rfl
  by_cases p0 : p = 0
  · subst p0
    have h2 : some (([0] : List Int) :: [], (ns.drop (j + 1)).drop 0) = some (c, t) := h1
    have h3 := Option.some.inj h2
    exact ⟨j + 1, by rw [← show [[0]] = c from congrArg Prod.fst h3]; exact .clear g, (congrArg Prod.snd h3).symm⟩
  by_cases p1 : p = 1
  · subst p1
    have h2 : (if (ns.drop (j + 1)).length < 1 then none else match PyFlat.rows 2 ((ns.drop (j + 1)).drop 1) with
      | none => none
      | some (xs, t) => some (((1 : Int) :: (ns.drop (j + 1)).take 1) :: xs, t)) = some (c, t) := h1
    by_cases q : (ns.drop (j + 1)).length < 1
    · rw [if_pos q] at h2
      cases h2
    · rw [if_neg q] at h2
      obtain ⟨a, ga, ea, ed⟩ := one q
      rw [ed, ea] at h2
      have h3 : (match (match PyFlat.row (ns.drop (j + 2)) with
        | none => none
        | some (x, s) => match (match PyFlat.row s with
          | none => none
          | some (x, s) => match PyFlat.rows 0 s with
            | none => none
            | some (xs, t) => some (x :: xs, t)) with
          | none => none
          | some (xs, t) => some (x :: xs, t)) with
        | none => none
        | some (xs, t) => some ([1, a] :: xs, t)) = some (c, t) := h2
      cases e1 : PyFlat.row (ns.drop (j + 2)) with
      | none =>
        rw [e1] at h3
        cases h3
      | some z =>
        obtain ⟨x, s⟩ := z
        rw [e1] at h3
        obtain ⟨n, gn, ln, rfl, rfl⟩ := row_at e1
        dsimp only at h3
        cases e2 : PyFlat.row (ns.drop (j + 2 + 1 + n)) with
        | none =>
          rw [e2] at h3
          cases h3
        | some z =>
          obtain ⟨y, s2⟩ := z
          rw [e2] at h3
          obtain ⟨m, gm, lm, rfl, rfl⟩ := row_at e2
          have h4 := Option.some.inj h3
          exact ⟨j + 2 + 1 + n + 1 + m, by rw [← show _ = c from congrArg Prod.fst h4]; exact .put a n m g ga gn ln gm lm, (congrArg Prod.snd h4).symm⟩
  by_cases p2 : p = 2
  · subst p2
    have h2 : (if (ns.drop (j + 1)).length < 1 then none else some (((2 : Int) :: (ns.drop (j + 1)).take 1) :: [], (ns.drop (j + 1)).drop 1)) = some (c, t) := h1
    by_cases q : (ns.drop (j + 1)).length < 1
    · rw [if_pos q] at h2
      cases h2
    · rw [if_neg q] at h2
      obtain ⟨a, ga, ea, ed⟩ := one q
      rw [ed, ea] at h2
      have h3 := Option.some.inj h2
      exact ⟨j + 2, by rw [← show [[2, a]] = c from congrArg Prod.fst h3]; exact .get a g ga, (congrArg Prod.snd h3).symm⟩
  have single : ∀ (v : Int) (i : Nat) (hd : List Int), (match (match PyFlat.row (ns.drop i) with
        | none => none
        | some (x, s) => match PyFlat.rows 0 s with
            | none => none
            | some (xs, t) => some (x :: xs, t)) with
        | none => none
        | some (xs, t) => some (hd :: xs, t)) = some (c, t) → ∃ n : Nat, ns[i]? = some (n : Int) ∧ i + 1 + n ≤ ns.length ∧ c = [hd, (ns.drop (i + 1)).take n] ∧ t = ns.drop (i + 1 + n) := fun v i hd h3 => by
    cases e1 : PyFlat.row (ns.drop i) with
    | none =>
      rw [e1] at h3
      cases h3
    | some z =>
      obtain ⟨x, s⟩ := z
      rw [e1] at h3
      obtain ⟨n, gn, ln, rfl, rfl⟩ := row_at e1
      have h4 := Option.some.inj h3
      exact ⟨n, gn, ln, (congrArg Prod.fst h4).symm, (congrArg Prod.snd h4).symm⟩
  by_cases p3 : p = 3
  · subst p3
    have h2 : (if (ns.drop (j + 1)).length < 1 then none else match PyFlat.rows 1 ((ns.drop (j + 1)).drop 1) with
      | none => none
      | some (xs, t) => some (((3 : Int) :: (ns.drop (j + 1)).take 1) :: xs, t)) = some (c, t) := h1
    by_cases q : (ns.drop (j + 1)).length < 1
    · rw [if_pos q] at h2
      cases h2
    · rw [if_neg q] at h2
      obtain ⟨a, ga, ea, ed⟩ := one q
      rw [ed, ea] at h2
      obtain ⟨n, gn, ln, rfl, rfl⟩ := single 3 (j + 2) [3, a] h2
      exact ⟨_, .forget a n g ga gn ln, rfl⟩
  by_cases p4 : p = 4
  · subst p4
    obtain ⟨n, gn, ln, rfl, rfl⟩ := single 4 (j + 1) [4] h1
    exact ⟨_, .reg n g gn ln, rfl⟩
  by_cases p5 : p = 5
  · subst p5
    have h2 : (if (ns.drop (j + 1)).length < 1 then none else match PyFlat.rows 1 ((ns.drop (j + 1)).drop 1) with
      | none => none
      | some (xs, t) => some (((5 : Int) :: (ns.drop (j + 1)).take 1) :: xs, t)) = some (c, t) := h1
    by_cases q : (ns.drop (j + 1)).length < 1
    · rw [if_pos q] at h2
      cases h2
    · rw [if_neg q] at h2
      obtain ⟨a, ga, ea, ed⟩ := one q
      rw [ed, ea] at h2
      obtain ⟨n, gn, ln, rfl, rfl⟩ := single 5 (j + 2) [5, a] h2
      exact ⟨_, .page a n g ga gn ln, rfl⟩
  · exfalso
    have e : PyKs189.shape p = none := by
      unfold PyKs189.shape
      rw [if_neg p0, if_neg p1, if_neg p2, if_neg p3, if_neg p4, if_neg p5]
    rw [e] at h1
    cases h1
/-- what is still to be read -/
def Rest (ns : List Int) (j : Nat) (cs : List (List (List Int))) : Prop := ∃ fuel, PyFlat.calls PyKs189.shape fuel (ns.drop j) = some cs
theorem Rest.end_ {ns : List Int} {j : Nat} {cs : List (List (List Int))} (h : Rest ns j cs) (hj : ns.length ≤ j) : cs = [] := by
  obtain ⟨fuel, h⟩ := h
  rw [List.drop_eq_nil_of_le hj] at h
  cases fuel <;> exact (Option.some.inj h).symm
theorem Rest.next {ns : List Int} {j : Nat} {cs : List (List (List Int))} (h : Rest ns j cs) (hj : j < ns.length) : ∃ c r b, cs = c :: r ∧ ReadAt ns j c b ∧ Rest ns b r := by
  obtain ⟨fuel, h⟩ := h
  have ej : ns.drop j = ns[j] :: ns.drop (j + 1) := List.drop_eq_getElem_cons hj
  cases fuel with
  | zero =>
    rw [ej] at h
    cases h
  | succ f =>
    have h1 : (match PyFlat.call PyKs189.shape (ns.drop j) with
      | none => none
      | some (c, t) => match PyFlat.calls PyKs189.shape f t with
        | none => none
        | some cs => some (c :: cs)) = some cs := by
      rw [ej]
      rw [ej] at h
      exact h
    cases e : PyFlat.call PyKs189.shape (ns.drop j) with
    | none =>
      rw [e] at h1
      cases h1
    | some z =>
      obtain ⟨c, t⟩ := z
      rw [e] at h1
      obtain ⟨b, R, rfl⟩ := call_read hj e
      dsimp only at h1
      cases e2 : PyFlat.calls PyKs189.shape f (ns.drop b) with
      | none =>
        rw [e2] at h1
        cases h1
      | some r =>
        rw [e2] at h1
        exact ⟨c, r, b, (Option.some.inj h1).symm, R, f, e2⟩

/-! ### what is asked of a call -/
theorem ints_nats : ∀ {b : List Int}, (∀ x ∈ b, 0 ≤ x) → intL (natL b) = b
  | [], _ => rfl
  | x :: r, h => by
    have e : intL (natL r) = r := ints_nats fun y hy => h y (List.mem_cons_of_mem _ hy)
    show ((x.toNat : Nat) : Int) :: intL (natL r) = x :: r
    rw [e, Int.toNat_of_nonneg (h x (List.mem_cons_self ..))]
theorem nats_len (b : List Int) : (natL b).length = b.length := List.length_map ..
theorem fits8 {b : List Int} (h : b.all (Ks189Neutral.fits 8) = true) : ∀ x ∈ b, 0 ≤ x := fun x hx => by
  have q := List.all_eq_true.mp h x hx
  have q' : (decide (0 ≤ x) && decide (x < 2 ^ 8)) = true := q
  exact of_decide_eq_true (Bool.and_eq_true_iff.mp q').1
theorem fits32 {x : Int} (h : Ks189Neutral.fits 32 x = true) : 0 ≤ x ∧ x < 4294967296 := by
  have q' : (decide (0 ≤ x) && decide (x < 2 ^ 32)) = true := h
  have z := Bool.and_eq_true_iff.mp q'
  exact ⟨of_decide_eq_true z.1, of_decide_eq_true z.2⟩
theorem form_put {a : Int} {b sc : List Int} (h : Ks189Neutral.form [[1, a], b, sc] = true) : (0 ≤ a ∧ a < 4294967296) ∧ (∀ x ∈ b, 0 ≤ x) ∧ (∀ x ∈ sc, 0 ≤ x) ∧ b.length = 64 := by
  have h1 : (true && true && true && (Ks189Neutral.fits 32 a && true) && (b.all (Ks189Neutral.fits 8) && (sc.all (Ks189Neutral.fits 8) && true)) && (false || b.length == 64) && true && true) = true := h
  simp only [Bool.and_true, Bool.true_and, Bool.false_or, Bool.and_eq_true, beq_iff_eq] at h1
  exact ⟨fits32 h1.1.1, fits8 h1.1.2.1, fits8 h1.1.2.2, h1.2⟩
theorem form_get {a : Int} (h : Ks189Neutral.form [[2, a]] = true) : 0 ≤ a ∧ a < 4294967296 := by
  have h1 : (true && true && true && (Ks189Neutral.fits 32 a && true) && true && true && true && true) = true := h
  simp only [Bool.and_true, Bool.true_and] at h1
  exact fits32 h1
theorem form_forget {a : Int} {sc : List Int} (h : Ks189Neutral.form [[3, a], sc] = true) : (0 ≤ a ∧ a < 4294967296) ∧ (∀ x ∈ sc, 0 ≤ x) := by
  have h1 : (true && true && true && (Ks189Neutral.fits 32 a && true) && (sc.all (Ks189Neutral.fits 8) && true) && true && true && true) = true := h
  simp only [Bool.and_true, Bool.true_and, Bool.and_eq_true] at h1
  exact ⟨fits32 h1.1, fits8 h1.2⟩
theorem form_reg {b : List Int} (h : Ks189Neutral.form [[4], b] = true) : (∀ x ∈ b, 0 ≤ x) ∧ b.length = 40 := by
  have h1 : (true && true && true && true && (b.all (Ks189Neutral.fits 8) && true) && true && (false || b.length == 40) && true) = true := h
  simp only [Bool.and_true, Bool.true_and, Bool.false_or, Bool.and_eq_true, beq_iff_eq] at h1
  exact ⟨fits8 h1.1, h1.2⟩
theorem form_page {a : Int} {b : List Int} (h : Ks189Neutral.form [[5, a], b] = true) : (0 ≤ a ∧ a.toNat < 4096) ∧ (∀ x ∈ b, 0 ≤ x) ∧ b.length = 96 := by
  have h1 : (true && true && true && (Ks189Neutral.fits 32 a && true) && (b.all (Ks189Neutral.fits 8) && true) && true && true && (false || (b.length == 96 && decide (a.toNat < 4096)))) = true := h
  simp only [Bool.and_true, Bool.true_and, Bool.false_or, Bool.and_eq_true, beq_iff_eq, decide_eq_true_eq] at h1
  exact ⟨⟨(fits32 h1.1.1).1, h1.2.2⟩, fits8 h1.1.2, h1.2.1⟩
theorem scr_put {s : Dev} {a : Int} {b sc : List Int} (h : Ks189Neutral.scripted s [[1, a], b, sc] = true) : (natL sc).length = 32 * Ks189.needs pad s (.put a.toNat (natL b)) := by
  have h1 : ((natL sc).length == 32 * Ks189.needs pad s (.put a.toNat (natL b))) = true := h
  exact beq_iff_eq.mp h1
theorem scr_forget {s : Dev} {a : Int} {sc : List Int} (h : Ks189Neutral.scripted s [[3, a], sc] = true) : (natL sc).length = 32 * Ks189.needs pad s (.forget a.toNat) := by
  have h1 : ((natL sc).length == 32 * Ks189.needs pad s (.forget a.toNat)) = true := h
  exact beq_iff_eq.mp h1

/-! ### the line of calls -/
abbrev start := Ks189Neutral.start
theorem whole_id (c : List (List Int)) : PyKs189.whole c = c := by
  unfold PyKs189.whole
  split <;> rfl
theorem map_whole (cs : List (List (List Int))) : cs.map PyKs189.whole = cs := by
  have e : PyKs189.whole = id := funext whole_id
  rw [e, List.map_id]
/-- what the answers' line is, call by call, from a state on -/
def due (s : Dev) (cs : List (List (List Int))) : List Int := PyFlat.told (PyFlat.played Ks189Neutral.step s cs)
theorem due_nil (s : Dev) : due s [] = [] := rfl
theorem due_cons (s : Dev) (c : List (List Int)) (r : List (List (List Int))) : due s (c :: r) = (((Ks189Neutral.step s c).2.length : Int) :: (Ks189Neutral.step s c).2) ++ due (Ks189Neutral.step s c).1 r := rfl
theorem goes_cons {s : Dev} {c : List (List Int)} {r : List (List (List Int))} (h : Ks189Neutral.goes s (c :: r) = true) : Ks189Neutral.form c = true ∧ Ks189Neutral.scripted s c = true ∧ Ks189Neutral.goes (Ks189Neutral.step s c).1 r = true := by
  have h1 : (Ks189Neutral.form c && Ks189Neutral.scripted s c && Ks189Neutral.goes (Ks189Neutral.step s c).1 r) = true := h
  rw [Bool.and_eq_true, Bool.and_eq_true] at h1
  exact ⟨h1.1.1, h1.1.2, h1.2⟩
/-- what is asked of the list -/
theorem asked_is {ns : List Int} (h : PyKs189.answers_asked ns = true) : ∃ cs, Rest ns 0 cs ∧ Ks189Neutral.goes start cs = true ∧ PyKs189.answers ns = due start cs ∧ (due start cs).length ≤ 10000000 ∧ cs.length ≤ 1000 := by
  cases e : PyFlat.calls PyKs189.shape ns.length ns with
  | none =>
    have h1 : (match PyFlat.calls PyKs189.shape ns.length ns with
      | none => false
      | some raw => !raw.isEmpty && PyFlat.atMost 1000 raw && PyInside.calls PyKs189.bound raw && Ks189Neutral.asked (raw.map PyKs189.whole) && PyFlat.short 10000000 (PyKs189.answers ns)) = true := h
    rw [e] at h1
    cases h1
  | some cs =>
    have h1 : (match PyFlat.calls PyKs189.shape ns.length ns with
      | none => false
      | some raw => !raw.isEmpty && PyFlat.atMost 1000 raw && PyInside.calls PyKs189.bound raw && Ks189Neutral.asked (raw.map PyKs189.whole) && PyFlat.short 10000000 (PyKs189.answers ns)) = true := h
    rw [e] at h1
    have h2 : (!cs.isEmpty && PyFlat.atMost 1000 cs && PyInside.calls PyKs189.bound cs && Ks189Neutral.asked (cs.map PyKs189.whole) && PyFlat.short 10000000 (PyKs189.answers ns)) = true := h1
    rw [map_whole, Bool.and_eq_true, Bool.and_eq_true, Bool.and_eq_true, Bool.and_eq_true] at h2
    obtain ⟨⟨⟨⟨_, a1⟩, _⟩, a2⟩, a3⟩ := h2
    have ea : PyKs189.answers ns = due start cs := by
      have x1 : PyKs189.calls ns = some (cs.map PyKs189.whole) := by
        unfold PyKs189.calls
        rw [e]
      rw [map_whole] at x1
      unfold PyKs189.answers
      rw [x1]
      rfl
    have a3' : decide ((PyKs189.answers ns).length ≤ 10000000) = true := a3
    have a2' : (cs.all Ks189Neutral.asked1 && decide (1 ≤ cs.length) && decide (cs.length ≤ 5000) && Ks189Neutral.goes start cs && decide (((Ks189Neutral.f cs).map List.length).foldl (· + ·) 0 < 1000000)) = true := a2
    rw [Bool.and_eq_true, Bool.and_eq_true] at a2'
    refine ⟨cs, ⟨ns.length, e⟩, a2'.1.2, ea, ?_, of_decide_eq_true (show decide (cs.length ≤ 1000) = true from a1)⟩
    rw [← ea]
    exact of_decide_eq_true a3'
end SF

set_option Elab.async false
set_option maxRecDepth 100000
set_option maxHeartbeats 2000000
/-! SfMathD: bounds of the way; one turn of it; the pages' events. -/
namespace SF
open Ks189 (Bytes Ref Node Ev Dev zeros xor none_ other pageOf nodeAt right_ had leafOf)
theorem nodeAt_lo {i j : Nat} (_ : i < 1024) (hj : j ≤ 10) : 1 ≤ nodeAt i j := by
  show 1 ≤ (1024 + i) / 2 ^ (10 - j)
  have h1 : 2 ^ (10 - j) ≤ 2 ^ 10 := Nat.pow_le_pow_right (by decide) (by omega)
  have h2 : 0 < 2 ^ (10 - j) := Nat.pow_pos (by decide)
  have h3 : (2 : Nat) ^ 10 = 1024 := rfl
  exact (Nat.le_div_iff_mul_le h2).mpr (by omega)
theorem nodeAt_hi {i j : Nat} (hi : i < 1024) : nodeAt i j ≤ 2047 := by
  show (1024 + i) / 2 ^ (10 - j) ≤ 2047
  have := Nat.div_le_self (1024 + i) (2 ^ (10 - j))
  omega
theorem page_lt {i j c : Nat} (hi : i < 1024) (hc : c ≤ 2) : pageOf (nodeAt i j) c < 4096 := by
  have := nodeAt_hi (j := j) hi
  unfold pageOf
  omega
theorem under_len {d : Dev} {i deep : Nat} {x : Ref} (D : DevOk d) (hi : i < 1024) (hc : x.copy ≤ 2) : (under d i deep x).length = 96 := len_xor (D.2 _ (page_lt hi hc)) (len_pad _)
theorem fit_le {b : Bytes} (h : Fit b) (r : Bool) : (childRef b r).copy ≤ 2 := by
  cases r
  · exact h.1
  · exact h.2
theorem gw_zero {d : Dev} {i k deep : Nat} {x : Ref} (h : x.copy = 0) : gw d i (k + 1) deep x = Way.cons [] none_ (zeros 96) (gw d i k (deep + 1) none_) := if_pos h
theorem gw_fit {d : Dev} {i k deep : Nat} {x : Ref} (h : ¬ x.copy = 0) (f : Fit (under d i deep x)) : gw d i (k + 1) deep x = Way.cons (readEvs d i deep x) (childRef (under d i deep x) (right_ i deep)) (under d i deep x) (gw d i k (deep + 1) (childRef (under d i deep x) (right_ i deep))) := (if_neg h).trans (if_pos f)
theorem gw_bad {d : Dev} {i k deep : Nat} {x : Ref} (h : ¬ x.copy = 0) (f : ¬ Fit (under d i deep x)) : gw d i (k + 1) deep x = ⟨readEvs d i deep x, [], [], false⟩ := (if_neg h).trans (if_neg f)
structure Fine (k : Nat) (y : Way) : Prop where
  conts : ∀ c ∈ y.conts, c.length = 96
  links : ∀ r ∈ y.links, RefOk r ∧ r.copy ≤ 2
  evs : y.evs.length ≤ 2 * k
theorem gw_fine {d : Dev} {i : Nat} (D : DevOk d) (hi : i < 1024) : ∀ k deep x, x.copy ≤ 2 → Fine k (gw d i k deep x)
  | 0, _, _, _ => ⟨fun c h => absurd h (by simp [gw]), fun r h => absurd h (by simp [gw]), Nat.zero_le _⟩
  | k + 1, deep, x, hx => by
    by_cases h0 : x.copy = 0
    · rw [gw_zero h0]
      obtain ⟨a, b, c⟩ := gw_fine D hi k (deep + 1) none_ (Nat.zero_le _)
      refine ⟨fun z hz => ?_, fun r hr => ?_, ?_⟩
      · rcases List.mem_cons.mp hz with e | m
        · rw [e]
          exact len_zeros 96
        · exact a z m
      · rcases List.mem_cons.mp hr with e | m
        · rw [e]
          exact ⟨none_ok, Nat.zero_le _⟩
        · exact b r m
      · show ([] ++ (gw d i k (deep + 1) none_).evs).length ≤ _
        rw [List.nil_append]
        omega
    · by_cases f : Fit (under d i deep x)
      · rw [gw_fit h0 f]
        obtain ⟨a, b, c⟩ := gw_fine D hi k (deep + 1) (childRef (under d i deep x) (right_ i deep)) (fit_le f _)
        have hu := under_len (deep := deep) D hi hx
        refine ⟨fun z hz => ?_, fun r hr => ?_, ?_⟩
        · rcases List.mem_cons.mp hz with e | m
          · rw [e]
            exact hu
          · exact a z m
        · rcases List.mem_cons.mp hr with e | m
          · rw [e]
            exact ⟨child_ok hu _, fit_le f _⟩
          · exact b r m
        · show (readEvs d i deep x ++ (gw d i k (deep + 1) (childRef (under d i deep x) (right_ i deep))).evs).length ≤ _
          rw [List.length_append]
          have : (readEvs d i deep x).length = 2 := rfl
          omega
      · rw [gw_bad h0 f]
        refine ⟨fun z hz => absurd hz (by simp), fun r hr => absurd hr (by simp), ?_⟩
        show 2 ≤ 2 * (k + 1)
        omega
theorem goW_big {d : Dev} {i : Nat} (h : 2 < (Ks189.rootOf d.reg).copy) : goW d i = ⟨[.know d.reg], [], [], false⟩ := if_pos h
theorem goW_small {d : Dev} {i : Nat} (h : ¬ 2 < (Ks189.rootOf d.reg).copy) : goW d i = ⟨.know d.reg :: (gw d i 10 0 (Ks189.rootOf d.reg)).evs, (gw d i 10 0 (Ks189.rootOf d.reg)).links, (gw d i 10 0 (Ks189.rootOf d.reg)).conts, (gw d i 10 0 (Ks189.rootOf d.reg)).ok⟩ := if_neg h
theorem goW_evs {d : Dev} {i : Nat} (D : DevOk d) (hi : i < 1024) : (goW d i).evs.length ≤ 21 := by
  by_cases h : 2 < (Ks189.rootOf d.reg).copy
  · rw [goW_big h]
    show 1 ≤ 21
    decide
  · rw [goW_small h]
    have := (gw_fine D hi 10 0 (Ks189.rootOf d.reg) (by omega)).evs
    show (gw d i 10 0 (Ks189.rootOf d.reg)).evs.length + 1 ≤ 21
    omega
theorem goW_conts {d : Dev} {i : Nat} (D : DevOk d) (hi : i < 1024) : ∀ c ∈ (goW d i).conts, c.length = 96 := by
  by_cases h : 2 < (Ks189.rootOf d.reg).copy
  · rw [goW_big h]
    exact fun c hc => absurd hc (by simp)
  · rw [goW_small h]
    exact (gw_fine D hi 10 0 (Ks189.rootOf d.reg) (by omega)).conts
theorem linksOf_ok {d : Dev} {i : Nat} (D : DevOk d) (hi : i < 1024) (g : (goW d i).ok = true) : ∀ r ∈ linksOf d i, RefOk r ∧ r.copy ≤ 2 := by
  by_cases h : 2 < (Ks189.rootOf d.reg).copy
  · rw [goW_big h] at g
    cases g
  · intro r hr
    rcases List.mem_cons.mp hr with e | m
    · rw [e]
      exact ⟨root_ok D.1, by omega⟩
    · rw [goW_small h] at m
      exact (gw_fine D hi 10 0 (Ks189.rootOf d.reg) (by omega)).links r m
theorem linksOf_len {d : Dev} {i : Nat} (g : (goW d i).ok = true) : (linksOf d i).length = 11 := by
  obtain ⟨w, r, e, R⟩ := way_good g
  show (goW d i).links.length + 1 = 11
  rw [R.ll]
theorem contsOf_len {d : Dev} {i : Nat} (g : (goW d i).ok = true) : (contsOf d i).length = 10 := by
  obtain ⟨w, r, e, R⟩ := way_good g
  exact R.cl

/-! ### the pages' events -/
abbrev pageEvs (l : List Ks189.Page) : List Ev := l.flatMap (Ks189.Page.evs pad)
theorem pageEvs_cons (p : Ks189.Page) (l : List Ks189.Page) : pageEvs (p :: l) = [.mix p.key (pad p.key), .write (pageOf p.v p.copy) (xor p.b (pad p.key))] ++ pageEvs l := rfl
theorem after_app (d : Dev) (a b : List Ev) : d.after (a ++ b) = (d.after a).after b := List.foldl_append ..
theorem after_any (d : Dev) : ∀ ks : List Bytes, d.after (ks.map .any) = d
  | [] => rfl
  | k :: r => after_any d r
theorem after_wrote (d : Dev) (keys : List Bytes) (l : List Ks189.Page) : d.after (Ks189.wrote pad keys l) = (d.after (pageEvs l)).on (.keep (Ks189.last l)) := by
  show d.after (keys.map .any ++ pageEvs l ++ [.keep (Ks189.last l)]) = _
  rw [after_app, after_app, after_any]
  rfl
theorem after_reads (d : Dev) : ∀ es : List Ev, (∀ e ∈ es, d.on e = d) → d.after es = d
  | [], _ => rfl
  | e :: r, h => by
    show (d.on e).after r = d
    rw [h e (List.mem_cons_self ..)]
    exact after_reads d r fun x hx => h x (List.mem_cons_of_mem _ hx)
theorem gw_after (d0 d : Dev) (i : Nat) : ∀ k deep x, d0.after (gw d i k deep x).evs = d0
  | 0, _, _ => rfl
  | k + 1, deep, x => by
    by_cases h0 : x.copy = 0
    · rw [gw_zero h0]
      exact gw_after d0 d i k (deep + 1) none_
    · by_cases f : Fit (under d i deep x)
      · rw [gw_fit h0 f]
        show d0.after (readEvs d i deep x ++ _) = d0
        rw [after_app]
        exact gw_after d0 d i k (deep + 1) _
      · rw [gw_bad h0 f]
        rfl
theorem goW_after (d : Dev) (i : Nat) : d.after (goW d i).evs = d := by
  by_cases h : 2 < (Ks189.rootOf d.reg).copy
  · rw [goW_big h]
    rfl
  · rw [goW_small h]
    exact gw_after d d i 10 0 (Ks189.rootOf d.reg)
theorem regLink_len {r : Ref} (h : RefOk r) : (regLink r).length = 40 := by
  have e : r.key.length = 32 := h
  show ([r.copy, 0, 0, 0] ++ r.key ++ zeros 4).length = 40
  rw [List.length_append, List.length_append, e, len_zeros]
  rfl
theorem key_len {sc : Bytes} {n j : Nat} (h : sc.length = 32 * n) (hj : j < n) : ((sc.drop (32 * j)).take 32).length = 32 := by
  rw [List.length_take, List.length_drop, h]
  omega
theorem keysIn_getD {sc : Bytes} {n j : Nat} (h : j < n) : (keysIn sc n).getD j [] = (sc.drop (32 * j)).take 32 := by
  rw [List.getD_eq_getElem?_getD, keysIn_get h]
  rfl
end SF

set_option Elab.async false
set_option maxRecDepth 100000
set_option maxHeartbeats 2000000
/-! SfKit: what stands in the heap, what stays, the calls in short. -/
namespace SF
open PySem PySem.Spec PyProof.Rows L2
open Ks189 (Bytes Ref Node Ev Dev Page zeros xor none_ other pageOf nodeAt right_ had leafOf)

/-! ### the text -/
def topS (i : Nat) : Stmt := PySem.Challenge.pw_surelyforgotten_s01_answers.main.body.getD i (.Pass ⟨0, 0, 0, 0⟩)

/-! ### what stays -/
/-- what stands outside W stands, what is tracked stays tracked -/
structure Kp (W : Addr → Prop) (H H' : Hp) : Prop where
  st : ∀ b o, H b = some o → ¬ W b → H' b = some o
  tr : ∀ b, H' b = none → H b = none
abbrev W0 : Addr → Prop := fun _ => False
section
variable {W W' : Addr → Prop} {H H1 H2 H' : Hp} {p b : Addr} {o : HO}
theorem Kp.refl : Kp W H H := ⟨fun _ _ e _ => e, fun _ e => e⟩
theorem Kp.trans (a : Kp W H H1) (b : Kp W H1 H2) : Kp W H H2 := ⟨fun c o e n => b.st c o (a.st c o e n) n, fun c e => a.tr c (b.tr c e)⟩
theorem Kp.mono (a : Kp W H H1) (s : ∀ b, W b → W' b) : Kp W' H H1 := ⟨fun c o e n => a.st c o e fun z => n (s c z), a.tr⟩
theorem Kp.any (a : Kp W0 H H1) : Kp W H H1 := a.mono fun _ z => z.elim
theorem upd_none {q : Addr} (h : upd H p o q = none) : q ≠ p ∧ H q = none := by
  by_cases e : q = p
  · rw [e, upd_same] at h
    cases h
  · exact ⟨e, by rw [upd_ne e] at h; exact h⟩
/-- a new object, or one of our own that the base does not know -/
theorem Kp.own (a : Kp W H H1) (hp : H p = none) : Kp W H (upd H1 p o) :=
  ⟨fun c u e n => by rw [upd_ne (ne_of_none e hp)]; exact a.st c u e n, fun c e => a.tr c (upd_none e).2⟩
theorem Kp.new (a : Kp W H H1) (hp : H1 p = none) : Kp W H (upd H1 p o) := a.own (a.tr p hp)
/-- an object of W is written -/
theorem Kp.put (a : Kp W H H1) (hp : W p) : Kp W H (upd H1 p o) :=
  ⟨fun c u e n => by rw [upd_ne (fun z => n (by rw [z]; exact hp))]; exact a.st c u e n, fun c e => a.tr c (upd_none e).2⟩
/-- an object outside W -/
def Old (W : Addr → Prop) (H : Hp) (b : Addr) (o : HO) : Prop := H b = some o ∧ ¬ W b
theorem Old.keep (h : Old W H b o) (k : Kp W' H H') (s : ∀ b, W' b → W b) : Old W H' b o := ⟨k.st b o h.1 fun z => h.2 (s b z), h.2⟩
theorem Old.gr (h : Old W H b o) (k : Kp W0 H H') : Old W H' b o := h.keep k fun _ z => z.elim
theorem Old.sub (h : Old W H b o) (s : ∀ b, W' b → W b) : Old W' H b o := ⟨h.1, fun z => h.2 (s b z)⟩
theorem Old.zero (h : Old W H b o) : Old W0 H b o := ⟨h.1, fun z => z⟩
def Trk (W : Addr → Prop) (H : Hp) : Prop := ∀ b, W b → H b ≠ none
theorem Trk.keep (t : Trk W H) (k : Kp W' H H') : Trk W H' := fun b w e => t b w (k.tr b e)
theorem Trk.zero : Trk W0 H := fun _ z => z.elim
theorem Old.new (t : Trk W H) (k : Kp W' H H') (hp : H p = none) (h : H' p = some o) : Old W H' p o := ⟨h, fun w => t p w hp⟩
theorem ne_new {q : Addr} {u : HO} (h : H b = some u) (n : H q = none) : q ≠ b := (ne_of_none h n).symm
end

/-! ### numbers -/
def il (l : List Int) : List V := l.map V.int
def nl (b : Bytes) : List V := il (intL b)
theorem il_app (a b : List Int) : il (a ++ b) = il a ++ il b := List.map_append ..
theorem il_len (a : List Int) : (il a).length = a.length := List.length_map ..
theorem il_get {l : List Int} {j : Nat} {x : Int} (h : l[j]? = some x) : (il l)[j]? = some (V.int x) := by
  unfold il
  rw [List.getElem?_map, h]
  rfl
theorem il_of {l : List Int} {j : Nat} {v : V} (h : (il l)[j]? = some v) : ∃ x, l[j]? = some x ∧ v = V.int x := by
  unfold il at h
  rw [List.getElem?_map] at h
  cases e : l[j]? with
  | none =>
    rw [e] at h
    cases h
  | some x =>
    rw [e] at h
    exact ⟨x, rfl, (Option.some.inj h).symm⟩
theorem nl_app (a b : Bytes) : nl (a ++ b) = nl a ++ nl b := by
  unfold nl
  rw [ints_app, il_app]
theorem nl_len (b : Bytes) : (nl b).length = b.length := by
  unfold nl
  rw [il_len, ints_len]
theorem nl_get {b : Bytes} {j : Nat} {x : Nat} (h : b[j]? = some x) : (nl b)[j]? = some (V.int (x : Int)) := by
  refine il_get ?_
  show (b.map Int.ofNat)[j]? = _
  rw [List.getElem?_map, h]
  rfl
theorem nl_getD {b : Bytes} {j : Nat} (h : j < b.length) : (nl b)[j]? = some (V.int ((b.getD j 0 : Nat) : Int)) := by
  refine nl_get ?_
  rw [List.getElem?_eq_getElem h, List.getD_eq_getElem?_getD, List.getElem?_eq_getElem h]
  rfl
theorem nl_nil : nl [] = [] := rfl
theorem nl_one (x : Nat) : nl [x] = [V.int (x : Int)] := rfl
theorem nl_drop (b : Bytes) (n : Nat) : (nl b).drop n = nl (b.drop n) := by
  unfold nl il
  show List.drop n (List.map _ (List.map _ b)) = List.map _ (List.map _ (b.drop n))
  rw [List.map_drop, List.map_drop]
theorem nl_take (b : Bytes) (n : Nat) : (nl b).take n = nl (b.take n) := by
  unfold nl il
  show List.take n (List.map _ (List.map _ b)) = List.map _ (List.map _ (b.take n))
  rw [List.map_take, List.map_take]
theorem il_drop (b : List Int) (n : Nat) : (il b).drop n = il (b.drop n) := by
  unfold il
  rw [List.map_drop]
theorem il_take (b : List Int) (n : Nat) : (il b).take n = il (b.take n) := by
  unfold il
  rw [List.map_take]
theorem rep_flat {α : Type} (x : α) : ∀ n : Nat, (List.replicate n [x]).flatten = List.replicate n x
  | 0 => rfl
  | n + 1 => by
    rw [List.replicate_succ, List.flatten_cons, rep_flat x n]
    rfl
theorem nl_zeros (n : Nat) : (List.replicate n [V.int 0]).flatten = nl (zeros n) := by
  rw [rep_flat]
  show _ = List.map _ (List.map _ (List.replicate n 0))
  rw [List.map_replicate, List.map_replicate]
  rfl
/-- a slice from i on, up to j -/
theorem cut_nat (xs : List V) (i j : Nat) : cutV xs (some (i : Int)) (some (j : Int)) = (xs.drop i).take (j - i) := by
  unfold cutV
  rw [HT.sIx_nat, HT.sIx_nat]
  by_cases h : i ≤ xs.length
  · rw [Nat.min_eq_left h]
    by_cases h2 : j ≤ xs.length
    · rw [Nat.min_eq_left h2]
    · rw [Nat.min_eq_right (by omega), List.take_of_length_le (by rw [List.length_drop]; omega), List.take_of_length_le (by rw [List.length_drop]; omega)]
  · have e1 : xs.drop (min i xs.length) = [] := List.drop_eq_nil_of_le (by omega)
    have e2 : xs.drop i = [] := List.drop_eq_nil_of_le (by omega)
    rw [e1, e2, List.take_nil, List.take_nil]
theorem cut_up (xs : List V) (j : Nat) : cutV xs none (some (j : Int)) = xs.take j := by
  unfold cutV
  rw [HT.sIx_nat, HT.sIx_none, Nat.sub_zero, List.drop_zero]
  by_cases h : j ≤ xs.length
  · rw [Nat.min_eq_left h]
  · rw [Nat.min_eq_right (by omega), List.take_of_length_le (Nat.le_refl _), List.take_of_length_le (by omega)]
theorem line {n : Nat} (h : n ≤ 16000000) : n ≤ sizeLine := Nat.le_trans h (by decide)
theorem line_lt {n : Nat} (h : n ≤ 16000000) : n < sizeLine := Nat.lt_of_le_of_lt h (by decide)

/-! ### fields -/
theorem lk_here {k : Str} {v : V} {r : List (Str × V)} : List.lookup k ((k, v) :: r) = some v := by
  have e : (k == k) = true := beq_self_eq_true k
  simp only [List.lookup, e]
theorem lk_past {k g : Str} {v : V} {r : List (Str × V)} (h : (k == g) = false) : List.lookup k ((g, v) :: r) = List.lookup k r := by
  simp only [List.lookup, h]
theorem put_here {f : Str} {v x : V} {r : List (Str × V)} : putF f v ((f, x) :: r) = (f, v) :: r := if_pos rfl
theorem put_past {f g : Str} {v x : V} {r : List (Str × V)} (h : ¬ g = f) : putF f v ((g, x) :: r) = (g, x) :: putF f v r := if_neg h
def mF (f p : Addr) : List (Str × V) := [("front", .ref f), ("pages", .ref p)]
def kF (m s : Addr) (t n : Int) (a : Addr) : List (Str × V) := [("medium", .ref m), ("script", .ref s), ("taken", .int t), ("many", .int n), ("asked", .ref a)]
section
variable (m s a f p f' : Addr) (t n t' n' : Int)
theorem mF_front : (mF f p).lookup ("front" : Str) = some (.ref f) := lk_here
theorem mF_pages : (mF f p).lookup ("pages" : Str) = some (.ref p) := (lk_past (by decide +kernel)).trans lk_here
theorem mF_sf : (mF f p).lookup ("set_front" : Str) = none := (lk_past (by decide +kernel)).trans ((lk_past (by decide +kernel)).trans rfl)
theorem mF_sp : (mF f p).lookup ("set_page" : Str) = none := (lk_past (by decide +kernel)).trans ((lk_past (by decide +kernel)).trans rfl)
theorem mF_put : putF "front" (.ref f') (mF f p) = mF f' p := put_here
theorem mF_new : putF "pages" (.ref p) (putF "front" (.ref f) []) = mF f p := (put_past (by decide +kernel)).trans rfl
theorem kF_medium : (kF m s t n a).lookup ("medium" : Str) = some (.ref m) := lk_here
theorem kF_script : (kF m s t n a).lookup ("script" : Str) = some (.ref s) := (lk_past (by decide +kernel)).trans lk_here
theorem kF_taken : (kF m s t n a).lookup ("taken" : Str) = some (.int t) := (lk_past (by decide +kernel)).trans ((lk_past (by decide +kernel)).trans lk_here)
theorem kF_many : (kF m s t n a).lookup ("many" : Str) = some (.int n) := (lk_past (by decide +kernel)).trans ((lk_past (by decide +kernel)).trans ((lk_past (by decide +kernel)).trans lk_here))
theorem kF_asked : (kF m s t n a).lookup ("asked" : Str) = some (.ref a) := (lk_past (by decide +kernel)).trans ((lk_past (by decide +kernel)).trans ((lk_past (by decide +kernel)).trans ((lk_past (by decide +kernel)).trans lk_here)))
theorem kF_no {x : Str} (h1 : (x == ("medium" : Str)) = false) (h2 : (x == ("script" : Str)) = false) (h3 : (x == ("taken" : Str)) = false) (h4 : (x == ("many" : Str)) = false) (h5 : (x == ("asked" : Str)) = false) : (kF m s t n a).lookup x = none :=
  (lk_past h1).trans ((lk_past h2).trans ((lk_past h3).trans ((lk_past h4).trans ((lk_past h5).trans rfl))))
theorem kF_putT : putF "taken" (.int t') (kF m s t n a) = kF m s t' n a := (put_past (by decide +kernel)).trans (congrArg _ ((put_past (by decide +kernel)).trans (congrArg _ put_here)))
theorem kF_putN : putF "many" (.int n') (kF m s t n a) = kF m s t n' a := (put_past (by decide +kernel)).trans (congrArg _ ((put_past (by decide +kernel)).trans (congrArg _ ((put_past (by decide +kernel)).trans (congrArg _ put_here)))))
theorem kF_new1 : putF "script" (.ref s) (putF "medium" (.ref m) []) = ([("medium", V.ref m), ("script", V.ref s)] : List (Str × V)) := (put_past (by decide +kernel)).trans rfl
theorem kF_new2 : putF "taken" (.int t) ([("medium", V.ref m), ("script", V.ref s)] : List (Str × V)) = ([("medium", V.ref m), ("script", V.ref s), ("taken", V.int t)] : List (Str × V)) := (put_past (by decide +kernel)).trans (congrArg _ ((put_past (by decide +kernel)).trans rfl))
theorem kF_new3 : putF "many" (.int n) ([("medium", V.ref m), ("script", V.ref s), ("taken", V.int t)] : List (Str × V)) = ([("medium", V.ref m), ("script", V.ref s), ("taken", V.int t), ("many", V.int n)] : List (Str × V)) := (put_past (by decide +kernel)).trans (congrArg _ ((put_past (by decide +kernel)).trans (congrArg _ ((put_past (by decide +kernel)).trans rfl))))
theorem kF_new : putF "asked" (.ref a) (putF "many" (.int n) (putF "taken" (.int t) (putF "script" (.ref s) (putF "medium" (.ref m) [])))) = kF m s t n a := by
  rw [kF_new1, kF_new2, kF_new3]
  exact (put_past (by decide +kernel)).trans (congrArg _ ((put_past (by decide +kernel)).trans (congrArg _ ((put_past (by decide +kernel)).trans (congrArg _ ((put_past (by decide +kernel)).trans rfl))))))
end

/-! ### what the top has written -/
structure Txt (K : PySem.W.Frag) (mg : Str → Option Value) (CA CM : Addr) : Prop where
  clA : Cls K CA
  clM : Cls K CM
  nMed : NoAttr K CA "medium"
  nScr : NoAttr K CA "script"
  nTak : NoAttr K CA "taken"
  nMan : NoAttr K CA "many"
  nAsk : NoAttr K CA "asked"
  nFro : NoAttr K CM "front"
  nPag : NoAttr K CM "pages"
  zLen : mg "len" = none
  zRange : mg "range" = none
  zList : mg "list" = none
  g_KEY_BYTES : ∃ t, mg "KEY_BYTES" = some (.int 32 t)
  g_PAGE_BYTES : ∃ t, mg "PAGE_BYTES" = some (.int 96 t)
  g_FRONT_BYTES : ∃ t, mg "FRONT_BYTES" = some (.int 40 t)
  g_DATA_BYTES : ∃ t, mg "DATA_BYTES" = some (.int 64 t)
  g_COPIES_AT : ∃ t, mg "COPIES_AT" = some (.int 64 t)
  g_ROOT_KEY_AT : ∃ t, mg "ROOT_KEY_AT" = some (.int 4 t)
  g_LAST_SLOT : ∃ t, mg "LAST_SLOT" = some (.int 1023 t)
  g_FIRST_LEAF : ∃ t, mg "FIRST_LEAF" = some (.int 1024 t)
  g_LEVELS : ∃ t, mg "LEVELS" = some (.int 11 t)
  g_LAST_COPY : ∃ t, mg "LAST_COPY" = some (.int 2 t)
  g_GONE_WRONG : ∃ t, mg "GONE_WRONG" = some (.int (-71) t)
  g_NO_SLOT : ∃ t, mg "NO_SLOT" = some (.int (-22) t)
  g_NOT_THERE : ∃ t, mg "NOT_THERE" = some (.int (-2) t)
  g_PAGES : ∃ t, mg "PAGES" = some (.int 4096 t)
  g_CLEAR : ∃ t, mg "CLEAR" = some (.int 0 t)
  g_PUT : ∃ t, mg "PUT" = some (.int 1 t)
  g_GET : ∃ t, mg "GET" = some (.int 2 t)
  g_FORGET : ∃ t, mg "FORGET" = some (.int 3 t)
  g_SET_FRONT : ∃ t, mg "SET_FRONT" = some (.int 4 t)
  g_SET_PAGE : ∃ t, mg "SET_PAGE" = some (.int 5 t)
/-- a def that keeps its promise, by its name -/
structure Cal (P : Program) (w : World) (K : PySem.W.Frag) (mg : Str → Option Value) (base : Heap) (x : Str) (k : Nat) (ps : List Str) (sp : Sp) : Prop where
  ex : ∃ f fd, FnOk P w K mg base CX0 k f fd ps sp ∧ mg x = some (.ref f) ∧ PySem.W.keepIn K (.ref f) = true ∧ Binds K fd ps []
/-- a method that does -/
structure CalM (P : Program) (w : World) (K : PySem.W.Frag) (mg : Str → Option Value) (base : Heap) (C : Addr) (m : Str) (k : Nat) (ps : List Str) (sp : Sp) : Prop where
  ex : ∃ f fd, FnOk P w K mg base CX0 k f fd ps sp ∧ Meth K C m f ∧ Binds K fd ps []
/-- a class that is made -/
structure CalI (P : Program) (w : World) (K : PySem.W.Frag) (mg : Str → Option Value) (base : Heap) (x : Str) (C : Addr) (k : Nat) (ps : List Str) (sp : Sp) : Prop where
  ex : ∃ f fd, FnOk P w K mg base CX0 k f fd ps sp ∧ Mk K C f ∧ mg x = some (.ref C) ∧ Binds K fd ps []
section
variable {X : Cx} {k : Nat} {x m : Str} {ps : List Str} {sp : Sp} {p pos apos : Pos} {e o : Expr} {es : List Expr} {t : TA} {ta : TE} {C : Addr}
theorem pe_c (c : Cal X.prog X.w X.K X.mg X.base x k ps sp) (hr : Room k X.A) (hg : Gl X x) (ha : PA X (e :: es) t)
    (hdb : (x == ("__debug__" : Str)) = false := by decide) (he : starEach (e :: es) X.env = (false, eval e X.env) :: starEach es X.env := by rfl) (hpl : (backTo pos (starEach es X.env)).any (·.1) = false := by rfl) :
    PE X (.Call (.Name x p) (e :: es) [] pos) (tCall sp [] E0 t) := by
  obtain ⟨f, fd, F, hm, hk, hb⟩ := c.ex
  exact pe_call F hr hg hm hk hb .nil pass0 ha hdb he hpl
theorem pe_c0 (c : Cal X.prog X.w X.K X.mg X.base x k ps sp) (hr : Room k X.A) (hg : Gl X x) (hdb : (x == ("__debug__" : Str)) = false := by decide) :
    PE X (.Call (.Name x p) [] [] pos) (tCall sp [] E0 tNil) := by
  obtain ⟨f, fd, F, hm, hk, hb⟩ := c.ex
  exact pe_call0 F hr hg hm hk hb .nil pass0 hdb
theorem pe_m {pl : Sem Bool} (c : CalM X.prog X.w X.K X.mg X.base C m k ps sp) (cl : Cls X.K C) (hr : Room k X.A) (he : PE X o ta) (ha : PA X (e :: es) t)
    (hst : starEach (e :: es) X.env = (false, eval e X.env) :: starEach es X.env := by rfl) (hpl : (backTo pos (starEach es X.env)).any (·.1) = false := by rfl)
    (ht : eval (.Call (.Attribute o m apos) (e :: es) [] pos) X.env = (do
      let ov ← eval o X.env
      standAt apos.atName
      let (f, first) ← holding [ov] (getMethod ov m pl)
      callWith pos f first (backTo pos (starEach (e :: es) X.env)) (backToKw pos (keywordEach [] X.env))) := by rfl) :
    PE X (.Call (.Attribute o m apos) (e :: es) [] pos) (tMeth C m sp [] E0 ta t) := by
  obtain ⟨f, fd, F, hm, hb⟩ := c.ex
  exact pe_meth he cl hm F hr hb .nil pass0 ha hst hpl ht
theorem pe_m0 {pl : Sem Bool} (c : CalM X.prog X.w X.K X.mg X.base C m k ps sp) (cl : Cls X.K C) (hr : Room k X.A) (he : PE X o ta)
    (ht : eval (.Call (.Attribute o m apos) [] [] pos) X.env = (do
      let ov ← eval o X.env
      standAt apos.atName
      let (f, first) ← holding [ov] (getMethod ov m pl)
      callWith pos f first (backTo pos (starEach [] X.env)) (backToKw pos (keywordEach [] X.env))) := by rfl) :
    PE X (.Call (.Attribute o m apos) [] [] pos) (tMeth C m sp [] E0 ta tNil) := by
  obtain ⟨f, fd, F, hm, hb⟩ := c.ex
  exact pe_meth0 he cl hm F hr hb .nil pass0 ht
theorem pe_i (c : CalI X.prog X.w X.K X.mg X.base x C k ps sp) (hr : Room (k + 1) X.A) (hg : Gl X x) (ha : PA X (e :: es) t)
    (hdb : (x == ("__debug__" : Str)) = false := by decide) (he : starEach (e :: es) X.env = (false, eval e X.env) :: starEach es X.env := by rfl) (hpl : (backTo pos (starEach es X.env)).any (·.1) = false := by rfl) :
    PE X (.Call (.Name x p) (e :: es) [] pos) (tMake C sp [] E0 t) := by
  obtain ⟨f, fd, F, M, hm, hb⟩ := c.ex
  exact pe_make M F hr hg hm hb .nil pass0 ha hdb he hpl
theorem pe_i0 (c : CalI X.prog X.w X.K X.mg X.base x C k ps sp) (hr : Room (k + 1) X.A) (hg : Gl X x) (hdb : (x == ("__debug__" : Str)) = false := by decide) :
    PE X (.Call (.Name x p) [] [] pos) (tMake C sp [] E0 tNil) := by
  obtain ⟨f, fd, F, M, hm, hb⟩ := c.ex
  exact pe_make0 M F hr hg hm hb .nil pass0 hdb
theorem ix_listK {K : PySem.W.Frag} (h : X.K = K := by rfl) : IxR X (rIxL K) := h ▸ ix_list
/-- a module's number -/
theorem pe_g {i : Int} (h : ∃ t, X.mg x = some (.int i t)) (hg : Gl X x) (hd : (x == ("__debug__" : Str)) = false := by decide) : PE X (.Name x p) (tC (.int i)) := by
  obtain ⟨t, h⟩ := h
  exact pe_glob hg h ⟨_, rfl⟩ hd
end
end SF

set_option Elab.async false
set_option linter.all false
set_option maxRecDepth 100000
set_option maxHeartbeats 2000000
/-! SfSp: the defs by their places, the promise of each. -/
namespace SF
open PySem PySem.Spec PyProof.Rows L2
open Ks189 (Bytes Ref Node Ev Dev zeros xor none_ other pageOf nodeAt right_ had leafOf)
abbrev s_pad_of : Stmt := topS 3
theorem sc_pad_of : FnScope ["key", "at"] ["key"] (defScope s_pad_of) := ⟨rfl, rfl, rfl, by decide +kernel, rfl, by decide +kernel, by decide +kernel⟩
abbrev s_under_pad : Stmt := topS 4
theorem sc_under_pad : FnScope ["content", "pad", "at"] ["content", "pad"] (defScope s_under_pad) := ⟨rfl, rfl, rfl, by decide +kernel, rfl, by decide +kernel, by decide +kernel⟩
abbrev s_A_init : Stmt := inClass (topS 6) 0
theorem sc_A_init : FnScope ["self", "medium", "script"] ["self", "medium", "script"] (defScope s_A_init) := ⟨rfl, rfl, rfl, by decide +kernel, rfl, by decide +kernel, by decide +kernel⟩
abbrev s_A_note : Stmt := inClass (topS 6) 1
theorem sc_A_note : FnScope ["self", "numbers"] ["self", "numbers"] (defScope s_A_note) := ⟨rfl, rfl, rfl, by decide +kernel, rfl, by decide +kernel, by decide +kernel⟩
abbrev s_A_ask_front : Stmt := inClass (topS 6) 2
theorem sc_A_ask_front : FnScope ["self"] ["self"] (defScope s_A_ask_front) := ⟨rfl, rfl, rfl, by decide +kernel, rfl, by decide +kernel, by decide +kernel⟩
abbrev s_A_put_front : Stmt := inClass (topS 6) 3
theorem sc_A_put_front : FnScope ["self", "content"] ["self", "content"] (defScope s_A_put_front) := ⟨rfl, rfl, rfl, by decide +kernel, rfl, by decide +kernel, by decide +kernel⟩
abbrev s_A_read_page : Stmt := inClass (topS 6) 4
theorem sc_A_read_page : FnScope ["self", "page"] ["self", "page"] (defScope s_A_read_page) := ⟨rfl, rfl, rfl, by decide +kernel, rfl, by decide +kernel, by decide +kernel⟩
abbrev s_A_write_page : Stmt := inClass (topS 6) 5
theorem sc_A_write_page : FnScope ["self", "page", "content"] ["self", "page", "content"] (defScope s_A_write_page) := ⟨rfl, rfl, rfl, by decide +kernel, rfl, by decide +kernel, by decide +kernel⟩
abbrev s_A_new_key : Stmt := inClass (topS 6) 6
theorem sc_A_new_key : FnScope ["self", "first"] ["self"] (defScope s_A_new_key) := ⟨rfl, rfl, rfl, by decide +kernel, rfl, by decide +kernel, by decide +kernel⟩
abbrev s_A_ask_pad : Stmt := inClass (topS 6) 7
theorem sc_A_ask_pad : FnScope ["self", "key"] ["self", "key"] (defScope s_A_ask_pad) := ⟨rfl, rfl, rfl, by decide +kernel, rfl, by decide +kernel, by decide +kernel⟩
abbrev s_no_link : Stmt := topS 12
theorem sc_no_link : FnScope [] [] (defScope s_no_link) := ⟨rfl, rfl, rfl, by decide +kernel, rfl, by decide +kernel, by decide +kernel⟩
abbrev s_empty_front : Stmt := topS 13
theorem sc_empty_front : FnScope [] [] (defScope s_empty_front) := ⟨rfl, rfl, rfl, by decide +kernel, rfl, by decide +kernel, by decide +kernel⟩
abbrev s_empty_content : Stmt := topS 14
theorem sc_empty_content : FnScope [] [] (defScope s_empty_content) := ⟨rfl, rfl, rfl, by decide +kernel, rfl, by decide +kernel, by decide +kernel⟩
abbrev s_root_link : Stmt := topS 15
theorem sc_root_link : FnScope ["front"] ["front"] (defScope s_root_link) := ⟨rfl, rfl, rfl, by decide +kernel, rfl, by decide +kernel, by decide +kernel⟩
abbrev s_front_with : Stmt := topS 16
theorem sc_front_with : FnScope ["link"] ["link"] (defScope s_front_with) := ⟨rfl, rfl, rfl, by decide +kernel, rfl, by decide +kernel, by decide +kernel⟩
abbrev s_child_copy : Stmt := topS 17
theorem sc_child_copy : FnScope ["content", "side"] ["content", "side"] (defScope s_child_copy) := ⟨rfl, rfl, rfl, by decide +kernel, rfl, by decide +kernel, by decide +kernel⟩
abbrev s_child_link : Stmt := topS 18
theorem sc_child_link : FnScope ["content", "side", "first"] ["content", "side"] (defScope s_child_link) := ⟨rfl, rfl, rfl, by decide +kernel, rfl, by decide +kernel, by decide +kernel⟩
abbrev s_content_of : Stmt := topS 19
theorem sc_content_of : FnScope ["left", "right"] ["left", "right"] (defScope s_content_of) := ⟨rfl, rfl, rfl, by decide +kernel, rfl, by decide +kernel, by decide +kernel⟩
abbrev s_with_child : Stmt := topS 20
theorem sc_with_child : FnScope ["content", "side", "link"] ["content", "side", "link"] (defScope s_with_child) := ⟨rfl, rfl, rfl, by decide +kernel, rfl, by decide +kernel, by decide +kernel⟩
abbrev s_leaf_content : Stmt := topS 21
theorem sc_leaf_content : FnScope ["data"] ["data"] (defScope s_leaf_content) := ⟨rfl, rfl, rfl, by decide +kernel, rfl, by decide +kernel, by decide +kernel⟩
abbrev s_leaf_data : Stmt := topS 22
theorem sc_leaf_data : FnScope ["content"] ["content"] (defScope s_leaf_data) := ⟨rfl, rfl, rfl, by decide +kernel, rfl, by decide +kernel, by decide +kernel⟩
abbrev s_way_to : Stmt := topS 28
theorem sc_way_to : FnScope ["slot", "upward", "node", "step"] ["slot"] (defScope s_way_to) := ⟨rfl, rfl, rfl, by decide +kernel, rfl, by decide +kernel, by decide +kernel⟩
abbrev s_side_of : Stmt := topS 29
theorem sc_side_of : FnScope ["node"] ["node"] (defScope s_side_of) := ⟨rfl, rfl, rfl, by decide +kernel, rfl, by decide +kernel, by decide +kernel⟩
abbrev s_page_of : Stmt := topS 30
theorem sc_page_of : FnScope ["node", "which"] ["node", "which"] (defScope s_page_of) := ⟨rfl, rfl, rfl, by decide +kernel, rfl, by decide +kernel, by decide +kernel⟩
abbrev s_other_copy : Stmt := topS 31
theorem sc_other_copy : FnScope ["which"] ["which"] (defScope s_other_copy) := ⟨rfl, rfl, rfl, by decide +kernel, rfl, by decide +kernel, by decide +kernel⟩
abbrev s_read_node : Stmt := topS 34
theorem sc_read_node : FnScope ["asking", "node", "link", "which", "key", "page", "pad"] ["asking", "node", "link"] (defScope s_read_node) := ⟨rfl, rfl, rfl, by decide +kernel, rfl, by decide +kernel, by decide +kernel⟩
abbrev s_copies_fit : Stmt := topS 35
theorem sc_copies_fit : FnScope ["content"] ["content"] (defScope s_copies_fit) := ⟨rfl, rfl, rfl, by decide +kernel, rfl, by decide +kernel, by decide +kernel⟩
abbrev s_go_way : Stmt := topS 36
theorem sc_go_way : FnScope ["asking", "slot", "nodes", "links", "contents", "depth", "content"] ["asking", "slot"] (defScope s_go_way) := ⟨rfl, rfl, rfl, by decide +kernel, rfl, by decide +kernel, by decide +kernel⟩
abbrev s_leaf_missing : Stmt := topS 37
theorem sc_leaf_missing : FnScope ["links"] ["links"] (defScope s_leaf_missing) := ⟨rfl, rfl, rfl, by decide +kernel, rfl, by decide +kernel, by decide +kernel⟩
abbrev s_new_keys : Stmt := topS 41
theorem sc_new_keys : FnScope ["asking", "many", "keys", "depth"] ["asking", "many"] (defScope s_new_keys) := ⟨rfl, rfl, rfl, by decide +kernel, rfl, by decide +kernel, by decide +kernel⟩
abbrev s_write_node : Stmt := topS 42
theorem sc_write_node : FnScope ["asking", "page", "key", "content", "pad"] ["asking", "page", "key", "content"] (defScope s_write_node) := ⟨rfl, rfl, rfl, by decide +kernel, rfl, by decide +kernel, by decide +kernel⟩
abbrev s_renew : Stmt := topS 43
theorem sc_renew : FnScope ["asking", "nodes", "way", "many", "lowest", "links", "contents", "keys", "content", "depth", "link"] ["asking", "nodes", "way", "many", "lowest"] (defScope s_renew) := ⟨rfl, rfl, rfl, by decide +kernel, rfl, by decide +kernel, by decide +kernel⟩
abbrev s_staying : Stmt := topS 44
theorem sc_staying : FnScope ["nodes", "contents", "many", "depth", "other_side"] ["nodes", "contents"] (defScope s_staying) := ⟨rfl, rfl, rfl, by decide +kernel, rfl, by decide +kernel, by decide +kernel⟩
abbrev s_do_clear : Stmt := topS 45
theorem sc_do_clear : FnScope ["asking"] ["asking"] (defScope s_do_clear) := ⟨rfl, rfl, rfl, by decide +kernel, rfl, by decide +kernel, by decide +kernel⟩
abbrev s_do_get : Stmt := topS 46
theorem sc_do_get : FnScope ["asking", "slot", "number", "links", "contents", "leaf", "content"] ["asking", "slot"] (defScope s_do_get) := ⟨rfl, rfl, rfl, by decide +kernel, rfl, by decide +kernel, by decide +kernel⟩
abbrev s_do_put : Stmt := topS 47
theorem sc_do_put : FnScope ["asking", "slot", "data", "number", "links", "contents"] ["asking", "slot", "data"] (defScope s_do_put) := ⟨rfl, rfl, rfl, by decide +kernel, rfl, by decide +kernel, by decide +kernel⟩
abbrev s_do_forget : Stmt := topS 48
theorem sc_do_forget : FnScope ["asking", "slot", "number", "links", "contents", "nodes", "many", "lowest"] ["asking", "slot"] (defScope s_do_forget) := ⟨rfl, rfl, rfl, by decide +kernel, rfl, by decide +kernel, by decide +kernel⟩
abbrev s_M_init : Stmt := inClass (topS 51) 0
theorem sc_M_init : FnScope ["self", "page"] ["self"] (defScope s_M_init) := ⟨rfl, rfl, rfl, by decide +kernel, rfl, by decide +kernel, by decide +kernel⟩
abbrev s_M_set_front : Stmt := inClass (topS 51) 1
theorem sc_M_set_front : FnScope ["self", "content"] ["self", "content"] (defScope s_M_set_front) := ⟨rfl, rfl, rfl, by decide +kernel, rfl, by decide +kernel, by decide +kernel⟩
abbrev s_M_set_page : Stmt := inClass (topS 51) 2
theorem sc_M_set_page : FnScope ["self", "page", "content"] ["self", "page", "content"] (defScope s_M_set_page) := ⟨rfl, rfl, rfl, by decide +kernel, rfl, by decide +kernel, by decide +kernel⟩
abbrev s_row_at : Stmt := topS 59
theorem sc_row_at : FnScope ["calls", "at", "first", "behind"] ["calls", "at"] (defScope s_row_at) := ⟨rfl, rfl, rfl, by decide +kernel, rfl, by decide +kernel, by decide +kernel⟩
abbrev s_read_call : Stmt := topS 60
theorem sc_read_call : FnScope ["calls", "at", "deed", "row", "script_at", "script", "behind"] ["calls", "at"] (defScope s_read_call) := ⟨rfl, rfl, rfl, by decide +kernel, rfl, by decide +kernel, by decide +kernel⟩
abbrev s_read_calls : Stmt := topS 61
theorem sc_read_calls : FnScope ["calls", "found", "at", "call"] ["calls"] (defScope s_read_calls) := ⟨rfl, rfl, rfl, by decide +kernel, rfl, by decide +kernel, by decide +kernel⟩
abbrev s_slot_answer : Stmt := topS 63
theorem sc_slot_answer : FnScope ["asking", "deed", "slot", "data"] ["asking", "deed", "slot", "data"] (defScope s_slot_answer) := ⟨rfl, rfl, rfl, by decide +kernel, rfl, by decide +kernel, by decide +kernel⟩
abbrev s_call_answer : Stmt := topS 64
theorem sc_call_answer : FnScope ["medium", "call", "deed", "number", "row", "script", "asking", "first"] ["medium", "call"] (defScope s_call_answer) := ⟨rfl, rfl, rfl, by decide +kernel, rfl, by decide +kernel, by decide +kernel⟩
abbrev s_answers : Stmt := topS 65
theorem sc_answers : FnScope ["calls", "medium", "told", "call", "answer"] ["calls"] (defScope s_answers) := ⟨rfl, rfl, rfl, by decide +kernel, rfl, by decide +kernel, by decide +kernel⟩

/-! ### what stands where -/
/-- a new list of bytes -/
def NewB (H H' : Hp) (p : Addr) (b : Bytes) : Prop := H p = none ∧ H' p = some (.lst (nl b))
/-- a new link -/
def NewL (H H' : Hp) (p : Addr) (r : Ref) : Prop := H p = none ∧ ∃ q, H q = none ∧ H' p = some (.tup [.int (r.copy : Int), .ref q]) ∧ H' q = some (.lst (nl r.key))
def BytesAt (W : Addr → Prop) (H : Hp) (p : Addr) (b : Bytes) : Prop := Old W H p (.lst (nl b))
def LinkAt (W : Addr → Prop) (H : Hp) (p : Addr) (r : Ref) : Prop := ∃ q, Old W H p (.tup [.int (r.copy : Int), .ref q]) ∧ Old W H q (.lst (nl r.key))
/-- the things of a list, one by one -/
def Each {α : Type} (R : Addr → α → Prop) (vs : List V) (xs : List α) : Prop := vs.length = xs.length ∧ ∀ (j : Nat) (x : α), xs[j]? = some x → ∃ a, vs[j]? = some (V.ref a) ∧ R a x
def LinksAt (W : Addr → Prop) (H : Hp) (p : Addr) (rs : List Ref) : Prop := ∃ vs, Old W H p (.lst vs) ∧ Each (LinkAt W H) vs rs
def ContsAt (W : Addr → Prop) (H : Hp) (p : Addr) (bs : List Bytes) : Prop := ∃ vs, Old W H p (.lst vs) ∧ Each (BytesAt W H) vs bs
section
variable {W W' : Addr → Prop} {H H1 H' : Hp} {p l : Addr} {b : Bytes} {r : Ref} {α : Type} {R R' : Addr → α → Prop} {vs : List V} {xs : List α}
theorem NewB.at_ (h : NewB H H' p b) (t : Trk W H) : BytesAt W H' p b := ⟨h.2, fun w => t p w h.1⟩
theorem NewL.at_ (h : NewL H H' p r) (t : Trk W H) : LinkAt W H' p r := by
  obtain ⟨h1, q, h2, h3, h4⟩ := h
  exact ⟨q, ⟨h3, fun w => t p w h1⟩, ⟨h4, fun w => t q w h2⟩⟩
theorem NewB.before (h : NewB H1 H' p b) (k : Kp W H H1) : NewB H H' p b := ⟨k.tr p h.1, h.2⟩
theorem NewL.before (h : NewL H1 H' p r) (k : Kp W H H1) : NewL H H' p r := by
  obtain ⟨h1, q, h2, h3, h4⟩ := h
  exact ⟨k.tr p h1, q, k.tr q h2, h3, h4⟩
theorem BytesAt.keep (h : BytesAt W H p b) (k : Kp W' H H') (s : ∀ b, W' b → W b) : BytesAt W H' p b := Old.keep h k s
theorem LinkAt.keep (h : LinkAt W H p r) (k : Kp W' H H') (s : ∀ b, W' b → W b) : LinkAt W H' p r := by
  obtain ⟨q, h1, h2⟩ := h
  exact ⟨q, h1.keep k s, h2.keep k s⟩
theorem LinkAt.sub (h : LinkAt W H p r) (s : ∀ b, W' b → W b) : LinkAt W' H p r := by
  obtain ⟨q, h1, h2⟩ := h
  exact ⟨q, h1.sub s, h2.sub s⟩
theorem LinkAt.zero (h : LinkAt W H p r) : LinkAt W0 H p r := h.sub fun _ z => z.elim
theorem Each.nil : Each R [] [] := ⟨rfl, fun j x h => by simp at h⟩
theorem Each.mono (h : Each R vs xs) (s : ∀ a x, R a x → R' a x) : Each R' vs xs := ⟨h.1, fun j x e => by
  obtain ⟨a, e1, e2⟩ := h.2 j x e
  exact ⟨a, e1, s a x e2⟩⟩
theorem Each.push (h : Each R vs xs) {a : Addr} {x : α} (hx : R a x) : Each R (vs ++ [V.ref a]) (xs ++ [x]) := by
  obtain ⟨hl, hg⟩ := h
  refine ⟨by rw [List.length_append, List.length_append, hl]; rfl, fun j y e => ?_⟩
  by_cases c : j < xs.length
  · rw [List.getElem?_append_left c] at e
    obtain ⟨b, e1, e2⟩ := hg j y e
    exact ⟨b, by rw [List.getElem?_append_left (by omega)]; exact e1, e2⟩
  · have c2 : j = xs.length := by
      have := (List.getElem?_eq_some_iff.mp e).1
      rw [List.length_append, List.length_singleton] at this
      omega
    subst c2
    rw [List.getElem?_concat_length] at e
    refine ⟨a, ?_, by rw [← Option.some.inj e]; exact hx⟩
    rw [← hl, List.getElem?_concat_length]
theorem LinksAt.keep {rs : List Ref} (h : LinksAt W H p rs) (k : Kp W' H H') (s : ∀ b, W' b → W b) : LinksAt W H' p rs := by
  obtain ⟨vs, h1, h2⟩ := h
  exact ⟨vs, h1.keep k s, h2.mono fun _ _ q => q.keep k s⟩
theorem ContsAt.keep {bs : List Bytes} (h : ContsAt W H p bs) (k : Kp W' H H') (s : ∀ b, W' b → W b) : ContsAt W H' p bs := by
  obtain ⟨vs, h1, h2⟩ := h
  exact ⟨vs, h1.keep k s, h2.mono fun _ _ q => BytesAt.keep q k s⟩
theorem LinksAt.sub {rs : List Ref} (h : LinksAt W H p rs) (s : ∀ b, W' b → W b) : LinksAt W' H p rs := by
  obtain ⟨vs, h1, h2⟩ := h
  exact ⟨vs, h1.sub s, h2.mono fun _ _ q => q.sub s⟩
theorem ContsAt.sub {bs : List Bytes} (h : ContsAt W H p bs) (s : ∀ b, W' b → W b) : ContsAt W' H p bs := by
  obtain ⟨vs, h1, h2⟩ := h
  exact ⟨vs, h1.sub s, h2.mono fun _ _ q => Old.sub q s⟩
end

/-! ### the medium, the asking -/
def DevSet (d : Dev) (r : Bytes) : Dev := d.on (.keep r)
structure MedAt (CM : Addr) (W : Addr → Prop) (H : Hp) (m dm aP : Addr) (d : Dev) : Prop where
  ex : ∃ f refs, H m = some (.ins CM dm (mF f aP)) ∧ Old W H f (.lst (nl d.reg)) ∧ H aP = some (.lst refs) ∧ refs.length = 4096 ∧ ∀ p, p < 4096 → ∃ a, refs[p]? = some (V.ref a) ∧ Old W H a (.lst (nl (d.page p)))
  ok : DevOk d
structure Ad where
  m : Addr
  dm : Addr
  aP : Addr
  k : Addr
  dk : Addr
  aL : Addr
def WM (m aP : Addr) : Addr → Prop := fun b => b = m ∨ b = aP
/-- a list of our own is made -/
def WP (W : Addr → Prop) (p : Addr) : Addr → Prop := fun b => W b ∨ b = p
def WA (A : Ad) : Addr → Prop := fun b => b = A.m ∨ b = A.aP ∨ b = A.k ∨ b = A.aL
def WK (A : Ad) : Addr → Prop := fun b => b = A.k ∨ b = A.aL
structure As (CA CM : Addr) (W : Addr → Prop) (H : Hp) (A : Ad) (sc : Bytes) (t : Nat) (es : List Ev) (d : Dev) : Prop where
  med : MedAt CM W H A.m A.dm A.aP d
  ex : ∃ s, H A.k = some (.ins CA A.dk (kF A.m s (t : Int) (es.length : Int) A.aL)) ∧ Old W H s (.lst (nl sc))
  ask : H A.aL = some (.lst (il (tells es)))
  sub : ∀ b, WA A b → W b
  trk : Trk W H
  small : Small es
  ne : A.aL ≠ A.aP
  nkm : A.k ≠ A.m
section
variable {CA CM : Addr} {W W' : Addr → Prop} {H H' : Hp} {m dm aP : Addr} {d : Dev} {A : Ad} {sc : Bytes} {t : Nat} {es : List Ev}
theorem WA.k {A : Ad} : ∀ b, WK A b → WA A b := fun b h => h.elim (fun z => .inr (.inr (.inl z))) fun z => .inr (.inr (.inr z))
theorem WA.mm {A : Ad} : ∀ b, WM A.m A.aP b → WA A b := fun b h => h.elim (fun z => .inl z) fun z => .inr (.inl z)
theorem MedAt.keep (h : MedAt CM W H m dm aP d) (k : Kp W' H H') (s : ∀ b, W' b → W b) (nm : ¬ W' m) (np : ¬ W' aP) : MedAt CM W H' m dm aP d := by
  obtain ⟨⟨f, refs, h1, h2, h3, h4, h5⟩, h6⟩ := h
  exact ⟨⟨f, refs, k.st _ _ h1 nm, h2.keep k s, k.st _ _ h3 np, h4, fun p hp => by
    obtain ⟨a, e1, e2⟩ := h5 p hp
    exact ⟨a, e1, e2.keep k s⟩⟩, h6⟩
theorem MedAt.sub (h : MedAt CM W H m dm aP d) (s : ∀ b, W' b → W b) : MedAt CM W' H m dm aP d := by
  obtain ⟨⟨f, refs, h1, h2, h3, h4, h5⟩, h6⟩ := h
  exact ⟨⟨f, refs, h1, h2.sub s, h3, h4, fun p hp => by
    obtain ⟨a, e1, e2⟩ := h5 p hp
    exact ⟨a, e1, e2.sub s⟩⟩, h6⟩
theorem As.keep (h : As CA CM W H A sc t es d) (k : Kp W' H H') (s : ∀ b, W' b → W b) (n : ∀ b, W' b → ¬ WA A b) : As CA CM W H' A sc t es d := by
  obtain ⟨s0, e1, e2⟩ := h.ex
  exact ⟨h.med.keep k s (fun z => n _ z (.inl rfl)) (fun z => n _ z (.inr (.inl rfl))), ⟨s0, k.st _ _ e1 (fun z => n _ z (.inr (.inr (.inl rfl)))), e2.keep k s⟩, k.st _ _ h.ask (fun z => n _ z (.inr (.inr (.inr rfl)))), h.sub, h.trk.keep k, h.small, h.ne, h.nkm⟩
theorem As.gr (h : As CA CM W H A sc t es d) (k : Kp W0 H H') : As CA CM W H' A sc t es d := h.keep k (fun _ z => z.elim) fun _ z => z.elim
theorem As.less (h : As CA CM W H A sc t es d) (s : ∀ b, W' b → W b) (s2 : ∀ b, WA A b → W' b) : As CA CM W' H A sc t es d := by
  obtain ⟨s0, e1, e2⟩ := h.ex
  exact ⟨h.med.sub s, ⟨s0, e1, e2.sub s⟩, h.ask, s2, fun b w => h.trk b (s b w), h.small, h.ne, h.nkm⟩
theorem As.wk (h : As CA CM W H A sc t es d) : ∀ b, WK A b → W b := fun b z => h.sub b (WA.k b z)
end

/-! ### the promises: plain defs -/
section

def sd (r : Bool) : Int := if r then 1 else 0
def nodesL (i : Nat) : Bytes := (List.range 11).map (nodeAt i)
def sp_pad_of (K : PySem.W.Frag) (CA CM : Addr) : Sp := fun vs H Q _ => ∃ (a : Addr) (k : Bytes), vs = [.ref a] ∧ H a = some (.lst (nl k)) ∧ k.length = 32 ∧ ∀ H' p, Kp W0 H H' → NewB H H' p (pad k) → Q (.ref p) H'
def sp_under_pad (K : PySem.W.Frag) (CA CM : Addr) : Sp := fun vs H Q _ => ∃ (a b : Addr) (x y : Bytes), vs = [.ref a, .ref b] ∧ H a = some (.lst (nl x)) ∧ H b = some (.lst (nl y)) ∧ x.length = 96 ∧ y.length = 96 ∧ ∀ H' p, Kp W0 H H' → NewB H H' p (xor x y) → Q (.ref p) H'
def sp_no_link (K : PySem.W.Frag) (CA CM : Addr) : Sp := fun vs H Q _ => vs = [] ∧ ∀ H' p, Kp W0 H H' → NewL H H' p none_ → Q (.ref p) H'
def sp_empty_front (K : PySem.W.Frag) (CA CM : Addr) : Sp := fun vs H Q _ => vs = [] ∧ ∀ H' p, Kp W0 H H' → NewB H H' p (zeros 40) → Q (.ref p) H'
def sp_empty_content (K : PySem.W.Frag) (CA CM : Addr) : Sp := fun vs H Q _ => vs = [] ∧ ∀ H' p, Kp W0 H H' → NewB H H' p (zeros 96) → Q (.ref p) H'
def sp_root_link (K : PySem.W.Frag) (CA CM : Addr) : Sp := fun vs H Q _ => ∃ (a : Addr) (b : Bytes), vs = [.ref a] ∧ H a = some (.lst (nl b)) ∧ b.length = 40 ∧ ∀ H' p, Kp W0 H H' → NewL H H' p (Ks189.rootOf b) → Q (.ref p) H'
def sp_front_with (K : PySem.W.Frag) (CA CM : Addr) : Sp := fun vs H Q _ => ∃ (a : Addr) (r : Ref), vs = [.ref a] ∧ LinkAt W0 H a r ∧ RefOk r ∧ ∀ H' p, Kp W0 H H' → NewB H H' p (regLink r) → Q (.ref p) H'
def sp_child_copy (K : PySem.W.Frag) (CA CM : Addr) : Sp := fun vs H Q _ => ∃ (a : Addr) (b : Bytes) (r : Bool), vs = [.ref a, .int (sd r)] ∧ H a = some (.lst (nl b)) ∧ b.length = 96 ∧ Q (.int ((childRef b r).copy : Int)) H
def sp_child_link (K : PySem.W.Frag) (CA CM : Addr) : Sp := fun vs H Q _ => ∃ (a : Addr) (b : Bytes) (r : Bool), vs = [.ref a, .int (sd r)] ∧ H a = some (.lst (nl b)) ∧ b.length = 96 ∧ ∀ H' p, Kp W0 H H' → NewL H H' p (childRef b r) → Q (.ref p) H'
def sp_content_of (K : PySem.W.Frag) (CA CM : Addr) : Sp := fun vs H Q _ => ∃ (a b : Addr) (l r : Ref), vs = [.ref a, .ref b] ∧ LinkAt W0 H a l ∧ LinkAt W0 H b r ∧ RefOk l ∧ RefOk r ∧ ∀ H' p, Kp W0 H H' → NewB H H' p (Node.bytes ⟨l, r⟩) → Q (.ref p) H'
def sp_with_child (K : PySem.W.Frag) (CA CM : Addr) : Sp := fun vs H Q _ => ∃ (a c : Addr) (b : Bytes) (r : Bool) (x : Ref), vs = [.ref a, .int (sd r), .ref c] ∧ H a = some (.lst (nl b)) ∧ b.length = 96 ∧ LinkAt W0 H c x ∧ RefOk x ∧ ∀ H' p, Kp W0 H H' → NewB H H' p (withChild b r x) → Q (.ref p) H'
def sp_leaf_content (K : PySem.W.Frag) (CA CM : Addr) : Sp := fun vs H Q _ => ∃ (a : Addr) (b : Bytes), vs = [.ref a] ∧ H a = some (.lst (nl b)) ∧ b.length = 64 ∧ ∀ H' p, Kp W0 H H' → NewB H H' p (b ++ zeros 32) → Q (.ref p) H'
def sp_leaf_data (K : PySem.W.Frag) (CA CM : Addr) : Sp := fun vs H Q _ => ∃ (a : Addr) (b : Bytes), vs = [.ref a] ∧ H a = some (.lst (nl b)) ∧ ∀ H' p, Kp W0 H H' → NewB H H' p (b.take 64) → Q (.ref p) H'
def sp_way_to (K : PySem.W.Frag) (CA CM : Addr) : Sp := fun vs H Q _ => ∃ i : Nat, vs = [.int (i : Int)] ∧ i < 1024 ∧ ∀ H' p, Kp W0 H H' → NewB H H' p (nodesL i) → Q (.ref p) H'
def sp_side_of (K : PySem.W.Frag) (CA CM : Addr) : Sp := fun vs H Q _ => ∃ n : Nat, vs = [.int (n : Int)] ∧ Q (.int (sd (n % 2 == 1))) H
def sp_page_of (K : PySem.W.Frag) (CA CM : Addr) : Sp := fun vs H Q _ => ∃ n c : Nat, vs = [.int (n : Int), .int (c : Int)] ∧ 1 ≤ n ∧ n ≤ 2047 ∧ Q (.int ((pageOf n c : Nat) : Int)) H
def sp_other_copy (K : PySem.W.Frag) (CA CM : Addr) : Sp := fun vs H Q _ => ∃ c : Nat, vs = [.int (c : Int)] ∧ Q (.int ((other c : Nat) : Int)) H
def sp_copies_fit (K : PySem.W.Frag) (CA CM : Addr) : Sp := fun vs H Q _ => ∃ (a : Addr) (b : Bytes), vs = [.ref a] ∧ H a = some (.lst (nl b)) ∧ b.length = 96 ∧ Q (.bl (decide (Fit b))) H
def sp_leaf_missing (K : PySem.W.Frag) (CA CM : Addr) : Sp := fun vs H Q _ => ∃ (a : Addr) (rs : List Ref), vs = [.ref a] ∧ LinksAt W0 H a rs ∧ rs.length = 11 ∧ Q (.bl (decide ((rs.getD 10 none_).copy = 0))) H
def sp_staying (K : PySem.W.Frag) (CA CM : Addr) : Sp := fun vs H Q _ => ∃ (a c : Addr) (i : Nat) (bs : List Bytes), vs = [.ref a, .ref c] ∧ H a = some (.lst (nl (nodesL i))) ∧ ContsAt W0 H c bs ∧ bs.length = 10 ∧ (∀ b ∈ bs, b.length = 96) ∧ Q (.int ((stayN bs i 10 : Nat) : Int)) H

/-! ### the promises: the medium and the asking -/
def sp_M_init (K : PySem.W.Frag) (CA CM : Addr) : Sp := fun vs H Q _ => ∃ (m dm : Addr), vs = [.ref m] ∧ H m = some (.ins CM dm []) ∧ ∀ H' aP, H aP = none → Kp (fun b => b = m) H H' → (∀ W, Trk W H → MedAt CM (WP W aP) H' m dm aP SF.start) → Q .non H'
def sp_M_set_front (K : PySem.W.Frag) (CA CM : Addr) : Sp := fun vs H Q _ => ∃ (m dm aP c : Addr) (W : Addr → Prop) (d : Dev) (r : Bytes), vs = [.ref m, .ref c] ∧ MedAt CM W H m dm aP d ∧ (∀ b, WM m aP b → W b) ∧ Trk W H ∧ H c = some (.lst (nl r)) ∧ r.length = 40 ∧ ∀ H', Kp (WM m aP) H H' → MedAt CM W H' m dm aP (d.on (.keep r)) → Q .non H'
def sp_M_set_page (K : PySem.W.Frag) (CA CM : Addr) : Sp := fun vs H Q _ => ∃ (m dm aP c : Addr) (W : Addr → Prop) (d : Dev) (p : Nat) (b : Bytes), vs = [.ref m, .int (p : Int), .ref c] ∧ MedAt CM W H m dm aP d ∧ (∀ b, WM m aP b → W b) ∧ Trk W H ∧ p < 4096 ∧ H c = some (.lst (nl b)) ∧ b.length = 96 ∧ ∀ H', Kp (WM m aP) H H' → MedAt CM W H' m dm aP (d.on (.write p b)) → Q .non H'
/-- the asking is new at k, the medium stands -/
def sp_A_init (K : PySem.W.Frag) (CA CM : Addr) : Sp := fun vs H Q _ => ∃ (m dm aP k dk s : Addr) (W : Addr → Prop) (d : Dev) (sc : Bytes), vs = [.ref k, .ref m, .ref s] ∧ H k = some (.ins CA dk []) ∧ MedAt CM W H m dm aP d ∧ (∀ b, WM m aP b → W b) ∧ Trk W H ∧ Old W H s (.lst (nl sc)) ∧
  ∀ H' aL, H aL = none → Kp (fun b => b = k) H H' → As CA CM (fun b => W b ∨ b = k ∨ b = aL) H' ⟨m, dm, aP, k, dk, aL⟩ sc 0 [] d → Q .non H'
def sp_A_note (K : PySem.W.Frag) (CA CM : Addr) : Sp := fun vs H Q _ => ∃ (A : Ad) (W : Addr → Prop) (sc : Bytes) (t : Nat) (es : List Ev) (d : Dev) (n : Addr) (e : Ev), vs = [.ref A.k, .ref n] ∧ As CA CM W H A sc t es d ∧ es.length ≤ 1000 ∧ H n = some (.lst (il (evNums e))) ∧ (evNums e).length ≤ 98 ∧ ∀ H', Kp (WK A) H H' → As CA CM W H' A sc t (es ++ [e]) d → Q .non H'
def sp_A_ask_front (K : PySem.W.Frag) (CA CM : Addr) : Sp := fun vs H Q _ => ∃ (A : Ad) (W : Addr → Prop) (sc : Bytes) (t : Nat) (es : List Ev) (d : Dev), vs = [.ref A.k] ∧ As CA CM W H A sc t es d ∧ es.length ≤ 1000 ∧ ∀ H' p, Kp (WA A) H H' → As CA CM W H' A sc t (es ++ [.know d.reg]) d → BytesAt W H' p d.reg → H p = none → Q (.ref p) H'
def sp_A_put_front (K : PySem.W.Frag) (CA CM : Addr) : Sp := fun vs H Q _ => ∃ (A : Ad) (W : Addr → Prop) (sc : Bytes) (t : Nat) (es : List Ev) (d : Dev) (c : Addr) (r : Bytes), vs = [.ref A.k, .ref c] ∧ As CA CM W H A sc t es d ∧ es.length ≤ 1000 ∧ BytesAt W H c r ∧ r.length = 40 ∧ ∀ H', Kp (WA A) H H' → As CA CM W H' A sc t (es ++ [.keep r]) (d.on (.keep r)) → Q .non H'
def sp_A_read_page (K : PySem.W.Frag) (CA CM : Addr) : Sp := fun vs H Q _ => ∃ (A : Ad) (W : Addr → Prop) (sc : Bytes) (t : Nat) (es : List Ev) (d : Dev) (p : Nat), vs = [.ref A.k, .int (p : Int)] ∧ As CA CM W H A sc t es d ∧ es.length ≤ 1000 ∧ p < 4096 ∧ ∀ H' q, Kp (WA A) H H' → As CA CM W H' A sc t (es ++ [.read p (d.page p)]) d → BytesAt W H' q (d.page p) → H q = none → Q (.ref q) H'
def sp_A_write_page (K : PySem.W.Frag) (CA CM : Addr) : Sp := fun vs H Q _ => ∃ (A : Ad) (W : Addr → Prop) (sc : Bytes) (t : Nat) (es : List Ev) (d : Dev) (p : Nat) (c : Addr) (b : Bytes), vs = [.ref A.k, .int (p : Int), .ref c] ∧ As CA CM W H A sc t es d ∧ es.length ≤ 1000 ∧ p < 4096 ∧ BytesAt W H c b ∧ b.length = 96 ∧ ∀ H', Kp (WA A) H H' → As CA CM W H' A sc t (es ++ [.write p b]) (d.on (.write p b)) → Q .non H'
def sp_A_new_key (K : PySem.W.Frag) (CA CM : Addr) : Sp := fun vs H Q _ => ∃ (A : Ad) (W : Addr → Prop) (sc : Bytes) (t : Nat) (es : List Ev) (d : Dev), vs = [.ref A.k] ∧ As CA CM W H A sc t es d ∧ es.length ≤ 1000 ∧ ∀ H' p, Kp (WA A) H H' → As CA CM W H' A sc (t + 32) (es ++ [.any ((sc.drop t).take 32)]) d → BytesAt W H' p ((sc.drop t).take 32) → H p = none → Q (.ref p) H'
def sp_A_ask_pad (K : PySem.W.Frag) (CA CM : Addr) : Sp := fun vs H Q _ => ∃ (A : Ad) (W : Addr → Prop) (sc : Bytes) (t : Nat) (es : List Ev) (d : Dev) (c : Addr) (k : Bytes), vs = [.ref A.k, .ref c] ∧ As CA CM W H A sc t es d ∧ es.length ≤ 1000 ∧ BytesAt W H c k ∧ k.length = 32 ∧ ∀ H' p, Kp (WA A) H H' → As CA CM W H' A sc t (es ++ [.mix k (pad k)]) d → BytesAt W H' p (pad k) → H p = none → Q (.ref p) H'
def sp_read_node (K : PySem.W.Frag) (CA CM : Addr) : Sp := fun vs H Q _ => ∃ (A : Ad) (W : Addr → Prop) (sc : Bytes) (t : Nat) (es : List Ev) (d : Dev) (v : Nat) (l : Addr) (r : Ref), vs = [.ref A.k, .int (v : Int), .ref l] ∧ As CA CM W H A sc t es d ∧ es.length ≤ 900 ∧ 1 ≤ v ∧ v ≤ 2047 ∧ LinkAt W H l r ∧ RefOk r ∧ r.copy ≤ 2 ∧
  ∀ H' p, Kp (WA A) H H' → As CA CM W H' A sc t (es ++ [.read (pageOf v r.copy) (d.page (pageOf v r.copy)), .mix r.key (pad r.key)]) d → BytesAt W H' p (xor (d.page (pageOf v r.copy)) (pad r.key)) → H p = none → Q (.ref p) H'
def sp_go_way (K : PySem.W.Frag) (CA CM : Addr) : Sp := fun vs H Q _ => ∃ (A : Ad) (W : Addr → Prop) (sc : Bytes) (t : Nat) (d : Dev) (i : Nat), vs = [.ref A.k, .int (i : Int)] ∧ As CA CM W H A sc t [] d ∧ i < 1024 ∧
  ((goW d i).ok = true → ∀ H' p l c, Kp (WA A) H H' → As CA CM W H' A sc t (goW d i).evs d → Old W H' p (.tup [.int 0, .ref l, .ref c]) → LinksAt W H' l (linksOf d i) → ContsAt W H' c (contsOf d i) → Q (.ref p) H') ∧
  ((goW d i).ok = false → ∀ H' p x y, Kp (WA A) H H' → As CA CM W H' A sc t (goW d i).evs d → Old W H' p (.tup [.int (-71), x, y]) → Q (.ref p) H')
def KeysAt := ContsAt
def sp_new_keys (K : PySem.W.Frag) (CA CM : Addr) : Sp := fun vs H Q _ => ∃ (A : Ad) (W : Addr → Prop) (sc : Bytes) (es : List Ev) (d : Dev) (n : Nat), vs = [.ref A.k, .int (n : Int)] ∧ As CA CM W H A sc 0 es d ∧ es.length ≤ 100 ∧ n ≤ 11 ∧
  ∀ H' p, Kp (WA A) H H' → As CA CM W H' A sc (32 * n) (es ++ (keysIn sc n).map .any) d → ContsAt W H' p (keysIn sc n) → Q (.ref p) H'
def sp_write_node (K : PySem.W.Frag) (CA CM : Addr) : Sp := fun vs H Q _ => ∃ (A : Ad) (W : Addr → Prop) (sc : Bytes) (t : Nat) (es : List Ev) (d : Dev) (p : Nat) (k c : Addr) (kb b : Bytes), vs = [.ref A.k, .int (p : Int), .ref k, .ref c] ∧ As CA CM W H A sc t es d ∧ es.length ≤ 900 ∧ p < 4096 ∧ BytesAt W H k kb ∧ kb.length = 32 ∧ BytesAt W H c b ∧ b.length = 96 ∧
  ∀ H', Kp (WA A) H H' → As CA CM W H' A sc t (es ++ [.mix kb (pad kb), .write p (xor b (pad kb))]) (d.on (.write p (xor b (pad kb)))) → Q .non H'
def sp_renew (K : PySem.W.Frag) (CA CM : Addr) : Sp := fun vs H Q _ => ∃ (A : Ad) (W : Addr → Prop) (sc : Bytes) (es : List Ev) (d : Dev) (i n : Nat) (a w l c o : Addr) (links : List Ref) (conts : List Bytes) (b : Bytes), vs = [.ref A.k, .ref a, .ref w, .int (n : Int), .ref o] ∧ As CA CM W H A sc 0 es d ∧ es.length ≤ 100 ∧ i < 1024 ∧ 1 ≤ n ∧ n ≤ 11 ∧ sc.length = 32 * n ∧
  BytesAt W H a (nodesL i) ∧ Old W H w (.tup [.ref l, .ref c]) ∧ LinksAt W H l links ∧ links.length = 11 ∧ ContsAt W H c conts ∧ conts.length = 10 ∧ (∀ x ∈ conts, x.length = 96) ∧ BytesAt W H o b ∧ b.length = 96 ∧
  ∀ H' t, Kp (WA A) H H' → As CA CM W H' A sc t (es ++ Ks189.wrote pad (keysIn sc n) (rn i links conts (keysIn sc n) n b)) (d.after (Ks189.wrote pad (keysIn sc n) (rn i links conts (keysIn sc n) n b))) → Q .non H'
/-- the answer's list, the asking behind it -/
def Done (CA CM : Addr) (W : Addr → Prop) (H : Hp) (A : Ad) (sc : Bytes) (d : Dev) (x : List Ev × Ks189.Ans) (Q : VK) : Prop := ∀ H' p t, Kp (WA A) H H' → As CA CM W H' A sc t x.1 (d.after x.1) → Old W H' p (.lst (il (x.2.ret :: intL x.2.out))) → Q (.ref p) H'
def keysOf1 (sc : Bytes) : List Bytes := keysIn sc (sc.length / 32)
def sp_do_clear (K : PySem.W.Frag) (CA CM : Addr) : Sp := fun vs H Q _ => ∃ (A : Ad) (W : Addr → Prop) (sc : Bytes) (d : Dev), vs = [.ref A.k] ∧ As CA CM W H A sc 0 [] d ∧ Done CA CM W H A sc d (Ks189.act pad d [] .clear) Q
def sp_do_get (K : PySem.W.Frag) (CA CM : Addr) : Sp := fun vs H Q _ => ∃ (A : Ad) (W : Addr → Prop) (sc : Bytes) (d : Dev) (i : Nat), vs = [.ref A.k, .int (i : Int)] ∧ As CA CM W H A sc 0 [] d ∧ Done CA CM W H A sc d (Ks189.act pad d [] (.get i)) Q
def sp_do_put (K : PySem.W.Frag) (CA CM : Addr) : Sp := fun vs H Q _ => ∃ (A : Ad) (W : Addr → Prop) (sc : Bytes) (d : Dev) (i : Nat) (c : Addr) (b : Bytes), vs = [.ref A.k, .int (i : Int), .ref c] ∧ As CA CM W H A sc 0 [] d ∧ BytesAt W H c b ∧ b.length = 64 ∧ sc.length = 32 * Ks189.needs pad d (.put i b) ∧ Done CA CM W H A sc d (Ks189.act pad d (keysOf1 sc) (.put i b)) Q
def sp_do_forget (K : PySem.W.Frag) (CA CM : Addr) : Sp := fun vs H Q _ => ∃ (A : Ad) (W : Addr → Prop) (sc : Bytes) (d : Dev) (i : Nat), vs = [.ref A.k, .int (i : Int)] ∧ As CA CM W H A sc 0 [] d ∧ sc.length = 32 * Ks189.needs pad d (.forget i) ∧ Done CA CM W H A sc d (Ks189.act pad d (keysOf1 sc) (.forget i)) Q
/-- the four calls, by their numbers -/
inductive Deed (sc : Bytes) (d : Dev) : Int → Nat → Bytes → List Bytes → Ks189.Call → Prop
  | clear (i : Nat) (b : Bytes) : Deed sc d 0 i b [] .clear
  | put (i : Nat) (b : Bytes) : b.length = 64 → sc.length = 32 * Ks189.needs pad d (.put i b) → Deed sc d 1 i b (keysOf1 sc) (.put i b)
  | get (i : Nat) (b : Bytes) : Deed sc d 2 i b [] (.get i)
  | forget (i : Nat) (b : Bytes) : sc.length = 32 * Ks189.needs pad d (.forget i) → Deed sc d 3 i b (keysOf1 sc) (.forget i)
def sp_slot_answer (K : PySem.W.Frag) (CA CM : Addr) : Sp := fun vs H Q _ => ∃ (A : Ad) (W : Addr → Prop) (sc : Bytes) (d : Dev) (z : Int) (i : Nat) (c : Addr) (b : Bytes) (keys : List Bytes) (call : Ks189.Call), vs = [.ref A.k, .int z, .int (i : Int), .ref c] ∧ As CA CM W H A sc 0 [] d ∧ BytesAt W H c b ∧ Deed sc d z i b keys call ∧ Done CA CM W H A sc d (Ks189.act pad d keys call) Q

/-! ### the promises: the calls' reading, the calls -/
/-- a call as it is read: deed, number, row, script -/
inductive IsCall : List (List Int) → Int → Int → List Int → List Int → Prop
  | clear : IsCall [[0]] 0 0 [] []
  | put (a : Int) (b s : List Int) : IsCall [[1, a], b, s] 1 a b s
  | get (a : Int) : IsCall [[2, a]] 2 a [] []
  | forget (a : Int) (s : List Int) : IsCall [[3, a], s] 3 a [] s
  | reg (b : List Int) : IsCall [[4], b] 4 0 b []
  | page (a : Int) (b : List Int) : IsCall [[5, a], b] 5 a b []
def CallAt (W : Addr → Prop) (H : Hp) (t : Addr) (c : List (List Int)) : Prop := ∃ z n row s r q, IsCall c z n row s ∧ Old W H t (.tup [.int z, .int n, .ref r, .ref q]) ∧ Old W H r (.lst (il row)) ∧ Old W H q (.lst (il s))
def sp_row_at (K : PySem.W.Frag) (CA CM : Addr) : Sp := fun vs H Q _ => ∃ (a : Addr) (ns : List Int) (j n : Nat), vs = [.ref a, .int (j : Int)] ∧ SqL K H a (il ns) ∧ ns[j]? = some (n : Int) ∧
  ∀ H' p q, Kp W0 H H' → H p = none → H q = none → H' p = some (.tup [.ref q, .int ((j + 1 + n : Nat) : Int)]) → H' q = some (.lst (il ((ns.drop (j + 1)).take n))) → Q (.ref p) H'
def sp_read_call (K : PySem.W.Frag) (CA CM : Addr) : Sp := fun vs H Q _ => ∃ (a : Addr) (ns : List Int) (j b : Nat) (c : List (List Int)), vs = [.ref a, .int (j : Int)] ∧ SqL K H a (il ns) ∧ ReadAt ns j c b ∧
  ∀ H' p t, Kp W0 H H' → H p = none → H' p = some (.tup [.ref t, .int (b : Int)]) → (∀ W, Trk W H → CallAt W H' t c) → Q (.ref p) H'
def sp_read_calls (K : PySem.W.Frag) (CA CM : Addr) : Sp := fun vs H Q _ => ∃ (a : Addr) (ns : List Int) (cs : List (List (List Int))), vs = [.ref a] ∧ SqL K H a (il ns) ∧ ns.length ≤ 31000 ∧ Rest ns 0 cs ∧
  ∀ H' p, Kp W0 H H' → (∀ W, Trk W H → ∃ us, Old W H' p (.lst us) ∧ Each (CallAt W H') us cs) → Q (.ref p) H'
def sp_call_answer (K : PySem.W.Frag) (CA CM : Addr) : Sp := fun vs H Q _ => ∃ (m dm aP t : Addr) (W : Addr → Prop) (s : Dev) (c : List (List Int)), vs = [.ref m, .ref t] ∧ MedAt CM W H m dm aP s ∧ (∀ b, WM m aP b → W b) ∧ Trk W H ∧ CallAt W H t c ∧ Ks189Neutral.form c = true ∧ Ks189Neutral.scripted s c = true ∧ (Ks189Neutral.step s c).2.length ≤ 10000000 ∧
  ∀ H' p, Kp (WM m aP) H H' → MedAt CM W H' m dm aP (Ks189Neutral.step s c).1 → Old W H' p (.lst (il (Ks189Neutral.step s c).2)) → Q (.ref p) H'
def sp_answers (K : PySem.W.Frag) (CA CM : Addr) : Sp := fun vs H Q _ => ∃ (a : Addr) (ns : List Int), vs = [.ref a] ∧ SqL K H a (il ns) ∧ ns.length ≤ 31000 ∧ PyKs189.answers_asked ns = true ∧ ∀ H' p, H' p = some (.lst (il (PyKs189.answers ns))) → Q (.ref p) H'
end
end SF

set_option Elab.async false
set_option linter.all false
set_option maxRecDepth 100000
set_option maxHeartbeats 2000000
/-! SfPureA: the plain defs keep their promises. -/
namespace SF
open PySem PySem.Spec PyProof.Rows L2
open Ks189 (Bytes Ref Node Ev Dev zeros xor none_ other pageOf nodeAt right_ had leafOf)
/-- one item more -/
theorem take_more {α : Type} : ∀ {l : List α} {i : Nat} {x : α}, l[i]? = some x → l.take (i + 1) = l.take i ++ [x]
  | [], i, x, h => by simp at h
  | a :: l, 0, x, h => by
    have e : a = x := Option.some.inj h
    subst e
    rfl
  | a :: l, i + 1, x, h => by
    have ih := take_more (l := l) (i := i) (x := x) h
    show a :: l.take (i + 1) = a :: l.take i ++ [x]
    rw [ih]
    rfl
theorem xor_get {x y : Bytes} {i : Nat} (hx : i < x.length) (hy : i < y.length) : (xor x y)[i]? = some (x.getD i 0 ^^^ y.getD i 0) := by
  show (List.zipWith _ x y)[i]? = _
  rw [List.getElem?_zipWith, List.getElem?_eq_getElem hx, List.getElem?_eq_getElem hy, List.getD_eq_getElem?_getD, List.getD_eq_getElem?_getD, List.getElem?_eq_getElem hx, List.getElem?_eq_getElem hy]
  rfl
section
variable {P : Program} {w : World} {K : PySem.W.Frag} {mg : Str → Option Value} {base : Heap} {CA CM : Addr}
theorem ok_pad_of {f : Addr} {fd : FuncData} (F : Fun K "pad_of" "pad_of" s_pad_of f fd) (T : Txt K mg CA CM)  : FnOk P w K mg base CX0 1 f fd ["key"] (sp_pad_of K CA CM) := by
  refine F.ok sc_pad_of (fun vs H Q E h => ?_) (fun cdv A outer s H vs Q E hr h => ?_)
  · obtain ⟨a, k, rfl, _⟩ := h
    rfl
  · obtain ⟨a, k, rfl, ha, hk, q⟩ := h
    refine ⟨_, (pss_one (ps_ret (pe_lc (own := [("at", 1)]) (g := gName 1) rfl sc_pad_of.nd (pi_range1 rfl T.zRange (pa_cons (pe_g T.g_PAGE_BYTES rfl) pa_nil)) (blkOk_by (N := ["key", "at"]) (sc := defScope s_pad_of) (by decide +kernel)) (fun _ _ _ _ _ => pg_name (i := 1) sc_pad_of.nd rfl (Or.inl rfl)) (fun _ _ _ _ _ => pts_nil) (fun _ _ _ _ _ => (pe_op op_mod (pe_op op_add (pe_op op_mul (pe_ix (ix_listK (K := K)) (pv 0) (pe_op op_mod (pv 1) (pe_g T.g_KEY_BYTES rfl)) (fun _ _ => rfl)) pe_int) (pv 1)) pe_int))))), ?_⟩
    refine ⟨96, rfl, by decide, by decide, fun D hD => lc_range (lo := 0) (n := 96) (fun i H' => Kp W0 H H' ∧ H' D = some (.lst (nl ((List.range i).map fun j => (k.getD (j % 32) 0 * 5 + j) % 256)))) ⟨Kp.refl.new hD, upd_same⟩ ?_ ?_⟩
    · intro i H1 hi ⟨g, hl⟩
      have hm : i % 32 < k.length := by omega
      refine ⟨rfl, _, rfl, _, rfl, _, _, rfl, rfl, (by show (0 : Int) < 32; decide), a, nl k, _, _, rfl, rfl, SqL.of (g.st _ _ ha fun z => z), at_of (j := i % 32) (by omega) (nl_getD hm), _, _, rfl, rfl, .inr ⟨by decide, by decide⟩, _, rfl, _, _, rfl, rfl, _, _, rfl, rfl, (by show (0 : Int) < 256; decide), _, hl, ?_, g.own hD, ?_⟩
      · rw [nl_len, List.length_map, List.length_range]
        exact line_lt (by omega)
      · rw [upd_same, List.range_succ, List.map_append, nl_app]
        refine congrArg (fun z => some (HO.lst (_ ++ [V.int z]))) ?_
        show ((((k.getD (i % 32) 0 : Nat) : Int) * 5 + (0 + (i : Int))) % 256) = (((k.getD (i % 32) 0 * 5 + i) % 256 : Nat) : Int)
        omega
    · rintro H1 ⟨g, hl⟩
      exact q H1 D g ⟨hD, hl⟩
theorem ok_under_pad {f : Addr} {fd : FuncData} (F : Fun K "under_pad" "under_pad" s_under_pad f fd) (T : Txt K mg CA CM)  : FnOk P w K mg base CX0 1 f fd ["content", "pad"] (sp_under_pad K CA CM) := by
  refine F.ok sc_under_pad (fun vs H Q E h => ?_) (fun cdv A outer s H vs Q E hr h => ?_)
  · obtain ⟨a, b, x, y, rfl, _⟩ := h
    rfl
  · obtain ⟨a, b, x, y, rfl, ha, hb, hx, hy, q⟩ := h
    refine ⟨_, (pss_one (ps_ret (pe_lc (own := [("at", 2)]) (g := gName 2) rfl sc_under_pad.nd (pi_range1 rfl T.zRange (pa_cons (pe_g T.g_PAGE_BYTES rfl) pa_nil)) (blkOk_by (N := ["content", "pad", "at"]) (sc := defScope s_under_pad) (by decide +kernel)) (fun _ _ _ _ _ => pg_name (i := 2) sc_under_pad.nd rfl (Or.inl rfl)) (fun _ _ _ _ _ => pts_nil) (fun _ _ _ _ _ => (pe_op op_xor (pe_ix (ix_listK (K := K)) (pv 0) (pv 2) (fun _ _ => rfl)) (pe_ix (ix_listK (K := K)) (pv 1) (pv 2) (fun _ _ => rfl))))))), ?_⟩
    refine ⟨96, rfl, by decide, by decide, fun D hD => lc_range (lo := 0) (n := 96) (fun i H' => Kp W0 H H' ∧ H' D = some (.lst (nl ((xor x y).take i)))) ⟨Kp.refl.new hD, upd_same⟩ ?_ ?_⟩
    · intro i H1 hi ⟨g, hl⟩
      have hix : i < x.length := by omega
      have hiy : i < y.length := by omega
      refine ⟨rfl, _, rfl, _, rfl, a, nl x, _, _, rfl, rfl, SqL.of (g.st _ _ ha fun z => z), at_of (j := i) (by omega) (nl_getD hix), _, rfl, _, rfl, b, nl y, _, _, rfl, rfl, SqL.of (g.st _ _ hb fun z => z), at_of (j := i) (by omega) (nl_getD hiy), _, _, rfl, rfl, _, hl, ?_, g.own hD, ?_⟩
      · rw [nl_len, List.length_take]
        exact line_lt (by omega)
      · rw [upd_same, take_more (xor_get hix hiy), nl_app]
        refine congrArg (fun z => some (HO.lst (nl (List.take i (xor x y)) ++ [V.int z]))) ?_
        show Builtin.bitXor ((x.getD i 0 : Nat) : Int) ((y.getD i 0 : Nat) : Int) = ((x.getD i 0 ^^^ y.getD i 0 : Nat) : Int)
        rw [Bits.bitXor_pp (Int.natCast_nonneg _) (Int.natCast_nonneg _), Int.toNat_natCast, Int.toNat_natCast]
    · rintro H1 ⟨g, hl⟩
      rw [List.take_of_length_le (by rw [len_xor hx hy]; exact Nat.le_refl _)] at hl
      exact q H1 D g ⟨hD, hl⟩
theorem ok_no_link {f : Addr} {fd : FuncData} (F : Fun K "no_link" "no_link" s_no_link f fd) (T : Txt K mg CA CM)  : FnOk P w K mg base CX0 1 f fd [] (sp_no_link K CA CM) := by
  refine F.ok sc_no_link (fun vs H Q E h => ?_) (fun cdv A outer s H vs Q E hr h => ?_)
  · obtain ⟨rfl, _⟩ := h
    rfl
  · obtain ⟨rfl, q⟩ := h
    refine ⟨_, (pss_one (ps_ret (pe_tup (pa_cons pe_int (pa_cons (pe_op op_rep (pe_lst (pa_cons pe_int pa_nil)) (pe_g T.g_KEY_BYTES rfl)) pa_nil))))), ?_⟩
    refine ⟨line (by show 1 ≤ 16000000; decide), fun l hl => ?_⟩
    refine ⟨l, 32, _, rfl, rfl, upd_same, by decide, by decide, line (by decide), fun r hr => ?_⟩
    refine ⟨line (by show 2 ≤ 16000000; decide), fun p hp => ?_⟩
    have k1 : Kp W0 H _ := Kp.refl.new (o := .lst [V.int 0]) hl
    have k2 : Kp W0 H _ := k1.new (o := .lst (List.replicate (Int.toNat 32) [V.int 0]).flatten) hr
    refine q _ p (k2.new hp) ⟨k2.tr p hp, r, k1.tr r hr, upd_same, ?_⟩
    rw [upd_ne (ne_of_none upd_same hp), upd_same]
    exact congrArg (fun z => some (HO.lst z)) (nl_zeros 32)
end
end SF

set_option Elab.async false
set_option linter.all false
set_option maxRecDepth 100000
set_option maxHeartbeats 2000000
/-! SfPureB: the plain defs keep their promises, on. -/
namespace SF
open PySem PySem.Spec PyProof.Rows L2
open Ks189 (Bytes Ref Node Ev Dev zeros xor none_ other pageOf nodeAt right_ had leafOf)
theorem up1 {H : Hp} {b p : Addr} {o u : HO} (e : H b = some o) (hp : H p = none) : upd H p u b = some o := by
  rw [upd_ne (ne_of_none e hp)]
  exact e
theorem if_true_of {c : Bool} {A B : Prop} (hc : c = true) (h : A) : if c = true then A else B := by
  rw [if_pos hc]
  exact h
theorem if_false_of {c : Bool} {A B : Prop} (hc : c = false) (h : B) : if c = true then A else B := by
  rw [hc, if_neg Bool.false_ne_true]
  exact h
theorem kp_at {W : Addr → Prop} {H H1 : Hp} {p : Addr} (_ : H1 p = none) (k : Kp W H H1) : Kp W H H1 := k
theorem sd_mod (n : Nat) : ((n : Int) % 2) = sd (n % 2 == 1) := by
  unfold sd
  by_cases h : n % 2 = 1
  · have e : (n % 2 == 1) = true := beq_iff_eq.mpr h
    rw [e]
    show (n : Int) % 2 = 1
    omega
  · have e : (n % 2 == 1) = false := beq_eq_false_iff_ne.mpr h
    rw [e]
    show (n : Int) % 2 = 0
    omega
theorem sd_not (r : Bool) : 1 - sd r = sd (!r) := by cases r <;> rfl
theorem dec_int (a b : Nat) : decide (V.int (a : Int) = V.int (b : Int)) = decide (a = b) := by
  by_cases h : a = b
  · rw [decide_eq_true h, decide_eq_true (by rw [h])]
  · rw [decide_eq_false h, decide_eq_false fun q => h (by injection q with q; omega)]
theorem nl_rev (b : Bytes) : (nl b).reverse = nl b.reverse := by
  unfold nl il
  show (List.map _ (List.map _ b)).reverse = List.map _ (List.map _ b.reverse)
  rw [List.map_reverse, List.map_reverse]
theorem ways_rev (s : Nat) : ((List.range 11).map fun j => (1024 + s) / 2 ^ j).reverse = nodesL s := by rfl
theorem nodes_get {i j : Nat} (h : j < 11) : (nl (nodesL i))[j]? = some (V.int ((nodeAt i j : Nat) : Int)) := by
  refine nl_get ?_
  show (List.map _ (List.range 11))[j]? = _
  rw [List.getElem?_map, List.getElem?_range h]
  rfl
theorem child_at {b : Bytes} (h : b.length = 96) (r : Bool) : (nl b)[64 + (if r then 1 else 0)]? = some (V.int ((childRef b r).copy : Int)) := by
  cases r
  · show (nl b)[64]? = _
    exact nl_getD (by omega)
  · show (nl b)[65]? = _
    exact nl_getD (by omega)
theorem cut_child (b : Bytes) (r : Bool) : cutV (nl b) (some (32 * sd r)) (some (32 * sd r + 32)) = nl (childRef b r).key := by
  cases r
  · refine (cut_nat (nl b) 0 32).trans ?_
    rw [nl_drop, nl_take]
    rfl
  · refine (cut_nat (nl b) 32 64).trans ?_
    rw [nl_drop, nl_take]
    rfl
section
variable {P : Program} {w : World} {K : PySem.W.Frag} {mg : Str → Option Value} {base : Heap} {CA CM : Addr}
theorem ok_empty_front {f : Addr} {fd : FuncData} (F : Fun K "empty_front" "empty_front" s_empty_front f fd) (T : Txt K mg CA CM)  : FnOk P w K mg base CX0 1 f fd [] (sp_empty_front K CA CM) := by
  refine F.ok sc_empty_front (fun vs H Q E h => ?_) (fun cdv A outer s H vs Q E hr h => ?_)
  · obtain ⟨rfl, _⟩ := h
    rfl
  · obtain ⟨rfl, q⟩ := h
    refine ⟨_, (pss_one (ps_ret (pe_op op_rep (pe_lst (pa_cons pe_int pa_nil)) (pe_g T.g_FRONT_BYTES rfl)))), ?_⟩
    refine ⟨line (by show 1 ≤ 16000000; decide), fun l hl => ?_⟩
    refine ⟨l, 40, _, rfl, rfl, upd_same, by decide, by decide, line (by decide), fun p hp => ?_⟩
    have k1 : Kp W0 H _ := Kp.refl.new (o := .lst [V.int 0]) hl
    refine q _ p (k1.new hp) ⟨k1.tr p hp, ?_⟩
    rw [upd_same]
    exact congrArg (fun z => some (HO.lst z)) (nl_zeros 40)
theorem ok_empty_content {f : Addr} {fd : FuncData} (F : Fun K "empty_content" "empty_content" s_empty_content f fd) (T : Txt K mg CA CM)  : FnOk P w K mg base CX0 1 f fd [] (sp_empty_content K CA CM) := by
  refine F.ok sc_empty_content (fun vs H Q E h => ?_) (fun cdv A outer s H vs Q E hr h => ?_)
  · obtain ⟨rfl, _⟩ := h
    rfl
  · obtain ⟨rfl, q⟩ := h
    refine ⟨_, (pss_one (ps_ret (pe_op op_rep (pe_lst (pa_cons pe_int pa_nil)) (pe_g T.g_PAGE_BYTES rfl)))), ?_⟩
    refine ⟨line (by show 1 ≤ 16000000; decide), fun l hl => ?_⟩
    refine ⟨l, 96, _, rfl, rfl, upd_same, by decide, by decide, line (by decide), fun p hp => ?_⟩
    have k1 : Kp W0 H _ := Kp.refl.new (o := .lst [V.int 0]) hl
    refine q _ p (k1.new hp) ⟨k1.tr p hp, ?_⟩
    rw [upd_same]
    exact congrArg (fun z => some (HO.lst z)) (nl_zeros 96)
theorem ok_root_link {f : Addr} {fd : FuncData} (F : Fun K "root_link" "root_link" s_root_link f fd) (T : Txt K mg CA CM)  : FnOk P w K mg base CX0 1 f fd ["front"] (sp_root_link K CA CM) := by
  refine F.ok sc_root_link (fun vs H Q E h => ?_) (fun cdv A outer s H vs Q E hr h => ?_)
  · obtain ⟨a, b, rfl, _⟩ := h
    rfl
  · obtain ⟨a, b, rfl, ha, hb, q⟩ := h
    refine ⟨_, (pss_one (ps_ret (pe_tup (pa_cons (pe_ix ix_list (pv 0) pe_int (fun _ _ => rfl)) (pa_cons (pe_slice sl_list (pv 0) (po_some (pe_g T.g_ROOT_KEY_AT rfl)) (po_some (pe_op op_add (pe_g T.g_ROOT_KEY_AT rfl) (pe_g T.g_KEY_BYTES rfl)))) pa_nil))))), ?_⟩
    refine ⟨_, rfl, a, nl b, _, _, rfl, rfl, SqL.of ha, at_of (j := 0) rfl (nl_getD (by omega)), _, rfl, _, rfl, _, _, rfl, rfl, _, rfl, a, nl b, rfl, SqL.of ha, fun r hr => ?_⟩
    refine ⟨line (by show 2 ≤ 16000000; decide), fun p hp => ?_⟩
    have k1 : Kp W0 H _ := kp_at hp (Kp.refl.new hr)
    refine q _ p (k1.new hp) ⟨k1.tr p hp, r, hr, ?_, ?_⟩
    · rw [upd_same]
      refine congrArg (fun z => some (HO.tup [V.int z, V.ref r])) ?_
      show ((b.getD 0 0 : Nat) : Int) = ((b.headD 0 : Nat) : Int)
      cases b <;> rfl
    · rw [upd_ne (ne_of_none upd_same hp), upd_same]
      refine congrArg (fun z => some (HO.lst z)) ?_
      refine (cut_nat (nl b) 4 36).trans ?_
      rw [nl_drop, nl_take]
      rfl
theorem ok_front_with {f : Addr} {fd : FuncData} (F : Fun K "front_with" "front_with" s_front_with f fd) (T : Txt K mg CA CM)  : FnOk P w K mg base CX0 1 f fd ["link"] (sp_front_with K CA CM) := by
  refine F.ok sc_front_with (fun vs H Q E h => ?_) (fun cdv A outer s H vs Q E hr h => ?_)
  · obtain ⟨a, r, rfl, _⟩ := h
    rfl
  · obtain ⟨a, r, rfl, ⟨c, ⟨ha, _⟩, ⟨hc, _⟩⟩, hr32, q⟩ := h
    have hk : r.key.length = 32 := hr32
    refine ⟨_, (pss_one (ps_ret (pe_op op_cat (pe_op op_cat (pe_op op_cat (pe_lst (pa_cons (pe_ix ix_tup (pv 0) pe_int (fun _ _ => rfl)) pa_nil)) (pe_op op_rep (pe_lst (pa_cons pe_int pa_nil)) pe_int)) (pe_ix ix_tup (pv 0) pe_int (fun _ _ => rfl))) (pe_op op_rep (pe_lst (pa_cons pe_int pa_nil)) pe_int)))), ?_⟩
    refine ⟨_, rfl, a, _, _, _, rfl, rfl, SqT.of ha, at_of (j := 0) rfl rfl, line (by show 1 ≤ 16000000; decide), fun l1 h1 => ?_⟩
    refine ⟨line (by show 1 ≤ 16000000; decide), fun l2 h2 => ?_⟩
    refine ⟨l2, 3, _, rfl, rfl, upd_same, by decide, by decide, line (by decide), fun l3 h3 => ?_⟩
    refine ⟨l1, l3, _, _, rfl, rfl, up1 (up1 upd_same h2) h3, upd_same, line (by show 1 + 3 ≤ 16000000; decide), fun l4 h4 => ?_⟩
    refine ⟨_, rfl, a, _, _, _, rfl, rfl, SqT.of (up1 (up1 (up1 (up1 ha h1) h2) h3) h4), at_of (j := 1) rfl rfl, ?_⟩
    refine ⟨l4, c, _, _, rfl, rfl, upd_same, up1 (up1 (up1 (up1 hc h1) h2) h3) h4, line (by rw [nl_len, hk]; show 4 + 32 ≤ 16000000; decide), fun l5 h5 => ?_⟩
    refine ⟨line (by show 1 ≤ 16000000; decide), fun l6 h6 => ?_⟩
    refine ⟨l6, 4, _, rfl, rfl, upd_same, by decide, by decide, line (by decide), fun l7 h7 => ?_⟩
    refine ⟨l5, l7, _, _, rfl, rfl, up1 (up1 upd_same h6) h7, upd_same, line (by rw [List.length_append, nl_len, hk]; show (4 + 32) + 4 ≤ 16000000; decide), fun p hp => ?_⟩
    have k7 : Kp W0 H _ := kp_at hp ((kp_at h7 ((kp_at h6 ((kp_at h5 ((kp_at h4 ((kp_at h3 ((kp_at h2 (Kp.refl.new h1)).new h2)).new h3)).new h4)).new h5)).new h6)).new h7)
    refine q _ p (k7.new hp) ⟨k7.tr p hp, ?_⟩
    rw [upd_same]
    refine congrArg (fun z => some (HO.lst z)) ?_
    show ([V.int (r.copy : Int)] ++ (List.replicate 3 [V.int 0]).flatten) ++ nl r.key ++ (List.replicate 4 [V.int 0]).flatten = nl ([r.copy, 0, 0, 0] ++ r.key ++ zeros 4)
    rw [nl_app, nl_app, nl_zeros 4]
    rfl
theorem ok_child_copy {f : Addr} {fd : FuncData} (F : Fun K "child_copy" "child_copy" s_child_copy f fd) (T : Txt K mg CA CM)  : FnOk P w K mg base CX0 1 f fd ["content", "side"] (sp_child_copy K CA CM) := by
  refine F.ok sc_child_copy (fun vs H Q E h => ?_) (fun cdv A outer s H vs Q E hr h => ?_)
  · obtain ⟨a, b, r, rfl, _⟩ := h
    rfl
  · obtain ⟨a, b, r, rfl, ha, hb, q⟩ := h
    refine ⟨_, (pss_one (ps_ret (pe_ix ix_list (pv 0) (pe_op op_add (pe_g T.g_COPIES_AT rfl) (pv 1)) (fun _ _ => rfl)))), ?_⟩
    refine ⟨_, rfl, _, rfl, _, _, rfl, rfl, a, nl b, _, _, rfl, rfl, SqL.of ha, at_of (j := 64 + (if r then 1 else 0)) (by cases r <;> rfl) (child_at hb r), q⟩
theorem ok_child_link {f : Addr} {fd : FuncData} (F : Fun K "child_link" "child_link" s_child_link f fd) (T : Txt K mg CA CM) (c_child_copy : Cal P w K mg base "child_copy" 1 ["content", "side"] (sp_child_copy K CA CM)) : FnOk P w K mg base CX0 2 f fd ["content", "side"] (sp_child_link K CA CM) := by
  refine F.ok sc_child_link (fun vs H Q E h => ?_) (fun cdv A outer s H vs Q E hr h => ?_)
  · obtain ⟨a, b, r, rfl, _⟩ := h
    rfl
  · obtain ⟨a, b, r, rfl, ha, hb, q⟩ := h
    refine ⟨_, (pss_cons (ps_set (i := 2) sc_child_link.nd rfl (Or.inl rfl) (pe_op op_mul (pe_g T.g_KEY_BYTES rfl) (pv 1)))
      (pss_one (ps_ret (pe_tup (pa_cons (pe_c c_child_copy (hr.mono (by decide)) rfl (pa_cons (pv 0) (pa_cons (pv 1) pa_nil))) (pa_cons (pe_slice sl_list (pv 0) (po_some (pv 2)) (po_some (pe_op op_add (pv 2) (pe_g T.g_KEY_BYTES rfl)))) pa_nil)))))), ?_⟩
    refine ⟨_, rfl, _, _, rfl, rfl, .inl ⟨by decide, by decide⟩, _, rfl, _, rfl, a, b, r, rfl, ha, hb, ?_⟩
    refine ⟨_, rfl, _, rfl, _, rfl, _, rfl, _, _, rfl, rfl, _, rfl, a, nl b, rfl, SqL.of ha, fun l hl => ?_⟩
    refine ⟨line (by show 2 ≤ 16000000; decide), fun p hp => ?_⟩
    have k1 : Kp W0 H _ := kp_at hp (Kp.refl.new hl)
    refine q _ p (k1.new hp) ⟨k1.tr p hp, l, hl, upd_same, ?_⟩
    rw [upd_ne (ne_of_none upd_same hp), upd_same]
    exact congrArg (fun z => some (HO.lst z)) (cut_child b r)
theorem ok_content_of {f : Addr} {fd : FuncData} (F : Fun K "content_of" "content_of" s_content_of f fd) (T : Txt K mg CA CM)  : FnOk P w K mg base CX0 1 f fd ["left", "right"] (sp_content_of K CA CM) := by
  refine F.ok sc_content_of (fun vs H Q E h => ?_) (fun cdv A outer s H vs Q E hr h => ?_)
  · obtain ⟨a, b, l, r, rfl, _⟩ := h
    rfl
  · obtain ⟨a, b, l, r, rfl, ⟨c, ⟨ha, _⟩, ⟨hc, _⟩⟩, ⟨d, ⟨hb, _⟩, ⟨hd, _⟩⟩, hl32, hr32, q⟩ := h
    have kl : l.key.length = 32 := hl32
    have kr : r.key.length = 32 := hr32
    refine ⟨_, (pss_one (ps_ret (pe_op op_cat (pe_op op_cat (pe_op op_cat (pe_ix ix_tup (pv 0) pe_int (fun _ _ => rfl)) (pe_ix ix_tup (pv 1) pe_int (fun _ _ => rfl))) (pe_lst (pa_cons (pe_ix ix_tup (pv 0) pe_int (fun _ _ => rfl)) (pa_cons (pe_ix ix_tup (pv 1) pe_int (fun _ _ => rfl)) pa_nil)))) (pe_op op_rep (pe_lst (pa_cons pe_int pa_nil)) (pe_op op_sub (pe_op op_sub (pe_g T.g_PAGE_BYTES rfl) (pe_g T.g_COPIES_AT rfl)) pe_int))))), ?_⟩
    refine ⟨_, rfl, a, _, _, _, rfl, rfl, SqT.of ha, at_of (j := 1) rfl rfl, _, rfl, b, _, _, _, rfl, rfl, SqT.of hb, at_of (j := 1) rfl rfl, ?_⟩
    refine ⟨c, d, _, _, rfl, rfl, hc, hd, line (by rw [nl_len, nl_len, kl, kr]; decide), fun l1 h1 => ?_⟩
    refine ⟨_, rfl, a, _, _, _, rfl, rfl, SqT.of (up1 ha h1), at_of (j := 0) rfl rfl, _, rfl, b, _, _, _, rfl, rfl, SqT.of (up1 hb h1), at_of (j := 0) rfl rfl, line (by show 2 ≤ 16000000; decide), fun l2 h2 => ?_⟩
    refine ⟨l1, l2, _, _, rfl, rfl, up1 upd_same h2, upd_same, line (by rw [List.length_append, nl_len, nl_len, kl, kr]; show (32 + 32) + 2 ≤ 16000000; decide), fun l3 h3 => ?_⟩
    refine ⟨line (by show 1 ≤ 16000000; decide), fun l4 h4 => ?_⟩
    refine ⟨_, _, rfl, rfl, _, _, rfl, rfl, l4, 30, _, rfl, rfl, upd_same, by decide, by decide, line (by decide), fun l5 h5 => ?_⟩
    refine ⟨l3, l5, _, _, rfl, rfl, up1 (up1 upd_same h4) h5, upd_same, line (by rw [List.length_append, List.length_append, nl_len, nl_len, kl, kr]; show ((32 + 32) + 2) + 30 ≤ 16000000; decide), fun p hp => ?_⟩
    have k5 : Kp W0 H _ := kp_at hp ((kp_at h5 ((kp_at h4 ((kp_at h3 ((kp_at h2 (Kp.refl.new h1)).new h2)).new h3)).new h4)).new h5)
    refine q _ p (k5.new hp) ⟨k5.tr p hp, ?_⟩
    rw [upd_same]
    refine congrArg (fun z => some (HO.lst z)) ?_
    show ((nl l.key ++ nl r.key) ++ [V.int (l.copy : Int), V.int (r.copy : Int)]) ++ (List.replicate 30 [V.int 0]).flatten = nl (l.key ++ r.key ++ [l.copy, r.copy] ++ zeros 30)
    rw [nl_app, nl_app, nl_app, nl_zeros 30]
    rfl
theorem ok_with_child {f : Addr} {fd : FuncData} (F : Fun K "with_child" "with_child" s_with_child f fd) (T : Txt K mg CA CM) (c_content_of : Cal P w K mg base "content_of" 1 ["left", "right"] (sp_content_of K CA CM)) (c_child_link : Cal P w K mg base "child_link" 2 ["content", "side"] (sp_child_link K CA CM)) : FnOk P w K mg base CX0 3 f fd ["content", "side", "link"] (sp_with_child K CA CM) := by
  refine F.ok sc_with_child (fun vs H Q E h => ?_) (fun cdv A outer s H vs Q E hr h => ?_)
  · obtain ⟨a, c, b, r, x, rfl, _⟩ := h
    rfl
  · obtain ⟨a, c, b, r, x, rfl, ha, hb, hx, hx32, q⟩ := h
    refine ⟨_, (pss_cons (ps_if (pt_cmpR op_eq (pv 1) pe_int (nomark _)) (pss_one (ps_ret (pe_c c_content_of (hr.mono (by decide)) rfl (pa_cons (pv 2) (pa_cons (pe_c c_child_link (hr.mono (by decide)) rfl (pa_cons (pv 0) (pa_cons pe_int pa_nil))) pa_nil))))) pss_nil)
      (pss_one (ps_ret (pe_c c_content_of (hr.mono (by decide)) rfl (pa_cons (pe_c c_child_link (hr.mono (by decide)) rfl (pa_cons (pv 0) (pa_cons pe_int pa_nil))) (pa_cons (pv 2) pa_nil)))))), ?_⟩
    refine ⟨_, rfl, rfl, _, rfl, ?_⟩
    cases r
    · refine if_true_of (decide_eq_true rfl) ?_
      refine ⟨_, rfl, _, rfl, a, b, true, rfl, ha, hb, fun H1 l g1 n1 => ?_⟩
      refine ⟨c, l, x, childRef b true, rfl, hx.keep g1 (fun _ z => z), n1.at_ Trk.zero, hx32, child_ok hb true, fun H2 p g2 n2 => ?_⟩
      exact q H2 p (g1.trans g2) (n2.before g1)
    · refine if_false_of (decide_eq_false (by decide)) ?_
      refine ⟨_, rfl, a, b, false, rfl, ha, hb, fun H1 l g1 n1 => ?_⟩
      refine ⟨_, rfl, l, c, childRef b false, x, rfl, n1.at_ Trk.zero, hx.keep g1 (fun _ z => z), child_ok hb false, hx32, fun H2 p g2 n2 => ?_⟩
      exact q H2 p (g1.trans g2) (n2.before g1)
theorem ok_leaf_content {f : Addr} {fd : FuncData} (F : Fun K "leaf_content" "leaf_content" s_leaf_content f fd) (T : Txt K mg CA CM)  : FnOk P w K mg base CX0 1 f fd ["data"] (sp_leaf_content K CA CM) := by
  refine F.ok sc_leaf_content (fun vs H Q E h => ?_) (fun cdv A outer s H vs Q E hr h => ?_)
  · obtain ⟨a, b, rfl, _⟩ := h
    rfl
  · obtain ⟨a, b, rfl, ha, hb, q⟩ := h
    refine ⟨_, (pss_one (ps_ret (pe_op op_cat (pv 0) (pe_op op_rep (pe_lst (pa_cons pe_int pa_nil)) (pe_op op_sub (pe_g T.g_PAGE_BYTES rfl) (pe_g T.g_DATA_BYTES rfl)))))), ?_⟩
    refine ⟨_, rfl, line (by show 1 ≤ 16000000; decide), fun l hl => ?_⟩
    refine ⟨_, _, rfl, rfl, l, 32, _, rfl, rfl, upd_same, by decide, by decide, line (by decide), fun m hm => ?_⟩
    refine ⟨a, m, _, _, rfl, rfl, up1 (up1 ha hl) hm, upd_same, line (by rw [nl_len, hb]; decide), fun p hp => ?_⟩
    have k2 : Kp W0 H _ := kp_at hp ((kp_at hm (Kp.refl.new hl)).new hm)
    refine q _ p (k2.new hp) ⟨k2.tr p hp, ?_⟩
    rw [upd_same]
    refine congrArg (fun z => some (HO.lst z)) ?_
    show nl b ++ (List.replicate 32 [V.int 0]).flatten = nl (b ++ zeros 32)
    rw [nl_app, nl_zeros 32]
theorem ok_leaf_data {f : Addr} {fd : FuncData} (F : Fun K "leaf_data" "leaf_data" s_leaf_data f fd) (T : Txt K mg CA CM)  : FnOk P w K mg base CX0 1 f fd ["content"] (sp_leaf_data K CA CM) := by
  refine F.ok sc_leaf_data (fun vs H Q E h => ?_) (fun cdv A outer s H vs Q E hr h => ?_)
  · obtain ⟨a, b, rfl, _⟩ := h
    rfl
  · obtain ⟨a, b, rfl, ha, q⟩ := h
    refine ⟨_, (pss_one (ps_ret (pe_slice sl_list (pv 0) po_none (po_some (pe_g T.g_DATA_BYTES rfl))))), ?_⟩
    refine ⟨_, rfl, _, rfl, a, nl b, rfl, SqL.of ha, fun p hp => ?_⟩
    refine q _ p (Kp.refl.new hp) ⟨hp, ?_⟩
    rw [upd_same]
    refine congrArg (fun z => some (HO.lst z)) ?_
    exact (cut_up (nl b) 64).trans (nl_take b 64)
theorem ok_way_to {f : Addr} {fd : FuncData} (F : Fun K "way_to" "way_to" s_way_to f fd) (T : Txt K mg CA CM)  : FnOk P w K mg base CX0 1 f fd ["slot"] (sp_way_to K CA CM) := by
  refine F.ok sc_way_to (fun vs H Q E h => ?_) (fun cdv A outer s H vs Q E hr h => ?_)
  · obtain ⟨i, rfl, _⟩ := h
    rfl
  · obtain ⟨n, rfl, hn, q⟩ := h
    refine ⟨_, (pss_cons (ps_set (i := 1) sc_way_to.nd rfl (Or.inl rfl) (pe_lst pa_nil))
      (pss_cons (ps_set (i := 2) sc_way_to.nd rfl (Or.inl rfl) (pe_op op_add (pe_g T.g_FIRST_LEAF rfl) (pv 0)))
      (pss_cons (ps_for PassesOwn.never rfl (pi_range1 rfl T.zRange (pa_cons (pe_g T.g_LEVELS rfl) pa_nil)) (pg_name (i := 3) sc_way_to.nd rfl (Or.inl rfl))
      (pss_cons (ps_expr (pe_bm PySem.F.plainAttrs_list PySem.F.slot_list_append PySem.F.type_list_append mt_append (pv 1) (pa_cons (pv 2) pa_nil)))
      (pss_one (ps_set (i := 2) sc_way_to.nd rfl (Or.inl rfl) (pe_op op_fdiv (pv 2) pe_int)))))
      (pss_one (ps_ret (pe_revL (pv 1))))))), ?_⟩
    refine ⟨Nat.zero_le _, fun l hl => ?_⟩
    refine ⟨_, rfl, _, _, rfl, rfl, 11, rfl, by decide, by decide, for_range (lo := 0) (n := 11) (fun i σ H' => ∃ v, σ = [some (.int (n : Int)), some (.ref l), some (.int (((1024 + n) / 2 ^ i : Nat) : Int)), v] ∧ Kp W0 H H' ∧ H' l = some (.lst (nl ((List.range i).map fun j => (1024 + n) / 2 ^ j)))) ⟨none, ?_, Kp.refl.new hl, upd_same⟩ ?_ ?_⟩
    · show [some (V.int (n : Int)), some (.ref l), some (.int (1024 + (n : Int))), none] = [some (V.int (n : Int)), some (.ref l), some (.int (((1024 + n) / 2 ^ 0 : Nat) : Int)), none]
      rw [Nat.pow_zero, Nat.div_one]
      rfl
    · rintro i σ H1 hi ⟨v, rfl, g, h1⟩
      refine ⟨_, rfl, .inl ⟨rfl, _, SqL.of h1⟩, _, rfl, l, _, _, rfl, rfl, h1, line_lt (by rw [nl_len, List.length_map, List.length_range]; omega), ?_⟩
      refine ⟨_, rfl, _, _, rfl, rfl, ⟨by decide, by decide⟩, ?_⟩
      refine ⟨some (.int (0 + (i : Int))), ?_, g.own hl, ?_⟩
      · show [some (V.int (n : Int)), some (.ref l), some (.int (((1024 + n) / 2 ^ i : Nat) / 2 : Int)), some (.int (0 + (i : Int)))] = [some (V.int (n : Int)), some (.ref l), some (.int (((1024 + n) / 2 ^ (i + 1) : Nat) : Int)), some (.int (0 + (i : Int)))]
        rw [Nat.pow_succ, ← Nat.div_div_eq_div_mul]
        rfl
      · rw [upd_same, List.range_succ, List.map_append, nl_app]
        rfl
    · rintro σ H1 ⟨v, rfl, g, h1⟩
      refine ⟨_, rfl, l, _, rfl, SqL.of h1, fun p hp => ?_⟩
      refine q _ p (g.new hp) ⟨g.tr p hp, ?_⟩
      rw [upd_same, nl_rev, ways_rev]
theorem ok_side_of {f : Addr} {fd : FuncData} (F : Fun K "side_of" "side_of" s_side_of f fd) (T : Txt K mg CA CM)  : FnOk P w K mg base CX0 1 f fd ["node"] (sp_side_of K CA CM) := by
  refine F.ok sc_side_of (fun vs H Q E h => ?_) (fun cdv A outer s H vs Q E hr h => ?_)
  · obtain ⟨n, rfl, _⟩ := h
    rfl
  · obtain ⟨n, rfl, q⟩ := h
    refine ⟨_, (pss_one (ps_ret (pe_op op_mod (pv 0) pe_int))), ?_⟩
    refine ⟨_, rfl, _, _, rfl, rfl, (by show (0 : Int) < 2; decide), ?_⟩
    rw [← sd_mod] at q
    exact q
theorem ok_page_of {f : Addr} {fd : FuncData} (F : Fun K "page_of" "page_of" s_page_of f fd) (T : Txt K mg CA CM)  : FnOk P w K mg base CX0 1 f fd ["node", "which"] (sp_page_of K CA CM) := by
  refine F.ok sc_page_of (fun vs H Q E h => ?_) (fun cdv A outer s H vs Q E hr h => ?_)
  · obtain ⟨n, c, rfl, _⟩ := h
    rfl
  · obtain ⟨n, c, rfl, hn, hn2, q⟩ := h
    refine ⟨_, (pss_one (ps_ret (pe_op op_sub (pe_op op_add (pe_op op_mul pe_int (pv 0)) (pv 1)) pe_int))), ?_⟩
    refine ⟨_, rfl, _, _, rfl, rfl, .inl ⟨by decide, by decide⟩, _, rfl, _, _, rfl, rfl, _, _, rfl, rfl, ?_⟩
    have e : ((pageOf n c : Nat) : Int) = 2 * (n : Int) + (c : Int) - 1 := by
      unfold pageOf
      omega
    rw [e] at q
    exact q
theorem ok_other_copy {f : Addr} {fd : FuncData} (F : Fun K "other_copy" "other_copy" s_other_copy f fd) (T : Txt K mg CA CM)  : FnOk P w K mg base CX0 1 f fd ["which"] (sp_other_copy K CA CM) := by
  refine F.ok sc_other_copy (fun vs H Q E h => ?_) (fun cdv A outer s H vs Q E hr h => ?_)
  · obtain ⟨c, rfl, _⟩ := h
    rfl
  · obtain ⟨c, rfl, q⟩ := h
    refine ⟨_, (pss_cons (ps_if (pt_cmpR op_eq (pv 0) pe_int (nomark _)) (pss_one (ps_ret pe_int)) pss_nil)
      (pss_one (ps_ret pe_int))), ?_⟩
    refine ⟨_, rfl, rfl, _, rfl, ?_⟩
    have e := dec_int c 1
    by_cases hc : c = 1
    · refine if_true_of (e.trans (decide_eq_true hc)) ?_
      have q1 : ((other c : Nat) : Int) = 2 := by
        unfold other
        rw [if_pos hc]
        rfl
      rw [q1] at q
      exact q
    · refine if_false_of (e.trans (decide_eq_false hc)) ?_
      have q1 : ((other c : Nat) : Int) = 1 := by
        unfold other
        rw [if_neg hc]
        rfl
      rw [q1] at q
      exact q
theorem ok_copies_fit {f : Addr} {fd : FuncData} (F : Fun K "copies_fit" "copies_fit" s_copies_fit f fd) (T : Txt K mg CA CM) (c_child_copy : Cal P w K mg base "child_copy" 1 ["content", "side"] (sp_child_copy K CA CM)) : FnOk P w K mg base CX0 2 f fd ["content"] (sp_copies_fit K CA CM) := by
  refine F.ok sc_copies_fit (fun vs H Q E h => ?_) (fun cdv A outer s H vs Q E hr h => ?_)
  · obtain ⟨a, b, rfl, _⟩ := h
    rfl
  · obtain ⟨a, b, rfl, ha, hb, q⟩ := h
    refine ⟨_, (pss_one (ps_ret (pe_and (pe_cmpR op_le (pe_c c_child_copy (hr.mono (by decide)) rfl (pa_cons (pv 0) (pa_cons pe_int pa_nil))) (pe_g T.g_LAST_COPY rfl) (nomark _)) (pe_one (pe_cmpR op_le (pe_c c_child_copy (hr.mono (by decide)) rfl (pa_cons (pv 0) (pa_cons pe_int pa_nil))) (pe_g T.g_LAST_COPY rfl) (nomark _)))))), ?_⟩
    refine ⟨_, rfl, a, b, false, rfl, ha, hb, _, _, rfl, rfl, _, rfl, ?_⟩
    by_cases h1 : b.getD 64 0 ≤ 2
    · refine if_true_of (decide_eq_true (show ((b.getD 64 0 : Nat) : Int) ≤ 2 by omega)) ?_
      refine ⟨_, rfl, a, b, true, rfl, ha, hb, _, _, rfl, rfl, ?_⟩
      by_cases h2 : b.getD 65 0 ≤ 2
      · rw [decide_eq_true (show Fit b from ⟨h1, h2⟩)] at q
        have e : decide (((childRef b true).copy : Int) ≤ 2) = true := decide_eq_true (show ((b.getD 65 0 : Nat) : Int) ≤ 2 by omega)
        show Q (V.bl (decide (((childRef b true).copy : Int) ≤ 2))) H
        rw [e]
        exact q
      · rw [decide_eq_false (show ¬ Fit b from fun z => h2 z.2)] at q
        have e : decide (((childRef b true).copy : Int) ≤ 2) = false := decide_eq_false (show ¬ ((b.getD 65 0 : Nat) : Int) ≤ 2 by omega)
        show Q (V.bl (decide (((childRef b true).copy : Int) ≤ 2))) H
        rw [e]
        exact q
    · refine if_false_of (decide_eq_false (show ¬ ((b.getD 64 0 : Nat) : Int) ≤ 2 by omega)) ?_
      rw [decide_eq_false (show ¬ Fit b from fun z => h1 z.1)] at q
      exact q
theorem ok_leaf_missing {f : Addr} {fd : FuncData} (F : Fun K "leaf_missing" "leaf_missing" s_leaf_missing f fd) (T : Txt K mg CA CM)  : FnOk P w K mg base CX0 1 f fd ["links"] (sp_leaf_missing K CA CM) := by
  refine F.ok sc_leaf_missing (fun vs H Q E h => ?_) (fun cdv A outer s H vs Q E hr h => ?_)
  · obtain ⟨a, rs, rfl, _⟩ := h
    rfl
  · obtain ⟨a, rs, rfl, ⟨us, ⟨ha, _⟩, hl, hg⟩, h11, q⟩ := h
    obtain ⟨c, e1, d, ⟨hc, _⟩, _⟩ := hg 10 (rs.getD 10 none_) (by rw [List.getD_eq_getElem?_getD, List.getElem?_eq_getElem (by omega)]; rfl)
    refine ⟨_, (pss_one (ps_ret (pe_cmpR op_eq (pe_ix ix_tup (pe_ix ix_list (pv 0) (pe_op op_sub (pe_g T.g_LEVELS rfl) pe_int) (fun _ _ => rfl)) pe_int (fun _ _ => rfl)) pe_int (nomark _)))), ?_⟩
    refine ⟨_, rfl, _, _, rfl, rfl, a, us, _, _, rfl, rfl, SqL.of ha, at_of (j := 10) rfl e1, c, _, _, _, rfl, rfl, SqT.of hc, at_of (j := 0) rfl rfl, rfl, ?_⟩
    rw [← dec_int] at q
    exact q
theorem ok_staying {f : Addr} {fd : FuncData} (F : Fun K "staying" "staying" s_staying f fd) (T : Txt K mg CA CM) (c_side_of : Cal P w K mg base "side_of" 1 ["node"] (sp_side_of K CA CM)) (c_child_copy : Cal P w K mg base "child_copy" 1 ["content", "side"] (sp_child_copy K CA CM)) : FnOk P w K mg base CX0 2 f fd ["nodes", "contents"] (sp_staying K CA CM) := by
  refine F.ok sc_staying (fun vs H Q E h => ?_) (fun cdv A outer s H vs Q E hr h => ?_)
  · obtain ⟨a, c, i, bs, rfl, _⟩ := h
    rfl
  · obtain ⟨a, c, i, bs, rfl, ha, ⟨us, ⟨hc, _⟩, hl, hg⟩, h10, h96, q⟩ := h
    refine ⟨_, (pss_cons (ps_set (i := 2) sc_staying.nd rfl (Or.inl rfl) pe_int)
      (pss_cons (ps_for PassesOwn.never rfl (pi_range1 rfl T.zRange (pa_cons (pe_op op_sub (pe_g T.g_LEVELS rfl) pe_int) pa_nil)) (pg_name (i := 3) sc_staying.nd rfl (Or.inl rfl))
      (pss_cons (ps_set (i := 4) sc_staying.nd rfl (Or.inl rfl) (pe_op op_sub pe_int (pe_c c_side_of (hr.mono (by decide)) rfl (pa_cons (pe_ix ix_list (pv 0) (pe_op op_add (pv 3) pe_int) (fun _ _ => rfl)) pa_nil))))
      (pss_one (ps_if (pt_cmpR op_ne (pe_c c_child_copy (hr.mono (by decide)) rfl (pa_cons (pe_ix ix_list (pv 1) (pv 3) (fun _ _ => rfl)) (pa_cons (pv 4) pa_nil))) pe_int (nomark _)) (pss_one (ps_set (i := 2) sc_staying.nd rfl (Or.inl rfl) (pe_op op_add (pv 3) pe_int))) pss_nil))))
      (pss_one (ps_ret (pv 2))))), ?_⟩
    refine ⟨_, _, rfl, rfl, 10, rfl, by decide, by decide, for_range (lo := 0) (n := 10) (fun j σ H' => H' = H ∧ ∃ v3 v4, σ = [some (.ref a), some (.ref c), some (.int ((stayN bs i j : Nat) : Int)), v3, v4]) ⟨rfl, none, none, rfl⟩ ?_ ?_⟩
    · rintro j σ H1 hj ⟨rfl, v3, v4, rfl⟩
      have hj2 : j < bs.length := by omega
      have eb : bs[j]? = some (bs.getD j (zeros 96)) := by rw [List.getD_eq_getElem?_getD, List.getElem?_eq_getElem hj2]; rfl
      obtain ⟨p, e1, e2, _⟩ := hg j _ eb
      have hb : (bs.getD j (zeros 96)).length = 96 := h96 _ (List.mem_of_getElem? eb)
      refine ⟨_, rfl, _, rfl, _, _, rfl, rfl, a, _, _, _, rfl, rfl, SqL.of ha, at_of (j := j + 1) (by omega) (nodes_get (by omega)), _, rfl, _, _, rfl, rfl, ?_⟩
      refine ⟨_, rfl, _, rfl, c, us, _, _, rfl, rfl, SqL.of hc, at_of (j := j) (by omega) e1, _, rfl, p, bs.getD j (zeros 96), !right_ i j, ?_, e2, hb, ?_⟩
      · show [V.ref p, V.int (1 - sd (right_ i j))] = _
        rw [sd_not]
      · refine ⟨rfl, _, rfl, ?_⟩
        have e := dec_int (childRef (bs.getD j (zeros 96)) (!right_ i j)).copy 0
        by_cases h0 : (childRef (bs.getD j (zeros 96)) (!right_ i j)).copy = 0
        · refine if_false_of (by rw [show decide (V.int ((childRef (bs.getD j (zeros 96)) (!right_ i j)).copy : Int) = V.int 0) = true from e.trans (decide_eq_true h0)]; rfl) ?_
          refine ⟨rfl, some (.int (0 + (j : Int))), some (.int (1 - sd (right_ i j))), ?_⟩
          rw [stayN_succ, if_neg (fun z => z h0)]
          rfl
        · refine if_true_of (by rw [show decide (V.int ((childRef (bs.getD j (zeros 96)) (!right_ i j)).copy : Int) = V.int 0) = false from e.trans (decide_eq_false h0)]; rfl) ?_
          refine ⟨_, rfl, _, _, rfl, rfl, rfl, some (.int (0 + (j : Int))), some (.int (1 - sd (right_ i j))), ?_⟩
          rw [stayN_succ, if_pos h0]
          refine congrArg (fun z => [some (V.ref a), some (.ref c), some (V.int z), _, _]) ?_
          omega
    · rintro σ H1 ⟨rfl, v3, v4, rfl⟩
      exact ⟨_, rfl, q⟩
end
end SF

set_option Elab.async false
set_option linter.all false
set_option maxRecDepth 100000
set_option maxHeartbeats 2000000
/-! SfAsk: the medium's and the asking's methods keep their promises. -/
namespace SF
open PySem PySem.Spec PyProof.Rows L2
open Ks189 (Bytes Ref Node Ev Dev zeros xor none_ other pageOf nodeAt right_ had leafOf)
section
variable {K : PySem.W.Frag} {CA CM : Addr} {W W' : Addr → Prop} {H H1 H' : Hp} {m dm aP p : Addr} {d d' : Dev} {A : Ad} {sc : Bytes} {t : Nat} {es : List Ev} {o : HO}
theorem As.kP (h : As CA CM W H A sc t es d) : A.k ≠ A.aP := by
  obtain ⟨s, e1, _⟩ := h.ex
  obtain ⟨⟨f, refs, _, _, e3, _⟩, _⟩ := h.med
  exact ne_of e1 e3 (by intro z; cases z)
theorem As.kL (h : As CA CM W H A sc t es d) : A.k ≠ A.aL := by
  obtain ⟨s, e1, _⟩ := h.ex
  exact ne_of e1 h.ask (by intro z; cases z)
theorem As.mL (h : As CA CM W H A sc t es d) : A.m ≠ A.aL := by
  obtain ⟨⟨f, refs, e1, _⟩, _⟩ := h.med
  exact ne_of e1 h.ask (by intro z; cases z)
theorem As.mP (h : As CA CM W H A sc t es d) : A.m ≠ A.aP := by
  obtain ⟨⟨f, refs, e1, _, e3, _⟩, _⟩ := h.med
  exact ne_of e1 e3 (by intro z; cases z)
/-- the medium is written, the asking stands -/
theorem As.medium (h : As CA CM W H A sc t es d) (k : Kp (WM A.m A.aP) H H') (md : MedAt CM W H' A.m A.dm A.aP d') : As CA CM W H' A sc t es d' := by
  obtain ⟨s, e1, e2⟩ := h.ex
  have s1 : ∀ b, WM A.m A.aP b → W b := fun b z => h.sub b (WA.mm b z)
  exact ⟨md, ⟨s, k.st _ _ e1 (fun z => z.elim h.nkm h.kP), e2.keep k s1⟩, k.st _ _ h.ask (fun z => z.elim h.mL.symm h.ne), h.sub, h.trk.keep k, h.small, h.ne, h.nkm⟩
theorem As.Wak (h : As CA CM W H A sc t es d) : W A.k := h.sub _ (.inr (.inr (.inl rfl)))
theorem As.Wam (h : As CA CM W H A sc t es d) : W A.m := h.sub _ (.inl rfl)
theorem As.WaL (h : As CA CM W H A sc t es d) : W A.aL := h.sub _ (.inr (.inr (.inr rfl)))
theorem As.WaP (h : As CA CM W H A sc t es d) : W A.aP := h.sub _ (.inr (.inl rfl))
theorem Old.ne {b q : Addr} {u : HO} (h : Old W H b u) (w : W q) : b ≠ q := fun z => h.2 (by rw [z]; exact w)
theorem Old.up {b q : Addr} {u v : HO} (h : Old W H b u) (w : W q) : Old W (upd H q v) b u := ⟨by rw [upd_ne (h.ne w)]; exact h.1, h.2⟩
theorem up2 {H : Hp} {b q : Addr} {o u : HO} (e : H b = some o) (n : b ≠ q) : upd H q u b = some o := by
  rw [upd_ne n]
  exact e
theorem As.new (h : As CA CM W H A sc t es d) (hp : H p = none) : As CA CM W (upd H p o) A sc t es d := h.gr (Kp.refl.new hp)
theorem ixN_nat {n j : Nat} (h : j < n) : ixN n (j : Int) = some j := by
  unfold ixN
  rw [if_pos (by omega), if_pos (by omega)]
  rfl
theorem len_more (es : List Ev) (e : Ev) : ((es ++ [e]).length : Int) = (es.length : Int) + 1 := by
  rw [List.length_append, List.length_singleton]
  omega
theorem start_ok : DevOk SF.start := ⟨len_zeros 40, fun _ _ => len_zeros 96⟩
theorem keep_ok {r : Bytes} (h : DevOk d) (hr : r.length = 40) : DevOk (d.on (.keep r)) := ⟨hr, h.2⟩
theorem write_ok {q : Nat} {b : Bytes} (h : DevOk d) (hb : b.length = 96) : DevOk (d.on (.write q b)) := ⟨h.1, fun p hp => by
  show (if p = q then b else d.page p).length = 96
  by_cases c : p = q
  · rw [if_pos c]
    exact hb
  · rw [if_neg c]
    exact h.2 p hp⟩
end
section
variable {P : Program} {w : World} {K : PySem.W.Frag} {mg : Str → Option Value} {base : Heap} {CA CM : Addr}
theorem ok_M_init {f : Addr} {fd : FuncData} (F : Fun K "__init__" "Medium.__init__" s_M_init f fd) (T : Txt K mg CA CM) (c_empty_front : Cal P w K mg base "empty_front" 1 [] (sp_empty_front K CA CM)) : FnOk P w K mg base CX0 2 f fd ["self"] (sp_M_init K CA CM) := by
  refine F.ok sc_M_init (fun vs H Q E h => ?_) (fun cdv A outer s H vs Q E hr h => ?_)
  · obtain ⟨m, dm, rfl, _⟩ := h
    rfl
  · obtain ⟨m, dm, rfl, hm, q⟩ := h
    refine ⟨_, (pss_cons (ps_fld (pv 0) (pe_c0 c_empty_front (hr.mono (by decide)) rfl) rfl)
      (pss_one (ps_fld (pv 0) (pe_lc (own := [("page", 1)]) (g := gName 1) rfl sc_M_init.nd (pi_range1 rfl T.zRange (pa_cons (pe_g T.g_PAGES rfl) pa_nil)) (blkOk_by (N := ["self", "page"]) (sc := defScope s_M_init) (by decide +kernel)) (fun _ _ _ _ _ => pg_name (i := 1) sc_M_init.nd rfl (Or.inl rfl)) (fun _ _ _ _ _ => pts_nil) (fun _ _ _ _ _ => (pe_op op_rep (pe_lst (pa_cons pe_int pa_nil)) (pe_g T.g_PAGE_BYTES rfl)))) rfl))), ?_⟩
    refine ⟨rfl, fun H1 f g1 n1 => ?_⟩
    refine ⟨_, rfl, m, CM, dm, [], rfl, g1.st _ _ hm (fun z => z), T.clM, T.nFro, (by show 0 < 1000; decide), ?_⟩
    have fm : f ≠ m := (ne_of_none hm n1.1).symm
    have k1 : Kp (fun b => b = m) H (upd H1 m (.ins CM dm (putF "front" (.ref f) []))) := g1.any.put rfl
    refine ⟨4096, rfl, by decide, by decide, fun D hD => lc_range (lo := 0) (n := 4096) (fun i H' => Kp (fun b => b = m) H H' ∧ H D = none ∧ f ≠ D ∧ m ≠ D ∧ H' f = some (.lst (nl (zeros 40))) ∧ H' m = some (.ins CM dm (putF "front" (.ref f) [])) ∧
      ∃ us, H' D = some (.lst us) ∧ us.length = i ∧ ∀ p, p < i → ∃ a, us[p]? = some (V.ref a) ∧ H a = none ∧ a ≠ D ∧ a ≠ m ∧ H' a = some (.lst (nl (zeros 96))))
      ⟨k1.new hD, k1.tr _ hD, ?_, ?_, ?_, ?_, [], upd_same, rfl, fun p hp => absurd hp (Nat.not_lt_zero _)⟩ ?_ ?_⟩
    · exact ne_of_none (up2 n1.2 fm) hD
    · exact ne_of_none upd_same hD
    · exact up1 (up2 n1.2 fm) hD
    · exact up1 upd_same hD
    · rintro i H2 hi ⟨k2, nD, nfD, nmD, hf, hm2, us, hus, hul, hug⟩
      refine ⟨rfl, line (by show 1 ≤ 16000000; decide), fun l hl => ?_⟩
      refine ⟨l, 96, _, rfl, rfl, upd_same, by decide, by decide, line (by decide), fun r hr => ?_⟩
      have k3 := kp_at hr (k2.new hl)
      have lD : l ≠ D := ne_new hus hl
      have rD : r ≠ D := ne_new (up1 hus hl) hr
      have rm : r ≠ m := ne_new (up1 hm2 hl) hr
      refine ⟨us, up1 (up1 hus hl) hr, line_lt (by omega), (k3.new hr).own nD, nD, nfD, nmD, up2 (up1 (up1 hf hl) hr) nfD, up2 (up1 (up1 hm2 hl) hr) nmD, us ++ [V.ref r], upd_same, ?_, fun p hp => ?_⟩
      · rw [List.length_append, hul]
        rfl
      · by_cases c : p < i
        · obtain ⟨a, e1, e2, e3, e4, e5⟩ := hug p c
          exact ⟨a, by rw [List.getElem?_append_left (by omega)]; exact e1, e2, e3, e4, up2 (up1 (up1 e5 hl) hr) e3⟩
        · have e : p = us.length := by omega
          refine ⟨r, by rw [e, List.getElem?_concat_length], k3.tr _ hr, rD, rm, ?_⟩
          refine up2 (upd_same.trans ?_) rD
          exact congrArg (fun z => some (HO.lst z)) (nl_zeros 96)
    · rintro H2 ⟨k2, nD, nfD, nmD, hf, hm2, us, hus, hul, hug⟩
      refine ⟨_, rfl, m, CM, dm, _, rfl, hm2, T.clM, T.nPag, (by show 1 < 1000; decide), ?_⟩
      refine q _ D nD (k2.put rfl) fun W tr => ⟨⟨f, us, upd_same.trans ?_, ⟨up2 hf fm, fun z => z.elim (fun z => tr _ z n1.1) nfD⟩, up2 hus nmD.symm, hul, fun p hp => ?_⟩, start_ok⟩
      · exact congrArg (fun z => some (HO.ins CM dm z)) (mF_new f D)
      · obtain ⟨a, e1, e2, e3, e4, e5⟩ := hug p hp
        exact ⟨a, e1, up2 e5 e4, fun z => z.elim (fun z => tr _ z e2) e3⟩
theorem ok_M_set_front {f : Addr} {fd : FuncData} (F : Fun K "set_front" "Medium.set_front" s_M_set_front f fd) (T : Txt K mg CA CM)  : FnOk P w K mg base CX0 1 f fd ["self", "content"] (sp_M_set_front K CA CM) := by
  refine F.ok sc_M_set_front (fun vs H Q E h => ?_) (fun cdv A outer s H vs Q E hr h => ?_)
  · obtain ⟨m, dm, aP, c, W, d, r, rfl, _⟩ := h
    rfl
  · obtain ⟨m, dm, aP, c, W, d, r, rfl, ⟨⟨f, refs, h1, h2, h3, h4, h5⟩, ok⟩, sub, trk, hc, hr40, q⟩ := h
    refine ⟨_, (pss_one (ps_fld (pv 0) (pe_callTy call_list_of rfl T.zList (by decide +kernel) (pa_cons (pv 1) pa_nil)) rfl)), ?_⟩
    refine ⟨_, rfl, c, nl r, rfl, .inl (SqL.of hc), fun l hl => ?_⟩
    refine ⟨_, rfl, m, CM, dm, _, rfl, up1 h1 hl, T.clM, T.nFro, (by show 2 < 1000; decide), ?_⟩
    have wm : W m := sub _ (.inl rfl)
    have nl_ : ¬ W l := fun z => trk _ z hl
    have k0 : Kp W0 H (upd H l (.lst (nl r))) := Kp.refl.new hl
    have k1 : Kp (WM m aP) H (upd H l (.lst (nl r))) := k0.any
    refine q _ (k1.put (.inl rfl)) ⟨⟨l, refs, ?_, ?_, ?_, h4, fun p hp => ?_⟩, keep_ok ok hr40⟩
    · rw [upd_same, mF_put]
    · exact Old.up ⟨upd_same, nl_⟩ wm
    · exact up2 (up1 h3 hl) (ne_of h3 h1 (by intro z; cases z))
    · obtain ⟨a, e1, e2⟩ := h5 p hp
      exact ⟨a, e1, (e2.gr k0).up wm⟩
theorem ok_M_set_page {f : Addr} {fd : FuncData} (F : Fun K "set_page" "Medium.set_page" s_M_set_page f fd) (T : Txt K mg CA CM)  : FnOk P w K mg base CX0 1 f fd ["self", "page", "content"] (sp_M_set_page K CA CM) := by
  refine F.ok sc_M_set_page (fun vs H Q E h => ?_) (fun cdv A outer s H vs Q E hr h => ?_)
  · obtain ⟨m, dm, aP, c, W, d, p, b, rfl, _⟩ := h
    rfl
  · obtain ⟨m, dm, aP, c, W, d, p, b, rfl, ⟨⟨f, refs, h1, h2, h3, h4, h5⟩, ok⟩, sub, trk, hp, hc, hb96, q⟩ := h
    refine ⟨_, (pss_one (ps_asg (pe_callTy call_list_of rfl T.zList (by decide +kernel) (pa_cons (pv 2) pa_nil)) (pg_sub (pe_fld (pv 0) rfl) (pv 1) set_list))), ?_⟩
    refine ⟨_, rfl, c, nl b, rfl, .inl (SqL.of hc), fun l hl => ?_⟩
    refine ⟨_, rfl, m, CM, dm, _, _, rfl, up1 h1 hl, T.clM, T.nPag, mF_pages f aP, _, rfl, aP, refs, _, p, rfl, rfl, up1 h3 hl, ixN_nat (by omega), ?_⟩
    have wp : W aP := sub _ (.inr rfl)
    have nl_ : ¬ W l := fun z => trk _ z hl
    have k0 : Kp W0 H (upd H l (.lst (nl b))) := Kp.refl.new hl
    have k1 : Kp (WM m aP) H (upd H l (.lst (nl b))) := k0.any
    refine q _ (k1.put (.inr rfl)) ⟨⟨f, refs.set p (V.ref l), ?_, ?_, upd_same, by rw [List.length_set]; exact h4, fun j hj => ?_⟩, write_ok ok hb96⟩
    · exact up2 (up1 h1 hl) (ne_of h1 h3 (by intro z; cases z))
    · exact (h2.gr k0).up wp
    · by_cases e : j = p
      · refine ⟨l, by rw [e, List.getElem?_set_self (by omega)], Old.up ⟨?_, nl_⟩ wp⟩
        rw [upd_same]
        show _ = some (HO.lst (nl (if j = p then b else d.page j)))
        rw [if_pos e]
      · obtain ⟨a, e1, e2⟩ := h5 j hj
        refine ⟨a, by rw [List.getElem?_set_ne (Ne.symm e)]; exact e1, ?_⟩
        show Old W _ a (.lst (nl (if j = p then b else d.page j)))
        rw [if_neg e]
        exact (e2.gr k0).up wp
theorem ok_A_init {f : Addr} {fd : FuncData} (F : Fun K "__init__" "Asking.__init__" s_A_init f fd) (T : Txt K mg CA CM)  : FnOk P w K mg base CX0 1 f fd ["self", "medium", "script"] (sp_A_init K CA CM) := by
  refine F.ok sc_A_init (fun vs H Q E h => ?_) (fun cdv A outer s H vs Q E hr h => ?_)
  · obtain ⟨m, dm, aP, k, dk, s, W, d, sc, rfl, _⟩ := h
    rfl
  · obtain ⟨m, dm, aP, k, dk, s, W, d, sc, rfl, hk, md, sub, trk, hs, q⟩ := h
    obtain ⟨⟨f, refs, h1, h2, h3, h4, h5⟩, ok⟩ := md
    refine ⟨_, (pss_cons (ps_fld (pv 0) (pv 1) rfl)
      (pss_cons (ps_fld (pv 0) (pv 2) rfl)
      (pss_cons (ps_fld (pv 0) pe_int rfl)
      (pss_cons (ps_fld (pv 0) pe_int rfl)
      (pss_one (ps_fld (pv 0) (pe_lst pa_nil) rfl)))))), ?_⟩
    refine ⟨_, rfl, _, rfl, k, CA, dk, [], rfl, hk, T.clA, T.nMed, (by show 0 < 1000; decide), ?_⟩
    refine ⟨_, rfl, _, rfl, k, CA, dk, _, rfl, upd_same, T.clA, T.nScr, (by show 1 < 1000; decide), ?_⟩
    refine ⟨_, rfl, k, CA, dk, _, rfl, upd_same, T.clA, T.nTak, (by show 2 < 1000; decide), ?_⟩
    refine ⟨_, rfl, k, CA, dk, _, rfl, upd_same, T.clA, T.nMan, (by show 3 < 1000; decide), ?_⟩
    refine ⟨Nat.zero_le _, fun l hl => ?_⟩
    refine ⟨_, rfl, k, CA, dk, _, rfl, up1 upd_same hl, T.clA, T.nAsk, (by show 4 < 1000; decide), ?_⟩
    have k4 := kp_at hl ((((Kp.refl (W := fun b => b = k) (H := H)).put rfl).put rfl).put rfl |>.put rfl)
    have nk : ∀ b u, H b = some (.lst u) → b ≠ k := fun b u e => ne_of e hk (by intro z; cases z)
    have hl0 : H l = none := k4.tr l hl
    have k5 := k4.new (o := .lst []) hl
    have k6 := k5.put (o := .ins CA dk (kF m s 0 0 l)) (p := k) rfl
    have mk : m ≠ k := ne_of h1 hk (by intro z; cases z)
    have old : ∀ b u, Old W H b (.lst u) → Old (fun b => W b ∨ b = k ∨ b = l) (upd (upd _ l (.lst [])) k (.ins CA dk (kF m s 0 0 l))) b (.lst u) := fun b u e =>
      ⟨k6.st _ _ e.1 (nk b u e.1), fun z => z.elim e.2 fun z => z.elim (nk b u e.1) fun z => ne_of_none e.1 hl0 z⟩
    rw [kF_new]
    refine q _ l hl0 k6 ⟨⟨⟨f, refs, k6.st _ _ h1 mk, old _ _ h2, k6.st _ _ h3 (nk _ _ h3), h4, fun p hp => ?_⟩, ok⟩, ⟨s, upd_same, old _ _ hs⟩, ?_, ?_, ?_, Small.nil, (ne_of_none h3 hl0).symm, mk.symm⟩
    · obtain ⟨a, e1, e2⟩ := h5 p hp
      exact ⟨a, e1, old _ _ e2⟩
    · exact up2 upd_same (ne_of_none hk hl0).symm
    · rintro b (z | z | z | z)
      · exact .inl (sub b (.inl z))
      · exact .inl (sub b (.inr z))
      · exact .inr (.inl z)
      · exact .inr (.inr z)
    · rintro b (z | z | z)
      · exact trk.keep k6 b z
      · rw [z, upd_same]
        exact fun z => nomatch z
      · rw [z, up2 upd_same (ne_of_none hk hl0).symm]
        exact fun z => nomatch z
theorem ok_A_note {f : Addr} {fd : FuncData} (F : Fun K "note" "Asking.note" s_A_note f fd) (T : Txt K mg CA CM)  : FnOk P w K mg base CX0 1 f fd ["self", "numbers"] (sp_A_note K CA CM) := by
  refine F.ok sc_A_note (fun vs H Q E h => ?_) (fun cdv A outer s H vs Q E hr h => ?_)
  · obtain ⟨A, W, sc, t, es, d, n, e, rfl, _⟩ := h
    rfl
  · obtain ⟨A, W, sc, t, es, d, n, e, rfl, as, he, hn, h98, q⟩ := h
    refine ⟨_, (pss_cons (ps_fldaug (pv 0) pe_int in_add)
      (pss_one (ps_expr (pe_bm PySem.F.plainAttrs_list PySem.F.slot_list_extend PySem.F.type_list_extend mt_extend (pe_fld (pv 0) rfl) (pa_cons (pv 1) pa_nil))))), ?_⟩
    obtain ⟨s, e1, e2⟩ := as.ex
    have nkn : n ≠ A.k := ne_of hn e1 (by intro z; cases z)
    have sz : (tells es).length ≤ 98 * es.length := tells_len as.small
    refine ⟨_, rfl, A.k, CA, A.dk, _, _, rfl, e1, T.clA, T.nMan, kF_many .., _, _, rfl, rfl, _, _, e1, (by show 5 < 1000; decide), ?_⟩
    rw [kF_putN]
    refine ⟨_, rfl, A.k, CA, A.dk, _, _, rfl, upd_same, T.clA, T.nAsk, kF_asked .., .inl ⟨rfl, _, SqL.of (up2 as.ask as.kL.symm)⟩, _, rfl, A.aL, n, _, _, rfl, rfl, up2 as.ask as.kL.symm, up2 hn nkn, line (by rw [il_len, il_len]; omega), ?_⟩
    have k1 := ((Kp.refl (W := WK A) (H := H)).put (o := .ins CA A.dk (kF A.m s (t : Int) ((es.length : Int) + 1) A.aL)) (p := A.k) (.inl rfl)).put (o := .lst (il (tells es) ++ il (evNums e))) (p := A.aL) (.inr rfl)
    refine q _ k1 ⟨as.med.keep k1 as.wk (fun z => z.elim as.nkm.symm as.mL) (fun z => z.elim as.kP.symm as.ne.symm), ⟨s, ?_, e2.keep k1 as.wk⟩, ?_, as.sub, as.trk.keep k1, as.small.more h98, as.ne, as.nkm⟩
    · rw [len_more]
      exact up2 upd_same as.kL
    · rw [upd_same, tells_more, il_app]
theorem ok_A_ask_front {f : Addr} {fd : FuncData} (F : Fun K "ask_front" "Asking.ask_front" s_A_ask_front f fd) (T : Txt K mg CA CM) (c_A_note : CalM P w K mg base CA "note" 1 ["self", "numbers"] (sp_A_note K CA CM)) : FnOk P w K mg base CX0 2 f fd ["self"] (sp_A_ask_front K CA CM) := by
  refine F.ok sc_A_ask_front (fun vs H Q E h => ?_) (fun cdv A outer s H vs Q E hr h => ?_)
  · obtain ⟨A, W, sc, t, es, d, rfl, _⟩ := h
    rfl
  · obtain ⟨A, W, sc, t, es, d, rfl, as, he, q⟩ := h
    refine ⟨_, (pss_cons (ps_expr (pe_m c_A_note T.clA (hr.mono (by decide)) (pv 0) (pa_cons (pe_lst (pa_cons pe_int pa_nil)) pa_nil)))
      (pss_one (ps_ret (pe_callTy call_list_of rfl T.zList (by decide +kernel) (pa_cons (pe_fld (pe_fld (pv 0) rfl) rfl) pa_nil))))), ?_⟩
    obtain ⟨s, e1, e2⟩ := as.ex
    refine ⟨_, rfl, A.k, A.dk, _, rfl, e1, kF_no _ _ _ _ _ (by decide +kernel) (by decide +kernel) (by decide +kernel) (by decide +kernel) (by decide +kernel), line (by show 1 ≤ 16000000; decide), fun n hn => ?_⟩
    refine ⟨A, W, sc, t, es, d, n, .know d.reg, rfl, as.new hn, he, upd_same, (by show 1 ≤ 98; decide), fun H1 g1 a1 => ?_⟩
    obtain ⟨s1, e3, e4⟩ := a1.ex
    obtain ⟨⟨f, refs, h1, h2, h3, h4, h5⟩, ok⟩ := a1.med
    refine ⟨_, rfl, A.k, CA, A.dk, _, _, rfl, e3, T.clA, T.nMed, kF_medium .., A.m, CM, A.dm, _, _, rfl, h1, T.clM, T.nFro, mF_front .., f, _, rfl, .inl (SqL.of h2.1), fun l hl => ?_⟩
    have k0 : Kp W0 H _ := Kp.refl.new (o := .lst [V.int 1]) hn
    have k1 : Kp (WA A) H H1 := k0.any.trans (g1.mono WA.k)
    exact q _ l (k1.new hl) (a1.new hl) ⟨upd_same, fun z => a1.trk _ z hl⟩ (k1.tr _ hl)
theorem ok_A_put_front {f : Addr} {fd : FuncData} (F : Fun K "put_front" "Asking.put_front" s_A_put_front f fd) (T : Txt K mg CA CM) (c_A_note : CalM P w K mg base CA "note" 1 ["self", "numbers"] (sp_A_note K CA CM)) (c_M_set_front : CalM P w K mg base CM "set_front" 1 ["self", "content"] (sp_M_set_front K CA CM)) : FnOk P w K mg base CX0 2 f fd ["self", "content"] (sp_A_put_front K CA CM) := by
  refine F.ok sc_A_put_front (fun vs H Q E h => ?_) (fun cdv A outer s H vs Q E hr h => ?_)
  · obtain ⟨A, W, sc, t, es, d, c, r, rfl, _⟩ := h
    rfl
  · obtain ⟨A, W, sc, t, es, d, c, r, rfl, as, he, hc, hr40, q⟩ := h
    refine ⟨_, (pss_cons (ps_expr (pe_m c_A_note T.clA (hr.mono (by decide)) (pv 0) (pa_cons (pe_op op_cat (pe_lst (pa_cons pe_int pa_nil)) (pv 1)) pa_nil)))
      (pss_one (ps_expr (pe_m c_M_set_front T.clM (hr.mono (by decide)) (pe_fld (pv 0) rfl) (pa_cons (pv 1) pa_nil))))), ?_⟩
    obtain ⟨s, e1, e2⟩ := as.ex
    refine ⟨_, rfl, A.k, A.dk, _, rfl, e1, kF_no _ _ _ _ _ (by decide +kernel) (by decide +kernel) (by decide +kernel) (by decide +kernel) (by decide +kernel), line (by show 1 ≤ 16000000; decide), fun l hl => ?_⟩
    refine ⟨_, rfl, l, c, _, _, rfl, rfl, upd_same, up1 hc.1 hl, line (by rw [nl_len, hr40]; decide), fun n hn => ?_⟩
    refine ⟨A, W, sc, t, es, d, n, .keep r, rfl, (as.new hl).new hn, he, upd_same, (by show (intL r).length + 1 ≤ 98; rw [ints_len, hr40]; decide), fun H1 g1 a1 => ?_⟩
    obtain ⟨s1, e3, e4⟩ := a1.ex
    obtain ⟨f, refs, h1, _⟩ := a1.med.ex
    have k0 : Kp W0 H _ := kp_at hn (Kp.refl.new hl)
    have k1 : Kp (WA A) H H1 := (k0.new hn).any.trans (g1.mono WA.k)
    refine ⟨_, rfl, A.k, CA, A.dk, _, _, rfl, e3, T.clA, T.nMed, kF_medium .., A.m, A.dm, _, rfl, h1, mF_sf .., _, rfl, A.m, A.dm, A.aP, c, W, d, r, rfl, a1.med, fun b z => a1.sub b (WA.mm b z), a1.trk, (hc.keep k1 as.sub).1, hr40, fun H2 g2 m2 => ?_⟩
    exact q H2 (k1.trans (g2.mono WA.mm)) (a1.medium g2 m2)
theorem ok_A_read_page {f : Addr} {fd : FuncData} (F : Fun K "read_page" "Asking.read_page" s_A_read_page f fd) (T : Txt K mg CA CM) (c_A_note : CalM P w K mg base CA "note" 1 ["self", "numbers"] (sp_A_note K CA CM)) : FnOk P w K mg base CX0 2 f fd ["self", "page"] (sp_A_read_page K CA CM) := by
  refine F.ok sc_A_read_page (fun vs H Q E h => ?_) (fun cdv A outer s H vs Q E hr h => ?_)
  · obtain ⟨A, W, sc, t, es, d, p, rfl, _⟩ := h
    rfl
  · obtain ⟨A, W, sc, t, es, d, p, rfl, as, he, hp, q⟩ := h
    refine ⟨_, (pss_cons (ps_expr (pe_m c_A_note T.clA (hr.mono (by decide)) (pv 0) (pa_cons (pe_lst (pa_cons pe_int (pa_cons (pv 1) pa_nil))) pa_nil)))
      (pss_one (ps_ret (pe_callTy call_list_of rfl T.zList (by decide +kernel) (pa_cons (pe_ix ix_list (pe_fld (pe_fld (pv 0) rfl) rfl) (pv 1) (fun _ _ => rfl)) pa_nil))))), ?_⟩
    obtain ⟨s, e1, e2⟩ := as.ex
    refine ⟨_, rfl, A.k, A.dk, _, rfl, e1, kF_no _ _ _ _ _ (by decide +kernel) (by decide +kernel) (by decide +kernel) (by decide +kernel) (by decide +kernel), _, rfl, line (by show 2 ≤ 16000000; decide), fun n hn => ?_⟩
    refine ⟨A, W, sc, t, es, d, n, .read p (d.page p), rfl, as.new hn, he, upd_same, (by show 2 ≤ 98; decide), fun H1 g1 a1 => ?_⟩
    obtain ⟨s1, e3, e4⟩ := a1.ex
    obtain ⟨⟨f, refs, h1, h2, h3, h4, h5⟩, ok⟩ := a1.med
    obtain ⟨a, e5, e6⟩ := h5 p hp
    refine ⟨_, rfl, A.k, CA, A.dk, _, _, rfl, e3, T.clA, T.nMed, kF_medium .., A.m, CM, A.dm, _, _, rfl, h1, T.clM, T.nPag, mF_pages .., _, rfl, A.aP, refs, _, _, rfl, rfl, SqL.of h3, at_of (j := p) rfl e5, a, _, rfl, .inl (SqL.of e6.1), fun l hl => ?_⟩
    have k0 : Kp W0 H _ := Kp.refl.new (o := .lst [V.int 3, V.int (p : Int)]) hn
    have k1 : Kp (WA A) H H1 := k0.any.trans (g1.mono WA.k)
    exact q _ l (k1.new hl) (a1.new hl) ⟨upd_same, fun z => a1.trk _ z hl⟩ (k1.tr _ hl)
theorem ok_A_write_page {f : Addr} {fd : FuncData} (F : Fun K "write_page" "Asking.write_page" s_A_write_page f fd) (T : Txt K mg CA CM) (c_A_note : CalM P w K mg base CA "note" 1 ["self", "numbers"] (sp_A_note K CA CM)) (c_M_set_page : CalM P w K mg base CM "set_page" 1 ["self", "page", "content"] (sp_M_set_page K CA CM)) : FnOk P w K mg base CX0 2 f fd ["self", "page", "content"] (sp_A_write_page K CA CM) := by
  refine F.ok sc_A_write_page (fun vs H Q E h => ?_) (fun cdv A outer s H vs Q E hr h => ?_)
  · obtain ⟨A, W, sc, t, es, d, p, c, b, rfl, _⟩ := h
    rfl
  · obtain ⟨A, W, sc, t, es, d, p, c, b, rfl, as, he, hp, hc, hb96, q⟩ := h
    refine ⟨_, (pss_cons (ps_expr (pe_m c_A_note T.clA (hr.mono (by decide)) (pv 0) (pa_cons (pe_op op_cat (pe_lst (pa_cons pe_int (pa_cons (pv 1) pa_nil))) (pv 2)) pa_nil)))
      (pss_one (ps_expr (pe_m c_M_set_page T.clM (hr.mono (by decide)) (pe_fld (pv 0) rfl) (pa_cons (pv 1) (pa_cons (pv 2) pa_nil)))))), ?_⟩
    obtain ⟨s, e1, e2⟩ := as.ex
    refine ⟨_, rfl, A.k, A.dk, _, rfl, e1, kF_no _ _ _ _ _ (by decide +kernel) (by decide +kernel) (by decide +kernel) (by decide +kernel) (by decide +kernel), _, rfl, line (by show 2 ≤ 16000000; decide), fun l hl => ?_⟩
    refine ⟨_, rfl, l, c, _, _, rfl, rfl, upd_same, up1 hc.1 hl, line (by rw [nl_len, hb96]; show 2 + 96 ≤ 16000000; decide), fun n hn => ?_⟩
    refine ⟨A, W, sc, t, es, d, n, .write p b, rfl, (as.new hl).new hn, he, upd_same, (by show (intL b).length + 1 + 1 ≤ 98; rw [ints_len, hb96]; decide), fun H1 g1 a1 => ?_⟩
    obtain ⟨s1, e3, e4⟩ := a1.ex
    obtain ⟨f, refs, h1, _⟩ := a1.med.ex
    have k0 : Kp W0 H _ := kp_at hn (Kp.refl.new hl)
    have k1 : Kp (WA A) H H1 := (k0.new hn).any.trans (g1.mono WA.k)
    refine ⟨_, rfl, A.k, CA, A.dk, _, _, rfl, e3, T.clA, T.nMed, kF_medium .., A.m, A.dm, _, rfl, h1, mF_sp .., _, rfl, _, rfl, A.m, A.dm, A.aP, c, W, d, p, b, rfl, a1.med, fun b z => a1.sub b (WA.mm b z), a1.trk, hp, (hc.keep k1 as.sub).1, hb96, fun H2 g2 m2 => ?_⟩
    exact q H2 (k1.trans (g2.mono WA.mm)) (a1.medium g2 m2)
theorem ok_A_new_key {f : Addr} {fd : FuncData} (F : Fun K "new_key" "Asking.new_key" s_A_new_key f fd) (T : Txt K mg CA CM) (c_A_note : CalM P w K mg base CA "note" 1 ["self", "numbers"] (sp_A_note K CA CM)) : FnOk P w K mg base CX0 2 f fd ["self"] (sp_A_new_key K CA CM) := by
  refine F.ok sc_A_new_key (fun vs H Q E h => ?_) (fun cdv A outer s H vs Q E hr h => ?_)
  · obtain ⟨A, W, sc, t, es, d, rfl, _⟩ := h
    rfl
  · obtain ⟨A, W, sc, t, es, d, rfl, as, he, q⟩ := h
    refine ⟨_, (pss_cons (ps_expr (pe_m c_A_note T.clA (hr.mono (by decide)) (pv 0) (pa_cons (pe_lst (pa_cons pe_int pa_nil)) pa_nil)))
      (pss_cons (ps_set (i := 1) sc_A_new_key.nd rfl (Or.inl rfl) (pe_fld (pv 0) rfl))
      (pss_cons (ps_fld (pv 0) (pe_op op_add (pv 1) (pe_g T.g_KEY_BYTES rfl)) rfl)
      (pss_one (ps_ret (pe_slice sl_list (pe_fld (pv 0) rfl) (po_some (pv 1)) (po_some (pe_op op_add (pv 1) (pe_g T.g_KEY_BYTES rfl))))))))), ?_⟩
    obtain ⟨s, e1, e2⟩ := as.ex
    refine ⟨_, rfl, A.k, A.dk, _, rfl, e1, kF_no _ _ _ _ _ (by decide +kernel) (by decide +kernel) (by decide +kernel) (by decide +kernel) (by decide +kernel), line (by show 1 ≤ 16000000; decide), fun n hn => ?_⟩
    refine ⟨A, W, sc, t, es, d, n, .any ((sc.drop t).take 32), rfl, as.new hn, he, upd_same, (by show 1 ≤ 98; decide), fun H1 g1 a1 => ?_⟩
    obtain ⟨s1, e3, e4⟩ := a1.ex
    refine ⟨_, rfl, A.k, CA, A.dk, _, _, rfl, e3, T.clA, T.nTak, kF_taken .., ?_⟩
    refine ⟨_, rfl, _, _, rfl, rfl, _, rfl, A.k, CA, A.dk, _, rfl, e3, T.clA, T.nTak, (by show 5 < 1000; decide), ?_⟩
    rw [kF_putT]
    refine ⟨_, rfl, A.k, CA, A.dk, _, _, rfl, upd_same, T.clA, T.nScr, kF_script .., _, rfl, _, rfl, _, rfl, _, _, rfl, rfl, _, rfl, s1, nl sc, rfl, SqL.of (e4.up a1.Wak).1, fun l hl => ?_⟩
    have k0 : Kp W0 H _ := Kp.refl.new (o := .lst [V.int 5]) hn
    have k1 : Kp (WA A) H H1 := k0.any.trans (g1.mono WA.k)
    have k2 := Kp.put (Kp.refl (W := WK A) (H := H1)) (o := .ins CA A.dk (kF A.m s1 ((t : Int) + 32) ((es ++ [Ev.any ((sc.drop t).take 32)]).length : Int) A.aL)) (p := A.k) (.inl rfl)
    have a2 : As CA CM W _ A sc (t + 32) (es ++ [.any ((sc.drop t).take 32)]) d := ⟨a1.med.keep k2 a1.wk (fun z => z.elim a1.nkm.symm a1.mL) (fun z => z.elim a1.kP.symm a1.ne.symm), ⟨s1, upd_same, e4.keep k2 a1.wk⟩, up2 a1.ask a1.kL.symm, a1.sub, a1.trk.keep k2, a1.small, a1.ne, a1.nkm⟩
    have k3 := k1.trans (k2.mono WA.k)
    refine q _ l (k3.new hl) (a2.new hl) ⟨upd_same.trans ?_, fun z => a2.trk _ z hl⟩ (k3.tr _ hl)
    refine congrArg (fun z => some (HO.lst z)) ?_
    refine (cut_nat (nl sc) t (t + 32)).trans ?_
    rw [nl_drop, nl_take, Nat.add_sub_cancel_left]
theorem ok_A_ask_pad {f : Addr} {fd : FuncData} (F : Fun K "ask_pad" "Asking.ask_pad" s_A_ask_pad f fd) (T : Txt K mg CA CM) (c_A_note : CalM P w K mg base CA "note" 1 ["self", "numbers"] (sp_A_note K CA CM)) (c_pad_of : Cal P w K mg base "pad_of" 1 ["key"] (sp_pad_of K CA CM)) : FnOk P w K mg base CX0 2 f fd ["self", "key"] (sp_A_ask_pad K CA CM) := by
  refine F.ok sc_A_ask_pad (fun vs H Q E h => ?_) (fun cdv A outer s H vs Q E hr h => ?_)
  · obtain ⟨A, W, sc, t, es, d, c, k, rfl, _⟩ := h
    rfl
  · obtain ⟨A, W, sc, t, es, d, c, k, rfl, as, he, hc, hk32, q⟩ := h
    refine ⟨_, (pss_cons (ps_expr (pe_m c_A_note T.clA (hr.mono (by decide)) (pv 0) (pa_cons (pe_op op_cat (pe_lst (pa_cons pe_int pa_nil)) (pv 1)) pa_nil)))
      (pss_one (ps_ret (pe_c c_pad_of (hr.mono (by decide)) rfl (pa_cons (pv 1) pa_nil))))), ?_⟩
    obtain ⟨s, e1, e2⟩ := as.ex
    refine ⟨_, rfl, A.k, A.dk, _, rfl, e1, kF_no _ _ _ _ _ (by decide +kernel) (by decide +kernel) (by decide +kernel) (by decide +kernel) (by decide +kernel), line (by show 1 ≤ 16000000; decide), fun l hl => ?_⟩
    refine ⟨_, rfl, l, c, _, _, rfl, rfl, upd_same, up1 hc.1 hl, line (by rw [nl_len, hk32]; decide), fun n hn => ?_⟩
    refine ⟨A, W, sc, t, es, d, n, .mix k (pad k), rfl, (as.new hl).new hn, he, upd_same, (by show (intL k).length + 1 ≤ 98; rw [ints_len, hk32]; decide), fun H1 g1 a1 => ?_⟩
    have k0 : Kp W0 H _ := kp_at hn (Kp.refl.new hl)
    have k1 : Kp (WA A) H H1 := (k0.new hn).any.trans (g1.mono WA.k)
    refine ⟨_, rfl, c, k, rfl, (hc.keep k1 as.sub).1, hk32, fun H2 p g2 n2 => ?_⟩
    exact q H2 p (k1.trans g2.any) (a1.gr g2) (n2.at_ a1.trk) (k1.tr _ n2.1)
end
end SF

set_option Elab.async false
set_option linter.all false
set_option maxRecDepth 100000
set_option maxHeartbeats 4000000
/-! SfWay: going the way, writing it anew. -/
namespace SF
open PySem PySem.Spec PyProof.Rows L2
open Ks189 (Bytes Ref Node Ev Dev zeros xor none_ other pageOf nodeAt right_ had leafOf)
section
variable {K : PySem.W.Frag} {CA CM : Addr} {W W' : Addr → Prop} {H H1 H' : Hp} {p b : Addr} {d : Dev} {A : Ad} {sc : Bytes} {t : Nat} {es : List Ev} {o u : HO}
theorem Old.wide (h : Old W H b u) (hp : H p = none) : Old (WP W p) (upd H p o) b u := ⟨up1 h.1 hp, fun z => z.elim h.2 (ne_of_none h.1 hp)⟩
theorem MedAt.wide {m dm aP : Addr} (h : MedAt CM W H m dm aP d) (hp : H p = none) : MedAt CM (WP W p) (upd H p o) m dm aP d := by
  obtain ⟨⟨f, refs, h1, h2, h3, h4, h5⟩, ok⟩ := h
  exact ⟨⟨f, refs, up1 h1 hp, h2.wide hp, up1 h3 hp, h4, fun q hq => by
    obtain ⟨a, e3, e4⟩ := h5 q hq
    exact ⟨a, e3, e4.wide hp⟩⟩, ok⟩
theorem As.wide (h : As CA CM W H A sc t es d) (hp : H p = none) : As CA CM (WP W p) (upd H p o) A sc t es d := by
  obtain ⟨s, e1, e2⟩ := h.ex
  obtain ⟨⟨f, refs, h1, h2, h3, h4, h5⟩, ok⟩ := h.med
  refine ⟨⟨⟨f, refs, up1 h1 hp, h2.wide hp, up1 h3 hp, h4, fun q hq => ?_⟩, ok⟩, ⟨s, up1 e1 hp, e2.wide hp⟩, up1 h.ask hp, fun b w => .inl (h.sub b w), ?_, h.small, h.ne, h.nkm⟩
  · obtain ⟨a, e3, e4⟩ := h5 q hq
    exact ⟨a, e3, e4.wide hp⟩
  · rintro b (z | z)
    · exact h.trk.keep (Kp.refl.new (W := W0) hp) b z
    · rw [z, upd_same]
      exact fun z => nomatch z
theorem As.notW (h : As CA CM W H A sc t es d) (hp : H p = none) : ∀ b, b = p → ¬ WA A b := fun b e w => h.trk b (h.sub b w) (by rw [e]; exact hp)
/-- a list of our own is written -/
theorem As.own (h : As CA CM W H A sc t es d) (w : W p) (n : ¬ WA A p) : As CA CM W (upd H p o) A sc t es d :=
  h.keep (Kp.refl.put (W := fun b => b = p) rfl) (fun b e => by rw [e]; exact w) fun b e => by rw [e]; exact n
theorem LinkAt.up {r : Ref} (h : LinkAt W H b r) (w : W p) : LinkAt W (upd H p o) b r := by
  obtain ⟨q, h1, h2⟩ := h
  exact ⟨q, h1.up w, h2.up w⟩
theorem LinkAt.new {r : Ref} (h : LinkAt W H b r) (hp : H p = none) : LinkAt W (upd H p o) b r := h.keep (Kp.refl.new (W := W0) hp) fun _ z => z.elim
theorem Each.at_ {α : Type} {R : Addr → α → Prop} {vs : List V} {xs : List α} {j : Nat} {x : α} (h : Each R vs xs) (e : xs[j]? = some x) : ∃ a, vs[j]? = some (V.ref a) ∧ R a x := h.2 j x e
theorem getD_get {α : Type} {l : List α} {j : Nat} {x : α} (h : j < l.length) : l[j]? = some (l.getD j x) := by
  rw [List.getD_eq_getElem?_getD, List.getElem?_eq_getElem h]
  rfl
end
section
variable {P : Program} {w : World} {K : PySem.W.Frag} {mg : Str → Option Value} {base : Heap} {CA CM : Addr}
theorem ok_read_node {f : Addr} {fd : FuncData} (F : Fun K "read_node" "read_node" s_read_node f fd) (T : Txt K mg CA CM) (c_A_read_page : CalM P w K mg base CA "read_page" 2 ["self", "page"] (sp_A_read_page K CA CM)) (c_A_ask_pad : CalM P w K mg base CA "ask_pad" 2 ["self", "key"] (sp_A_ask_pad K CA CM)) (c_under_pad : Cal P w K mg base "under_pad" 1 ["content", "pad"] (sp_under_pad K CA CM)) (c_page_of : Cal P w K mg base "page_of" 1 ["node", "which"] (sp_page_of K CA CM)) : FnOk P w K mg base CX0 3 f fd ["asking", "node", "link"] (sp_read_node K CA CM) := by
  refine F.ok sc_read_node (fun vs H Q E h => ?_) (fun cdv A outer s H vs Q E hr h => ?_)
  · obtain ⟨A, W, sc, t, es, d, v, l, r, rfl, _⟩ := h
    rfl
  · obtain ⟨A, W, sc, t, es, d, v, l, r, rfl, as, he, hv1, hv2, ⟨c, hl, hc⟩, hr32, hr2, q⟩ := h
    refine ⟨_, (pss_cons (ps_asg (pv 2) (pg_tup rfl (pgs_cons (pg_name (i := 3) sc_read_node.nd rfl (Or.inl rfl)) (pgs_cons (pg_name (i := 4) sc_read_node.nd rfl (Or.inl rfl)) pgs_nil))))
      (pss_cons (ps_set (i := 5) sc_read_node.nd rfl (Or.inl rfl) (pe_m c_A_read_page T.clA (hr.mono (by decide)) (pv 0) (pa_cons (pe_c c_page_of (hr.mono (by decide)) rfl (pa_cons (pv 1) (pa_cons (pv 3) pa_nil))) pa_nil)))
      (pss_cons (ps_set (i := 6) sc_read_node.nd rfl (Or.inl rfl) (pe_m c_A_ask_pad T.clA (hr.mono (by decide)) (pv 0) (pa_cons (pv 4) pa_nil)))
      (pss_one (ps_ret (pe_c c_under_pad (hr.mono (by decide)) rfl (pa_cons (pv 5) (pa_cons (pv 6) pa_nil)))))))), ?_⟩
    obtain ⟨s, e1, e2⟩ := as.ex
    have hp : pageOf v r.copy < 4096 := by
      unfold pageOf
      omega
    refine ⟨_, rfl, l, _, rfl, SqT.of hl.1, rfl, _, _, rfl, _, _, rfl, rfl, ?_⟩
    refine ⟨_, rfl, A.k, A.dk, _, rfl, e1, kF_no _ _ _ _ _ (by decide +kernel) (by decide +kernel) (by decide +kernel) (by decide +kernel) (by decide +kernel), _, rfl, _, rfl, v, r.copy, rfl, hv1, hv2, ?_⟩
    refine ⟨A, W, sc, t, es, d, pageOf v r.copy, rfl, as, by omega, hp, fun H1 p1 g1 a1 b1 n1 => ?_⟩
    obtain ⟨s1, e3, e4⟩ := a1.ex
    refine ⟨_, rfl, A.k, A.dk, _, rfl, e3, kF_no _ _ _ _ _ (by decide +kernel) (by decide +kernel) (by decide +kernel) (by decide +kernel) (by decide +kernel), _, rfl, ?_⟩
    refine ⟨A, W, sc, t, _, d, c, r.key, rfl, a1, by rw [List.length_append]; show es.length + 1 ≤ 1000; omega, BytesAt.keep hc g1 as.sub, hr32, fun H2 p2 g2 a2 b2 n2 => ?_⟩
    refine ⟨_, rfl, _, rfl, p1, p2, _, _, rfl, (BytesAt.keep b1 g2 a1.sub).1, b2.1, a1.med.ok.2 _ hp, len_pad _, fun H3 p3 g3 n3 => ?_⟩
    rw [List.append_assoc] at a2
    exact q H3 p3 (g1.trans (g2.trans g3.any)) (a2.gr g3) (n3.at_ a2.trk) (g1.tr _ (g2.tr _ n3.1))
theorem ok_go_way {f : Addr} {fd : FuncData} (F : Fun K "go_way" "go_way" s_go_way f fd) (T : Txt K mg CA CM) (c_way_to : Cal P w K mg base "way_to" 1 ["slot"] (sp_way_to K CA CM)) (c_root_link : Cal P w K mg base "root_link" 1 ["front"] (sp_root_link K CA CM)) (c_A_ask_front : CalM P w K mg base CA "ask_front" 2 ["self"] (sp_A_ask_front K CA CM)) (c_read_node : Cal P w K mg base "read_node" 3 ["asking", "node", "link"] (sp_read_node K CA CM)) (c_empty_content : Cal P w K mg base "empty_content" 1 [] (sp_empty_content K CA CM)) (c_no_link : Cal P w K mg base "no_link" 1 [] (sp_no_link K CA CM)) (c_copies_fit : Cal P w K mg base "copies_fit" 2 ["content"] (sp_copies_fit K CA CM)) (c_child_link : Cal P w K mg base "child_link" 2 ["content", "side"] (sp_child_link K CA CM)) (c_side_of : Cal P w K mg base "side_of" 1 ["node"] (sp_side_of K CA CM)) : FnOk P w K mg base CX0 4 f fd ["asking", "slot"] (sp_go_way K CA CM) := by
  refine F.ok sc_go_way (fun vs H Q E h => ?_) (fun cdv A outer s H vs Q E hr h => ?_)
  · obtain ⟨A, W, sc, t, d, i, rfl, _⟩ := h
    rfl
  · obtain ⟨A, W, sc, t, d, i, rfl, as, hi, qg, qb⟩ := h
    refine ⟨_, (pss_cons (ps_set (i := 2) sc_go_way.nd rfl (Or.inl rfl) (pe_c c_way_to (hr.mono (by decide)) rfl (pa_cons (pv 1) pa_nil)))
      (pss_cons (ps_set (i := 3) sc_go_way.nd rfl (Or.inl rfl) (pe_lst (pa_cons (pe_c c_root_link (hr.mono (by decide)) rfl (pa_cons (pe_m0 c_A_ask_front T.clA (hr.mono (by decide)) (pv 0)) pa_nil)) pa_nil)))
      (pss_cons (ps_set (i := 4) sc_go_way.nd rfl (Or.inl rfl) (pe_lst pa_nil))
      (pss_cons (ps_if (pt_cmpR op_gt (pe_ix ix_tup (pe_ix ix_list (pv 3) pe_int (fun _ _ => rfl)) pe_int (fun _ _ => rfl)) (pe_g T.g_LAST_COPY rfl) (nomark _)) (pss_one (ps_ret (pe_tup (pa_cons (pe_g T.g_GONE_WRONG rfl) (pa_cons (pv 3) (pa_cons (pv 4) pa_nil)))))) pss_nil)
      (pss_cons (ps_for PassesOwn.never rfl (pi_range1 rfl T.zRange (pa_cons (pe_op op_sub (pe_g T.g_LEVELS rfl) pe_int) pa_nil)) (pg_name (i := 5) sc_go_way.nd rfl (Or.inl rfl))
      (pss_one (ps_if (pt_cmpR op_eq (pe_ix ix_tup (pe_ix ix_list (pv 3) (pv 5) (fun _ _ => rfl)) pe_int (fun _ _ => rfl)) pe_int (nomark _)) (pss_cons (ps_expr (pe_bm PySem.F.plainAttrs_list PySem.F.slot_list_append PySem.F.type_list_append mt_append (pv 4) (pa_cons (pe_c0 c_empty_content (hr.mono (by decide)) rfl) pa_nil)))
      (pss_one (ps_expr (pe_bm PySem.F.plainAttrs_list PySem.F.slot_list_append PySem.F.type_list_append mt_append (pv 3) (pa_cons (pe_c0 c_no_link (hr.mono (by decide)) rfl) pa_nil))))) (pss_cons (ps_set (i := 6) sc_go_way.nd rfl (Or.inl rfl) (pe_c c_read_node (hr.mono (by decide)) rfl (pa_cons (pv 0) (pa_cons (pe_ix ix_list (pv 2) (pv 5) (fun _ _ => rfl)) (pa_cons (pe_ix ix_list (pv 3) (pv 5) (fun _ _ => rfl)) pa_nil)))))
      (pss_cons (ps_if (pt_not (pt_val (pe_c c_copies_fit (hr.mono (by decide)) rfl (pa_cons (pv 6) pa_nil)))) (pss_one (ps_ret (pe_tup (pa_cons (pe_g T.g_GONE_WRONG rfl) (pa_cons (pv 3) (pa_cons (pv 4) pa_nil)))))) pss_nil)
      (pss_cons (ps_expr (pe_bm PySem.F.plainAttrs_list PySem.F.slot_list_append PySem.F.type_list_append mt_append (pv 4) (pa_cons (pv 6) pa_nil)))
      (pss_one (ps_expr (pe_bm PySem.F.plainAttrs_list PySem.F.slot_list_append PySem.F.type_list_append mt_append (pv 3) (pa_cons (pe_c c_child_link (hr.mono (by decide)) rfl (pa_cons (pv 6) (pa_cons (pe_c c_side_of (hr.mono (by decide)) rfl (pa_cons (pe_ix ix_list (pv 2) (pe_op op_add (pv 5) pe_int) (fun _ _ => rfl)) pa_nil)) pa_nil))) pa_nil))))))))))
      (pss_one (ps_ret (pe_tup (pa_cons pe_int (pa_cons (pv 3) (pa_cons (pv 4) pa_nil))))))))))), ?_⟩
    refine ⟨_, rfl, i, rfl, hi, fun H1 n g1 b1 => ?_⟩
    have as1 := as.gr g1
    have bn1 : BytesAt W H1 n (nodesL i) := b1.at_ as.trk
    obtain ⟨s, e1, e2⟩ := as1.ex
    refine ⟨_, rfl, A.k, A.dk, _, rfl, e1, kF_no _ _ _ _ _ (by decide +kernel) (by decide +kernel) (by decide +kernel) (by decide +kernel) (by decide +kernel), ?_⟩
    refine ⟨A, W, sc, t, [], d, rfl, as1, Nat.zero_le _, fun H2 p2 g2 a2 b2 n2 => ?_⟩
    refine ⟨p2, d.reg, rfl, b2.1, as.med.ok.1, fun H3 l0 g3 n3 => ?_⟩
    have a3 := a2.gr g3
    have lk0 : LinkAt W H3 l0 (Ks189.rootOf d.reg) := n3.at_ a2.trk
    have bn3 : BytesAt W H3 n (nodesL i) := (BytesAt.keep bn1 g2 as1.sub).gr g3
    refine ⟨line (by show 1 ≤ 16000000; decide), fun lk hk => ?_⟩
    refine ⟨Nat.zero_le _, fun ct hct => ?_⟩
    have k3 : Kp (WA A) H H3 := g1.any.trans (g2.trans g3.any)
    have k4 := kp_at hct (k3.new hk)
    have nlk : ¬ WA A lk := a3.notW hk _ rfl
    have a4 := kp_at (W := W0) (H := H) hct |> fun _ => (a3.wide (o := .lst [V.ref l0]) hk)
    have nct : ¬ WA A ct := a4.notW hct _ rfl
    have a5 := a4.wide (o := .lst []) hct
    have hlk5 : upd (upd H3 lk (.lst [V.ref l0])) ct (.lst []) lk = some (.lst [V.ref l0]) := up1 upd_same hct
    have lk5 : LinkAt (WP (WP W lk) ct) (upd (upd H3 lk (.lst [V.ref l0])) ct (.lst [])) l0 (Ks189.rootOf d.reg) := by
      obtain ⟨q0, z1, z2⟩ := lk0
      exact ⟨q0, (z1.wide hk).wide hct, (z2.wide hk).wide hct⟩
    have bn5 : BytesAt (WP (WP W lk) ct) (upd (upd H3 lk (.lst [V.ref l0])) ct (.lst [])) n (nodesL i) := (Old.wide bn3 hk).wide hct
    have nlc : lk ≠ ct := ne_of_none (show upd H3 lk (.lst [V.ref l0]) lk = some _ from upd_same) hct
    have hk0 : H lk = none := k3.tr _ hk
    have hc0 : H ct = none := k4.tr _ hct
    have back : ∀ {H' : Hp} {es' : List Ev}, As CA CM (WP (WP W lk) ct) H' A sc t es' d → As CA CM W H' A sc t es' d := fun z => z.less (fun b y => .inl (.inl y)) as.sub
    obtain ⟨q0, z1, z2⟩ := id lk5
    refine ⟨_, rfl, lk, _, _, _, rfl, rfl, SqL.of hlk5, at_of (j := 0) rfl rfl, l0, _, _, _, rfl, rfl, SqT.of z1.1, at_of (j := 0) rfl rfl, _, _, rfl, rfl, _, rfl, ?_⟩
    by_cases h2 : 2 < (Ks189.rootOf d.reg).copy
    · refine if_true_of (decide_eq_true (show (2 : Int) < ((Ks189.rootOf d.reg).copy : Int) by omega)) ?_
      refine ⟨_, rfl, _, rfl, line (by show 3 ≤ 16000000; decide), fun p hp => ?_⟩
      have gb := goW_big (i := i) h2
      refine qb (by rw [gb]) _ p _ _ ((k4.new hct).new hp) ?_ ⟨upd_same, fun z => a5.trk p (.inl (.inl z)) hp⟩
      rw [gb]
      exact back (a5.new hp)
    · refine if_false_of (decide_eq_false (show ¬ (2 : Int) < ((Ks189.rootOf d.reg).copy : Int) by omega)) ?_
      have gs := goW_small (i := i) h2
      refine ⟨_, _, rfl, rfl, 10, rfl, by decide, by decide, for_range (lo := 0) (n := 10) (fun j σ H' => ∃ (es' : List Ev) (ls : List Ref) (cs : List Bytes) (us vs : List V) (x : Ref) (v5 v6 : Option V),
        σ = [some (.ref A.k), some (.int (i : Int)), some (.ref n), some (.ref lk), some (.ref ct), v5, v6] ∧ Kp (WA A) H H' ∧ As CA CM (WP (WP W lk) ct) H' A sc t es' d ∧
        H' lk = some (.lst us) ∧ Each (LinkAt (WP (WP W lk) ct) H') us (Ks189.rootOf d.reg :: ls) ∧ H' ct = some (.lst vs) ∧ Each (BytesAt (WP (WP W lk) ct) H') vs cs ∧
        BytesAt (WP (WP W lk) ct) H' n (nodesL i) ∧ ls.length = j ∧ cs.length = j ∧ (Ks189.rootOf d.reg :: ls)[j]? = some x ∧ RefOk x ∧ x.copy ≤ 2 ∧ es'.length ≤ 1 + 2 * j ∧
        goW d i = ⟨es' ++ (gw d i (10 - j) j x).evs, ls ++ (gw d i (10 - j) j x).links, cs ++ (gw d i (10 - j) j x).conts, (gw d i (10 - j) j x).ok⟩)
        ⟨[.know d.reg], [], [], [V.ref l0], [], Ks189.rootOf d.reg, none, none, rfl, k4.new hct, a5, hlk5, Each.nil.push lk5, upd_same, Each.nil, bn5, rfl, rfl, rfl, root_ok as.med.ok.1, by omega, Nat.le_refl _, gs⟩ ?_ ?_⟩
      · rintro j σ H' hj ⟨es', ls, cs, us, vs, x, v5, v6, rfl, k, a, hlk, el, hct', ec, bn, lsl, csl, hx, rx, x2, el', eq⟩
        obtain ⟨lx, ex1, lx2⟩ := el.at_ hx
        obtain ⟨qx, zx1, zx2⟩ := id lx2
        have ul : us.length = j + 1 := by rw [el.1, List.length_cons, lsl]
        have vl : vs.length = j := by rw [ec.1, csl]
        have wl : WP (WP W lk) ct lk := .inl (.inr rfl)
        have wc : WP (WP W lk) ct ct := .inr rfl
        have e10 : 10 - j = (10 - (j + 1)) + 1 := by omega
        refine ⟨_, rfl, _, rfl, lk, us, _, _, rfl, rfl, SqL.of hlk, at_of (j := j) (by omega) ex1, lx, _, _, _, rfl, rfl, SqT.of zx1.1, at_of (j := 0) rfl rfl, rfl, _, rfl, ?_⟩
        have ed := dec_int x.copy 0
        by_cases h0 : x.copy = 0
        · refine if_true_of (ed.trans (decide_eq_true h0)) ?_
          refine ⟨_, rfl, .inl ⟨rfl, _, SqL.of hct'⟩, rfl, fun H1 p g n' => ?_⟩
          have hct1 := g.st _ _ hct' (fun z => z)
          refine ⟨ct, vs, _, rfl, rfl, hct1, line_lt (by omega), ?_⟩
          have a1 := (a.gr g).own (o := .lst (vs ++ [V.ref p])) wc nct
          have kk := ((k.trans g.any).own (o := .lst (vs ++ [V.ref p])) hc0)
          have hlk1 := up2 (u := .lst (vs ++ [V.ref p])) (g.st _ _ hlk (fun z => z)) nlc
          refine ⟨_, rfl, .inl ⟨rfl, _, SqL.of hlk1⟩, rfl, fun H2 p2 g2 n2 => ?_⟩
          have hlk2 := g2.st _ _ hlk1 (fun z => z)
          refine ⟨lk, us, _, rfl, rfl, hlk2, line_lt (by omega), ?_⟩
          have kk2 := ((kk.trans g2.any).own (o := .lst (us ++ [V.ref p2])) hk0)
          have a2 := (a1.gr g2).own (o := .lst (us ++ [V.ref p2])) wl nlk
          have step : ∀ b u, Old (WP (WP W lk) ct) H' b u → Old (WP (WP W lk) ct) (upd H2 lk (.lst (us ++ [V.ref p2]))) b u := fun b u z => (((z.gr g).up wc).gr g2).up wl
          refine ⟨es', ls ++ [none_], cs ++ [zeros 96], us ++ [V.ref p2], vs ++ [V.ref p], none_, some (.int (0 + (j : Int))), v6, rfl, kk2, a2, upd_same, ?_, ?_, ?_, step _ _ bn, ?_, ?_, ?_, none_ok, Nat.zero_le _, by omega, ?_⟩
          · refine Each.push (xs := Ks189.rootOf d.reg :: ls) (el.mono fun a r z => ?_) ((n2.at_ a1.trk).up wl)
            obtain ⟨qq, y1, y2⟩ := z
            exact ⟨qq, step _ _ y1, step _ _ y2⟩
          · exact up2 (g2.st _ _ upd_same (fun z => z)) nlc.symm
          · exact Each.push (ec.mono fun a r z => step _ _ z) ((((n'.at_ a.trk).up wc).gr g2).up wl)
          · rw [List.length_append, lsl]
            rfl
          · rw [List.length_append, csl]
            rfl
          · show (Ks189.rootOf d.reg :: (ls ++ [none_]))[j + 1]? = _
            rw [List.getElem?_cons_succ, ← lsl, List.getElem?_concat_length]
          · rw [eq, e10, gw_zero h0]
            show (⟨es' ++ ([] ++ _), ls ++ (none_ :: _), cs ++ (zeros 96 :: _), _⟩ : Way) = _
            rw [List.nil_append, List.append_assoc, List.append_assoc]
            rfl
        · refine if_false_of (ed.trans (decide_eq_false h0)) ?_
          refine ⟨_, rfl, _, rfl, _, rfl, n, _, _, _, rfl, rfl, SqL.of bn.1, at_of (j := j) (by omega) (nodes_get (by omega)), _, rfl, _, rfl, lk, us, _, _, rfl, rfl, SqL.of hlk, at_of (j := j) (by omega) ex1, ?_⟩
          refine ⟨A, WP (WP W lk) ct, sc, t, es', d, nodeAt i j, lx, x, rfl, a, by omega, nodeAt_lo hi (by omega), nodeAt_hi hi, lx2, rx, x2, fun H1 p g a1 b1 n1 => ?_⟩
          have hu : (under d i j x).length = 96 := under_len as.med.ok hi x2
          have b1' : BytesAt (WP (WP W lk) ct) H1 p (under d i j x) := b1
          refine ⟨_, rfl, p, under d i j x, rfl, b1'.1, hu, _, rfl, ?_⟩
          have k1 := k.trans g
          have hlk1 := g.st _ _ hlk nlk
          have hct1 := g.st _ _ hct' nct
          by_cases hf : Fit (under d i j x)
          · refine if_false_of (by rw [decide_eq_true hf]; rfl) ?_
            refine ⟨_, rfl, .inl ⟨rfl, _, SqL.of hct1⟩, _, rfl, ct, vs, _, rfl, rfl, hct1, line_lt (by omega), ?_⟩
            have a2 := a1.own (o := .lst (vs ++ [V.ref p])) wc nct
            have k2 := (k1.own (o := .lst (vs ++ [V.ref p])) hc0)
            have hlk2 := up2 (u := .lst (vs ++ [V.ref p])) hlk1 nlc
            have bn2 := (BytesAt.keep bn g a.sub).up (v := .lst (vs ++ [V.ref p])) wc
            refine ⟨_, rfl, .inl ⟨rfl, _, SqL.of hlk2⟩, _, rfl, _, rfl, _, rfl, _, _, rfl, rfl, n, _, _, _, rfl, rfl, SqL.of bn2.1, at_of (j := j + 1) (by omega) (nodes_get (by omega)), nodeAt i (j + 1), rfl, ?_⟩
            refine ⟨p, under d i j x, right_ i j, rfl, (Old.up b1' wc).1, hu, fun H2 p2 g2 n2 => ?_⟩
            have hlk3 := g2.st _ _ hlk2 (fun z => z)
            refine ⟨lk, us, _, rfl, rfl, hlk3, line_lt (by omega), ?_⟩
            have k3 := ((k2.trans g2.any).own (o := .lst (us ++ [V.ref p2])) hk0)
            have a3 := (a2.gr g2).own (o := .lst (us ++ [V.ref p2])) wl nlk
            have step : ∀ b u, Old (WP (WP W lk) ct) H1 b u → Old (WP (WP W lk) ct) (upd H2 lk (.lst (us ++ [V.ref p2]))) b u := fun b u z => ((z.up wc).gr g2).up wl
            have step0 : ∀ b u, Old (WP (WP W lk) ct) H' b u → Old (WP (WP W lk) ct) (upd H2 lk (.lst (us ++ [V.ref p2]))) b u := fun b u z => step b u (z.keep g a.sub)
            refine ⟨_, ls ++ [childRef (under d i j x) (right_ i j)], cs ++ [under d i j x], us ++ [V.ref p2], vs ++ [V.ref p], childRef (under d i j x) (right_ i j), some (.int (0 + (j : Int))), some (.ref p), rfl, k3, a3, upd_same, ?_, ?_, ?_, step0 _ _ bn, ?_, ?_, ?_, child_ok hu _, fit_le hf _, ?_, ?_⟩
            · refine Each.push (xs := Ks189.rootOf d.reg :: ls) (el.mono fun a r z => ?_) ((n2.at_ a2.trk).up wl)
              obtain ⟨qq, y1, y2⟩ := z
              exact ⟨qq, step0 _ _ y1, step0 _ _ y2⟩
            · exact up2 (g2.st _ _ upd_same (fun z => z)) nlc.symm
            · exact Each.push (ec.mono fun a r z => step0 _ _ z) (step _ _ b1')
            · rw [List.length_append, lsl]
              rfl
            · rw [List.length_append, csl]
              rfl
            · show (Ks189.rootOf d.reg :: (ls ++ [childRef (under d i j x) (right_ i j)]))[j + 1]? = _
              rw [List.getElem?_cons_succ, ← lsl, List.getElem?_concat_length]
            · rw [List.length_append]
              show es'.length + 2 ≤ _
              omega
            · rw [eq, e10, gw_fit h0 hf]
              show (⟨es' ++ (readEvs d i j x ++ _), ls ++ (_ :: _), cs ++ (_ :: _), _⟩ : Way) = _
              rw [List.append_assoc, List.append_assoc, List.append_assoc]
              rfl
          · refine if_true_of (by rw [decide_eq_false hf]; rfl) ?_
            refine ⟨_, rfl, _, rfl, line (by show 3 ≤ 16000000; decide), fun p2 hp2 => ?_⟩
            have ge : goW d i = ⟨es' ++ readEvs d i j x, ls, cs, false⟩ := by
              rw [eq, e10, gw_bad h0 hf]
              show (⟨_, ls ++ [], cs ++ [], _⟩ : Way) = _
              rw [List.append_nil, List.append_nil]
            refine qb (by rw [ge]) _ p2 _ _ (k1.new hp2) ?_ ⟨upd_same, fun z => a1.trk p2 (.inl (.inl z)) hp2⟩
            rw [ge]
            exact back (a1.new hp2)
      · rintro σ H' ⟨es', ls, cs, us, vs, x, v5, v6, rfl, k, a, hlk, el, hct', ec, bn, lsl, csl, hx, rx, x2, el', eq⟩
        have ge : goW d i = ⟨es', ls, cs, true⟩ := by
          rw [eq]
          show (⟨es' ++ [], ls ++ [], cs ++ [], true⟩ : Way) = _
          rw [List.append_nil, List.append_nil, List.append_nil]
        refine ⟨_, rfl, _, rfl, line (by show 3 ≤ 16000000; decide), fun p hp => ?_⟩
        have sW : ∀ b, W b → WP (WP W lk) ct b := fun b y => .inl (.inl y)
        refine qg (by rw [ge]) _ p lk ct (k.new hp) ?_ ⟨upd_same, fun z => a.trk p (sW _ z) hp⟩ ⟨us, ⟨up1 hlk hp, fun z => as.trk lk z hk0⟩, ?_⟩ ⟨vs, ⟨up1 hct' hp, fun z => as.trk ct z hc0⟩, ?_⟩
        · rw [ge]
          exact back (a.new hp)
        · unfold linksOf
          rw [ge]
          exact el.mono fun a r z => (z.new hp).sub sW
        · show Each _ _ (goW d i).conts
          rw [ge]
          exact ec.mono fun a r z => (Old.gr z (Kp.refl.new hp)).sub sW
end
end SF

set_option Elab.async false
set_option linter.all false
set_option maxRecDepth 100000
set_option maxHeartbeats 4000000
/-! SfRenew: new keys, a node written, the way renewed. -/
namespace SF
open PySem PySem.Spec PyProof.Rows L2
open Ks189 (Bytes Ref Node Ev Dev zeros xor none_ other pageOf nodeAt right_ had leafOf)
theorem pageEvs_nil : pageEvs [] = [] := rfl
theorem keysIn_zero (sc : Bytes) : keysIn sc 0 = [] := rfl
section
variable {P : Program} {w : World} {K : PySem.W.Frag} {mg : Str → Option Value} {base : Heap} {CA CM : Addr}
theorem ok_new_keys {f : Addr} {fd : FuncData} (F : Fun K "new_keys" "new_keys" s_new_keys f fd) (T : Txt K mg CA CM) (c_A_new_key : CalM P w K mg base CA "new_key" 2 ["self"] (sp_A_new_key K CA CM)) : FnOk P w K mg base CX0 3 f fd ["asking", "many"] (sp_new_keys K CA CM) := by
  refine F.ok sc_new_keys (fun vs H Q E h => ?_) (fun cdv A outer s H vs Q E hr h => ?_)
  · obtain ⟨A, W, sc, es, d, n, rfl, _⟩ := h
    rfl
  · obtain ⟨A, W, sc, es, d, n, rfl, as, he, hn, q⟩ := h
    refine ⟨_, (pss_cons (ps_set (i := 2) sc_new_keys.nd rfl (Or.inl rfl) (pe_lst pa_nil))
      (pss_cons (ps_for PassesOwn.never rfl (pi_range1 rfl T.zRange (pa_cons (pv 1) pa_nil)) (pg_name (i := 3) sc_new_keys.nd rfl (Or.inl rfl))
      (pss_one (ps_expr (pe_bm PySem.F.plainAttrs_list PySem.F.slot_list_append PySem.F.type_list_append mt_append (pv 2) (pa_cons (pe_m0 c_A_new_key T.clA (hr.mono (by decide)) (pv 0)) pa_nil)))))
      (pss_one (ps_ret (pv 2))))), ?_⟩
    refine ⟨Nat.zero_le _, fun ks hk => ?_⟩
    have nks : ¬ WA A ks := as.notW hk _ rfl
    refine ⟨_, rfl, (n : Int), rfl, by omega, by omega, for_range (lo := 0) (n := (n : Int).toNat) (fun j σ H' => ∃ us v3, σ = [some (.ref A.k), some (.int (n : Int)), some (.ref ks), v3] ∧ Kp (WA A) H H' ∧ As CA CM (WP W ks) H' A sc (32 * j) (es ++ (keysIn sc j).map .any) d ∧ H' ks = some (.lst us) ∧ Each (BytesAt (WP W ks) H') us (keysIn sc j))
      ⟨[], none, rfl, Kp.refl.new hk, ?_, upd_same, Each.nil⟩ ?_ ?_⟩
    · show As CA CM (WP W ks) _ A sc 0 (es ++ []) d
      rw [List.append_nil]
      exact as.wide hk
    · rintro j σ H' hj ⟨us, v3, rfl, k, a, hks, ek⟩
      obtain ⟨s, e1, e2⟩ := a.ex
      have ul : us.length = j := by rw [ek.1, keysIn_len]
      refine ⟨_, rfl, .inl ⟨rfl, _, SqL.of hks⟩, _, rfl, A.k, A.dk, _, rfl, e1, kF_no _ _ _ _ _ (by decide +kernel) (by decide +kernel) (by decide +kernel) (by decide +kernel) (by decide +kernel), ?_⟩
      refine ⟨A, WP W ks, sc, 32 * j, _, d, rfl, a, by rw [List.length_append, List.length_map, keysIn_len]; omega, fun H1 p g a1 b1 n1 => ?_⟩
      have hks1 := g.st _ _ hks nks
      refine ⟨ks, us, _, rfl, rfl, hks1, line_lt (by omega), ?_⟩
      refine ⟨us ++ [V.ref p], some (.int (0 + (j : Int))), rfl, (k.trans g).own hk, ?_, upd_same, ?_⟩
      · have a2 := a1.own (p := ks) (o := .lst (us ++ [V.ref p])) (.inr rfl) nks
        rw [keysIn_succ, List.map_append, ← List.append_assoc]
        exact a2
      · rw [keysIn_succ]
        exact Each.push (ek.mono fun b x z => (Old.keep z g a.sub).up (.inr rfl)) (Old.up b1 (.inr rfl))
    · rintro σ H' ⟨us, v3, rfl, k, a, hks, ek⟩
      rw [Int.toNat_natCast] at a ek
      have sW : ∀ b, W b → WP W ks b := fun b y => .inl y
      exact ⟨_, rfl, q H' ks k (a.less sW as.sub) ⟨us, ⟨hks, fun z => as.trk ks z hk⟩, ek.mono fun b x z => Old.sub z sW⟩⟩
theorem ok_write_node {f : Addr} {fd : FuncData} (F : Fun K "write_node" "write_node" s_write_node f fd) (T : Txt K mg CA CM) (c_A_ask_pad : CalM P w K mg base CA "ask_pad" 2 ["self", "key"] (sp_A_ask_pad K CA CM)) (c_A_write_page : CalM P w K mg base CA "write_page" 2 ["self", "page", "content"] (sp_A_write_page K CA CM)) (c_under_pad : Cal P w K mg base "under_pad" 1 ["content", "pad"] (sp_under_pad K CA CM)) : FnOk P w K mg base CX0 3 f fd ["asking", "page", "key", "content"] (sp_write_node K CA CM) := by
  refine F.ok sc_write_node (fun vs H Q E h => ?_) (fun cdv A outer s H vs Q E hr h => ?_)
  · obtain ⟨A, W, sc, t, es, d, p, k, c, kb, b, rfl, _⟩ := h
    rfl
  · obtain ⟨A, W, sc, t, es, d, p, k, c, kb, b, rfl, as, he, hp, hk, hk32, hc, hb96, q⟩ := h
    refine ⟨_, (pss_cons (ps_set (i := 4) sc_write_node.nd rfl (Or.inl rfl) (pe_m c_A_ask_pad T.clA (hr.mono (by decide)) (pv 0) (pa_cons (pv 2) pa_nil)))
      (pss_one (ps_expr (pe_m c_A_write_page T.clA (hr.mono (by decide)) (pv 0) (pa_cons (pv 1) (pa_cons (pe_c c_under_pad (hr.mono (by decide)) rfl (pa_cons (pv 3) (pa_cons (pv 4) pa_nil))) pa_nil)))))), ?_⟩
    obtain ⟨s, e1, e2⟩ := as.ex
    refine ⟨_, rfl, A.k, A.dk, _, rfl, e1, kF_no _ _ _ _ _ (by decide +kernel) (by decide +kernel) (by decide +kernel) (by decide +kernel) (by decide +kernel), _, rfl, ?_⟩
    refine ⟨A, W, sc, t, es, d, k, kb, rfl, as, by omega, hk, hk32, fun H1 p1 g1 a1 b1 n1 => ?_⟩
    obtain ⟨s1, e3, e4⟩ := a1.ex
    refine ⟨_, rfl, A.k, A.dk, _, rfl, e3, kF_no _ _ _ _ _ (by decide +kernel) (by decide +kernel) (by decide +kernel) (by decide +kernel) (by decide +kernel), _, rfl, _, rfl, _, rfl, ?_⟩
    refine ⟨c, p1, b, pad kb, rfl, (BytesAt.keep hc g1 as.sub).1, b1.1, hb96, len_pad _, fun H2 p2 g2 n2 => ?_⟩
    refine ⟨A, W, sc, t, _, d, p, p2, xor b (pad kb), rfl, a1.gr g2, by rw [List.length_append]; show es.length + 1 ≤ 1000; omega, hp, n2.at_ a1.trk, len_xor hb96 (len_pad _), fun H3 g3 a3 => ?_⟩
    rw [List.append_assoc] at a3
    exact q H3 (g1.trans (g2.any.trans g3)) a3
theorem ok_renew {f : Addr} {fd : FuncData} (F : Fun K "renew" "renew" s_renew f fd) (T : Txt K mg CA CM) (c_new_keys : Cal P w K mg base "new_keys" 3 ["asking", "many"] (sp_new_keys K CA CM)) (c_A_put_front : CalM P w K mg base CA "put_front" 2 ["self", "content"] (sp_A_put_front K CA CM)) (c_write_node : Cal P w K mg base "write_node" 3 ["asking", "page", "key", "content"] (sp_write_node K CA CM)) (c_front_with : Cal P w K mg base "front_with" 1 ["link"] (sp_front_with K CA CM)) (c_other_copy : Cal P w K mg base "other_copy" 1 ["which"] (sp_other_copy K CA CM)) (c_page_of : Cal P w K mg base "page_of" 1 ["node", "which"] (sp_page_of K CA CM)) (c_with_child : Cal P w K mg base "with_child" 3 ["content", "side", "link"] (sp_with_child K CA CM)) (c_side_of : Cal P w K mg base "side_of" 1 ["node"] (sp_side_of K CA CM)) : FnOk P w K mg base CX0 4 f fd ["asking", "nodes", "way", "many", "lowest"] (sp_renew K CA CM) := by
  refine F.ok sc_renew (fun vs H Q E h => ?_) (fun cdv A outer s H vs Q E hr h => ?_)
  · obtain ⟨A, W, sc, es, d, i, n, a, wy, l, c, o, links, conts, b, rfl, _⟩ := h
    rfl
  · obtain ⟨A, W, sc, es, d, i, n, a, wy, l, c, o, links, conts, b, rfl, as, he, hi, hn1, hn2, hsc, ha, hw, hL, hL11, hC, hC10, hC96, ho, hb96, q⟩ := h
    refine ⟨_, (pss_cons (ps_asg (pv 2) (pg_tup rfl (pgs_cons (pg_name (i := 5) sc_renew.nd rfl (Or.inl rfl)) (pgs_cons (pg_name (i := 6) sc_renew.nd rfl (Or.inl rfl)) pgs_nil))))
      (pss_cons (ps_set (i := 7) sc_renew.nd rfl (Or.inl rfl) (pe_c c_new_keys (hr.mono (by decide)) rfl (pa_cons (pv 0) (pa_cons (pv 3) pa_nil))))
      (pss_cons (ps_set (i := 8) sc_renew.nd rfl (Or.inl rfl) (pv 4))
      (pss_cons (ps_for PassesOwn.never rfl (pi_range3 rfl T.zRange (pa_cons (pe_op op_sub (pv 3) pe_int) (pa_cons (pe_un un_neg pe_int) (pa_cons (pe_un un_neg pe_int) pa_nil)))) (pg_name (i := 9) sc_renew.nd rfl (Or.inl rfl))
      (pss_cons (ps_set (i := 10) sc_renew.nd rfl (Or.inl rfl) (pe_tup (pa_cons (pe_c c_other_copy (hr.mono (by decide)) rfl (pa_cons (pe_ix ix_tup (pe_ix ix_list (pv 5) (pv 9) (fun _ _ => rfl)) pe_int (fun _ _ => rfl)) pa_nil)) (pa_cons (pe_ix ix_list (pv 7) (pv 9) (fun _ _ => rfl)) pa_nil))))
      (pss_cons (ps_expr (pe_c c_write_node (hr.mono (by decide)) rfl (pa_cons (pv 0) (pa_cons (pe_c c_page_of (hr.mono (by decide)) rfl (pa_cons (pe_ix ix_list (pv 1) (pv 9) (fun _ _ => rfl)) (pa_cons (pe_ix ix_tup (pv 10) pe_int (fun _ _ => rfl)) pa_nil))) (pa_cons (pe_ix ix_list (pv 7) (pv 9) (fun _ _ => rfl)) (pa_cons (pv 8) pa_nil))))))
      (pss_one (ps_if (pt_cmpR op_gt (pv 9) pe_int (nomark _)) (pss_one (ps_set (i := 8) sc_renew.nd rfl (Or.inl rfl) (pe_c c_with_child (hr.mono (by decide)) rfl (pa_cons (pe_ix ix_list (pv 6) (pe_op op_sub (pv 9) pe_int) (fun _ _ => rfl)) (pa_cons (pe_c c_side_of (hr.mono (by decide)) rfl (pa_cons (pe_ix ix_list (pv 1) (pv 9) (fun _ _ => rfl)) pa_nil)) (pa_cons (pv 10) pa_nil)))))) pss_nil)))))
      (pss_one (ps_expr (pe_m c_A_put_front T.clA (hr.mono (by decide)) (pv 0) (pa_cons (pe_c c_front_with (hr.mono (by decide)) rfl (pa_cons (pe_tup (pa_cons (pe_c c_other_copy (hr.mono (by decide)) rfl (pa_cons (pe_ix ix_tup (pe_ix ix_list (pv 5) pe_int (fun _ _ => rfl)) pe_int (fun _ _ => rfl)) pa_nil)) (pa_cons (pe_ix ix_list (pv 7) pe_int (fun _ _ => rfl)) pa_nil))) pa_nil)) pa_nil)))))))), ?_⟩
    refine ⟨_, rfl, wy, _, rfl, SqT.of hw.1, rfl, _, _, rfl, _, _, rfl, rfl, ?_⟩
    refine ⟨_, rfl, _, rfl, A, W, sc, es, d, n, rfl, as, he, hn2, fun H1 ks g1 a1 hK => ?_⟩
    have hL1 := hL.keep g1 as.sub
    have hC1 := hC.keep g1 as.sub
    have ha1 := BytesAt.keep ha g1 as.sub
    have ho1 := BytesAt.keep ho g1 as.sub
    obtain ⟨m, rfl⟩ : ∃ m, n = m + 1 := ⟨n - 1, by omega⟩
    have hr : RgC (((m + 1 : Nat) : Int) - 1) (-1) (-1) (m + 1) := by
      have z := RgC.neg (i := (((m + 1 : Nat) : Int) - 1)) (j := -1) (by omega) (by omega) (by decide) (by decide)
      have e : ((((m + 1 : Nat) : Int) - 1) - -1).toNat = m + 1 := by omega
      rw [e] at z
      exact z
    refine ⟨_, rfl, ?_⟩
    refine ⟨_, rfl, _, _, rfl, rfl, _, rfl, _, rfl, _, _, _, m + 1, rfl, hr, for_rangeC (n := m + 1) (fun j σ H' => ∃ (bb : Bytes) (cc : Addr) (v9 v10 : Option V) (es' : List Ev) (d' : Dev),
      σ = [some (.ref A.k), some (.ref a), some (.ref wy), some (.int ((m + 1 : Nat) : Int)), some (.ref o), some (.ref l), some (.ref c), some (.ref ks), some (.ref cc), v9, v10] ∧ Kp (WA A) H1 H' ∧ As CA CM W H' A sc (32 * (m + 1)) es' d' ∧
      BytesAt W H' cc bb ∧ bb.length = 96 ∧ es'.length ≤ es.length + (m + 1) + 2 * j ∧
      es' ++ pageEvs (rn i links conts (keysIn sc (m + 1)) (m + 1 - j) bb) = (es ++ (keysIn sc (m + 1)).map .any) ++ pageEvs (rn i links conts (keysIn sc (m + 1)) (m + 1) b) ∧
      d'.after (pageEvs (rn i links conts (keysIn sc (m + 1)) (m + 1 - j) bb)) = d.after (pageEvs (rn i links conts (keysIn sc (m + 1)) (m + 1) b)))
      ⟨b, o, none, none, _, d, rfl, Kp.refl, a1, ho1, hb96, by rw [List.length_append, List.length_map, keysIn_len]; omega, rfl, rfl⟩ ?_ ?_⟩
    · rintro j σ H' hj ⟨bb, cc, v9, v10, es', d', rfl, k, a', hcc, bb96, el, eq, eqd⟩
      obtain ⟨r, hr', rfl⟩ : ∃ r, m + 1 - j = r + 1 ∧ j = m - r := ⟨m - j, by omega, by omega⟩
      have rm : r ≤ m := by omega
      have dep : (((m + 1 : Nat) : Int) - 1 + ((m - r : Nat) : Int) * -1) = (r : Int) := by omega
      have hL2 := hL1.keep k as.sub
      have hC2 := hC1.keep k as.sub
      have hK2 := hK.keep k as.sub
      have ha2 := BytesAt.keep ha1 k as.sub
      obtain ⟨us, lo, le⟩ := hL2
      obtain ⟨ks', ko, ke⟩ := hK2
      obtain ⟨lx, x1, x2⟩ := le.at_ (getD_get (x := none_) (j := r) (l := links) (by omega))
      obtain ⟨qx, z1, z2⟩ := id x2
      obtain ⟨kx, y1, y2⟩ := ke.at_ (keysIn_get (sc := sc) (n := m + 1) (j := r) (by omega))
      have kd : (keysIn sc (m + 1)).getD r [] = (sc.drop (32 * r)).take 32 := keysIn_getD (by omega)
      have k32 : ((sc.drop (32 * r)).take 32).length = 32 := key_len hsc (by omega)
      rw [dep]
      refine ⟨_, rfl, _, rfl, l, us, _, _, rfl, rfl, SqL.of lo.1, at_of (j := r) rfl x1, lx, _, _, _, rfl, rfl, SqT.of z1.1, at_of (j := 0) rfl rfl, _, rfl, ?_⟩
      refine ⟨_, rfl, _, rfl, ks, ks', _, _, rfl, rfl, SqL.of ko.1, at_of (j := r) rfl y1, line (by show 2 ≤ 16000000; decide), fun lt hlt => ?_⟩
      have a2 := a'.new (o := .tup [.int ((other (links.getD r none_).copy : Nat) : Int), .ref kx]) hlt
      have ka := kp_at (W := W0) (H := H') (H1 := H') (p := lt) hlt Kp.refl |>.new (o := .tup [.int ((other (links.getD r none_).copy : Nat) : Int), .ref kx]) hlt
      have tupAt : Old W _ lt (.tup [.int ((other (links.getD r none_).copy : Nat) : Int), .ref kx]) := ⟨upd_same (H := H'), fun z => a'.trk lt z hlt⟩
      have keyAt := BytesAt.keep y2 ka (fun b z => z.elim)
      refine ⟨_, rfl, _, rfl, _, rfl, a, _, _, _, rfl, rfl, SqL.of (BytesAt.keep ha2 ka (fun b z => z.elim)).1, at_of (j := r) rfl (nodes_get (by omega)), _, rfl, lt, _, _, _, rfl, rfl, SqT.of tupAt.1, at_of (j := 0) rfl rfl, nodeAt i r, _, rfl, nodeAt_lo hi (by omega), nodeAt_hi hi, ?_⟩
      refine ⟨_, rfl, _, rfl, ks, ks', _, _, rfl, rfl, SqL.of (Old.gr ko ka).1, at_of (j := r) rfl y1, _, rfl, ?_⟩
      refine ⟨A, W, sc, _, es', d', pageOf (nodeAt i r) (other (links.getD r none_).copy), kx, cc, (sc.drop (32 * r)).take 32, bb, rfl, a2, by omega, page_lt hi (other_le _), keyAt, k32, hcc.gr ka, bb96, fun H2 g2 a3 => ?_⟩
      have lnk : LinkAt W H2 lt (linkAt links (keysIn sc (m + 1)) r) := by
        refine ⟨kx, tupAt.keep g2 as.sub, ?_⟩
        show Old W H2 kx (.lst (nl ((keysIn sc (m + 1)).getD r [])))
        rw [kd]
        exact Old.keep keyAt g2 as.sub
      have eqr : pageEvs (rn i links conts (keysIn sc (m + 1)) (r + 1) bb) = [.mix ((sc.drop (32 * r)).take 32) (pad ((sc.drop (32 * r)).take 32)), .write (pageOf (nodeAt i r) (other (links.getD r none_).copy)) (xor bb (pad ((sc.drop (32 * r)).take 32)))] ++ pageEvs (rn i links conts (keysIn sc (m + 1)) r (withChild (conts.getD (r - 1) (zeros 96)) (right_ i (r - 1)) (linkAt links (keysIn sc (m + 1)) r))) := by
        rw [← kd]
        rfl
      have kk : Kp (WA A) H1 H2 := k.trans (ka.any.trans g2)
      have next : m + 1 - (m - r + 1) = r := by omega
      rw [hr', eqr, ← List.append_assoc] at eq
      rw [hr', eqr, after_app] at eqd
      have len' : (es' ++ [Ev.mix ((sc.drop (32 * r)).take 32) (pad ((sc.drop (32 * r)).take 32)), Ev.write (pageOf (nodeAt i r) (other (links.getD r none_).copy)) (xor bb (pad ((sc.drop (32 * r)).take 32)))]).length ≤ es.length + (m + 1) + 2 * (m - r + 1) := by
        rw [List.length_append]
        show es'.length + 2 ≤ _
        omega
      refine ⟨_, rfl, _, _, rfl, rfl, _, rfl, ?_⟩
      by_cases hr0 : r = 0
      · subst hr0
        refine if_false_of (decide_eq_false (by decide)) ?_
        refine ⟨bb, cc, some (.int 0), some (.ref lt), _, _, rfl, kk, a3, (hcc.gr ka).keep g2 as.sub, bb96, len', ?_, ?_⟩
        · rw [next]
          exact eq
        · rw [next]
          exact eqd
      · obtain ⟨v, rfl⟩ : ∃ v, r = v + 1 := ⟨r - 1, by omega⟩
        refine if_true_of (decide_eq_true (show (0 : Int) < ((v + 1 : Nat) : Int) by omega)) ?_
        obtain ⟨vs, co, ce⟩ := (hC2.keep ka (fun b z => z.elim)).keep g2 as.sub
        obtain ⟨cx, w1, w2⟩ := ce.at_ (getD_get (x := zeros 96) (j := v) (l := conts) (by omega))
        have c96 : (conts.getD v (zeros 96)).length = 96 := hC96 _ (List.mem_of_getElem? (getD_get (x := zeros 96) (j := v) (l := conts) (by omega)))
        have lok : RefOk (linkAt links (keysIn sc (m + 1)) (v + 1)) := by
          show ((keysIn sc (m + 1)).getD (v + 1) []).length = 32
          rw [kd]
          exact k32
        refine ⟨_, rfl, _, rfl, _, _, rfl, rfl, c, vs, _, _, rfl, rfl, SqL.of co.1, at_of (j := v) (by omega) w1, _, rfl, _, rfl, a, _, _, _, rfl, rfl, SqL.of ((BytesAt.keep ha2 ka (fun b z => z.elim)).keep g2 as.sub).1, at_of (j := v + 1) rfl (nodes_get (by omega)), nodeAt i (v + 1), rfl, _, rfl, ?_⟩
        refine ⟨cx, lt, conts.getD v (zeros 96), right_ i v, linkAt links (keysIn sc (m + 1)) (v + 1), rfl, w2.1, c96, lnk.zero, lok, fun H3 cc' g3 n3 => ?_⟩
        refine ⟨_, cc', some (.int ((v + 1 : Nat) : Int)), some (.ref lt), _, _, rfl, kk.trans g3.any, a3.gr g3, n3.at_ a3.trk, withChild_len c96 _ lok, len', ?_, ?_⟩
        · rw [next]
          exact eq
        · rw [next]
          exact eqd
    · rintro σ H' ⟨bb, cc, v9, v10, es', d', rfl, k, a', hcc, bb96, el, eq, eqd⟩
      rw [Nat.sub_self] at eq eqd
      have eq1 : es' = (es ++ (keysIn sc (m + 1)).map .any) ++ pageEvs (rn i links conts (keysIn sc (m + 1)) (m + 1) b) := by
        rw [← eq]
        exact (List.append_nil es').symm
      have eqd1 : d' = d.after (pageEvs (rn i links conts (keysIn sc (m + 1)) (m + 1) b)) := eqd
      have hL2 := hL1.keep k as.sub
      have hK2 := hK.keep k as.sub
      obtain ⟨us, lo, le⟩ := hL2
      obtain ⟨ks', ko, ke⟩ := hK2
      obtain ⟨lx, x1, x2⟩ := le.at_ (getD_get (x := none_) (j := 0) (l := links) (by omega))
      obtain ⟨qx, z1, z2⟩ := id x2
      obtain ⟨kx, y1, y2⟩ := ke.at_ (keysIn_get (sc := sc) (n := m + 1) (j := 0) (by omega))
      have kd : (keysIn sc (m + 1)).getD 0 [] = (sc.drop (32 * 0)).take 32 := keysIn_getD (by omega)
      have k32 : ((sc.drop (32 * 0)).take 32).length = 32 := key_len hsc (by omega)
      have lok : RefOk (linkAt links (keysIn sc (m + 1)) 0) := by
        show ((keysIn sc (m + 1)).getD 0 []).length = 32
        rw [kd]
        exact k32
      obtain ⟨s1, e3, e4⟩ := a'.ex
      refine ⟨_, rfl, A.k, A.dk, _, rfl, e3, kF_no _ _ _ _ _ (by decide +kernel) (by decide +kernel) (by decide +kernel) (by decide +kernel) (by decide +kernel), ?_⟩
      refine ⟨_, rfl, l, us, _, _, rfl, rfl, SqL.of lo.1, at_of (j := 0) rfl x1, lx, _, _, _, rfl, rfl, SqT.of z1.1, at_of (j := 0) rfl rfl, _, rfl, ?_⟩
      refine ⟨_, rfl, ks, ks', _, _, rfl, rfl, SqL.of ko.1, at_of (j := 0) rfl y1, line (by show 2 ≤ 16000000; decide), fun lt hlt => ?_⟩
      have ka := kp_at (W := W0) (H := H') (H1 := H') (p := lt) hlt Kp.refl |>.new (o := .tup [.int ((other (links.getD 0 none_).copy : Nat) : Int), .ref kx]) hlt
      have lnk : LinkAt W0 (upd H' lt (.tup [.int ((other (links.getD 0 none_).copy : Nat) : Int), .ref kx])) lt (linkAt links (keysIn sc (m + 1)) 0) := by
        refine ⟨kx, ⟨upd_same, fun z => z⟩, ?_⟩
        show Old W0 _ kx (.lst (nl ((keysIn sc (m + 1)).getD 0 [])))
        rw [kd]
        exact (Old.zero y2).gr ka
      refine ⟨lt, linkAt links (keysIn sc (m + 1)) 0, rfl, lnk, lok, fun H2 fr g2 n2 => ?_⟩
      have a2 := (a'.gr ka).gr g2
      refine ⟨A, W, sc, _, es', d', fr, regLink (linkAt links (keysIn sc (m + 1)) 0), rfl, a2, by omega, n2.at_ (a'.trk.keep ka), regLink_len lok, fun H3 g3 a3 => ?_⟩
      refine q H3 (32 * (m + 1)) (g1.trans (k.trans (ka.any.trans (g2.any.trans g3)))) ?_
      have el2 := last_rn (i := i) (links := links) (conts := conts) (keys := keysIn sc (m + 1)) m b
      have ew : es ++ Ks189.wrote pad (keysIn sc (m + 1)) (rn i links conts (keysIn sc (m + 1)) (m + 1) b) = es' ++ [.keep (regLink (linkAt links (keysIn sc (m + 1)) 0))] := by
        rw [eq1, ← el2]
        show es ++ ((keysIn sc (m + 1)).map .any ++ pageEvs _ ++ [.keep _]) = _
        rw [← List.append_assoc, ← List.append_assoc]
      rw [ew, after_wrote, el2, ← eqd1]
      exact a3
end
end SF

set_option Elab.async false
set_option linter.all false
set_option maxRecDepth 100000
set_option maxHeartbeats 4000000
/-! SfDeeds: clear, put, get, forget. -/
namespace SF
open PySem PySem.Spec PyProof.Rows L2
open Ks189 (Bytes Ref Node Ev Dev zeros xor none_ other pageOf nodeAt right_ had leafOf)
theorem nums_len (sc : Bytes) {n : Nat} (h : sc.length = 32 * n) : sc.length / 32 = n := by omega
section
variable {P : Program} {w : World} {K : PySem.W.Frag} {mg : Str → Option Value} {base : Heap} {CA CM : Addr}
theorem ok_do_clear {f : Addr} {fd : FuncData} (F : Fun K "do_clear" "do_clear" s_do_clear f fd) (T : Txt K mg CA CM) (c_A_put_front : CalM P w K mg base CA "put_front" 2 ["self", "content"] (sp_A_put_front K CA CM)) (c_empty_front : Cal P w K mg base "empty_front" 1 [] (sp_empty_front K CA CM)) : FnOk P w K mg base CX0 3 f fd ["asking"] (sp_do_clear K CA CM) := by
  refine F.ok sc_do_clear (fun vs H Q E h => ?_) (fun cdv A outer s H vs Q E hr h => ?_)
  · obtain ⟨A, W, sc, d, rfl, _⟩ := h
    rfl
  · obtain ⟨A, W, sc, d, rfl, as, q⟩ := h
    refine ⟨_, (pss_cons (ps_expr (pe_m c_A_put_front T.clA (hr.mono (by decide)) (pv 0) (pa_cons (pe_c0 c_empty_front (hr.mono (by decide)) rfl) pa_nil)))
      (pss_one (ps_ret (pe_lst (pa_cons pe_int pa_nil))))), ?_⟩
    obtain ⟨s, e1, e2⟩ := as.ex
    refine ⟨_, rfl, A.k, A.dk, _, rfl, e1, kF_no _ _ _ _ _ (by decide +kernel) (by decide +kernel) (by decide +kernel) (by decide +kernel) (by decide +kernel), rfl, fun H1 p g n => ?_⟩
    refine ⟨A, W, sc, 0, [], d, p, zeros 40, rfl, as.gr g, Nat.zero_le _, n.at_ as.trk, len_zeros 40, fun H2 g2 a2 => ?_⟩
    refine ⟨line (by show 1 ≤ 16000000; decide), fun r hr => ?_⟩
    exact q _ r 0 ((g.any.trans g2).new hr) (a2.new hr) ⟨upd_same, fun z => a2.trk r z hr⟩
theorem ok_do_get {f : Addr} {fd : FuncData} (F : Fun K "do_get" "do_get" s_do_get f fd) (T : Txt K mg CA CM) (c_go_way : Cal P w K mg base "go_way" 4 ["asking", "slot"] (sp_go_way K CA CM)) (c_leaf_missing : Cal P w K mg base "leaf_missing" 1 ["links"] (sp_leaf_missing K CA CM)) (c_read_node : Cal P w K mg base "read_node" 3 ["asking", "node", "link"] (sp_read_node K CA CM)) (c_way_to : Cal P w K mg base "way_to" 1 ["slot"] (sp_way_to K CA CM)) (c_leaf_data : Cal P w K mg base "leaf_data" 1 ["content"] (sp_leaf_data K CA CM)) : FnOk P w K mg base CX0 5 f fd ["asking", "slot"] (sp_do_get K CA CM) := by
  refine F.ok sc_do_get (fun vs H Q E h => ?_) (fun cdv A outer s H vs Q E hr h => ?_)
  · obtain ⟨A, W, sc, d, i, rfl, _⟩ := h
    rfl
  · obtain ⟨A, W, sc, d, i, rfl, as, q⟩ := h
    refine ⟨_, (pss_cons (ps_if (pt_cmpR op_gt (pv 1) (pe_g T.g_LAST_SLOT rfl) (nomark _)) (pss_one (ps_ret (pe_lst (pa_cons (pe_g T.g_NO_SLOT rfl) pa_nil)))) pss_nil)
      (pss_cons (ps_asg (pe_c c_go_way (hr.mono (by decide)) rfl (pa_cons (pv 0) (pa_cons (pv 1) pa_nil))) (pg_tup rfl (pgs_cons (pg_name (i := 2) sc_do_get.nd rfl (Or.inl rfl)) (pgs_cons (pg_name (i := 3) sc_do_get.nd rfl (Or.inl rfl)) (pgs_cons (pg_name (i := 4) sc_do_get.nd rfl (Or.inl rfl)) pgs_nil)))))
      (pss_cons (ps_if (pt_cmpR op_lt (pv 2) pe_int (nomark _)) (pss_one (ps_ret (pe_lst (pa_cons (pv 2) pa_nil)))) pss_nil)
      (pss_cons (ps_if (pt_val (pe_c c_leaf_missing (hr.mono (by decide)) rfl (pa_cons (pv 3) pa_nil))) (pss_one (ps_ret (pe_lst (pa_cons (pe_g T.g_NOT_THERE rfl) pa_nil)))) pss_nil)
      (pss_cons (ps_set (i := 5) sc_do_get.nd rfl (Or.inl rfl) (pe_ix ix_list (pe_c c_way_to (hr.mono (by decide)) rfl (pa_cons (pv 1) pa_nil)) (pe_op op_sub (pe_g T.g_LEVELS rfl) pe_int) (fun _ _ => rfl)))
      (pss_cons (ps_set (i := 6) sc_do_get.nd rfl (Or.inl rfl) (pe_c c_read_node (hr.mono (by decide)) rfl (pa_cons (pv 0) (pa_cons (pv 5) (pa_cons (pe_ix ix_list (pv 3) (pe_op op_sub (pe_g T.g_LEVELS rfl) pe_int) (fun _ _ => rfl)) pa_nil)))))
      (pss_one (ps_ret (pe_op op_cat (pe_lst (pa_cons pe_int pa_nil)) (pe_c c_leaf_data (hr.mono (by decide)) rfl (pa_cons (pv 6) pa_nil))))))))))), ?_⟩
    refine ⟨_, rfl, _, _, rfl, rfl, _, rfl, ?_⟩
    by_cases hi : i < 1024
    · refine if_false_of (decide_eq_false (show ¬ (1023 : Int) < (i : Int) by omega)) ?_
      refine ⟨_, rfl, _, rfl, A, W, sc, 0, d, i, rfl, as, hi, fun g H1 p l c k1 a1 t1 L1 C1 => ?_, fun b H1 p x y k1 a1 t1 => ?_⟩
      · refine ⟨p, _, rfl, SqT.of t1.1, rfl, _, _, rfl, _, _, rfl, _, _, rfl, rfl, ?_⟩
        refine ⟨_, rfl, _, _, rfl, rfl, _, rfl, if_false_of (decide_eq_false (by decide)) ?_⟩
        have l11 := linksOf_len g
        refine ⟨_, rfl, l, linksOf d i, rfl, L1.sub (fun _ z => z.elim), l11, _, rfl, ?_⟩
        by_cases h0 : (leafLink d i).copy = 0
        · refine if_true_of (decide_eq_true h0) ?_
          refine ⟨line (by show 1 ≤ 16000000; decide), fun r hr => ?_⟩
          rw [act_get_none hi g h0] at q
          refine q _ r 0 (k1.new hr) ?_ ⟨upd_same, fun z => a1.trk r z hr⟩
          show As CA CM W _ A sc 0 (goW d i).evs (d.after (goW d i).evs)
          rw [goW_after]
          exact a1.new hr
        · refine if_false_of (decide_eq_false h0) ?_
          obtain ⟨us, lo, le⟩ := id L1
          obtain ⟨lx, x1, x2⟩ := le.at_ (getD_get (x := none_) (j := 10) (l := linksOf d i) (by omega))
          have ok := linksOf_ok as.med.ok hi g (leafLink d i) (List.mem_of_getElem? (getD_get (x := none_) (j := 10) (l := linksOf d i) (by omega)))
          refine ⟨_, rfl, i, rfl, hi, fun H2 n g2 n2 => ?_⟩
          refine ⟨_, _, rfl, rfl, n, _, _, _, rfl, rfl, SqL.of n2.2, at_of (j := 10) rfl (nodes_get (by omega)), ?_⟩
          refine ⟨_, rfl, _, rfl, _, rfl, _, _, rfl, rfl, l, us, _, _, rfl, rfl, SqL.of (Old.gr lo g2).1, at_of (j := 10) rfl x1, ?_⟩
          refine ⟨A, W, sc, 0, _, d, nodeAt i 10, lx, leafLink d i, rfl, a1.gr g2, Nat.le_trans (goW_evs as.med.ok hi) (by decide), nodeAt_lo hi (by omega), nodeAt_hi hi, x2.keep g2 (fun _ z => z.elim), ok.1, ok.2, fun H3 p3 g3 a3 b3 n3 => ?_⟩
          refine ⟨line (by show 1 ≤ 16000000; decide), fun r hr => ?_⟩
          have hu : (under d i 10 (leafLink d i)).length = 96 := under_len as.med.ok hi ok.2
          refine ⟨_, rfl, p3, under d i 10 (leafLink d i), rfl, (Old.gr b3 (Kp.refl.new hr)).1, fun H4 p4 g4 n4 => ?_⟩
          refine ⟨r, p4, _, _, rfl, rfl, g4.st _ _ upd_same (fun z => z), n4.2, line (by rw [nl_len, List.length_take, hu]; decide), fun r2 hr2 => ?_⟩
          have a4 := (a3.new (o := .lst [.int 0]) hr).gr g4
          rw [act_get_some hi g h0] at q
          refine q _ r2 0 ((k1.trans (g2.any.trans (g3.trans ((kp_at (W := WA A) (H := H3) (H1 := H3) hr Kp.refl).new hr |>.trans g4.any)))).new hr2) ?_ ⟨upd_same, fun z => a4.trk r2 z hr2⟩
          show As CA CM W _ A sc 0 ((goW d i).evs ++ readEvs d i 10 (leafLink d i)) (d.after ((goW d i).evs ++ readEvs d i 10 (leafLink d i)))
          rw [after_app, goW_after]
          exact a4.new hr2
      · refine ⟨p, _, rfl, SqT.of t1.1, rfl, _, _, rfl, _, _, rfl, _, _, rfl, rfl, ?_⟩
        refine ⟨_, rfl, _, _, rfl, rfl, _, rfl, if_true_of (decide_eq_true (by decide)) ?_⟩
        refine ⟨_, rfl, line (by show 1 ≤ 16000000; decide), fun r hr => ?_⟩
        rw [act_get_bad hi b] at q
        refine q _ r 0 (k1.new hr) ?_ ⟨upd_same, fun z => a1.trk r z hr⟩
        show As CA CM W _ A sc 0 (goW d i).evs (d.after (goW d i).evs)
        rw [goW_after]
        exact a1.new hr
    · refine if_true_of (decide_eq_true (show (1023 : Int) < (i : Int) by omega)) ?_
      refine ⟨line (by show 1 ≤ 16000000; decide), fun r hr => ?_⟩
      rw [act_get_big hi] at q
      exact q _ r 0 (Kp.refl.new hr) (as.new hr) ⟨upd_same, fun z => as.trk r z hr⟩
theorem ok_do_put {f : Addr} {fd : FuncData} (F : Fun K "do_put" "do_put" s_do_put f fd) (T : Txt K mg CA CM) (c_go_way : Cal P w K mg base "go_way" 4 ["asking", "slot"] (sp_go_way K CA CM)) (c_renew : Cal P w K mg base "renew" 4 ["asking", "nodes", "way", "many", "lowest"] (sp_renew K CA CM)) (c_way_to : Cal P w K mg base "way_to" 1 ["slot"] (sp_way_to K CA CM)) (c_leaf_content : Cal P w K mg base "leaf_content" 1 ["data"] (sp_leaf_content K CA CM)) : FnOk P w K mg base CX0 5 f fd ["asking", "slot", "data"] (sp_do_put K CA CM) := by
  refine F.ok sc_do_put (fun vs H Q E h => ?_) (fun cdv A outer s H vs Q E hr h => ?_)
  · obtain ⟨A, W, sc, d, i, c, b, rfl, _⟩ := h
    rfl
  · obtain ⟨A, W, sc, d, i, c0, b, rfl, as, hc0, hb64, hsc, q⟩ := h
    refine ⟨_, (pss_cons (ps_if (pt_cmpR op_gt (pv 1) (pe_g T.g_LAST_SLOT rfl) (nomark _)) (pss_one (ps_ret (pe_lst (pa_cons (pe_g T.g_NO_SLOT rfl) pa_nil)))) pss_nil)
      (pss_cons (ps_asg (pe_c c_go_way (hr.mono (by decide)) rfl (pa_cons (pv 0) (pa_cons (pv 1) pa_nil))) (pg_tup rfl (pgs_cons (pg_name (i := 3) sc_do_put.nd rfl (Or.inl rfl)) (pgs_cons (pg_name (i := 4) sc_do_put.nd rfl (Or.inl rfl)) (pgs_cons (pg_name (i := 5) sc_do_put.nd rfl (Or.inl rfl)) pgs_nil)))))
      (pss_cons (ps_if (pt_cmpR op_lt (pv 3) pe_int (nomark _)) (pss_one (ps_ret (pe_lst (pa_cons (pv 3) pa_nil)))) pss_nil)
      (pss_cons (ps_expr (pe_c c_renew (hr.mono (by decide)) rfl (pa_cons (pv 0) (pa_cons (pe_c c_way_to (hr.mono (by decide)) rfl (pa_cons (pv 1) pa_nil)) (pa_cons (pe_tup (pa_cons (pv 4) (pa_cons (pv 5) pa_nil))) (pa_cons (pe_g T.g_LEVELS rfl) (pa_cons (pe_c c_leaf_content (hr.mono (by decide)) rfl (pa_cons (pv 2) pa_nil)) pa_nil)))))))
      (pss_one (ps_ret (pe_lst (pa_cons pe_int pa_nil)))))))), ?_⟩
    refine ⟨_, rfl, _, _, rfl, rfl, _, rfl, ?_⟩
    by_cases hi : i < 1024
    · refine if_false_of (decide_eq_false (show ¬ (1023 : Int) < (i : Int) by omega)) ?_
      refine ⟨_, rfl, _, rfl, A, W, sc, 0, d, i, rfl, as, hi, fun g H1 p l c k1 a1 t1 L1 C1 => ?_, fun bd H1 p x y k1 a1 t1 => ?_⟩
      · refine ⟨p, _, rfl, SqT.of t1.1, rfl, _, _, rfl, _, _, rfl, _, _, rfl, rfl, ?_⟩
        refine ⟨_, rfl, _, _, rfl, rfl, _, rfl, if_false_of (decide_eq_false (by decide)) ?_⟩
        rw [needs_put_good hi g] at hsc
        have k11 : keysOf1 sc = keysIn sc 11 := by
          unfold keysOf1
          rw [nums_len sc hsc]
        refine ⟨_, rfl, _, rfl, i, rfl, hi, fun H2 n g2 n2 => ?_⟩
        refine ⟨_, rfl, _, rfl, line (by show 2 ≤ 16000000; decide), fun tw htw => ?_⟩
        have kt := (kp_at (W := W0) (H := H2) (H1 := H2) htw Kp.refl).new (o := .tup [.ref l, .ref c]) htw
        have at2 := (a1.gr g2).gr kt
        have hcb : BytesAt W _ c0 b := ((BytesAt.keep hc0 k1 as.sub).gr g2).gr kt
        refine ⟨_, rfl, c0, b, rfl, hcb.1, hb64, fun H3 o g3 n3 => ?_⟩
        have kk : Kp W0 H1 H3 := g2.trans (kt.trans g3)
        have z0 : ∀ b, W0 b → W b := fun _ z => z.elim
        have lb : (b ++ zeros 32).length = 96 := by rw [List.length_append, hb64, len_zeros]
        refine ⟨A, W, sc, _, d, i, 11, n, tw, l, c, o, linksOf d i, contsOf d i, b ++ zeros 32, rfl, a1.gr kk, Nat.le_trans (goW_evs as.med.ok hi) (by decide), hi, by decide, by decide, hsc,
          BytesAt.keep (n2.at_ a1.trk) (kt.trans g3) z0, Old.keep ⟨upd_same, fun z => (a1.trk.keep g2) tw z htw⟩ g3 z0, L1.keep kk z0, linksOf_len g, C1.keep kk z0, contsOf_len g, goW_conts as.med.ok hi, n3.at_ at2.trk, lb, fun H4 t g4 a4 => ?_⟩
        refine ⟨line (by show 1 ≤ 16000000; decide), fun r hr => ?_⟩
        rw [act_put_good hi g, k11] at q
        refine q _ r t ((k1.trans (kk.any.trans g4)).new hr) ?_ ⟨upd_same, fun z => a4.trk r z hr⟩
        show As CA CM W _ A sc t ((goW d i).evs ++ _) (d.after ((goW d i).evs ++ _))
        rw [after_app, goW_after]
        exact a4.new hr
      · refine ⟨p, _, rfl, SqT.of t1.1, rfl, _, _, rfl, _, _, rfl, _, _, rfl, rfl, ?_⟩
        refine ⟨_, rfl, _, _, rfl, rfl, _, rfl, if_true_of (decide_eq_true (by decide)) ?_⟩
        refine ⟨_, rfl, line (by show 1 ≤ 16000000; decide), fun r hr => ?_⟩
        rw [act_put_bad hi bd] at q
        refine q _ r 0 (k1.new hr) ?_ ⟨upd_same, fun z => a1.trk r z hr⟩
        show As CA CM W _ A sc 0 (goW d i).evs (d.after (goW d i).evs)
        rw [goW_after]
        exact a1.new hr
    · refine if_true_of (decide_eq_true (show (1023 : Int) < (i : Int) by omega)) ?_
      refine ⟨line (by show 1 ≤ 16000000; decide), fun r hr => ?_⟩
      rw [act_put_big hi] at q
      exact q _ r 0 (Kp.refl.new hr) (as.new hr) ⟨upd_same, fun z => as.trk r z hr⟩
theorem ok_do_forget {f : Addr} {fd : FuncData} (F : Fun K "do_forget" "do_forget" s_do_forget f fd) (T : Txt K mg CA CM) (c_go_way : Cal P w K mg base "go_way" 4 ["asking", "slot"] (sp_go_way K CA CM)) (c_leaf_missing : Cal P w K mg base "leaf_missing" 1 ["links"] (sp_leaf_missing K CA CM)) (c_way_to : Cal P w K mg base "way_to" 1 ["slot"] (sp_way_to K CA CM)) (c_staying : Cal P w K mg base "staying" 2 ["nodes", "contents"] (sp_staying K CA CM)) (c_with_child : Cal P w K mg base "with_child" 3 ["content", "side", "link"] (sp_with_child K CA CM)) (c_renew : Cal P w K mg base "renew" 4 ["asking", "nodes", "way", "many", "lowest"] (sp_renew K CA CM)) (c_A_put_front : CalM P w K mg base CA "put_front" 2 ["self", "content"] (sp_A_put_front K CA CM)) (c_side_of : Cal P w K mg base "side_of" 1 ["node"] (sp_side_of K CA CM)) (c_no_link : Cal P w K mg base "no_link" 1 [] (sp_no_link K CA CM)) (c_empty_front : Cal P w K mg base "empty_front" 1 [] (sp_empty_front K CA CM)) : FnOk P w K mg base CX0 5 f fd ["asking", "slot"] (sp_do_forget K CA CM) := by
  refine F.ok sc_do_forget (fun vs H Q E h => ?_) (fun cdv A outer s H vs Q E hr h => ?_)
  · obtain ⟨A, W, sc, d, i, rfl, _⟩ := h
    rfl
  · obtain ⟨A, W, sc, d, i, rfl, as, hsc, q⟩ := h
    refine ⟨_, (pss_cons (ps_if (pt_cmpR op_gt (pv 1) (pe_g T.g_LAST_SLOT rfl) (nomark _)) (pss_one (ps_ret (pe_lst (pa_cons (pe_g T.g_NO_SLOT rfl) pa_nil)))) pss_nil)
      (pss_cons (ps_asg (pe_c c_go_way (hr.mono (by decide)) rfl (pa_cons (pv 0) (pa_cons (pv 1) pa_nil))) (pg_tup rfl (pgs_cons (pg_name (i := 2) sc_do_forget.nd rfl (Or.inl rfl)) (pgs_cons (pg_name (i := 3) sc_do_forget.nd rfl (Or.inl rfl)) (pgs_cons (pg_name (i := 4) sc_do_forget.nd rfl (Or.inl rfl)) pgs_nil)))))
      (pss_cons (ps_if (pt_cmpR op_lt (pv 2) pe_int (nomark _)) (pss_one (ps_ret (pe_lst (pa_cons (pv 2) pa_nil)))) pss_nil)
      (pss_cons (ps_if (pt_val (pe_c c_leaf_missing (hr.mono (by decide)) rfl (pa_cons (pv 3) pa_nil))) (pss_one (ps_ret (pe_lst (pa_cons (pe_g T.g_NOT_THERE rfl) pa_nil)))) pss_nil)
      (pss_cons (ps_set (i := 5) sc_do_forget.nd rfl (Or.inl rfl) (pe_c c_way_to (hr.mono (by decide)) rfl (pa_cons (pv 1) pa_nil)))
      (pss_cons (ps_set (i := 6) sc_do_forget.nd rfl (Or.inl rfl) (pe_c c_staying (hr.mono (by decide)) rfl (pa_cons (pv 5) (pa_cons (pv 4) pa_nil))))
      (pss_cons (ps_if (pt_cmpR op_eq (pv 6) pe_int (nomark _)) (pss_cons (ps_expr (pe_m c_A_put_front T.clA (hr.mono (by decide)) (pv 0) (pa_cons (pe_c0 c_empty_front (hr.mono (by decide)) rfl) pa_nil)))
      (pss_one (ps_ret (pe_lst (pa_cons pe_int pa_nil))))) pss_nil)
      (pss_cons (ps_set (i := 7) sc_do_forget.nd rfl (Or.inl rfl) (pe_c c_with_child (hr.mono (by decide)) rfl (pa_cons (pe_ix ix_list (pv 4) (pe_op op_sub (pv 6) pe_int) (fun _ _ => rfl)) (pa_cons (pe_c c_side_of (hr.mono (by decide)) rfl (pa_cons (pe_ix ix_list (pv 5) (pv 6) (fun _ _ => rfl)) pa_nil)) (pa_cons (pe_c0 c_no_link (hr.mono (by decide)) rfl) pa_nil)))))
      (pss_cons (ps_expr (pe_c c_renew (hr.mono (by decide)) rfl (pa_cons (pv 0) (pa_cons (pv 5) (pa_cons (pe_tup (pa_cons (pv 3) (pa_cons (pv 4) pa_nil))) (pa_cons (pv 6) (pa_cons (pv 7) pa_nil)))))))
      (pss_one (ps_ret (pe_lst (pa_cons pe_int pa_nil))))))))))))), ?_⟩
    refine ⟨_, rfl, _, _, rfl, rfl, _, rfl, ?_⟩
    by_cases hi : i < 1024
    · refine if_false_of (decide_eq_false (show ¬ (1023 : Int) < (i : Int) by omega)) ?_
      refine ⟨_, rfl, _, rfl, A, W, sc, 0, d, i, rfl, as, hi, fun g H1 p l c k1 a1 t1 L1 C1 => ?_, fun bd H1 p x y k1 a1 t1 => ?_⟩
      · refine ⟨p, _, rfl, SqT.of t1.1, rfl, _, _, rfl, _, _, rfl, _, _, rfl, rfl, ?_⟩
        refine ⟨_, rfl, _, _, rfl, rfl, _, rfl, if_false_of (decide_eq_false (by decide)) ?_⟩
        have l11 := linksOf_len g
        refine ⟨_, rfl, l, linksOf d i, rfl, L1.sub (fun _ z => z.elim), l11, _, rfl, ?_⟩
        by_cases h0 : (leafLink d i).copy = 0
        · refine if_true_of (decide_eq_true h0) ?_
          refine ⟨line (by show 1 ≤ 16000000; decide), fun r hr => ?_⟩
          rw [act_forget_none hi g h0] at q
          refine q _ r 0 (k1.new hr) ?_ ⟨upd_same, fun z => a1.trk r z hr⟩
          show As CA CM W _ A sc 0 (goW d i).evs (d.after (goW d i).evs)
          rw [goW_after]
          exact a1.new hr
        · refine if_false_of (decide_eq_false h0) ?_
          have z0 : ∀ b, W0 b → W b := fun _ z => z.elim
          have c10 := contsOf_len g
          have c96 := goW_conts as.med.ok hi
          rw [needs_forget_good hi g h0] at hsc
          rw [act_forget_good hi g h0] at q
          have kn : keysOf1 sc = keysIn sc (stayN (contsOf d i) i 10) := by
            unfold keysOf1
            rw [nums_len sc hsc]
          rw [kn] at q
          refine ⟨_, rfl, i, rfl, hi, fun H2 n g2 n2 => ?_⟩
          have a2 := a1.gr g2
          have bn2 : BytesAt W H2 n (nodesL i) := n2.at_ a1.trk
          have C2 := C1.keep g2 z0
          have L2' := L1.keep g2 z0
          refine ⟨_, rfl, _, rfl, n, c, i, contsOf d i, rfl, bn2.1, C2.sub (fun _ z => z.elim), c10, c96, ?_⟩
          have sle := stayN_le (contsOf d i) i 10
          generalize hs : stayN (contsOf d i) i 10 = st at q hsc sle
          have dst := dec_int st 0
          refine ⟨_, rfl, rfl, _, rfl, ?_⟩
          by_cases s0 : st = 0
          · refine if_true_of (dst.trans (decide_eq_true s0)) ?_
            subst s0
            obtain ⟨s, e1, e2⟩ := a2.ex
            refine ⟨_, rfl, A.k, A.dk, _, rfl, e1, kF_no _ _ _ _ _ (by decide +kernel) (by decide +kernel) (by decide +kernel) (by decide +kernel) (by decide +kernel), rfl, fun H3 p3 g3 n3 => ?_⟩
            have ge := goW_evs (i := i) as.med.ok hi
            refine ⟨A, W, sc, 0, _, d, p3, zeros 40, rfl, a2.gr g3, by omega, n3.at_ a2.trk, len_zeros 40, fun H4 g4 a4 => ?_⟩
            refine ⟨line (by show 1 ≤ 16000000; decide), fun r hr => ?_⟩
            refine q _ r 0 ((k1.trans (g2.any.trans (g3.any.trans g4))).new hr) ?_ ⟨upd_same, fun z => a4.trk r z hr⟩
            show As CA CM W _ A sc 0 ((goW d i).evs ++ [.keep (zeros 40)]) (d.after ((goW d i).evs ++ [.keep (zeros 40)]))
            rw [after_app, goW_after]
            exact a4.new hr
          · refine if_false_of (dst.trans (decide_eq_false s0)) ?_
            obtain ⟨v, rfl⟩ : ∃ v, st = v + 1 := ⟨st - 1, by omega⟩
            obtain ⟨vs, co, ce⟩ := id C2
            obtain ⟨cx, w1, w2⟩ := ce.at_ (getD_get (x := zeros 96) (j := v) (l := contsOf d i) (by omega))
            have cv96 : ((contsOf d i).getD v (zeros 96)).length = 96 := c96 _ (List.mem_of_getElem? (getD_get (x := zeros 96) (j := v) (l := contsOf d i) (by omega)))
            refine ⟨_, rfl, _, rfl, _, _, rfl, rfl, c, vs, _, _, rfl, rfl, SqL.of co.1, at_of (j := v) (by omega) w1, _, rfl, _, rfl, n, _, _, _, rfl, rfl, SqL.of bn2.1, at_of (j := v + 1) rfl (nodes_get (by omega)), nodeAt i (v + 1), rfl, rfl, fun H3 nk g3 n3 => ?_⟩
            have a3 := a2.gr g3
            refine ⟨cx, nk, (contsOf d i).getD v (zeros 96), right_ i v, none_, rfl, (Old.gr w2 g3).1, cv96, (n3.at_ a2.trk).zero, none_ok, fun H4 o g4 n4 => ?_⟩
            have a4 := a3.gr g4
            refine ⟨_, rfl, _, rfl, _, rfl, _, rfl, line (by show 2 ≤ 16000000; decide), fun tw htw => ?_⟩
            have kt := (kp_at (W := W0) (H := H4) (H1 := H4) htw Kp.refl).new (o := .tup [.ref l, .ref c]) htw
            have kk : Kp W0 H2 _ := g3.trans (g4.trans kt)
            refine ⟨_, rfl, _, rfl, A, W, sc, _, d, i, v + 1, n, tw, l, c, o, linksOf d i, contsOf d i, withChild ((contsOf d i).getD v (zeros 96)) (right_ i v) none_, rfl, a4.gr kt, Nat.le_trans (goW_evs as.med.ok hi) (by decide), hi, by omega, by omega, hsc,
              bn2.gr kk, ⟨upd_same, fun z => a4.trk tw z htw⟩, L2'.keep kk z0, l11, C2.keep kk z0, c10, c96, BytesAt.keep (n4.at_ a3.trk) kt z0, withChild_len cv96 _ none_ok, fun H5 t g5 a5 => ?_⟩
            refine ⟨line (by show 1 ≤ 16000000; decide), fun r hr => ?_⟩
            refine q _ r t ((k1.trans (g2.any.trans (kk.any.trans g5))).new hr) ?_ ⟨upd_same, fun z => a5.trk r z hr⟩
            show As CA CM W _ A sc t ((goW d i).evs ++ _) (d.after ((goW d i).evs ++ _))
            rw [after_app, goW_after]
            exact a5.new hr
      · refine ⟨p, _, rfl, SqT.of t1.1, rfl, _, _, rfl, _, _, rfl, _, _, rfl, rfl, ?_⟩
        refine ⟨_, rfl, _, _, rfl, rfl, _, rfl, if_true_of (decide_eq_true (by decide)) ?_⟩
        refine ⟨_, rfl, line (by show 1 ≤ 16000000; decide), fun r hr => ?_⟩
        rw [act_forget_bad hi bd] at q
        refine q _ r 0 (k1.new hr) ?_ ⟨upd_same, fun z => a1.trk r z hr⟩
        show As CA CM W _ A sc 0 (goW d i).evs (d.after (goW d i).evs)
        rw [goW_after]
        exact a1.new hr
    · refine if_true_of (decide_eq_true (show (1023 : Int) < (i : Int) by omega)) ?_
      refine ⟨line (by show 1 ≤ 16000000; decide), fun r hr => ?_⟩
      rw [act_forget_big hi] at q
      exact q _ r 0 (Kp.refl.new hr) (as.new hr) ⟨upd_same, fun z => as.trk r z hr⟩
theorem ok_slot_answer {f : Addr} {fd : FuncData} (F : Fun K "slot_answer" "slot_answer" s_slot_answer f fd) (T : Txt K mg CA CM) (c_do_forget : Cal P w K mg base "do_forget" 5 ["asking", "slot"] (sp_do_forget K CA CM)) (c_do_clear : Cal P w K mg base "do_clear" 3 ["asking"] (sp_do_clear K CA CM)) (c_do_put : Cal P w K mg base "do_put" 5 ["asking", "slot", "data"] (sp_do_put K CA CM)) (c_do_get : Cal P w K mg base "do_get" 5 ["asking", "slot"] (sp_do_get K CA CM)) : FnOk P w K mg base CX0 6 f fd ["asking", "deed", "slot", "data"] (sp_slot_answer K CA CM) := by
  refine F.ok sc_slot_answer (fun vs H Q E h => ?_) (fun cdv A outer s H vs Q E hr h => ?_)
  · obtain ⟨A, W, sc, d, z, i, c, b, keys, call, rfl, _⟩ := h
    rfl
  · obtain ⟨A, W, sc, d, z, i, c, b, keys, call, rfl, as, hb, dd, q⟩ := h
    refine ⟨_, (pss_cons (ps_if (pt_cmpR op_eq (pv 1) (pe_g T.g_CLEAR rfl) (nomark _)) (pss_one (ps_ret (pe_c c_do_clear (hr.mono (by decide)) rfl (pa_cons (pv 0) pa_nil)))) pss_nil)
      (pss_cons (ps_if (pt_cmpR op_eq (pv 1) (pe_g T.g_PUT rfl) (nomark _)) (pss_one (ps_ret (pe_c c_do_put (hr.mono (by decide)) rfl (pa_cons (pv 0) (pa_cons (pv 2) (pa_cons (pv 3) pa_nil)))))) pss_nil)
      (pss_cons (ps_if (pt_cmpR op_eq (pv 1) (pe_g T.g_GET rfl) (nomark _)) (pss_one (ps_ret (pe_c c_do_get (hr.mono (by decide)) rfl (pa_cons (pv 0) (pa_cons (pv 2) pa_nil))))) pss_nil)
      (pss_one (ps_ret (pe_c c_do_forget (hr.mono (by decide)) rfl (pa_cons (pv 0) (pa_cons (pv 2) pa_nil)))))))), ?_⟩
    cases dd with
    | clear =>
      refine ⟨_, rfl, rfl, _, rfl, if_true_of (decide_eq_true rfl) ?_⟩
      exact ⟨_, rfl, A, W, sc, d, rfl, as, q⟩
    | put _ _ h1 h2 =>
      refine ⟨_, rfl, rfl, _, rfl, if_false_of (decide_eq_false (by decide)) ?_⟩
      refine ⟨_, rfl, rfl, _, rfl, if_true_of (decide_eq_true rfl) ?_⟩
      exact ⟨_, rfl, _, rfl, _, rfl, A, W, sc, d, i, c, b, rfl, as, hb, h1, h2, q⟩
    | get =>
      refine ⟨_, rfl, rfl, _, rfl, if_false_of (decide_eq_false (by decide)) ?_⟩
      refine ⟨_, rfl, rfl, _, rfl, if_false_of (decide_eq_false (by decide)) ?_⟩
      refine ⟨_, rfl, rfl, _, rfl, if_true_of (decide_eq_true rfl) ?_⟩
      exact ⟨_, rfl, _, rfl, A, W, sc, d, i, rfl, as, q⟩
    | forget _ _ h1 =>
      refine ⟨_, rfl, rfl, _, rfl, if_false_of (decide_eq_false (by decide)) ?_⟩
      refine ⟨_, rfl, rfl, _, rfl, if_false_of (decide_eq_false (by decide)) ?_⟩
      refine ⟨_, rfl, rfl, _, rfl, if_false_of (decide_eq_false (by decide)) ?_⟩
      exact ⟨_, rfl, _, rfl, A, W, sc, d, i, rfl, as, h1, q⟩
end
end SF

set_option Elab.async false
set_option linter.all false
set_option maxRecDepth 100000
set_option maxHeartbeats 4000000
/-! SfCalls: the calls read, each answered. -/
namespace SF
open PySem PySem.Spec PyProof.Rows L2
open Ks189 (Bytes Ref Node Ev Dev zeros xor none_ other pageOf nodeAt right_ had leafOf)
theorem Kp.same {H H' : Hp} (k : Kp W0 H H') : Same H H' := fun b o e => k.st b o e fun z => z
theorem Kp.hide {W W' : Addr → Prop} {H H1 H2 : Hp} (a : Kp W H H1) (b : Kp W' H1 H2) (s : ∀ b, W' b → W b ∨ H b = none) : Kp W H H2 :=
  ⟨fun c o e n => b.st c o (a.st c o e n) fun z => (s c z).elim n fun y => ne_of_none e y rfl, fun c e => a.tr c (b.tr c e)⟩
theorem il_cut (ns : List Int) (j n : Nat) : cutV (il ns) (some ((j + 1 : Nat) : Int)) (some ((j + 1 + n : Nat) : Int)) = il ((ns.drop (j + 1)).take n) := by
  rw [cut_nat, il_drop, il_take, Nat.add_sub_cancel_left]
theorem nl_nats {l : List Int} (h : ∀ x ∈ l, 0 ≤ x) : nl (natL l) = il l := by
  unfold nl
  rw [ints_nats h]
section
variable {P : Program} {w : World} {K : PySem.W.Frag} {mg : Str → Option Value} {base : Heap} {CA CM : Addr}
theorem ok_row_at {f : Addr} {fd : FuncData} (F : Fun K "row_at" "row_at" s_row_at f fd) (T : Txt K mg CA CM)  : FnOk P w K mg base CX0 1 f fd ["calls", "at"] (sp_row_at K CA CM) := by
  refine F.ok sc_row_at (fun vs H Q E h => ?_) (fun cdv A outer s H vs Q E hr h => ?_)
  · obtain ⟨a, ns, j, n, rfl, _⟩ := h
    rfl
  · obtain ⟨a, ns, j, n, rfl, hS, hn, q⟩ := h
    refine ⟨_, (pss_cons (ps_set (i := 2) sc_row_at.nd rfl (Or.inl rfl) (pe_op op_add (pv 1) pe_int))
      (pss_cons (ps_set (i := 3) sc_row_at.nd rfl (Or.inl rfl) (pe_op op_add (pv 2) (pe_ix ix_list (pv 0) (pv 1) (fun _ _ => rfl))))
      (pss_one (ps_ret (pe_tup (pa_cons (pe_slice sl_list (pv 0) (po_some (pv 2)) (po_some (pv 3))) (pa_cons (pv 3) pa_nil))))))), ?_⟩
    refine ⟨_, rfl, _, _, rfl, rfl, _, rfl, _, rfl, _, rfl, a, il ns, _, _, rfl, rfl, hS, at_of (j := j) rfl (il_get hn), _, _, rfl, rfl, ?_⟩
    refine ⟨_, rfl, _, rfl, _, rfl, _, rfl, _, rfl, a, il ns, rfl, hS, fun r hr => ?_⟩
    refine ⟨_, rfl, line (by show 2 ≤ 16000000; decide), fun p hp => ?_⟩
    have k1 : Kp W0 H _ := kp_at hp (Kp.refl.new hr)
    refine q _ p r (k1.new hp) (k1.tr p hp) hr upd_same ?_
    rw [upd_ne (ne_of_none upd_same hp), upd_same]
    exact congrArg (fun z => some (HO.lst z)) (il_cut ns j n)
theorem ok_read_call {f : Addr} {fd : FuncData} (F : Fun K "read_call" "read_call" s_read_call f fd) (T : Txt K mg CA CM) (c_row_at : Cal P w K mg base "row_at" 1 ["calls", "at"] (sp_row_at K CA CM)) : FnOk P w K mg base CX0 2 f fd ["calls", "at"] (sp_read_call K CA CM) := by
  refine F.ok sc_read_call (fun vs H Q E h => ?_) (fun cdv A outer s H vs Q E hr h => ?_)
  · obtain ⟨a, ns, j, b, c, rfl, _⟩ := h
    rfl
  · obtain ⟨a, ns, j, b, c, rfl, hS, R, q⟩ := h
    refine ⟨_, (pss_cons (ps_set (i := 2) sc_read_call.nd rfl (Or.inl rfl) (pe_ix ix_list (pv 0) (pv 1) (fun _ _ => rfl)))
      (pss_cons (ps_if (pt_cmpR op_eq (pv 2) (pe_g T.g_CLEAR rfl) (nomark _)) (pss_one (ps_ret (pe_tup (pa_cons (pe_tup (pa_cons (pv 2) (pa_cons pe_int (pa_cons (pe_lst pa_nil) (pa_cons (pe_lst pa_nil) pa_nil))))) (pa_cons (pe_op op_add (pv 1) pe_int) pa_nil))))) pss_nil)
      (pss_cons (ps_if (pt_cmpR op_eq (pv 2) (pe_g T.g_PUT rfl) (nomark _)) (pss_cons (ps_asg (pe_c c_row_at (hr.mono (by decide)) rfl (pa_cons (pv 0) (pa_cons (pe_op op_add (pv 1) pe_int) pa_nil))) (pg_tup rfl (pgs_cons (pg_name (i := 3) sc_read_call.nd rfl (Or.inl rfl)) (pgs_cons (pg_name (i := 4) sc_read_call.nd rfl (Or.inl rfl)) pgs_nil))))
      (pss_cons (ps_asg (pe_c c_row_at (hr.mono (by decide)) rfl (pa_cons (pv 0) (pa_cons (pv 4) pa_nil))) (pg_tup rfl (pgs_cons (pg_name (i := 5) sc_read_call.nd rfl (Or.inl rfl)) (pgs_cons (pg_name (i := 6) sc_read_call.nd rfl (Or.inl rfl)) pgs_nil))))
      (pss_one (ps_ret (pe_tup (pa_cons (pe_tup (pa_cons (pv 2) (pa_cons (pe_ix ix_list (pv 0) (pe_op op_add (pv 1) pe_int) (fun _ _ => rfl)) (pa_cons (pv 3) (pa_cons (pv 5) pa_nil))))) (pa_cons (pv 6) pa_nil))))))) pss_nil)
      (pss_cons (ps_if (pt_cmpR op_eq (pv 2) (pe_g T.g_GET rfl) (nomark _)) (pss_one (ps_ret (pe_tup (pa_cons (pe_tup (pa_cons (pv 2) (pa_cons (pe_ix ix_list (pv 0) (pe_op op_add (pv 1) pe_int) (fun _ _ => rfl)) (pa_cons (pe_lst pa_nil) (pa_cons (pe_lst pa_nil) pa_nil))))) (pa_cons (pe_op op_add (pv 1) pe_int) pa_nil))))) pss_nil)
      (pss_cons (ps_if (pt_cmpR op_eq (pv 2) (pe_g T.g_FORGET rfl) (nomark _)) (pss_cons (ps_asg (pe_c c_row_at (hr.mono (by decide)) rfl (pa_cons (pv 0) (pa_cons (pe_op op_add (pv 1) pe_int) pa_nil))) (pg_tup rfl (pgs_cons (pg_name (i := 5) sc_read_call.nd rfl (Or.inl rfl)) (pgs_cons (pg_name (i := 6) sc_read_call.nd rfl (Or.inl rfl)) pgs_nil))))
      (pss_one (ps_ret (pe_tup (pa_cons (pe_tup (pa_cons (pv 2) (pa_cons (pe_ix ix_list (pv 0) (pe_op op_add (pv 1) pe_int) (fun _ _ => rfl)) (pa_cons (pe_lst pa_nil) (pa_cons (pv 5) pa_nil))))) (pa_cons (pv 6) pa_nil)))))) pss_nil)
      (pss_cons (ps_if (pt_cmpR op_eq (pv 2) (pe_g T.g_SET_FRONT rfl) (nomark _)) (pss_cons (ps_asg (pe_c c_row_at (hr.mono (by decide)) rfl (pa_cons (pv 0) (pa_cons (pe_op op_add (pv 1) pe_int) pa_nil))) (pg_tup rfl (pgs_cons (pg_name (i := 3) sc_read_call.nd rfl (Or.inl rfl)) (pgs_cons (pg_name (i := 6) sc_read_call.nd rfl (Or.inl rfl)) pgs_nil))))
      (pss_one (ps_ret (pe_tup (pa_cons (pe_tup (pa_cons (pv 2) (pa_cons pe_int (pa_cons (pv 3) (pa_cons (pe_lst pa_nil) pa_nil))))) (pa_cons (pv 6) pa_nil)))))) pss_nil)
      (pss_cons (ps_asg (pe_c c_row_at (hr.mono (by decide)) rfl (pa_cons (pv 0) (pa_cons (pe_op op_add (pv 1) pe_int) pa_nil))) (pg_tup rfl (pgs_cons (pg_name (i := 3) sc_read_call.nd rfl (Or.inl rfl)) (pgs_cons (pg_name (i := 6) sc_read_call.nd rfl (Or.inl rfl)) pgs_nil))))
      (pss_one (ps_ret (pe_tup (pa_cons (pe_tup (pa_cons (pv 2) (pa_cons (pe_ix ix_list (pv 0) (pe_op op_add (pv 1) pe_int) (fun _ _ => rfl)) (pa_cons (pv 3) (pa_cons (pe_lst pa_nil) pa_nil))))) (pa_cons (pv 6) pa_nil)))))))))))), ?_⟩
    cases R with
    | clear e0 =>
      refine ⟨_, rfl, _, rfl, a, il ns, _, _, rfl, rfl, hS, at_of (j := j) rfl (il_get e0), ?_⟩
      refine ⟨_, rfl, rfl, _, rfl, if_true_of (decide_eq_true rfl) ?_⟩
      refine ⟨_, rfl, Nat.zero_le _, fun l1 h1 => ⟨Nat.zero_le _, fun l2 h2 => ⟨line (by show 4 ≤ 16000000; decide), fun t ht => ?_⟩⟩⟩
      refine ⟨_, rfl, _, _, rfl, rfl, line (by show 2 ≤ 16000000; decide), fun p hp => ?_⟩
      have k1 : Kp W0 H _ := kp_at h2 (Kp.refl.new h1)
      have k2 := kp_at ht (k1.new h2)
      have k3 := kp_at hp (k2.new ht)
      refine q _ p t (k3.new hp) (k3.tr p hp) upd_same fun W tr => ⟨0, 0, [], [], l1, l2, .clear, ⟨up1 upd_same hp, fun z => tr t z (k2.tr t ht)⟩, ⟨up1 (up1 (up1 upd_same h2) ht) hp, fun z => tr l1 z h1⟩, ⟨up1 (up1 upd_same ht) hp, fun z => tr l2 z (k1.tr l2 h2)⟩⟩
    | put av n m e0 e1 e2 l3 e4 l5 =>
      refine ⟨_, rfl, _, rfl, a, il ns, _, _, rfl, rfl, hS, at_of (j := j) rfl (il_get e0), ?_⟩
      refine ⟨_, rfl, rfl, _, rfl, if_false_of (decide_eq_false (by decide)) ?_⟩
      refine ⟨_, rfl, rfl, _, rfl, if_true_of (decide_eq_true rfl) ?_⟩
      refine ⟨_, rfl, _, rfl, _, _, rfl, rfl, a, ns, j + 2, n, rfl, hS, e2, fun H1 p1 r1 g1 n1 m1 hp1 hr1 => ?_⟩
      refine ⟨p1, _, rfl, SqT.of hp1, rfl, _, _, rfl, _, _, rfl, rfl, ?_⟩
      refine ⟨_, rfl, _, rfl, a, ns, j + 2 + 1 + n, m, rfl, g1.same.seq hS, e4, fun H2 p2 r2 g2 n2 m2 hp2 hr2 => ?_⟩
      refine ⟨p2, _, rfl, SqT.of hp2, rfl, _, _, rfl, _, _, rfl, rfl, ?_⟩
      refine ⟨_, rfl, _, rfl, _, rfl, _, _, rfl, rfl, a, il ns, _, _, rfl, rfl, (g1.trans g2).same.seq hS, at_of (j := j + 1) rfl (il_get e1), _, rfl, _, rfl, line (by show 4 ≤ 16000000; decide), fun t ht => ?_⟩
      refine ⟨_, rfl, line (by show 2 ≤ 16000000; decide), fun p hp => ?_⟩
      have k2 := kp_at ht (g1.trans g2)
      have k3 := kp_at hp (k2.new ht)
      exact q _ p t (k3.new hp) (k3.tr p hp) upd_same fun W tr => ⟨1, av, _, _, r1, r2, .put _ _ _, ⟨up1 upd_same hp, fun z => tr t z (k2.tr t ht)⟩, ⟨up1 (up1 (g2.st _ _ hr1 (fun z => z)) ht) hp, fun z => tr r1 z m1⟩, ⟨up1 (up1 hr2 ht) hp, fun z => tr r2 z (g1.tr r2 m2)⟩⟩
    | get av e0 e1 =>
      refine ⟨_, rfl, _, rfl, a, il ns, _, _, rfl, rfl, hS, at_of (j := j) rfl (il_get e0), ?_⟩
      refine ⟨_, rfl, rfl, _, rfl, if_false_of (decide_eq_false (by decide)) ?_⟩
      refine ⟨_, rfl, rfl, _, rfl, if_false_of (decide_eq_false (by decide)) ?_⟩
      refine ⟨_, rfl, rfl, _, rfl, if_true_of (decide_eq_true rfl) ?_⟩
      refine ⟨_, rfl, _, rfl, _, rfl, _, _, rfl, rfl, a, il ns, _, _, rfl, rfl, hS, at_of (j := j + 1) rfl (il_get e1), Nat.zero_le _, fun l1 h1 => ⟨Nat.zero_le _, fun l2 h2 => ⟨line (by show 4 ≤ 16000000; decide), fun t ht => ?_⟩⟩⟩
      refine ⟨_, rfl, _, _, rfl, rfl, line (by show 2 ≤ 16000000; decide), fun p hp => ?_⟩
      have k1 : Kp W0 H _ := kp_at h2 (Kp.refl.new h1)
      have k2 := kp_at ht (k1.new h2)
      have k3 := kp_at hp (k2.new ht)
      exact q _ p t (k3.new hp) (k3.tr p hp) upd_same fun W tr => ⟨2, av, [], [], l1, l2, .get _, ⟨up1 upd_same hp, fun z => tr t z (k2.tr t ht)⟩, ⟨up1 (up1 (up1 upd_same h2) ht) hp, fun z => tr l1 z h1⟩, ⟨up1 (up1 upd_same ht) hp, fun z => tr l2 z (k1.tr l2 h2)⟩⟩
    | forget av m e0 e1 e2 l3 =>
      refine ⟨_, rfl, _, rfl, a, il ns, _, _, rfl, rfl, hS, at_of (j := j) rfl (il_get e0), ?_⟩
      refine ⟨_, rfl, rfl, _, rfl, if_false_of (decide_eq_false (by decide)) ?_⟩
      refine ⟨_, rfl, rfl, _, rfl, if_false_of (decide_eq_false (by decide)) ?_⟩
      refine ⟨_, rfl, rfl, _, rfl, if_false_of (decide_eq_false (by decide)) ?_⟩
      refine ⟨_, rfl, rfl, _, rfl, if_true_of (decide_eq_true rfl) ?_⟩
      refine ⟨_, rfl, _, rfl, _, _, rfl, rfl, a, ns, j + 2, m, rfl, hS, e2, fun H1 p1 r1 g1 n1 m1 hp1 hr1 => ?_⟩
      refine ⟨p1, _, rfl, SqT.of hp1, rfl, _, _, rfl, _, _, rfl, rfl, ?_⟩
      refine ⟨_, rfl, _, rfl, _, rfl, _, _, rfl, rfl, a, il ns, _, _, rfl, rfl, g1.same.seq hS, at_of (j := j + 1) rfl (il_get e1), Nat.zero_le _, fun l2 h2 => ⟨_, rfl, line (by show 4 ≤ 16000000; decide), fun t ht => ?_⟩⟩
      refine ⟨_, rfl, line (by show 2 ≤ 16000000; decide), fun p hp => ?_⟩
      have k1 := kp_at h2 g1
      have k2 := kp_at ht (k1.new h2)
      have k3 := kp_at hp (k2.new ht)
      exact q _ p t (k3.new hp) (k3.tr p hp) upd_same fun W tr => ⟨3, av, [], _, l2, r1, .forget _ _, ⟨up1 upd_same hp, fun z => tr t z (k2.tr t ht)⟩, ⟨up1 (up1 upd_same ht) hp, fun z => tr l2 z (k1.tr l2 h2)⟩, ⟨up1 (up1 (up1 hr1 h2) ht) hp, fun z => tr r1 z m1⟩⟩
    | reg n e0 e1 l2 =>
      refine ⟨_, rfl, _, rfl, a, il ns, _, _, rfl, rfl, hS, at_of (j := j) rfl (il_get e0), ?_⟩
      refine ⟨_, rfl, rfl, _, rfl, if_false_of (decide_eq_false (by decide)) ?_⟩
      refine ⟨_, rfl, rfl, _, rfl, if_false_of (decide_eq_false (by decide)) ?_⟩
      refine ⟨_, rfl, rfl, _, rfl, if_false_of (decide_eq_false (by decide)) ?_⟩
      refine ⟨_, rfl, rfl, _, rfl, if_false_of (decide_eq_false (by decide)) ?_⟩
      refine ⟨_, rfl, rfl, _, rfl, if_true_of (decide_eq_true rfl) ?_⟩
      refine ⟨_, rfl, _, rfl, _, _, rfl, rfl, a, ns, j + 1, n, rfl, hS, e1, fun H1 p1 r1 g1 n1 m1 hp1 hr1 => ?_⟩
      refine ⟨p1, _, rfl, SqT.of hp1, rfl, _, _, rfl, _, _, rfl, rfl, ?_⟩
      refine ⟨_, rfl, _, rfl, Nat.zero_le _, fun l2 h2 => ⟨line (by show 4 ≤ 16000000; decide), fun t ht => ?_⟩⟩
      refine ⟨_, rfl, line (by show 2 ≤ 16000000; decide), fun p hp => ?_⟩
      have k1 := kp_at h2 g1
      have k2 := kp_at ht (k1.new h2)
      have k3 := kp_at hp (k2.new ht)
      exact q _ p t (k3.new hp) (k3.tr p hp) upd_same fun W tr => ⟨4, 0, _, [], r1, l2, .reg _, ⟨up1 upd_same hp, fun z => tr t z (k2.tr t ht)⟩, ⟨up1 (up1 (up1 hr1 h2) ht) hp, fun z => tr r1 z m1⟩, ⟨up1 (up1 upd_same ht) hp, fun z => tr l2 z (k1.tr l2 h2)⟩⟩
    | page av n e0 e1 e2 l3 =>
      refine ⟨_, rfl, _, rfl, a, il ns, _, _, rfl, rfl, hS, at_of (j := j) rfl (il_get e0), ?_⟩
      refine ⟨_, rfl, rfl, _, rfl, if_false_of (decide_eq_false (by decide)) ?_⟩
      refine ⟨_, rfl, rfl, _, rfl, if_false_of (decide_eq_false (by decide)) ?_⟩
      refine ⟨_, rfl, rfl, _, rfl, if_false_of (decide_eq_false (by decide)) ?_⟩
      refine ⟨_, rfl, rfl, _, rfl, if_false_of (decide_eq_false (by decide)) ?_⟩
      refine ⟨_, rfl, rfl, _, rfl, if_false_of (decide_eq_false (by decide)) ?_⟩
      refine ⟨_, rfl, _, rfl, _, _, rfl, rfl, a, ns, j + 2, n, rfl, hS, e2, fun H1 p1 r1 g1 n1 m1 hp1 hr1 => ?_⟩
      refine ⟨p1, _, rfl, SqT.of hp1, rfl, _, _, rfl, _, _, rfl, rfl, ?_⟩
      refine ⟨_, rfl, _, rfl, _, rfl, _, _, rfl, rfl, a, il ns, _, _, rfl, rfl, g1.same.seq hS, at_of (j := j + 1) rfl (il_get e1), _, rfl, Nat.zero_le _, fun l2 h2 => ⟨line (by show 4 ≤ 16000000; decide), fun t ht => ?_⟩⟩
      refine ⟨_, rfl, line (by show 2 ≤ 16000000; decide), fun p hp => ?_⟩
      have k1 := kp_at h2 g1
      have k2 := kp_at ht (k1.new h2)
      have k3 := kp_at hp (k2.new ht)
      exact q _ p t (k3.new hp) (k3.tr p hp) upd_same fun W tr => ⟨5, av, _, [], r1, l2, .page _ _, ⟨up1 upd_same hp, fun z => tr t z (k2.tr t ht)⟩, ⟨up1 (up1 (up1 hr1 h2) ht) hp, fun z => tr r1 z m1⟩, ⟨up1 (up1 upd_same ht) hp, fun z => tr l2 z (k1.tr l2 h2)⟩⟩
end
end SF

set_option Elab.async false
set_option linter.all false
set_option maxRecDepth 100000
set_option maxHeartbeats 4000000
/-! SfTop: all calls read, one call's answer, the answers. -/
namespace SF
open PySem PySem.Spec PyProof.Rows L2
open Ks189 (Bytes Ref Node Ev Dev zeros xor none_ other pageOf nodeAt right_ had leafOf)
theorem CallAt.keep {W W' : Addr → Prop} {H H' : Hp} {t : Addr} {c : List (List Int)} (h : CallAt W H t c) (k : Kp W' H H') (s : ∀ b, W' b → W b) : CallAt W H' t c := by
  obtain ⟨z, n, row, sc, r, q, h1, h2, h3, h4⟩ := h
  exact ⟨z, n, row, sc, r, q, h1, h2.keep k s, h3.keep k s, h4.keep k s⟩
theorem CallAt.sub {W W' : Addr → Prop} {H : Hp} {t : Addr} {c : List (List Int)} (h : CallAt W H t c) (s : ∀ b, W' b → W b) : CallAt W' H t c := by
  obtain ⟨z, n, row, sc, r, q, h1, h2, h3, h4⟩ := h
  exact ⟨z, n, row, sc, r, q, h1, h2.sub s, h3.sub s, h4.sub s⟩
theorem CallAt.up {W : Addr → Prop} {H : Hp} {t p : Addr} {c : List (List Int)} {v : HO} (h : CallAt W H t c) (w : W p) : CallAt W (upd H p v) t c := by
  obtain ⟨z, n, row, sc, r, q, h1, h2, h3, h4⟩ := h
  exact ⟨z, n, row, sc, r, q, h1, h2.up w, h3.up w, h4.up w⟩
theorem Trk.wide {W : Addr → Prop} {H : Hp} {p : Addr} {o : HO} (t : Trk W H) (h : H p = some o) : Trk (WP W p) H := by
  rintro b (z | z)
  · exact t b z
  · rw [z, h]
    exact fun z => nomatch z
theorem MedAt.mP {CM : Addr} {W : Addr → Prop} {H : Hp} {m dm aP : Addr} {d : Dev} (h : MedAt CM W H m dm aP d) : m ≠ aP := by
  obtain ⟨⟨f, refs, e1, _, e3, _⟩, _⟩ := h
  exact ne_of e1 e3 (by intro z; cases z)
theorem told1_is (x : List Ev × Ks189.Ans) : il (told1 x) = (il (x.2.ret :: intL x.2.out) ++ [V.int (x.1.length : Int)]) ++ il (tells x.1) := by
  unfold told1 il
  rw [List.map_cons, List.map_append, List.map_cons, List.map_cons, List.append_assoc]
  rfl
section
variable {P : Program} {w : World} {K : PySem.W.Frag} {mg : Str → Option Value} {base : Heap} {CA CM : Addr}
theorem ok_read_calls {f : Addr} {fd : FuncData} (F : Fun K "read_calls" "read_calls" s_read_calls f fd) (T : Txt K mg CA CM) (c_read_call : Cal P w K mg base "read_call" 2 ["calls", "at"] (sp_read_call K CA CM)) : FnOk P w K mg base CX0 3 f fd ["calls"] (sp_read_calls K CA CM) := by
  refine F.ok sc_read_calls (fun vs H Q E h => ?_) (fun cdv A outer s H vs Q E hr h => ?_)
  · obtain ⟨a, ns, cs, rfl, _⟩ := h
    rfl
  · obtain ⟨a, ns, cs, rfl, hS, hlen, R0, q⟩ := h
    refine ⟨_, (pss_cons (ps_set (i := 1) sc_read_calls.nd rfl (Or.inl rfl) (pe_lst pa_nil))
      (pss_cons (ps_set (i := 2) sc_read_calls.nd rfl (Or.inl rfl) pe_int)
      (pss_cons (ps_while PassesOwn.never (pt_cmpR op_lt (pv 2) (pe_callB call_len_seq rfl T.zLen PySem.boot_len (pa_cons (pv 0) pa_nil)) (nomark _)) (pss_cons (ps_asg (pe_c c_read_call (hr.mono (by decide)) rfl (pa_cons (pv 0) (pa_cons (pv 2) pa_nil))) (pg_tup rfl (pgs_cons (pg_name (i := 3) sc_read_calls.nd rfl (Or.inl rfl)) (pgs_cons (pg_name (i := 2) sc_read_calls.nd rfl (Or.inl rfl)) pgs_nil))))
      (pss_one (ps_expr (pe_bm PySem.F.plainAttrs_list PySem.F.slot_list_append PySem.F.type_list_append mt_append (pv 1) (pa_cons (pv 3) pa_nil))))))
      (pss_one (ps_ret (pv 1)))))), ?_⟩
    refine ⟨Nat.zero_le _, fun f hf => ?_⟩
    refine ⟨fun m σ H' => ∃ (j : Nat) (us : List V) (dn rest : List (List (List Int))) (v3 : Option V), m = ns.length - j ∧ σ = [some (.ref a), some (.ref f), some (.int (j : Int)), v3] ∧ Kp W0 H H' ∧ H' f = some (.lst us) ∧ dn ++ rest = cs ∧ Rest ns j rest ∧ dn.length ≤ j ∧ j ≤ ns.length ∧ us.length = dn.length ∧ ∀ W, Trk W H → Each (CallAt (WP W f) H') us dn,
      ⟨_, 0, [], [], cs, none, rfl, rfl, Kp.refl.new hf, upd_same, rfl, R0, Nat.zero_le _, Nat.zero_le _, rfl, fun W tr => Each.nil⟩, ?_⟩
    rintro m σ H' ⟨j, us, dn, rest, v3, rfl, rfl, k, hfu, ecs, R, dl, jl, ul, hE⟩
    have hS' := k.same.seq hS
    refine ⟨_, rfl, _, rfl, a, il ns, rfl, .inl hS', _, _, rfl, rfl, _, rfl, ?_⟩
    rw [il_len]
    by_cases hj : j < ns.length
    · refine if_true_of (decide_eq_true (by omega)) ?_
      refine ⟨fun σ' H' => ∃ m', m' < ns.length - j ∧ _, fun _ _ h => h, ?_⟩
      obtain ⟨c, r, b, rfl, RA, R'⟩ := R.next hj
      have lb := RA.lt
      have bl := RA.le
      refine ⟨_, rfl, _, rfl, a, ns, j, b, c, rfl, hS', RA, fun H1 p t g np hp ct => ?_⟩
      refine ⟨p, _, rfl, SqT.of hp, rfl, _, _, rfl, _, _, rfl, rfl, ?_⟩
      have hf1 := g.st _ _ hfu (fun z => z)
      refine ⟨_, rfl, .inl ⟨rfl, _, SqL.of hf1⟩, _, rfl, f, us, _, rfl, rfl, hf1, line_lt (by omega), ?_⟩
      refine ⟨ns.length - b, by omega, b, us ++ [V.ref t], dn ++ [c], r, some (.ref t), rfl, rfl, (k.trans g).own hf, upd_same, by rw [List.append_assoc]; exact ecs, R', ?_, bl, ?_, fun W tr => ?_⟩
      · rw [List.length_append, List.length_singleton]
        omega
      · rw [List.length_append, List.length_append, ul]
        rfl
      · have tr1 : Trk (WP W f) H' := (tr.keep k).wide hfu
        exact Each.push ((hE W tr).mono fun x y z => (z.keep g (fun _ z => z.elim)).up (.inr rfl)) ((ct _ tr1).up (.inr rfl))
    · refine if_false_of (decide_eq_false (by omega)) ?_
      have e := R.end_ (by omega)
      subst e
      rw [List.append_nil] at ecs
      subst ecs
      exact ⟨_, rfl, q H' f k fun W tr => ⟨us, ⟨hfu, fun z => tr f z hf⟩, (hE W tr).mono fun x y z => z.sub fun b y => .inl y⟩⟩
theorem ok_call_answer {f : Addr} {fd : FuncData} (F : Fun K "call_answer" "call_answer" s_call_answer f fd) (T : Txt K mg CA CM) (c_A_init : CalI P w K mg base "Asking" CA 1 ["self", "medium", "script"] (sp_A_init K CA CM)) (c_slot_answer : Cal P w K mg base "slot_answer" 6 ["asking", "deed", "slot", "data"] (sp_slot_answer K CA CM)) (c_M_set_front : CalM P w K mg base CM "set_front" 1 ["self", "content"] (sp_M_set_front K CA CM)) (c_M_set_page : CalM P w K mg base CM "set_page" 1 ["self", "page", "content"] (sp_M_set_page K CA CM)) : FnOk P w K mg base CX0 7 f fd ["medium", "call"] (sp_call_answer K CA CM) := by
  refine F.ok sc_call_answer (fun vs H Q E h => ?_) (fun cdv A outer s H vs Q E hr h => ?_)
  · obtain ⟨m, dm, aP, t, W, s, c, rfl, _⟩ := h
    rfl
  · obtain ⟨m, dm, aP, t, W, s, c, rfl, md, sub, trk, ⟨z, n, row, sc, r, u, ic, ht, hrow, hsc⟩, hform, hscr, hten, q⟩ := h
    refine ⟨_, (pss_cons (ps_asg (pv 1) (pg_tup rfl (pgs_cons (pg_name (i := 2) sc_call_answer.nd rfl (Or.inl rfl)) (pgs_cons (pg_name (i := 3) sc_call_answer.nd rfl (Or.inl rfl)) (pgs_cons (pg_name (i := 4) sc_call_answer.nd rfl (Or.inl rfl)) (pgs_cons (pg_name (i := 5) sc_call_answer.nd rfl (Or.inl rfl)) pgs_nil))))))
      (pss_cons (ps_if (pt_cmpR op_eq (pv 2) (pe_g T.g_SET_FRONT rfl) (nomark _)) (pss_cons (ps_expr (pe_m c_M_set_front T.clM (hr.mono (by decide)) (pv 0) (pa_cons (pv 4) pa_nil)))
      (pss_one (ps_ret (pe_lst (pa_cons pe_int pa_nil))))) pss_nil)
      (pss_cons (ps_if (pt_cmpR op_eq (pv 2) (pe_g T.g_SET_PAGE rfl) (nomark _)) (pss_cons (ps_expr (pe_m c_M_set_page T.clM (hr.mono (by decide)) (pv 0) (pa_cons (pv 3) (pa_cons (pv 4) pa_nil))))
      (pss_one (ps_ret (pe_lst (pa_cons pe_int pa_nil))))) pss_nil)
      (pss_cons (ps_set (i := 6) sc_call_answer.nd rfl (Or.inl rfl) (pe_i c_A_init (hr.mono (by decide)) rfl (pa_cons (pv 0) (pa_cons (pv 5) pa_nil))))
      (pss_cons (ps_set (i := 7) sc_call_answer.nd rfl (Or.inl rfl) (pe_c c_slot_answer (hr.mono (by decide)) rfl (pa_cons (pv 6) (pa_cons (pv 2) (pa_cons (pv 3) (pa_cons (pv 4) pa_nil))))))
      (pss_one (ps_ret (pe_op op_cat (pe_op op_cat (pv 7) (pe_lst (pa_cons (pe_fld (pv 6) rfl) pa_nil))) (pe_fld (pv 6) rfl))))))))), ?_⟩
    refine ⟨_, rfl, t, _, rfl, SqT.of ht.1, rfl, _, _, rfl, _, _, rfl, _, _, rfl, _, _, rfl, rfl, ?_⟩
    have wm : W m := sub m (.inl rfl)
    -- the four calls that ask
    have four : ∀ (i : Nat) (b scb : Bytes) (keys : List Bytes) (call : Ks189.Call), n = (i : Int) → Old W H r (.lst (nl b)) → Old W H u (.lst (nl scb)) → Deed scb s z i b keys call → Ks189Neutral.step s c = (s.after (Ks189.act pad s keys call).1, told1 (Ks189.act pad s keys call)) →
        (tMake CA (sp_A_init K CA CM) [] E0 (tCons (tVar 0) (tCons (tVar 5) tNil))) [some (.ref m), some (.ref t), some (.int z), some (.int n), some (.ref r), some (.ref u), none, none] H (fun x H1 => gName 6 x [some (.ref m), some (.ref t), some (.int z), some (.int n), some (.ref r), some (.ref u), none, none] H1 fun σ2 H2 =>
          tSeq (tAsg (tCall (sp_slot_answer K CA CM) [] E0 (tCons (tVar 6) (tCons (tVar 2) (tCons (tVar 3) (tCons (tVar 4) tNil))))) (gName 7))
            (tRet (tOp rCat (tOp rCat (tVar 7) (tLst (tCons (tFld K (tVar 6) "many") tNil))) (tFld K (tVar 6) "asked"))) { nx := fun _ H' => Q .non H', rt := Q } σ2 H2) := by
      intro i b scb keys call en hb hs dd est
      subst en
      refine ⟨_, rfl, _, rfl, fun k dk nk ndk nex => ?_⟩
      have k0 : Kp W0 H (upd H dk (.own k)) := Kp.refl.new ndk
      have k1 : Kp W0 H (upd (upd H dk (.own k)) k (.ins CA dk [])) := k0.own nk
      refine ⟨m, dm, aP, k, dk, u, W, s, scb, rfl, upd_same, md.keep k1 (fun _ z => z.elim) (fun z => z) (fun z => z), sub, trk.keep k1, hs.gr k1, fun H1 aL naL g1 a1 => ⟨rfl, ?_⟩⟩
      have kH1 : Kp W0 H H1 := k1.hide g1 fun b z => .inr (by rw [z]; exact nk)
      have hb1 : BytesAt (fun b => W b ∨ b = k ∨ b = aL) H1 r b := ⟨kH1.st _ _ hb.1 (fun z => z), fun z => z.elim hb.2 fun z => z.elim (fun z => ne_of_none hb.1 nk z) fun z => ne_of_none hb.1 (k1.tr _ naL) z⟩
      refine ⟨_, rfl, _, rfl, _, rfl, _, rfl, ⟨m, dm, aP, k, dk, aL⟩, fun b => W b ∨ b = k ∨ b = aL, scb, s, z, i, r, b, keys, call, rfl, a1, hb1, dd, fun H2 p t2 g2 a2 o2 => ?_⟩
      have ten2 : (told1 (Ks189.act pad s keys call)).length ≤ 10000000 := by
        rw [est] at hten
        exact hten
      generalize hx : Ks189.act pad s keys call = x at a2 o2 est ten2
      have lt1 : (told1 x).length = (intL x.2.out).length + 1 + ((tells x.1).length + 1) := by
        show ((intL x.2.out ++ ((x.1.length : Int) :: tells x.1)).length + 1) = _
        rw [List.length_append, List.length_cons]
        omega
      obtain ⟨s2, e3, e4⟩ := a2.ex
      refine ⟨_, rfl, _, rfl, k, CA, dk, _, _, rfl, e3, T.clA, T.nMan, kF_many .., line (by show 1 ≤ 16000000; decide), fun l1 h1 => ?_⟩
      refine ⟨p, l1, _, _, rfl, rfl, up1 o2.1 h1, upd_same, line (by rw [il_len, List.length_cons]; show _ + 1 + 1 ≤ _; omega), fun l2 h2 => ?_⟩
      refine ⟨_, rfl, k, CA, dk, _, _, rfl, up1 (up1 e3 h1) h2, T.clA, T.nAsk, kF_asked .., ?_⟩
      refine ⟨l2, aL, _, _, rfl, rfl, upd_same, up1 (up1 a2.ask h1) h2, line (by rw [List.length_append, il_len, List.length_cons, il_len]; show _ + 1 + 1 + _ ≤ _; omega), fun r2 hr2 => ?_⟩
      have kf : Kp W0 H2 _ := kp_at hr2 ((kp_at h2 ((kp_at (W := W0) h1 Kp.refl).new h1)).new h2)
      have kf2 := kf.new (o := .lst ((il (x.2.ret :: intL x.2.out) ++ [V.int (x.1.length : Int)]) ++ il (tells x.1))) hr2
      have kall : Kp (WM m aP) H H2 := (kH1.any).hide g2 (by
        rintro b (z | z | z | z)
        · exact .inl (.inl z)
        · exact .inl (.inr z)
        · exact .inr (by rw [z]; exact nk)
        · exact .inr (by rw [z]; exact k1.tr _ naL))
      have fin := q _ r2 (kall.trans kf2.any)
      rw [est] at fin
      refine fin ((a2.med.sub fun b z => .inl z).keep kf2 (fun _ z => z.elim) (fun z => z) (fun z => z)) ⟨?_, fun z => a2.trk.keep kf r2 (.inl z) hr2⟩
      rw [told1_is]
      exact upd_same
    cases ic with
    | clear =>
      refine ⟨_, rfl, rfl, _, rfl, if_false_of (decide_eq_false (by decide)) ?_⟩
      refine ⟨_, rfl, rfl, _, rfl, if_false_of (decide_eq_false (by decide)) ?_⟩
      exact four 0 [] [] [] .clear rfl hrow hsc (.clear _ _) (step_clear s)
    | put a b sc =>
      obtain ⟨⟨a0, _⟩, b0, s0, b64⟩ := form_put hform
      obtain ⟨i, rfl⟩ := Int.eq_ofNat_of_zero_le a0
      refine ⟨_, rfl, rfl, _, rfl, if_false_of (decide_eq_false (by decide)) ?_⟩
      refine ⟨_, rfl, rfl, _, rfl, if_false_of (decide_eq_false (by decide)) ?_⟩
      rw [← nl_nats b0] at hrow
      rw [← nl_nats s0] at hsc
      exact four i (natL row) (natL sc) (keysOf1 (natL sc)) (.put i (natL row)) rfl hrow hsc (.put _ _ (by rw [nats_len]; exact b64) (scr_put hscr)) (step_put s _ row sc)
    | get a =>
      obtain ⟨a0, _⟩ := form_get hform
      obtain ⟨i, rfl⟩ := Int.eq_ofNat_of_zero_le a0
      refine ⟨_, rfl, rfl, _, rfl, if_false_of (decide_eq_false (by decide)) ?_⟩
      refine ⟨_, rfl, rfl, _, rfl, if_false_of (decide_eq_false (by decide)) ?_⟩
      exact four i [] [] [] (.get i) rfl hrow hsc (.get _ _) (step_get s _)
    | forget a sc =>
      obtain ⟨⟨a0, _⟩, s0⟩ := form_forget hform
      obtain ⟨i, rfl⟩ := Int.eq_ofNat_of_zero_le a0
      refine ⟨_, rfl, rfl, _, rfl, if_false_of (decide_eq_false (by decide)) ?_⟩
      refine ⟨_, rfl, rfl, _, rfl, if_false_of (decide_eq_false (by decide)) ?_⟩
      rw [← nl_nats s0] at hsc
      exact four i [] (natL sc) (keysOf1 (natL sc)) (.forget i) rfl hrow hsc (.forget _ _ (scr_forget hscr)) (step_forget s _ sc)
    | reg b =>
      obtain ⟨b0, b40⟩ := form_reg hform
      refine ⟨_, rfl, rfl, _, rfl, if_true_of (decide_eq_true rfl) ?_⟩
      rw [← nl_nats b0] at hrow
      obtain ⟨f, refs, h1, _⟩ := md.ex
      refine ⟨_, rfl, m, dm, _, rfl, h1, mF_sf .., _, rfl, m, dm, aP, r, W, s, natL row, rfl, md, sub, trk, hrow.1, by rw [nats_len]; exact b40, fun H1 g1 m1 => ?_⟩
      refine ⟨line (by show 1 ≤ 16000000; decide), fun p hp => ?_⟩
      have k1 : Kp W0 H1 _ := Kp.refl.new (o := .lst [V.int 0]) hp
      exact q _ p (g1.new hp) (m1.keep k1 (fun _ z => z.elim) (fun z => z) (fun z => z)) ⟨upd_same, fun z => trk.keep g1 p z hp⟩
    | page a b =>
      obtain ⟨⟨a0, a1⟩, b0, b96⟩ := form_page hform
      obtain ⟨i, rfl⟩ := Int.eq_ofNat_of_zero_le a0
      refine ⟨_, rfl, rfl, _, rfl, if_false_of (decide_eq_false (by decide)) ?_⟩
      refine ⟨_, rfl, rfl, _, rfl, if_true_of (decide_eq_true rfl) ?_⟩
      rw [← nl_nats b0] at hrow
      obtain ⟨f, refs, h1, _⟩ := md.ex
      refine ⟨_, rfl, m, dm, _, rfl, h1, mF_sp .., _, rfl, _, rfl, m, dm, aP, r, W, s, i, natL row, rfl, md, sub, trk, a1, hrow.1, by rw [nats_len]; exact b96, fun H1 g1 m1 => ?_⟩
      refine ⟨line (by show 1 ≤ 16000000; decide), fun p hp => ?_⟩
      have k1 : Kp W0 H1 _ := Kp.refl.new (o := .lst [V.int 0]) hp
      exact q _ p (g1.new hp) (m1.keep k1 (fun _ z => z.elim) (fun z => z) (fun z => z)) ⟨upd_same, fun z => trk.keep g1 p z hp⟩
theorem ok_answers {f : Addr} {fd : FuncData} (F : Fun K "answers" "answers" s_answers f fd) (T : Txt K mg CA CM) (c_M_init : CalI P w K mg base "Medium" CM 2 ["self"] (sp_M_init K CA CM)) (c_read_calls : Cal P w K mg base "read_calls" 3 ["calls"] (sp_read_calls K CA CM)) (c_call_answer : Cal P w K mg base "call_answer" 7 ["medium", "call"] (sp_call_answer K CA CM)) : FnOk P w K mg base CX0 8 f fd ["calls"] (sp_answers K CA CM) := by
  refine F.ok sc_answers (fun vs H Q E h => ?_) (fun cdv A outer s H vs Q E hr h => ?_)
  · obtain ⟨a, ns, rfl, _⟩ := h
    rfl
  · obtain ⟨a, ns, rfl, hS, hlen, hask, q⟩ := h
    obtain ⟨cs, R0, G0, ea, big, l1000⟩ := asked_is hask
    refine ⟨_, (pss_cons (ps_set (i := 1) sc_answers.nd rfl (Or.inl rfl) (pe_i0 c_M_init (hr.mono (by decide)) rfl))
      (pss_cons (ps_set (i := 2) sc_answers.nd rfl (Or.inl rfl) (pe_lst pa_nil))
      (pss_cons (ps_for PassesOwn.never rfl (pi_list (pe_c c_read_calls (hr.mono (by decide)) rfl (pa_cons (pv 0) pa_nil))) (pg_name (i := 3) sc_answers.nd rfl (Or.inl rfl))
      (pss_cons (ps_set (i := 4) sc_answers.nd rfl (Or.inl rfl) (pe_c c_call_answer (hr.mono (by decide)) rfl (pa_cons (pv 1) (pa_cons (pv 3) pa_nil))))
      (pss_cons (ps_expr (pe_bm PySem.F.plainAttrs_list PySem.F.slot_list_append PySem.F.type_list_append mt_append (pv 2) (pa_cons (pe_callB call_len_seq rfl T.zLen PySem.boot_len (pa_cons (pv 4) pa_nil)) pa_nil)))
      (pss_one (ps_expr (pe_bm PySem.F.plainAttrs_list PySem.F.slot_list_extend PySem.F.type_list_extend mt_extend (pv 2) (pa_cons (pv 4) pa_nil)))))))
      (pss_one (ps_ret (pv 2)))))), ?_⟩
    intro m dm nm ndm nex
    have k0 : Kp W0 H (upd H dm (.own m)) := Kp.refl.new ndm
    have k1 : Kp W0 H (upd (upd H dm (.own m)) m (.ins CM dm [])) := k0.own nm
    refine ⟨m, dm, rfl, upd_same, fun H1 aP naP g1 md => ⟨rfl, ?_⟩⟩
    have kH1 : Kp W0 H H1 := k1.hide g1 fun b z => .inr (by rw [z]; exact nm)
    refine ⟨Nat.zero_le _, fun t ht => ?_⟩
    have hm0 : (upd (upd H dm (.own m)) m (.ins CM dm [])) m ≠ none := by
      rw [upd_same]
      exact fun z => nomatch z
    have md0 : MedAt CM (WP (fun b => b = m) aP) H1 m dm aP SF.start := md (fun b => b = m) (by rintro b z; rw [z]; exact hm0)
    obtain ⟨f0, refs0, hm1, _, hP1, _⟩ := id md0.ex
    have tm : t ≠ m := ne_new hm1 ht
    have tP : t ≠ aP := ne_new hP1 ht
    have mP := md0.mP
    have k2 : Kp W0 H (upd H1 t (.lst [])) := kH1.new ht
    have trk2 : Trk (WP (WM m aP) t) (upd H1 t (.lst [])) := by
      rintro b ((z | z) | z)
      · rw [z, up1 hm1 ht]
        exact fun z => nomatch z
      · rw [z, up1 hP1 ht]
        exact fun z => nomatch z
      · rw [z, upd_same]
        exact fun z => nomatch z
    have md2 : MedAt CM (WP (WM m aP) t) (upd H1 t (.lst [])) m dm aP SF.start := md0.wide ht
    have hS2 := k2.same.seq hS
    refine ⟨_, rfl, a, ns, cs, rfl, hS2, hlen, R0, fun H2 p g2 ct => ?_⟩
    obtain ⟨us, hus, hE⟩ := ct _ trk2
    refine ⟨p, rfl, ⟨_, SqL.of hus.1⟩, for_list (K := K) (a := p) (xs := us) (fun i σ H' => ∃ (v3 v4 : Option V) (s : Dev) (dn : List Int), σ = [some (.ref a), some (.ref m), some (.ref t), v3, v4] ∧ MedAt CM (WP (WM m aP) t) H' m dm aP s ∧ Trk (WP (WM m aP) t) H' ∧ H' t = some (.lst (il dn)) ∧
      dn ++ due s (cs.drop i) = due SF.start cs ∧ Ks189Neutral.goes s (cs.drop i) = true ∧ Old (WP (WM m aP) t) H' p (.lst us) ∧ Each (CallAt (WP (WM m aP) t) H') us cs)
      ⟨none, none, SF.start, [], rfl, md2.keep g2 (fun _ z => z.elim) (fun z => z) (fun z => z), trk2.keep g2, g2.st _ _ upd_same (fun z => z), rfl, G0, hus, hE⟩ (fun i σ H' _ ⟨_, _, _, _, _, _, _, _, _, _, o, _⟩ => SqL.of o.1) ?_ ?_⟩
    · rintro i x σ H' hi ⟨v3, v4, s, dn, rfl, md', trk', hdn, eqd, hg, hp, he⟩
      have il' : i < cs.length := by
        have := (List.getElem?_eq_some_iff.mp hi).1
        rw [he.1] at this
        exact this
      have ec : cs[i]? = some cs[i] := List.getElem?_eq_getElem il'
      have ed : cs.drop i = cs[i] :: cs.drop (i + 1) := List.drop_eq_getElem_cons il'
      generalize cs[i] = c at ec ed
      obtain ⟨tc, etc, hc⟩ := he.at_ ec
      obtain rfl : x = V.ref tc := Option.some.inj (hi.symm.trans etc)
      rw [ed] at hg eqd
      obtain ⟨hform, hscr, hg'⟩ := goes_cons hg
      rw [due_cons] at eqd
      have bound : dn.length + (1 + (Ks189Neutral.step s c).2.length) ≤ 10000000 := by
        have z := congrArg List.length eqd
        rw [List.length_append, List.length_append, List.length_cons] at z
        omega
      refine ⟨_, rfl, _, rfl, m, dm, aP, tc, WP (WM m aP) t, s, c, rfl, md', fun b z => .inl z, trk', hc, hform, hscr, by omega, fun H3 p3 g3 m3 o3 => ?_⟩
      have nt : ¬ WM m aP t := fun z => z.elim tm tP
      have hdn3 := g3.st _ _ hdn nt
      have wt : WP (WM m aP) t t := .inr rfl
      refine ⟨_, rfl, .inl ⟨rfl, _, SqL.of hdn3⟩, _, rfl, p3, _, rfl, .inl (SqL.of o3.1), t, _, _, rfl, rfl, hdn3, line_lt (by rw [il_len]; omega), ?_⟩
      refine ⟨_, rfl, .inl ⟨rfl, _, SqL.of upd_same⟩, _, rfl, t, p3, _, _, rfl, rfl, upd_same, (o3.up wt).1, line (by rw [List.length_append, il_len, il_len]; show dn.length + 1 + _ ≤ _; omega), ?_⟩
      have sW : ∀ b, WM m aP b → WP (WM m aP) t b := fun b z => .inl z
      have kp1 := Kp.put (Kp.refl (W := fun b => b = t) (H := H3)) (o := .lst (il dn ++ [V.int ((il (Ks189Neutral.step s c).2).length : Int)])) (p := t) rfl
      have kp2 := kp1.put (o := .lst ((il dn ++ [V.int ((il (Ks189Neutral.step s c).2).length : Int)]) ++ il (Ks189Neutral.step s c).2)) (p := t) rfl
      have sT : ∀ b, b = t → WP (WM m aP) t b := fun b z => .inr z
      refine ⟨some (.ref tc), some (.ref p3), (Ks189Neutral.step s c).1, dn ++ (((Ks189Neutral.step s c).2.length : Int) :: (Ks189Neutral.step s c).2), rfl, m3.keep kp2 sT (fun z => tm z.symm) (fun z => tP z.symm), (trk'.keep g3).keep kp2, ?_, ?_, hg', (hp.keep g3 sW).keep kp2 sT, he.mono fun x y z => (z.keep g3 sW).keep kp2 sT⟩
      · rw [upd_same, il_app, il_len]
        refine congrArg (fun z => some (HO.lst z)) ?_
        rw [List.append_assoc]
        rfl
      · rw [List.append_assoc]
        exact eqd
    · rintro σ H' ⟨v3, v4, s, dn, rfl, md', trk', hdn, eqd, hg, hp, he⟩
      rw [he.1, List.drop_length, due_nil, List.append_nil] at eqd
      refine ⟨_, rfl, q H' t ?_⟩
      rw [ea, ← eqd]
      exact hdn
end
end SF

set_option Elab.async false
set_option linter.all false
set_option maxRecDepth 100000
set_option maxHeartbeats 8000000
/-! SfMk: what the top has written, gathered. -/
namespace SF
open PySem PySem.Spec PyProof.Rows L2
theorem all_mk {P : Program} {w : World} {K : PySem.W.Frag} {h : Heap} {mg : Str → Option Value} {fa CA CM f_pad_of f_under_pad f_A_init f_A_note f_A_ask_front f_A_put_front f_A_read_page f_A_write_page f_A_new_key f_A_ask_pad f_no_link f_empty_front f_empty_content f_root_link f_front_with f_child_copy f_child_link f_content_of f_with_child f_leaf_content f_leaf_data f_way_to f_side_of f_page_of f_other_copy f_read_node f_copies_fit f_go_way f_leaf_missing f_new_keys f_write_node f_renew f_staying f_do_clear f_do_get f_do_put f_do_forget f_M_init f_M_set_front f_M_set_page f_row_at f_read_call f_read_calls f_slot_answer f_call_answer f_answers : Addr} (X : K.In h) (G : h.Ns mainGlobals mg) (hfa : mg "answers" = some (.ref fa))
    {od_pad_of an_pad_of od_under_pad an_under_pad od_A_init an_A_init od_A_note an_A_note od_A_ask_front an_A_ask_front od_A_put_front an_A_put_front od_A_read_page an_A_read_page od_A_write_page an_A_write_page od_A_new_key an_A_new_key od_A_ask_pad an_A_ask_pad od_no_link an_no_link od_empty_front an_empty_front od_empty_content an_empty_content od_root_link an_root_link od_front_with an_front_with od_child_copy an_child_copy od_child_link an_child_link od_content_of an_content_of od_with_child an_with_child od_leaf_content an_leaf_content od_leaf_data an_leaf_data od_way_to an_way_to od_side_of an_side_of od_page_of an_page_of od_other_copy an_other_copy od_read_node an_read_node od_copies_fit an_copies_fit od_go_way an_go_way od_leaf_missing an_leaf_missing od_new_keys an_new_keys od_write_node an_write_node od_renew an_renew od_staying an_staying od_do_clear an_do_clear od_do_get an_do_get od_do_put an_do_put od_do_forget an_do_forget od_M_init an_M_init od_M_set_front an_M_set_front od_M_set_page an_M_set_page od_row_at an_row_at od_read_call an_read_call od_read_calls an_read_calls od_slot_answer an_slot_answer od_call_answer an_call_answer od_answers an_answers : Option Addr} {sl_pad_of sl_under_pad sl_A_init sl_A_note sl_A_ask_front sl_A_put_front sl_A_read_page sl_A_write_page sl_A_new_key sl_A_ask_pad sl_no_link sl_empty_front sl_empty_content sl_root_link sl_front_with sl_child_copy sl_child_link sl_content_of sl_with_child sl_leaf_content sl_leaf_data sl_way_to sl_side_of sl_page_of sl_other_copy sl_read_node sl_copies_fit sl_go_way sl_leaf_missing sl_new_keys sl_write_node sl_renew sl_staying sl_do_clear sl_do_get sl_do_put sl_do_forget sl_M_init sl_M_set_front sl_M_set_page sl_row_at sl_read_call sl_read_calls sl_slot_answer sl_call_answer sl_answers : Array (Option Value)} {oc_pad_of kV_pad_of dc_pad_of pm_pad_of cd_pad_of ct_pad_of oc_under_pad kV_under_pad dc_under_pad pm_under_pad cd_under_pad ct_under_pad oc_A_init kV_A_init dc_A_init pm_A_init cd_A_init ct_A_init oc_A_note kV_A_note dc_A_note pm_A_note cd_A_note ct_A_note oc_A_ask_front kV_A_ask_front dc_A_ask_front pm_A_ask_front cd_A_ask_front ct_A_ask_front oc_A_put_front kV_A_put_front dc_A_put_front pm_A_put_front cd_A_put_front ct_A_put_front oc_A_read_page kV_A_read_page dc_A_read_page pm_A_read_page cd_A_read_page ct_A_read_page oc_A_write_page kV_A_write_page dc_A_write_page pm_A_write_page cd_A_write_page ct_A_write_page oc_A_new_key kV_A_new_key dc_A_new_key pm_A_new_key cd_A_new_key ct_A_new_key oc_A_ask_pad kV_A_ask_pad dc_A_ask_pad pm_A_ask_pad cd_A_ask_pad ct_A_ask_pad oc_no_link kV_no_link dc_no_link pm_no_link cd_no_link ct_no_link oc_empty_front kV_empty_front dc_empty_front pm_empty_front cd_empty_front ct_empty_front oc_empty_content kV_empty_content dc_empty_content pm_empty_content cd_empty_content ct_empty_content oc_root_link kV_root_link dc_root_link pm_root_link cd_root_link ct_root_link oc_front_with kV_front_with dc_front_with pm_front_with cd_front_with ct_front_with oc_child_copy kV_child_copy dc_child_copy pm_child_copy cd_child_copy ct_child_copy oc_child_link kV_child_link dc_child_link pm_child_link cd_child_link ct_child_link oc_content_of kV_content_of dc_content_of pm_content_of cd_content_of ct_content_of oc_with_child kV_with_child dc_with_child pm_with_child cd_with_child ct_with_child oc_leaf_content kV_leaf_content dc_leaf_content pm_leaf_content cd_leaf_content ct_leaf_content oc_leaf_data kV_leaf_data dc_leaf_data pm_leaf_data cd_leaf_data ct_leaf_data oc_way_to kV_way_to dc_way_to pm_way_to cd_way_to ct_way_to oc_side_of kV_side_of dc_side_of pm_side_of cd_side_of ct_side_of oc_page_of kV_page_of dc_page_of pm_page_of cd_page_of ct_page_of oc_other_copy kV_other_copy dc_other_copy pm_other_copy cd_other_copy ct_other_copy oc_read_node kV_read_node dc_read_node pm_read_node cd_read_node ct_read_node oc_copies_fit kV_copies_fit dc_copies_fit pm_copies_fit cd_copies_fit ct_copies_fit oc_go_way kV_go_way dc_go_way pm_go_way cd_go_way ct_go_way oc_leaf_missing kV_leaf_missing dc_leaf_missing pm_leaf_missing cd_leaf_missing ct_leaf_missing oc_new_keys kV_new_keys dc_new_keys pm_new_keys cd_new_keys ct_new_keys oc_write_node kV_write_node dc_write_node pm_write_node cd_write_node ct_write_node oc_renew kV_renew dc_renew pm_renew cd_renew ct_renew oc_staying kV_staying dc_staying pm_staying cd_staying ct_staying oc_do_clear kV_do_clear dc_do_clear pm_do_clear cd_do_clear ct_do_clear oc_do_get kV_do_get dc_do_get pm_do_get cd_do_get ct_do_get oc_do_put kV_do_put dc_do_put pm_do_put cd_do_put ct_do_put oc_do_forget kV_do_forget dc_do_forget pm_do_forget cd_do_forget ct_do_forget oc_M_init kV_M_init dc_M_init pm_M_init cd_M_init ct_M_init oc_M_set_front kV_M_set_front dc_M_set_front pm_M_set_front cd_M_set_front ct_M_set_front oc_M_set_page kV_M_set_page dc_M_set_page pm_M_set_page cd_M_set_page ct_M_set_page oc_row_at kV_row_at dc_row_at pm_row_at cd_row_at ct_row_at oc_read_call kV_read_call dc_read_call pm_read_call cd_read_call ct_read_call oc_read_calls kV_read_calls dc_read_calls pm_read_calls cd_read_calls ct_read_calls oc_slot_answer kV_slot_answer dc_slot_answer pm_slot_answer cd_slot_answer ct_slot_answer oc_call_answer kV_call_answer dc_call_answer pm_call_answer cd_call_answer ct_call_answer oc_answers kV_answers dc_answers pm_answers cd_answers ct_answers : Value} {t_KEY_BYTES t_PAGE_BYTES t_FRONT_BYTES t_DATA_BYTES t_COPIES_AT t_ROOT_KEY_AT t_LAST_SLOT t_FIRST_LEAF t_LEVELS t_LAST_COPY t_GONE_WRONG t_NO_SLOT t_NOT_THERE t_PAGES t_CLEAR t_PUT t_GET t_FORGET t_SET_FRONT t_SET_PAGE : Tok}
    (aCA : PySem.W.nsIn K mainGlobals "Asking" = some (some (.ref CA)))
    (aCM : PySem.W.nsIn K mainGlobals "Medium" = some (some (.ref CM)))
    (a_pad_of : PySem.W.nsIn K mainGlobals "pad_of" = some (some (.ref f_pad_of)))
    (l_pad_of : K.lookup f_pad_of = some ⟨oc_pad_of, od_pad_of, .func (PySem.W.fnOf "pad_of" "pad_of" (defArgs s_pad_of) (defBody s_pad_of) (defScope s_pad_of) .none kV_pad_of dc_pad_of pm_pad_of an_pad_of cd_pad_of ct_pad_of), sl_pad_of⟩)
    (c_pad_of : PySem.W.codeIn K cd_pad_of "pad_of" = true)
    (k_pad_of : PySem.W.keepIn K (.ref f_pad_of) = true)
    (a_under_pad : PySem.W.nsIn K mainGlobals "under_pad" = some (some (.ref f_under_pad)))
    (l_under_pad : K.lookup f_under_pad = some ⟨oc_under_pad, od_under_pad, .func (PySem.W.fnOf "under_pad" "under_pad" (defArgs s_under_pad) (defBody s_under_pad) (defScope s_under_pad) .none kV_under_pad dc_under_pad pm_under_pad an_under_pad cd_under_pad ct_under_pad), sl_under_pad⟩)
    (c_under_pad : PySem.W.codeIn K cd_under_pad "under_pad" = true)
    (k_under_pad : PySem.W.keepIn K (.ref f_under_pad) = true)
    (a_A_init : PySem.W.findIn K (.ref CA) "__init__" = some (some (.ref f_A_init)))
    (i_A_init : PySem.W.isFn K (.ref f_A_init) = true)
    (l_A_init : K.lookup f_A_init = some ⟨oc_A_init, od_A_init, .func (PySem.W.fnOf "__init__" "Asking.__init__" (defArgs s_A_init) (defBody s_A_init) (defScope s_A_init) .none kV_A_init dc_A_init pm_A_init an_A_init cd_A_init ct_A_init), sl_A_init⟩)
    (c_A_init : PySem.W.codeIn K cd_A_init "Asking.__init__" = true)
    (k_A_init : PySem.W.keepIn K (.ref f_A_init) = true)
    (a_A_note : PySem.W.findIn K (.ref CA) "note" = some (some (.ref f_A_note)))
    (i_A_note : PySem.W.isFn K (.ref f_A_note) = true)
    (l_A_note : K.lookup f_A_note = some ⟨oc_A_note, od_A_note, .func (PySem.W.fnOf "note" "Asking.note" (defArgs s_A_note) (defBody s_A_note) (defScope s_A_note) .none kV_A_note dc_A_note pm_A_note an_A_note cd_A_note ct_A_note), sl_A_note⟩)
    (c_A_note : PySem.W.codeIn K cd_A_note "Asking.note" = true)
    (k_A_note : PySem.W.keepIn K (.ref f_A_note) = true)
    (a_A_ask_front : PySem.W.findIn K (.ref CA) "ask_front" = some (some (.ref f_A_ask_front)))
    (i_A_ask_front : PySem.W.isFn K (.ref f_A_ask_front) = true)
    (l_A_ask_front : K.lookup f_A_ask_front = some ⟨oc_A_ask_front, od_A_ask_front, .func (PySem.W.fnOf "ask_front" "Asking.ask_front" (defArgs s_A_ask_front) (defBody s_A_ask_front) (defScope s_A_ask_front) .none kV_A_ask_front dc_A_ask_front pm_A_ask_front an_A_ask_front cd_A_ask_front ct_A_ask_front), sl_A_ask_front⟩)
    (c_A_ask_front : PySem.W.codeIn K cd_A_ask_front "Asking.ask_front" = true)
    (k_A_ask_front : PySem.W.keepIn K (.ref f_A_ask_front) = true)
    (a_A_put_front : PySem.W.findIn K (.ref CA) "put_front" = some (some (.ref f_A_put_front)))
    (i_A_put_front : PySem.W.isFn K (.ref f_A_put_front) = true)
    (l_A_put_front : K.lookup f_A_put_front = some ⟨oc_A_put_front, od_A_put_front, .func (PySem.W.fnOf "put_front" "Asking.put_front" (defArgs s_A_put_front) (defBody s_A_put_front) (defScope s_A_put_front) .none kV_A_put_front dc_A_put_front pm_A_put_front an_A_put_front cd_A_put_front ct_A_put_front), sl_A_put_front⟩)
    (c_A_put_front : PySem.W.codeIn K cd_A_put_front "Asking.put_front" = true)
    (k_A_put_front : PySem.W.keepIn K (.ref f_A_put_front) = true)
    (a_A_read_page : PySem.W.findIn K (.ref CA) "read_page" = some (some (.ref f_A_read_page)))
    (i_A_read_page : PySem.W.isFn K (.ref f_A_read_page) = true)
    (l_A_read_page : K.lookup f_A_read_page = some ⟨oc_A_read_page, od_A_read_page, .func (PySem.W.fnOf "read_page" "Asking.read_page" (defArgs s_A_read_page) (defBody s_A_read_page) (defScope s_A_read_page) .none kV_A_read_page dc_A_read_page pm_A_read_page an_A_read_page cd_A_read_page ct_A_read_page), sl_A_read_page⟩)
    (c_A_read_page : PySem.W.codeIn K cd_A_read_page "Asking.read_page" = true)
    (k_A_read_page : PySem.W.keepIn K (.ref f_A_read_page) = true)
    (a_A_write_page : PySem.W.findIn K (.ref CA) "write_page" = some (some (.ref f_A_write_page)))
    (i_A_write_page : PySem.W.isFn K (.ref f_A_write_page) = true)
    (l_A_write_page : K.lookup f_A_write_page = some ⟨oc_A_write_page, od_A_write_page, .func (PySem.W.fnOf "write_page" "Asking.write_page" (defArgs s_A_write_page) (defBody s_A_write_page) (defScope s_A_write_page) .none kV_A_write_page dc_A_write_page pm_A_write_page an_A_write_page cd_A_write_page ct_A_write_page), sl_A_write_page⟩)
    (c_A_write_page : PySem.W.codeIn K cd_A_write_page "Asking.write_page" = true)
    (k_A_write_page : PySem.W.keepIn K (.ref f_A_write_page) = true)
    (a_A_new_key : PySem.W.findIn K (.ref CA) "new_key" = some (some (.ref f_A_new_key)))
    (i_A_new_key : PySem.W.isFn K (.ref f_A_new_key) = true)
    (l_A_new_key : K.lookup f_A_new_key = some ⟨oc_A_new_key, od_A_new_key, .func (PySem.W.fnOf "new_key" "Asking.new_key" (defArgs s_A_new_key) (defBody s_A_new_key) (defScope s_A_new_key) .none kV_A_new_key dc_A_new_key pm_A_new_key an_A_new_key cd_A_new_key ct_A_new_key), sl_A_new_key⟩)
    (c_A_new_key : PySem.W.codeIn K cd_A_new_key "Asking.new_key" = true)
    (k_A_new_key : PySem.W.keepIn K (.ref f_A_new_key) = true)
    (a_A_ask_pad : PySem.W.findIn K (.ref CA) "ask_pad" = some (some (.ref f_A_ask_pad)))
    (i_A_ask_pad : PySem.W.isFn K (.ref f_A_ask_pad) = true)
    (l_A_ask_pad : K.lookup f_A_ask_pad = some ⟨oc_A_ask_pad, od_A_ask_pad, .func (PySem.W.fnOf "ask_pad" "Asking.ask_pad" (defArgs s_A_ask_pad) (defBody s_A_ask_pad) (defScope s_A_ask_pad) .none kV_A_ask_pad dc_A_ask_pad pm_A_ask_pad an_A_ask_pad cd_A_ask_pad ct_A_ask_pad), sl_A_ask_pad⟩)
    (c_A_ask_pad : PySem.W.codeIn K cd_A_ask_pad "Asking.ask_pad" = true)
    (k_A_ask_pad : PySem.W.keepIn K (.ref f_A_ask_pad) = true)
    (a_no_link : PySem.W.nsIn K mainGlobals "no_link" = some (some (.ref f_no_link)))
    (l_no_link : K.lookup f_no_link = some ⟨oc_no_link, od_no_link, .func (PySem.W.fnOf "no_link" "no_link" (defArgs s_no_link) (defBody s_no_link) (defScope s_no_link) .none kV_no_link dc_no_link pm_no_link an_no_link cd_no_link ct_no_link), sl_no_link⟩)
    (c_no_link : PySem.W.codeIn K cd_no_link "no_link" = true)
    (k_no_link : PySem.W.keepIn K (.ref f_no_link) = true)
    (a_empty_front : PySem.W.nsIn K mainGlobals "empty_front" = some (some (.ref f_empty_front)))
    (l_empty_front : K.lookup f_empty_front = some ⟨oc_empty_front, od_empty_front, .func (PySem.W.fnOf "empty_front" "empty_front" (defArgs s_empty_front) (defBody s_empty_front) (defScope s_empty_front) .none kV_empty_front dc_empty_front pm_empty_front an_empty_front cd_empty_front ct_empty_front), sl_empty_front⟩)
    (c_empty_front : PySem.W.codeIn K cd_empty_front "empty_front" = true)
    (k_empty_front : PySem.W.keepIn K (.ref f_empty_front) = true)
    (a_empty_content : PySem.W.nsIn K mainGlobals "empty_content" = some (some (.ref f_empty_content)))
    (l_empty_content : K.lookup f_empty_content = some ⟨oc_empty_content, od_empty_content, .func (PySem.W.fnOf "empty_content" "empty_content" (defArgs s_empty_content) (defBody s_empty_content) (defScope s_empty_content) .none kV_empty_content dc_empty_content pm_empty_content an_empty_content cd_empty_content ct_empty_content), sl_empty_content⟩)
    (c_empty_content : PySem.W.codeIn K cd_empty_content "empty_content" = true)
    (k_empty_content : PySem.W.keepIn K (.ref f_empty_content) = true)
    (a_root_link : PySem.W.nsIn K mainGlobals "root_link" = some (some (.ref f_root_link)))
    (l_root_link : K.lookup f_root_link = some ⟨oc_root_link, od_root_link, .func (PySem.W.fnOf "root_link" "root_link" (defArgs s_root_link) (defBody s_root_link) (defScope s_root_link) .none kV_root_link dc_root_link pm_root_link an_root_link cd_root_link ct_root_link), sl_root_link⟩)
    (c_root_link : PySem.W.codeIn K cd_root_link "root_link" = true)
    (k_root_link : PySem.W.keepIn K (.ref f_root_link) = true)
    (a_front_with : PySem.W.nsIn K mainGlobals "front_with" = some (some (.ref f_front_with)))
    (l_front_with : K.lookup f_front_with = some ⟨oc_front_with, od_front_with, .func (PySem.W.fnOf "front_with" "front_with" (defArgs s_front_with) (defBody s_front_with) (defScope s_front_with) .none kV_front_with dc_front_with pm_front_with an_front_with cd_front_with ct_front_with), sl_front_with⟩)
    (c_front_with : PySem.W.codeIn K cd_front_with "front_with" = true)
    (k_front_with : PySem.W.keepIn K (.ref f_front_with) = true)
    (a_child_copy : PySem.W.nsIn K mainGlobals "child_copy" = some (some (.ref f_child_copy)))
    (l_child_copy : K.lookup f_child_copy = some ⟨oc_child_copy, od_child_copy, .func (PySem.W.fnOf "child_copy" "child_copy" (defArgs s_child_copy) (defBody s_child_copy) (defScope s_child_copy) .none kV_child_copy dc_child_copy pm_child_copy an_child_copy cd_child_copy ct_child_copy), sl_child_copy⟩)
    (c_child_copy : PySem.W.codeIn K cd_child_copy "child_copy" = true)
    (k_child_copy : PySem.W.keepIn K (.ref f_child_copy) = true)
    (a_child_link : PySem.W.nsIn K mainGlobals "child_link" = some (some (.ref f_child_link)))
    (l_child_link : K.lookup f_child_link = some ⟨oc_child_link, od_child_link, .func (PySem.W.fnOf "child_link" "child_link" (defArgs s_child_link) (defBody s_child_link) (defScope s_child_link) .none kV_child_link dc_child_link pm_child_link an_child_link cd_child_link ct_child_link), sl_child_link⟩)
    (c_child_link : PySem.W.codeIn K cd_child_link "child_link" = true)
    (k_child_link : PySem.W.keepIn K (.ref f_child_link) = true)
    (a_content_of : PySem.W.nsIn K mainGlobals "content_of" = some (some (.ref f_content_of)))
    (l_content_of : K.lookup f_content_of = some ⟨oc_content_of, od_content_of, .func (PySem.W.fnOf "content_of" "content_of" (defArgs s_content_of) (defBody s_content_of) (defScope s_content_of) .none kV_content_of dc_content_of pm_content_of an_content_of cd_content_of ct_content_of), sl_content_of⟩)
    (c_content_of : PySem.W.codeIn K cd_content_of "content_of" = true)
    (k_content_of : PySem.W.keepIn K (.ref f_content_of) = true)
    (a_with_child : PySem.W.nsIn K mainGlobals "with_child" = some (some (.ref f_with_child)))
    (l_with_child : K.lookup f_with_child = some ⟨oc_with_child, od_with_child, .func (PySem.W.fnOf "with_child" "with_child" (defArgs s_with_child) (defBody s_with_child) (defScope s_with_child) .none kV_with_child dc_with_child pm_with_child an_with_child cd_with_child ct_with_child), sl_with_child⟩)
    (c_with_child : PySem.W.codeIn K cd_with_child "with_child" = true)
    (k_with_child : PySem.W.keepIn K (.ref f_with_child) = true)
    (a_leaf_content : PySem.W.nsIn K mainGlobals "leaf_content" = some (some (.ref f_leaf_content)))
    (l_leaf_content : K.lookup f_leaf_content = some ⟨oc_leaf_content, od_leaf_content, .func (PySem.W.fnOf "leaf_content" "leaf_content" (defArgs s_leaf_content) (defBody s_leaf_content) (defScope s_leaf_content) .none kV_leaf_content dc_leaf_content pm_leaf_content an_leaf_content cd_leaf_content ct_leaf_content), sl_leaf_content⟩)
    (c_leaf_content : PySem.W.codeIn K cd_leaf_content "leaf_content" = true)
    (k_leaf_content : PySem.W.keepIn K (.ref f_leaf_content) = true)
    (a_leaf_data : PySem.W.nsIn K mainGlobals "leaf_data" = some (some (.ref f_leaf_data)))
    (l_leaf_data : K.lookup f_leaf_data = some ⟨oc_leaf_data, od_leaf_data, .func (PySem.W.fnOf "leaf_data" "leaf_data" (defArgs s_leaf_data) (defBody s_leaf_data) (defScope s_leaf_data) .none kV_leaf_data dc_leaf_data pm_leaf_data an_leaf_data cd_leaf_data ct_leaf_data), sl_leaf_data⟩)
    (c_leaf_data : PySem.W.codeIn K cd_leaf_data "leaf_data" = true)
    (k_leaf_data : PySem.W.keepIn K (.ref f_leaf_data) = true)
    (a_way_to : PySem.W.nsIn K mainGlobals "way_to" = some (some (.ref f_way_to)))
    (l_way_to : K.lookup f_way_to = some ⟨oc_way_to, od_way_to, .func (PySem.W.fnOf "way_to" "way_to" (defArgs s_way_to) (defBody s_way_to) (defScope s_way_to) .none kV_way_to dc_way_to pm_way_to an_way_to cd_way_to ct_way_to), sl_way_to⟩)
    (c_way_to : PySem.W.codeIn K cd_way_to "way_to" = true)
    (k_way_to : PySem.W.keepIn K (.ref f_way_to) = true)
    (a_side_of : PySem.W.nsIn K mainGlobals "side_of" = some (some (.ref f_side_of)))
    (l_side_of : K.lookup f_side_of = some ⟨oc_side_of, od_side_of, .func (PySem.W.fnOf "side_of" "side_of" (defArgs s_side_of) (defBody s_side_of) (defScope s_side_of) .none kV_side_of dc_side_of pm_side_of an_side_of cd_side_of ct_side_of), sl_side_of⟩)
    (c_side_of : PySem.W.codeIn K cd_side_of "side_of" = true)
    (k_side_of : PySem.W.keepIn K (.ref f_side_of) = true)
    (a_page_of : PySem.W.nsIn K mainGlobals "page_of" = some (some (.ref f_page_of)))
    (l_page_of : K.lookup f_page_of = some ⟨oc_page_of, od_page_of, .func (PySem.W.fnOf "page_of" "page_of" (defArgs s_page_of) (defBody s_page_of) (defScope s_page_of) .none kV_page_of dc_page_of pm_page_of an_page_of cd_page_of ct_page_of), sl_page_of⟩)
    (c_page_of : PySem.W.codeIn K cd_page_of "page_of" = true)
    (k_page_of : PySem.W.keepIn K (.ref f_page_of) = true)
    (a_other_copy : PySem.W.nsIn K mainGlobals "other_copy" = some (some (.ref f_other_copy)))
    (l_other_copy : K.lookup f_other_copy = some ⟨oc_other_copy, od_other_copy, .func (PySem.W.fnOf "other_copy" "other_copy" (defArgs s_other_copy) (defBody s_other_copy) (defScope s_other_copy) .none kV_other_copy dc_other_copy pm_other_copy an_other_copy cd_other_copy ct_other_copy), sl_other_copy⟩)
    (c_other_copy : PySem.W.codeIn K cd_other_copy "other_copy" = true)
    (k_other_copy : PySem.W.keepIn K (.ref f_other_copy) = true)
    (a_read_node : PySem.W.nsIn K mainGlobals "read_node" = some (some (.ref f_read_node)))
    (l_read_node : K.lookup f_read_node = some ⟨oc_read_node, od_read_node, .func (PySem.W.fnOf "read_node" "read_node" (defArgs s_read_node) (defBody s_read_node) (defScope s_read_node) .none kV_read_node dc_read_node pm_read_node an_read_node cd_read_node ct_read_node), sl_read_node⟩)
    (c_read_node : PySem.W.codeIn K cd_read_node "read_node" = true)
    (k_read_node : PySem.W.keepIn K (.ref f_read_node) = true)
    (a_copies_fit : PySem.W.nsIn K mainGlobals "copies_fit" = some (some (.ref f_copies_fit)))
    (l_copies_fit : K.lookup f_copies_fit = some ⟨oc_copies_fit, od_copies_fit, .func (PySem.W.fnOf "copies_fit" "copies_fit" (defArgs s_copies_fit) (defBody s_copies_fit) (defScope s_copies_fit) .none kV_copies_fit dc_copies_fit pm_copies_fit an_copies_fit cd_copies_fit ct_copies_fit), sl_copies_fit⟩)
    (c_copies_fit : PySem.W.codeIn K cd_copies_fit "copies_fit" = true)
    (k_copies_fit : PySem.W.keepIn K (.ref f_copies_fit) = true)
    (a_go_way : PySem.W.nsIn K mainGlobals "go_way" = some (some (.ref f_go_way)))
    (l_go_way : K.lookup f_go_way = some ⟨oc_go_way, od_go_way, .func (PySem.W.fnOf "go_way" "go_way" (defArgs s_go_way) (defBody s_go_way) (defScope s_go_way) .none kV_go_way dc_go_way pm_go_way an_go_way cd_go_way ct_go_way), sl_go_way⟩)
    (c_go_way : PySem.W.codeIn K cd_go_way "go_way" = true)
    (k_go_way : PySem.W.keepIn K (.ref f_go_way) = true)
    (a_leaf_missing : PySem.W.nsIn K mainGlobals "leaf_missing" = some (some (.ref f_leaf_missing)))
    (l_leaf_missing : K.lookup f_leaf_missing = some ⟨oc_leaf_missing, od_leaf_missing, .func (PySem.W.fnOf "leaf_missing" "leaf_missing" (defArgs s_leaf_missing) (defBody s_leaf_missing) (defScope s_leaf_missing) .none kV_leaf_missing dc_leaf_missing pm_leaf_missing an_leaf_missing cd_leaf_missing ct_leaf_missing), sl_leaf_missing⟩)
    (c_leaf_missing : PySem.W.codeIn K cd_leaf_missing "leaf_missing" = true)
    (k_leaf_missing : PySem.W.keepIn K (.ref f_leaf_missing) = true)
    (a_new_keys : PySem.W.nsIn K mainGlobals "new_keys" = some (some (.ref f_new_keys)))
    (l_new_keys : K.lookup f_new_keys = some ⟨oc_new_keys, od_new_keys, .func (PySem.W.fnOf "new_keys" "new_keys" (defArgs s_new_keys) (defBody s_new_keys) (defScope s_new_keys) .none kV_new_keys dc_new_keys pm_new_keys an_new_keys cd_new_keys ct_new_keys), sl_new_keys⟩)
    (c_new_keys : PySem.W.codeIn K cd_new_keys "new_keys" = true)
    (k_new_keys : PySem.W.keepIn K (.ref f_new_keys) = true)
    (a_write_node : PySem.W.nsIn K mainGlobals "write_node" = some (some (.ref f_write_node)))
    (l_write_node : K.lookup f_write_node = some ⟨oc_write_node, od_write_node, .func (PySem.W.fnOf "write_node" "write_node" (defArgs s_write_node) (defBody s_write_node) (defScope s_write_node) .none kV_write_node dc_write_node pm_write_node an_write_node cd_write_node ct_write_node), sl_write_node⟩)
    (c_write_node : PySem.W.codeIn K cd_write_node "write_node" = true)
    (k_write_node : PySem.W.keepIn K (.ref f_write_node) = true)
    (a_renew : PySem.W.nsIn K mainGlobals "renew" = some (some (.ref f_renew)))
    (l_renew : K.lookup f_renew = some ⟨oc_renew, od_renew, .func (PySem.W.fnOf "renew" "renew" (defArgs s_renew) (defBody s_renew) (defScope s_renew) .none kV_renew dc_renew pm_renew an_renew cd_renew ct_renew), sl_renew⟩)
    (c_renew : PySem.W.codeIn K cd_renew "renew" = true)
    (k_renew : PySem.W.keepIn K (.ref f_renew) = true)
    (a_staying : PySem.W.nsIn K mainGlobals "staying" = some (some (.ref f_staying)))
    (l_staying : K.lookup f_staying = some ⟨oc_staying, od_staying, .func (PySem.W.fnOf "staying" "staying" (defArgs s_staying) (defBody s_staying) (defScope s_staying) .none kV_staying dc_staying pm_staying an_staying cd_staying ct_staying), sl_staying⟩)
    (c_staying : PySem.W.codeIn K cd_staying "staying" = true)
    (k_staying : PySem.W.keepIn K (.ref f_staying) = true)
    (a_do_clear : PySem.W.nsIn K mainGlobals "do_clear" = some (some (.ref f_do_clear)))
    (l_do_clear : K.lookup f_do_clear = some ⟨oc_do_clear, od_do_clear, .func (PySem.W.fnOf "do_clear" "do_clear" (defArgs s_do_clear) (defBody s_do_clear) (defScope s_do_clear) .none kV_do_clear dc_do_clear pm_do_clear an_do_clear cd_do_clear ct_do_clear), sl_do_clear⟩)
    (c_do_clear : PySem.W.codeIn K cd_do_clear "do_clear" = true)
    (k_do_clear : PySem.W.keepIn K (.ref f_do_clear) = true)
    (a_do_get : PySem.W.nsIn K mainGlobals "do_get" = some (some (.ref f_do_get)))
    (l_do_get : K.lookup f_do_get = some ⟨oc_do_get, od_do_get, .func (PySem.W.fnOf "do_get" "do_get" (defArgs s_do_get) (defBody s_do_get) (defScope s_do_get) .none kV_do_get dc_do_get pm_do_get an_do_get cd_do_get ct_do_get), sl_do_get⟩)
    (c_do_get : PySem.W.codeIn K cd_do_get "do_get" = true)
    (k_do_get : PySem.W.keepIn K (.ref f_do_get) = true)
    (a_do_put : PySem.W.nsIn K mainGlobals "do_put" = some (some (.ref f_do_put)))
    (l_do_put : K.lookup f_do_put = some ⟨oc_do_put, od_do_put, .func (PySem.W.fnOf "do_put" "do_put" (defArgs s_do_put) (defBody s_do_put) (defScope s_do_put) .none kV_do_put dc_do_put pm_do_put an_do_put cd_do_put ct_do_put), sl_do_put⟩)
    (c_do_put : PySem.W.codeIn K cd_do_put "do_put" = true)
    (k_do_put : PySem.W.keepIn K (.ref f_do_put) = true)
    (a_do_forget : PySem.W.nsIn K mainGlobals "do_forget" = some (some (.ref f_do_forget)))
    (l_do_forget : K.lookup f_do_forget = some ⟨oc_do_forget, od_do_forget, .func (PySem.W.fnOf "do_forget" "do_forget" (defArgs s_do_forget) (defBody s_do_forget) (defScope s_do_forget) .none kV_do_forget dc_do_forget pm_do_forget an_do_forget cd_do_forget ct_do_forget), sl_do_forget⟩)
    (c_do_forget : PySem.W.codeIn K cd_do_forget "do_forget" = true)
    (k_do_forget : PySem.W.keepIn K (.ref f_do_forget) = true)
    (a_M_init : PySem.W.findIn K (.ref CM) "__init__" = some (some (.ref f_M_init)))
    (i_M_init : PySem.W.isFn K (.ref f_M_init) = true)
    (l_M_init : K.lookup f_M_init = some ⟨oc_M_init, od_M_init, .func (PySem.W.fnOf "__init__" "Medium.__init__" (defArgs s_M_init) (defBody s_M_init) (defScope s_M_init) .none kV_M_init dc_M_init pm_M_init an_M_init cd_M_init ct_M_init), sl_M_init⟩)
    (c_M_init : PySem.W.codeIn K cd_M_init "Medium.__init__" = true)
    (k_M_init : PySem.W.keepIn K (.ref f_M_init) = true)
    (a_M_set_front : PySem.W.findIn K (.ref CM) "set_front" = some (some (.ref f_M_set_front)))
    (i_M_set_front : PySem.W.isFn K (.ref f_M_set_front) = true)
    (l_M_set_front : K.lookup f_M_set_front = some ⟨oc_M_set_front, od_M_set_front, .func (PySem.W.fnOf "set_front" "Medium.set_front" (defArgs s_M_set_front) (defBody s_M_set_front) (defScope s_M_set_front) .none kV_M_set_front dc_M_set_front pm_M_set_front an_M_set_front cd_M_set_front ct_M_set_front), sl_M_set_front⟩)
    (c_M_set_front : PySem.W.codeIn K cd_M_set_front "Medium.set_front" = true)
    (k_M_set_front : PySem.W.keepIn K (.ref f_M_set_front) = true)
    (a_M_set_page : PySem.W.findIn K (.ref CM) "set_page" = some (some (.ref f_M_set_page)))
    (i_M_set_page : PySem.W.isFn K (.ref f_M_set_page) = true)
    (l_M_set_page : K.lookup f_M_set_page = some ⟨oc_M_set_page, od_M_set_page, .func (PySem.W.fnOf "set_page" "Medium.set_page" (defArgs s_M_set_page) (defBody s_M_set_page) (defScope s_M_set_page) .none kV_M_set_page dc_M_set_page pm_M_set_page an_M_set_page cd_M_set_page ct_M_set_page), sl_M_set_page⟩)
    (c_M_set_page : PySem.W.codeIn K cd_M_set_page "Medium.set_page" = true)
    (k_M_set_page : PySem.W.keepIn K (.ref f_M_set_page) = true)
    (a_row_at : PySem.W.nsIn K mainGlobals "row_at" = some (some (.ref f_row_at)))
    (l_row_at : K.lookup f_row_at = some ⟨oc_row_at, od_row_at, .func (PySem.W.fnOf "row_at" "row_at" (defArgs s_row_at) (defBody s_row_at) (defScope s_row_at) .none kV_row_at dc_row_at pm_row_at an_row_at cd_row_at ct_row_at), sl_row_at⟩)
    (c_row_at : PySem.W.codeIn K cd_row_at "row_at" = true)
    (k_row_at : PySem.W.keepIn K (.ref f_row_at) = true)
    (a_read_call : PySem.W.nsIn K mainGlobals "read_call" = some (some (.ref f_read_call)))
    (l_read_call : K.lookup f_read_call = some ⟨oc_read_call, od_read_call, .func (PySem.W.fnOf "read_call" "read_call" (defArgs s_read_call) (defBody s_read_call) (defScope s_read_call) .none kV_read_call dc_read_call pm_read_call an_read_call cd_read_call ct_read_call), sl_read_call⟩)
    (c_read_call : PySem.W.codeIn K cd_read_call "read_call" = true)
    (k_read_call : PySem.W.keepIn K (.ref f_read_call) = true)
    (a_read_calls : PySem.W.nsIn K mainGlobals "read_calls" = some (some (.ref f_read_calls)))
    (l_read_calls : K.lookup f_read_calls = some ⟨oc_read_calls, od_read_calls, .func (PySem.W.fnOf "read_calls" "read_calls" (defArgs s_read_calls) (defBody s_read_calls) (defScope s_read_calls) .none kV_read_calls dc_read_calls pm_read_calls an_read_calls cd_read_calls ct_read_calls), sl_read_calls⟩)
    (c_read_calls : PySem.W.codeIn K cd_read_calls "read_calls" = true)
    (k_read_calls : PySem.W.keepIn K (.ref f_read_calls) = true)
    (a_slot_answer : PySem.W.nsIn K mainGlobals "slot_answer" = some (some (.ref f_slot_answer)))
    (l_slot_answer : K.lookup f_slot_answer = some ⟨oc_slot_answer, od_slot_answer, .func (PySem.W.fnOf "slot_answer" "slot_answer" (defArgs s_slot_answer) (defBody s_slot_answer) (defScope s_slot_answer) .none kV_slot_answer dc_slot_answer pm_slot_answer an_slot_answer cd_slot_answer ct_slot_answer), sl_slot_answer⟩)
    (c_slot_answer : PySem.W.codeIn K cd_slot_answer "slot_answer" = true)
    (k_slot_answer : PySem.W.keepIn K (.ref f_slot_answer) = true)
    (a_call_answer : PySem.W.nsIn K mainGlobals "call_answer" = some (some (.ref f_call_answer)))
    (l_call_answer : K.lookup f_call_answer = some ⟨oc_call_answer, od_call_answer, .func (PySem.W.fnOf "call_answer" "call_answer" (defArgs s_call_answer) (defBody s_call_answer) (defScope s_call_answer) .none kV_call_answer dc_call_answer pm_call_answer an_call_answer cd_call_answer ct_call_answer), sl_call_answer⟩)
    (c_call_answer : PySem.W.codeIn K cd_call_answer "call_answer" = true)
    (k_call_answer : PySem.W.keepIn K (.ref f_call_answer) = true)
    (a_answers : PySem.W.nsIn K mainGlobals "answers" = some (some (.ref f_answers)))
    (l_answers : K.lookup f_answers = some ⟨oc_answers, od_answers, .func (PySem.W.fnOf "answers" "answers" (defArgs s_answers) (defBody s_answers) (defScope s_answers) .none kV_answers dc_answers pm_answers an_answers cd_answers ct_answers), sl_answers⟩)
    (c_answers : PySem.W.codeIn K cd_answers "answers" = true)
    (k_answers : PySem.W.keepIn K (.ref f_answers) = true)
    (pgCA : PySem.W.plainGet K CA Str.empty = true)
    (hdCA : PySem.W.hasDictIn K CA = true)
    (poCA : PySem.W.plainOver K CA = true)
    (saCA : PySem.W.findIn K (.ref CA) "__setattr__" = some (some (.builtin "object.__setattr__")))
    (mkCA : PySem.W.makesIn K CA = true)
    (kcCA : PySem.W.keepIn K (.ref CA) = true)
    (pgCM : PySem.W.plainGet K CM Str.empty = true)
    (hdCM : PySem.W.hasDictIn K CM = true)
    (poCM : PySem.W.plainOver K CM = true)
    (saCM : PySem.W.findIn K (.ref CM) "__setattr__" = some (some (.builtin "object.__setattr__")))
    (mkCM : PySem.W.makesIn K CM = true)
    (kcCM : PySem.W.keepIn K (.ref CM) = true)
    (n_medium : PySem.W.findIn K (.ref CA) "medium" = some none)
    (n_script : PySem.W.findIn K (.ref CA) "script" = some none)
    (n_taken : PySem.W.findIn K (.ref CA) "taken" = some none)
    (n_many : PySem.W.findIn K (.ref CA) "many" = some none)
    (n_asked : PySem.W.findIn K (.ref CA) "asked" = some none)
    (n_front : PySem.W.findIn K (.ref CM) "front" = some none)
    (n_pages : PySem.W.findIn K (.ref CM) "pages" = some none)
    (z_len : PySem.W.nsIn K mainGlobals "len" = some none)
    (z_range : PySem.W.nsIn K mainGlobals "range" = some none)
    (z_list : PySem.W.nsIn K mainGlobals "list" = some none)
    (g_KEY_BYTES : PySem.W.nsIn K mainGlobals "KEY_BYTES" = some (some (.int 32 t_KEY_BYTES)))
    (g_PAGE_BYTES : PySem.W.nsIn K mainGlobals "PAGE_BYTES" = some (some (.int 96 t_PAGE_BYTES)))
    (g_FRONT_BYTES : PySem.W.nsIn K mainGlobals "FRONT_BYTES" = some (some (.int 40 t_FRONT_BYTES)))
    (g_DATA_BYTES : PySem.W.nsIn K mainGlobals "DATA_BYTES" = some (some (.int 64 t_DATA_BYTES)))
    (g_COPIES_AT : PySem.W.nsIn K mainGlobals "COPIES_AT" = some (some (.int 64 t_COPIES_AT)))
    (g_ROOT_KEY_AT : PySem.W.nsIn K mainGlobals "ROOT_KEY_AT" = some (some (.int 4 t_ROOT_KEY_AT)))
    (g_LAST_SLOT : PySem.W.nsIn K mainGlobals "LAST_SLOT" = some (some (.int 1023 t_LAST_SLOT)))
    (g_FIRST_LEAF : PySem.W.nsIn K mainGlobals "FIRST_LEAF" = some (some (.int 1024 t_FIRST_LEAF)))
    (g_LEVELS : PySem.W.nsIn K mainGlobals "LEVELS" = some (some (.int 11 t_LEVELS)))
    (g_LAST_COPY : PySem.W.nsIn K mainGlobals "LAST_COPY" = some (some (.int 2 t_LAST_COPY)))
    (g_GONE_WRONG : PySem.W.nsIn K mainGlobals "GONE_WRONG" = some (some (.int (-71) t_GONE_WRONG)))
    (g_NO_SLOT : PySem.W.nsIn K mainGlobals "NO_SLOT" = some (some (.int (-22) t_NO_SLOT)))
    (g_NOT_THERE : PySem.W.nsIn K mainGlobals "NOT_THERE" = some (some (.int (-2) t_NOT_THERE)))
    (g_PAGES : PySem.W.nsIn K mainGlobals "PAGES" = some (some (.int 4096 t_PAGES)))
    (g_CLEAR : PySem.W.nsIn K mainGlobals "CLEAR" = some (some (.int 0 t_CLEAR)))
    (g_PUT : PySem.W.nsIn K mainGlobals "PUT" = some (some (.int 1 t_PUT)))
    (g_GET : PySem.W.nsIn K mainGlobals "GET" = some (some (.int 2 t_GET)))
    (g_FORGET : PySem.W.nsIn K mainGlobals "FORGET" = some (some (.int 3 t_FORGET)))
    (g_SET_FRONT : PySem.W.nsIn K mainGlobals "SET_FRONT" = some (some (.int 4 t_SET_FRONT)))
    (g_SET_PAGE : PySem.W.nsIn K mainGlobals "SET_PAGE" = some (some (.int 5 t_SET_PAGE)))
    : ∃ fd : FuncData, (∀ (s : Shared) (us : List Value), us.length = (["calls"] : List Str).length → BindsTo s fd ⟨us, []⟩ ((["calls"] : List Str).zip us)) ∧ ∀ base : Heap, K.In base → base.Ns mainGlobals mg → FnOk P w K mg base CX0 8 fa fd ["calls"] (sp_answers K 0 0) := by
  have e := hfa.symm.trans (PySem.W.mg_of X G a_answers)
  cases e
  have T : Txt K mg CA CM := ⟨⟨pgCA, hdCA, poCA, saCA⟩, ⟨pgCM, hdCM, poCM, saCM⟩, n_medium, n_script, n_taken, n_many, n_asked, n_front, n_pages, PySem.W.mg_none_of X G z_len, PySem.W.mg_none_of X G z_range, PySem.W.mg_none_of X G z_list, ⟨_, PySem.W.mg_of X G g_KEY_BYTES⟩, ⟨_, PySem.W.mg_of X G g_PAGE_BYTES⟩, ⟨_, PySem.W.mg_of X G g_FRONT_BYTES⟩, ⟨_, PySem.W.mg_of X G g_DATA_BYTES⟩, ⟨_, PySem.W.mg_of X G g_COPIES_AT⟩, ⟨_, PySem.W.mg_of X G g_ROOT_KEY_AT⟩, ⟨_, PySem.W.mg_of X G g_LAST_SLOT⟩, ⟨_, PySem.W.mg_of X G g_FIRST_LEAF⟩, ⟨_, PySem.W.mg_of X G g_LEVELS⟩, ⟨_, PySem.W.mg_of X G g_LAST_COPY⟩, ⟨_, PySem.W.mg_of X G g_GONE_WRONG⟩, ⟨_, PySem.W.mg_of X G g_NO_SLOT⟩, ⟨_, PySem.W.mg_of X G g_NOT_THERE⟩, ⟨_, PySem.W.mg_of X G g_PAGES⟩, ⟨_, PySem.W.mg_of X G g_CLEAR⟩, ⟨_, PySem.W.mg_of X G g_PUT⟩, ⟨_, PySem.W.mg_of X G g_GET⟩, ⟨_, PySem.W.mg_of X G g_FORGET⟩, ⟨_, PySem.W.mg_of X G g_SET_FRONT⟩, ⟨_, PySem.W.mg_of X G g_SET_PAGE⟩⟩
  have F_pad_of := fun_mk (st := s_pad_of) l_pad_of c_pad_of k_pad_of
  have b_pad_of := F_pad_of.binds (ps := ["key"]) fun _ _ _ _ _ _ us hl => match us, hl with | [_], _ => rfl
  have F_under_pad := fun_mk (st := s_under_pad) l_under_pad c_under_pad k_under_pad
  have b_under_pad := F_under_pad.binds (ps := ["content", "pad"]) fun _ _ _ _ _ _ us hl => match us, hl with | [_, _], _ => rfl
  have F_A_init := fun_mk (st := s_A_init) l_A_init c_A_init k_A_init
  have b_A_init := F_A_init.binds (ps := ["self", "medium", "script"]) fun _ _ _ _ _ _ us hl => match us, hl with | [_, _, _], _ => rfl
  have F_A_note := fun_mk (st := s_A_note) l_A_note c_A_note k_A_note
  have b_A_note := F_A_note.binds (ps := ["self", "numbers"]) fun _ _ _ _ _ _ us hl => match us, hl with | [_, _], _ => rfl
  have F_A_ask_front := fun_mk (st := s_A_ask_front) l_A_ask_front c_A_ask_front k_A_ask_front
  have b_A_ask_front := F_A_ask_front.binds (ps := ["self"]) fun _ _ _ _ _ _ us hl => match us, hl with | [_], _ => rfl
  have F_A_put_front := fun_mk (st := s_A_put_front) l_A_put_front c_A_put_front k_A_put_front
  have b_A_put_front := F_A_put_front.binds (ps := ["self", "content"]) fun _ _ _ _ _ _ us hl => match us, hl with | [_, _], _ => rfl
  have F_A_read_page := fun_mk (st := s_A_read_page) l_A_read_page c_A_read_page k_A_read_page
  have b_A_read_page := F_A_read_page.binds (ps := ["self", "page"]) fun _ _ _ _ _ _ us hl => match us, hl with | [_, _], _ => rfl
  have F_A_write_page := fun_mk (st := s_A_write_page) l_A_write_page c_A_write_page k_A_write_page
  have b_A_write_page := F_A_write_page.binds (ps := ["self", "page", "content"]) fun _ _ _ _ _ _ us hl => match us, hl with | [_, _, _], _ => rfl
  have F_A_new_key := fun_mk (st := s_A_new_key) l_A_new_key c_A_new_key k_A_new_key
  have b_A_new_key := F_A_new_key.binds (ps := ["self"]) fun _ _ _ _ _ _ us hl => match us, hl with | [_], _ => rfl
  have F_A_ask_pad := fun_mk (st := s_A_ask_pad) l_A_ask_pad c_A_ask_pad k_A_ask_pad
  have b_A_ask_pad := F_A_ask_pad.binds (ps := ["self", "key"]) fun _ _ _ _ _ _ us hl => match us, hl with | [_, _], _ => rfl
  have F_no_link := fun_mk (st := s_no_link) l_no_link c_no_link k_no_link
  have b_no_link := F_no_link.binds (ps := []) fun _ _ _ _ _ _ us hl => match us, hl with | [], _ => rfl
  have F_empty_front := fun_mk (st := s_empty_front) l_empty_front c_empty_front k_empty_front
  have b_empty_front := F_empty_front.binds (ps := []) fun _ _ _ _ _ _ us hl => match us, hl with | [], _ => rfl
  have F_empty_content := fun_mk (st := s_empty_content) l_empty_content c_empty_content k_empty_content
  have b_empty_content := F_empty_content.binds (ps := []) fun _ _ _ _ _ _ us hl => match us, hl with | [], _ => rfl
  have F_root_link := fun_mk (st := s_root_link) l_root_link c_root_link k_root_link
  have b_root_link := F_root_link.binds (ps := ["front"]) fun _ _ _ _ _ _ us hl => match us, hl with | [_], _ => rfl
  have F_front_with := fun_mk (st := s_front_with) l_front_with c_front_with k_front_with
  have b_front_with := F_front_with.binds (ps := ["link"]) fun _ _ _ _ _ _ us hl => match us, hl with | [_], _ => rfl
  have F_child_copy := fun_mk (st := s_child_copy) l_child_copy c_child_copy k_child_copy
  have b_child_copy := F_child_copy.binds (ps := ["content", "side"]) fun _ _ _ _ _ _ us hl => match us, hl with | [_, _], _ => rfl
  have F_child_link := fun_mk (st := s_child_link) l_child_link c_child_link k_child_link
  have b_child_link := F_child_link.binds (ps := ["content", "side"]) fun _ _ _ _ _ _ us hl => match us, hl with | [_, _], _ => rfl
  have F_content_of := fun_mk (st := s_content_of) l_content_of c_content_of k_content_of
  have b_content_of := F_content_of.binds (ps := ["left", "right"]) fun _ _ _ _ _ _ us hl => match us, hl with | [_, _], _ => rfl
  have F_with_child := fun_mk (st := s_with_child) l_with_child c_with_child k_with_child
  have b_with_child := F_with_child.binds (ps := ["content", "side", "link"]) fun _ _ _ _ _ _ us hl => match us, hl with | [_, _, _], _ => rfl
  have F_leaf_content := fun_mk (st := s_leaf_content) l_leaf_content c_leaf_content k_leaf_content
  have b_leaf_content := F_leaf_content.binds (ps := ["data"]) fun _ _ _ _ _ _ us hl => match us, hl with | [_], _ => rfl
  have F_leaf_data := fun_mk (st := s_leaf_data) l_leaf_data c_leaf_data k_leaf_data
  have b_leaf_data := F_leaf_data.binds (ps := ["content"]) fun _ _ _ _ _ _ us hl => match us, hl with | [_], _ => rfl
  have F_way_to := fun_mk (st := s_way_to) l_way_to c_way_to k_way_to
  have b_way_to := F_way_to.binds (ps := ["slot"]) fun _ _ _ _ _ _ us hl => match us, hl with | [_], _ => rfl
  have F_side_of := fun_mk (st := s_side_of) l_side_of c_side_of k_side_of
  have b_side_of := F_side_of.binds (ps := ["node"]) fun _ _ _ _ _ _ us hl => match us, hl with | [_], _ => rfl
  have F_page_of := fun_mk (st := s_page_of) l_page_of c_page_of k_page_of
  have b_page_of := F_page_of.binds (ps := ["node", "which"]) fun _ _ _ _ _ _ us hl => match us, hl with | [_, _], _ => rfl
  have F_other_copy := fun_mk (st := s_other_copy) l_other_copy c_other_copy k_other_copy
  have b_other_copy := F_other_copy.binds (ps := ["which"]) fun _ _ _ _ _ _ us hl => match us, hl with | [_], _ => rfl
  have F_read_node := fun_mk (st := s_read_node) l_read_node c_read_node k_read_node
  have b_read_node := F_read_node.binds (ps := ["asking", "node", "link"]) fun _ _ _ _ _ _ us hl => match us, hl with | [_, _, _], _ => rfl
  have F_copies_fit := fun_mk (st := s_copies_fit) l_copies_fit c_copies_fit k_copies_fit
  have b_copies_fit := F_copies_fit.binds (ps := ["content"]) fun _ _ _ _ _ _ us hl => match us, hl with | [_], _ => rfl
  have F_go_way := fun_mk (st := s_go_way) l_go_way c_go_way k_go_way
  have b_go_way := F_go_way.binds (ps := ["asking", "slot"]) fun _ _ _ _ _ _ us hl => match us, hl with | [_, _], _ => rfl
  have F_leaf_missing := fun_mk (st := s_leaf_missing) l_leaf_missing c_leaf_missing k_leaf_missing
  have b_leaf_missing := F_leaf_missing.binds (ps := ["links"]) fun _ _ _ _ _ _ us hl => match us, hl with | [_], _ => rfl
  have F_new_keys := fun_mk (st := s_new_keys) l_new_keys c_new_keys k_new_keys
  have b_new_keys := F_new_keys.binds (ps := ["asking", "many"]) fun _ _ _ _ _ _ us hl => match us, hl with | [_, _], _ => rfl
  have F_write_node := fun_mk (st := s_write_node) l_write_node c_write_node k_write_node
  have b_write_node := F_write_node.binds (ps := ["asking", "page", "key", "content"]) fun _ _ _ _ _ _ us hl => match us, hl with | [_, _, _, _], _ => rfl
  have F_renew := fun_mk (st := s_renew) l_renew c_renew k_renew
  have b_renew := F_renew.binds (ps := ["asking", "nodes", "way", "many", "lowest"]) fun _ _ _ _ _ _ us hl => match us, hl with | [_, _, _, _, _], _ => rfl
  have F_staying := fun_mk (st := s_staying) l_staying c_staying k_staying
  have b_staying := F_staying.binds (ps := ["nodes", "contents"]) fun _ _ _ _ _ _ us hl => match us, hl with | [_, _], _ => rfl
  have F_do_clear := fun_mk (st := s_do_clear) l_do_clear c_do_clear k_do_clear
  have b_do_clear := F_do_clear.binds (ps := ["asking"]) fun _ _ _ _ _ _ us hl => match us, hl with | [_], _ => rfl
  have F_do_get := fun_mk (st := s_do_get) l_do_get c_do_get k_do_get
  have b_do_get := F_do_get.binds (ps := ["asking", "slot"]) fun _ _ _ _ _ _ us hl => match us, hl with | [_, _], _ => rfl
  have F_do_put := fun_mk (st := s_do_put) l_do_put c_do_put k_do_put
  have b_do_put := F_do_put.binds (ps := ["asking", "slot", "data"]) fun _ _ _ _ _ _ us hl => match us, hl with | [_, _, _], _ => rfl
  have F_do_forget := fun_mk (st := s_do_forget) l_do_forget c_do_forget k_do_forget
  have b_do_forget := F_do_forget.binds (ps := ["asking", "slot"]) fun _ _ _ _ _ _ us hl => match us, hl with | [_, _], _ => rfl
  have F_M_init := fun_mk (st := s_M_init) l_M_init c_M_init k_M_init
  have b_M_init := F_M_init.binds (ps := ["self"]) fun _ _ _ _ _ _ us hl => match us, hl with | [_], _ => rfl
  have F_M_set_front := fun_mk (st := s_M_set_front) l_M_set_front c_M_set_front k_M_set_front
  have b_M_set_front := F_M_set_front.binds (ps := ["self", "content"]) fun _ _ _ _ _ _ us hl => match us, hl with | [_, _], _ => rfl
  have F_M_set_page := fun_mk (st := s_M_set_page) l_M_set_page c_M_set_page k_M_set_page
  have b_M_set_page := F_M_set_page.binds (ps := ["self", "page", "content"]) fun _ _ _ _ _ _ us hl => match us, hl with | [_, _, _], _ => rfl
  have F_row_at := fun_mk (st := s_row_at) l_row_at c_row_at k_row_at
  have b_row_at := F_row_at.binds (ps := ["calls", "at"]) fun _ _ _ _ _ _ us hl => match us, hl with | [_, _], _ => rfl
  have F_read_call := fun_mk (st := s_read_call) l_read_call c_read_call k_read_call
  have b_read_call := F_read_call.binds (ps := ["calls", "at"]) fun _ _ _ _ _ _ us hl => match us, hl with | [_, _], _ => rfl
  have F_read_calls := fun_mk (st := s_read_calls) l_read_calls c_read_calls k_read_calls
  have b_read_calls := F_read_calls.binds (ps := ["calls"]) fun _ _ _ _ _ _ us hl => match us, hl with | [_], _ => rfl
  have F_slot_answer := fun_mk (st := s_slot_answer) l_slot_answer c_slot_answer k_slot_answer
  have b_slot_answer := F_slot_answer.binds (ps := ["asking", "deed", "slot", "data"]) fun _ _ _ _ _ _ us hl => match us, hl with | [_, _, _, _], _ => rfl
  have F_call_answer := fun_mk (st := s_call_answer) l_call_answer c_call_answer k_call_answer
  have b_call_answer := F_call_answer.binds (ps := ["medium", "call"]) fun _ _ _ _ _ _ us hl => match us, hl with | [_, _], _ => rfl
  have F_answers := fun_mk (st := s_answers) l_answers c_answers k_answers
  have b_answers := F_answers.binds (ps := ["calls"]) fun _ _ _ _ _ _ us hl => match us, hl with | [_], _ => rfl
  refine ⟨PySem.W.fnOf "answers" "answers" (defArgs s_answers) (defBody s_answers) (defScope s_answers) .none kV_answers dc_answers pm_answers an_answers cd_answers ct_answers, fun s us hu => match us, hu with | [_], _ => .of_eq rfl, fun base _ _ => ?_⟩
  have C_pad_of : Cal P w K mg base "pad_of" 1 ["key"] (sp_pad_of K CA CM) := ⟨f_pad_of, _, ok_pad_of F_pad_of T , PySem.W.mg_of X G a_pad_of, k_pad_of, b_pad_of⟩
  have C_under_pad : Cal P w K mg base "under_pad" 1 ["content", "pad"] (sp_under_pad K CA CM) := ⟨f_under_pad, _, ok_under_pad F_under_pad T , PySem.W.mg_of X G a_under_pad, k_under_pad, b_under_pad⟩
  have C_A_init : CalI P w K mg base "Asking" CA 1 ["self", "medium", "script"] (sp_A_init K CA CM) := ⟨f_A_init, _, ok_A_init F_A_init T , ⟨mkCA, a_A_init, i_A_init, kcCA⟩, PySem.W.mg_of X G aCA, b_A_init⟩
  have C_A_note : CalM P w K mg base CA "note" 1 ["self", "numbers"] (sp_A_note K CA CM) := ⟨f_A_note, _, ok_A_note F_A_note T , ⟨a_A_note, i_A_note, k_A_note⟩, b_A_note⟩
  have C_no_link : Cal P w K mg base "no_link" 1 [] (sp_no_link K CA CM) := ⟨f_no_link, _, ok_no_link F_no_link T , PySem.W.mg_of X G a_no_link, k_no_link, b_no_link⟩
  have C_empty_front : Cal P w K mg base "empty_front" 1 [] (sp_empty_front K CA CM) := ⟨f_empty_front, _, ok_empty_front F_empty_front T , PySem.W.mg_of X G a_empty_front, k_empty_front, b_empty_front⟩
  have C_empty_content : Cal P w K mg base "empty_content" 1 [] (sp_empty_content K CA CM) := ⟨f_empty_content, _, ok_empty_content F_empty_content T , PySem.W.mg_of X G a_empty_content, k_empty_content, b_empty_content⟩
  have C_root_link : Cal P w K mg base "root_link" 1 ["front"] (sp_root_link K CA CM) := ⟨f_root_link, _, ok_root_link F_root_link T , PySem.W.mg_of X G a_root_link, k_root_link, b_root_link⟩
  have C_front_with : Cal P w K mg base "front_with" 1 ["link"] (sp_front_with K CA CM) := ⟨f_front_with, _, ok_front_with F_front_with T , PySem.W.mg_of X G a_front_with, k_front_with, b_front_with⟩
  have C_child_copy : Cal P w K mg base "child_copy" 1 ["content", "side"] (sp_child_copy K CA CM) := ⟨f_child_copy, _, ok_child_copy F_child_copy T , PySem.W.mg_of X G a_child_copy, k_child_copy, b_child_copy⟩
  have C_content_of : Cal P w K mg base "content_of" 1 ["left", "right"] (sp_content_of K CA CM) := ⟨f_content_of, _, ok_content_of F_content_of T , PySem.W.mg_of X G a_content_of, k_content_of, b_content_of⟩
  have C_leaf_content : Cal P w K mg base "leaf_content" 1 ["data"] (sp_leaf_content K CA CM) := ⟨f_leaf_content, _, ok_leaf_content F_leaf_content T , PySem.W.mg_of X G a_leaf_content, k_leaf_content, b_leaf_content⟩
  have C_leaf_data : Cal P w K mg base "leaf_data" 1 ["content"] (sp_leaf_data K CA CM) := ⟨f_leaf_data, _, ok_leaf_data F_leaf_data T , PySem.W.mg_of X G a_leaf_data, k_leaf_data, b_leaf_data⟩
  have C_way_to : Cal P w K mg base "way_to" 1 ["slot"] (sp_way_to K CA CM) := ⟨f_way_to, _, ok_way_to F_way_to T , PySem.W.mg_of X G a_way_to, k_way_to, b_way_to⟩
  have C_side_of : Cal P w K mg base "side_of" 1 ["node"] (sp_side_of K CA CM) := ⟨f_side_of, _, ok_side_of F_side_of T , PySem.W.mg_of X G a_side_of, k_side_of, b_side_of⟩
  have C_page_of : Cal P w K mg base "page_of" 1 ["node", "which"] (sp_page_of K CA CM) := ⟨f_page_of, _, ok_page_of F_page_of T , PySem.W.mg_of X G a_page_of, k_page_of, b_page_of⟩
  have C_other_copy : Cal P w K mg base "other_copy" 1 ["which"] (sp_other_copy K CA CM) := ⟨f_other_copy, _, ok_other_copy F_other_copy T , PySem.W.mg_of X G a_other_copy, k_other_copy, b_other_copy⟩
  have C_leaf_missing : Cal P w K mg base "leaf_missing" 1 ["links"] (sp_leaf_missing K CA CM) := ⟨f_leaf_missing, _, ok_leaf_missing F_leaf_missing T , PySem.W.mg_of X G a_leaf_missing, k_leaf_missing, b_leaf_missing⟩
  have C_M_set_front : CalM P w K mg base CM "set_front" 1 ["self", "content"] (sp_M_set_front K CA CM) := ⟨f_M_set_front, _, ok_M_set_front F_M_set_front T , ⟨a_M_set_front, i_M_set_front, k_M_set_front⟩, b_M_set_front⟩
  have C_M_set_page : CalM P w K mg base CM "set_page" 1 ["self", "page", "content"] (sp_M_set_page K CA CM) := ⟨f_M_set_page, _, ok_M_set_page F_M_set_page T , ⟨a_M_set_page, i_M_set_page, k_M_set_page⟩, b_M_set_page⟩
  have C_row_at : Cal P w K mg base "row_at" 1 ["calls", "at"] (sp_row_at K CA CM) := ⟨f_row_at, _, ok_row_at F_row_at T , PySem.W.mg_of X G a_row_at, k_row_at, b_row_at⟩
  have C_A_ask_front : CalM P w K mg base CA "ask_front" 2 ["self"] (sp_A_ask_front K CA CM) := ⟨f_A_ask_front, _, ok_A_ask_front F_A_ask_front T C_A_note, ⟨a_A_ask_front, i_A_ask_front, k_A_ask_front⟩, b_A_ask_front⟩
  have C_A_put_front : CalM P w K mg base CA "put_front" 2 ["self", "content"] (sp_A_put_front K CA CM) := ⟨f_A_put_front, _, ok_A_put_front F_A_put_front T C_A_note C_M_set_front, ⟨a_A_put_front, i_A_put_front, k_A_put_front⟩, b_A_put_front⟩
  have C_A_read_page : CalM P w K mg base CA "read_page" 2 ["self", "page"] (sp_A_read_page K CA CM) := ⟨f_A_read_page, _, ok_A_read_page F_A_read_page T C_A_note, ⟨a_A_read_page, i_A_read_page, k_A_read_page⟩, b_A_read_page⟩
  have C_A_write_page : CalM P w K mg base CA "write_page" 2 ["self", "page", "content"] (sp_A_write_page K CA CM) := ⟨f_A_write_page, _, ok_A_write_page F_A_write_page T C_A_note C_M_set_page, ⟨a_A_write_page, i_A_write_page, k_A_write_page⟩, b_A_write_page⟩
  have C_A_new_key : CalM P w K mg base CA "new_key" 2 ["self"] (sp_A_new_key K CA CM) := ⟨f_A_new_key, _, ok_A_new_key F_A_new_key T C_A_note, ⟨a_A_new_key, i_A_new_key, k_A_new_key⟩, b_A_new_key⟩
  have C_A_ask_pad : CalM P w K mg base CA "ask_pad" 2 ["self", "key"] (sp_A_ask_pad K CA CM) := ⟨f_A_ask_pad, _, ok_A_ask_pad F_A_ask_pad T C_A_note C_pad_of, ⟨a_A_ask_pad, i_A_ask_pad, k_A_ask_pad⟩, b_A_ask_pad⟩
  have C_child_link : Cal P w K mg base "child_link" 2 ["content", "side"] (sp_child_link K CA CM) := ⟨f_child_link, _, ok_child_link F_child_link T C_child_copy, PySem.W.mg_of X G a_child_link, k_child_link, b_child_link⟩
  have C_copies_fit : Cal P w K mg base "copies_fit" 2 ["content"] (sp_copies_fit K CA CM) := ⟨f_copies_fit, _, ok_copies_fit F_copies_fit T C_child_copy, PySem.W.mg_of X G a_copies_fit, k_copies_fit, b_copies_fit⟩
  have C_staying : Cal P w K mg base "staying" 2 ["nodes", "contents"] (sp_staying K CA CM) := ⟨f_staying, _, ok_staying F_staying T C_side_of C_child_copy, PySem.W.mg_of X G a_staying, k_staying, b_staying⟩
  have C_M_init : CalI P w K mg base "Medium" CM 2 ["self"] (sp_M_init K CA CM) := ⟨f_M_init, _, ok_M_init F_M_init T C_empty_front, ⟨mkCM, a_M_init, i_M_init, kcCM⟩, PySem.W.mg_of X G aCM, b_M_init⟩
  have C_read_call : Cal P w K mg base "read_call" 2 ["calls", "at"] (sp_read_call K CA CM) := ⟨f_read_call, _, ok_read_call F_read_call T C_row_at, PySem.W.mg_of X G a_read_call, k_read_call, b_read_call⟩
  have C_with_child : Cal P w K mg base "with_child" 3 ["content", "side", "link"] (sp_with_child K CA CM) := ⟨f_with_child, _, ok_with_child F_with_child T C_content_of C_child_link, PySem.W.mg_of X G a_with_child, k_with_child, b_with_child⟩
  have C_read_node : Cal P w K mg base "read_node" 3 ["asking", "node", "link"] (sp_read_node K CA CM) := ⟨f_read_node, _, ok_read_node F_read_node T C_A_read_page C_A_ask_pad C_under_pad C_page_of, PySem.W.mg_of X G a_read_node, k_read_node, b_read_node⟩
  have C_new_keys : Cal P w K mg base "new_keys" 3 ["asking", "many"] (sp_new_keys K CA CM) := ⟨f_new_keys, _, ok_new_keys F_new_keys T C_A_new_key, PySem.W.mg_of X G a_new_keys, k_new_keys, b_new_keys⟩
  have C_write_node : Cal P w K mg base "write_node" 3 ["asking", "page", "key", "content"] (sp_write_node K CA CM) := ⟨f_write_node, _, ok_write_node F_write_node T C_A_ask_pad C_A_write_page C_under_pad, PySem.W.mg_of X G a_write_node, k_write_node, b_write_node⟩
  have C_do_clear : Cal P w K mg base "do_clear" 3 ["asking"] (sp_do_clear K CA CM) := ⟨f_do_clear, _, ok_do_clear F_do_clear T C_A_put_front C_empty_front, PySem.W.mg_of X G a_do_clear, k_do_clear, b_do_clear⟩
  have C_read_calls : Cal P w K mg base "read_calls" 3 ["calls"] (sp_read_calls K CA CM) := ⟨f_read_calls, _, ok_read_calls F_read_calls T C_read_call, PySem.W.mg_of X G a_read_calls, k_read_calls, b_read_calls⟩
  have C_go_way : Cal P w K mg base "go_way" 4 ["asking", "slot"] (sp_go_way K CA CM) := ⟨f_go_way, _, ok_go_way F_go_way T C_way_to C_root_link C_A_ask_front C_read_node C_empty_content C_no_link C_copies_fit C_child_link C_side_of, PySem.W.mg_of X G a_go_way, k_go_way, b_go_way⟩
  have C_renew : Cal P w K mg base "renew" 4 ["asking", "nodes", "way", "many", "lowest"] (sp_renew K CA CM) := ⟨f_renew, _, ok_renew F_renew T C_new_keys C_A_put_front C_write_node C_front_with C_other_copy C_page_of C_with_child C_side_of, PySem.W.mg_of X G a_renew, k_renew, b_renew⟩
  have C_do_get : Cal P w K mg base "do_get" 5 ["asking", "slot"] (sp_do_get K CA CM) := ⟨f_do_get, _, ok_do_get F_do_get T C_go_way C_leaf_missing C_read_node C_way_to C_leaf_data, PySem.W.mg_of X G a_do_get, k_do_get, b_do_get⟩
  have C_do_put : Cal P w K mg base "do_put" 5 ["asking", "slot", "data"] (sp_do_put K CA CM) := ⟨f_do_put, _, ok_do_put F_do_put T C_go_way C_renew C_way_to C_leaf_content, PySem.W.mg_of X G a_do_put, k_do_put, b_do_put⟩
  have C_do_forget : Cal P w K mg base "do_forget" 5 ["asking", "slot"] (sp_do_forget K CA CM) := ⟨f_do_forget, _, ok_do_forget F_do_forget T C_go_way C_leaf_missing C_way_to C_staying C_with_child C_renew C_A_put_front C_side_of C_no_link C_empty_front, PySem.W.mg_of X G a_do_forget, k_do_forget, b_do_forget⟩
  have C_slot_answer : Cal P w K mg base "slot_answer" 6 ["asking", "deed", "slot", "data"] (sp_slot_answer K CA CM) := ⟨f_slot_answer, _, ok_slot_answer F_slot_answer T C_do_forget C_do_clear C_do_put C_do_get, PySem.W.mg_of X G a_slot_answer, k_slot_answer, b_slot_answer⟩
  have C_call_answer : Cal P w K mg base "call_answer" 7 ["medium", "call"] (sp_call_answer K CA CM) := ⟨f_call_answer, _, ok_call_answer F_call_answer T C_A_init C_slot_answer C_M_set_front C_M_set_page, PySem.W.mg_of X G a_call_answer, k_call_answer, b_call_answer⟩
  have R : FnOk P w K mg base CX0 8 fa (PySem.W.fnOf "answers" "answers" (defArgs s_answers) (defBody s_answers) (defScope s_answers) .none kV_answers dc_answers pm_answers an_answers cd_answers ct_answers) ["calls"] (sp_answers K CA CM) := ok_answers F_answers T C_M_init C_read_calls C_call_answer
  exact R
end SF

set_option Elab.async false
set_option linter.all false
set_option maxRecDepth 100000
set_option maxHeartbeats 8000000
/-! SfEnd: the statement. -/
open PySem PySem.W PyProof.Rows
set_option maxRecDepth 100000 in
set_option maxHeartbeats 0 in
theorem PySem.Challenge.cw_surelyforgotten_s01_answers_holds : PySem.Challenge.rw_surelyforgotten_s01_answers.Holds := by
  w_on; k_headS; (case hw => exact ⟨[.list [.int 0]], by decide +kernel, by decide +kernel⟩)
  k_fillS
  refine L2.walk_specK (r := PySem.Challenge.rw_surelyforgotten_s01_answers) (k := 8) (CX := L2.CX0) (ps := ["calls"]) (sp := fun K => SF.sp_answers K 0 0) (by decide +kernel) rfl rfl ⟨rfl, by decide, by decide⟩ (fun w h Y => PySem.W.kIn_of Y) ?F ?S (fun _ _ _ _ z => z)
  case F =>
    intro w mg fa h Y KX G hmg
    refine' SF.all_mk KX G hmg ?aCA ?aCM ?a_pad_of ?l_pad_of ?c_pad_of ?k_pad_of ?a_under_pad ?l_under_pad ?c_under_pad ?k_under_pad ?a_A_init ?i_A_init ?l_A_init ?c_A_init ?k_A_init ?a_A_note ?i_A_note ?l_A_note ?c_A_note ?k_A_note ?a_A_ask_front ?i_A_ask_front ?l_A_ask_front ?c_A_ask_front ?k_A_ask_front ?a_A_put_front ?i_A_put_front ?l_A_put_front ?c_A_put_front ?k_A_put_front ?a_A_read_page ?i_A_read_page ?l_A_read_page ?c_A_read_page ?k_A_read_page ?a_A_write_page ?i_A_write_page ?l_A_write_page ?c_A_write_page ?k_A_write_page ?a_A_new_key ?i_A_new_key ?l_A_new_key ?c_A_new_key ?k_A_new_key ?a_A_ask_pad ?i_A_ask_pad ?l_A_ask_pad ?c_A_ask_pad ?k_A_ask_pad ?a_no_link ?l_no_link ?c_no_link ?k_no_link ?a_empty_front ?l_empty_front ?c_empty_front ?k_empty_front ?a_empty_content ?l_empty_content ?c_empty_content ?k_empty_content ?a_root_link ?l_root_link ?c_root_link ?k_root_link ?a_front_with ?l_front_with ?c_front_with ?k_front_with ?a_child_copy ?l_child_copy ?c_child_copy ?k_child_copy ?a_child_link ?l_child_link ?c_child_link ?k_child_link ?a_content_of ?l_content_of ?c_content_of ?k_content_of ?a_with_child ?l_with_child ?c_with_child ?k_with_child ?a_leaf_content ?l_leaf_content ?c_leaf_content ?k_leaf_content ?a_leaf_data ?l_leaf_data ?c_leaf_data ?k_leaf_data ?a_way_to ?l_way_to ?c_way_to ?k_way_to ?a_side_of ?l_side_of ?c_side_of ?k_side_of ?a_page_of ?l_page_of ?c_page_of ?k_page_of ?a_other_copy ?l_other_copy ?c_other_copy ?k_other_copy ?a_read_node ?l_read_node ?c_read_node ?k_read_node ?a_copies_fit ?l_copies_fit ?c_copies_fit ?k_copies_fit ?a_go_way ?l_go_way ?c_go_way ?k_go_way ?a_leaf_missing ?l_leaf_missing ?c_leaf_missing ?k_leaf_missing ?a_new_keys ?l_new_keys ?c_new_keys ?k_new_keys ?a_write_node ?l_write_node ?c_write_node ?k_write_node ?a_renew ?l_renew ?c_renew ?k_renew ?a_staying ?l_staying ?c_staying ?k_staying ?a_do_clear ?l_do_clear ?c_do_clear ?k_do_clear ?a_do_get ?l_do_get ?c_do_get ?k_do_get ?a_do_put ?l_do_put ?c_do_put ?k_do_put ?a_do_forget ?l_do_forget ?c_do_forget ?k_do_forget ?a_M_init ?i_M_init ?l_M_init ?c_M_init ?k_M_init ?a_M_set_front ?i_M_set_front ?l_M_set_front ?c_M_set_front ?k_M_set_front ?a_M_set_page ?i_M_set_page ?l_M_set_page ?c_M_set_page ?k_M_set_page ?a_row_at ?l_row_at ?c_row_at ?k_row_at ?a_read_call ?l_read_call ?c_read_call ?k_read_call ?a_read_calls ?l_read_calls ?c_read_calls ?k_read_calls ?a_slot_answer ?l_slot_answer ?c_slot_answer ?k_slot_answer ?a_call_answer ?l_call_answer ?c_call_answer ?k_call_answer ?a_answers ?l_answers ?c_answers ?k_answers ?pgCA ?hdCA ?poCA ?saCA ?mkCA ?kcCA ?pgCM ?hdCM ?poCM ?saCM ?mkCM ?kcCM ?n_medium ?n_script ?n_taken ?n_many ?n_asked ?n_front ?n_pages ?z_len ?z_range ?z_list ?g_KEY_BYTES ?g_PAGE_BYTES ?g_FRONT_BYTES ?g_DATA_BYTES ?g_COPIES_AT ?g_ROOT_KEY_AT ?g_LAST_SLOT ?g_FIRST_LEAF ?g_LEVELS ?g_LAST_COPY ?g_GONE_WRONG ?g_NO_SLOT ?g_NOT_THERE ?g_PAGES ?g_CLEAR ?g_PUT ?g_GET ?g_FORGET ?g_SET_FRONT ?g_SET_PAGE
    (case aCA => k_is)
    (case aCM => k_is)
    (case a_pad_of => k_is)
    (case l_pad_of => k_is)
    (case c_pad_of => k_is)
    (case k_pad_of => k_is)
    (case a_under_pad => k_is)
    (case l_under_pad => k_is)
    (case c_under_pad => k_is)
    (case k_under_pad => k_is)
    (case a_A_init => k_is)
    (case i_A_init => k_is)
    (case l_A_init => k_is)
    (case c_A_init => k_is)
    (case k_A_init => k_is)
    (case a_A_note => k_is)
    (case i_A_note => k_is)
    (case l_A_note => k_is)
    (case c_A_note => k_is)
    (case k_A_note => k_is)
    (case a_A_ask_front => k_is)
    (case i_A_ask_front => k_is)
    (case l_A_ask_front => k_is)
    (case c_A_ask_front => k_is)
    (case k_A_ask_front => k_is)
    (case a_A_put_front => k_is)
    (case i_A_put_front => k_is)
    (case l_A_put_front => k_is)
    (case c_A_put_front => k_is)
    (case k_A_put_front => k_is)
    (case a_A_read_page => k_is)
    (case i_A_read_page => k_is)
    (case l_A_read_page => k_is)
    (case c_A_read_page => k_is)
    (case k_A_read_page => k_is)
    (case a_A_write_page => k_is)
    (case i_A_write_page => k_is)
    (case l_A_write_page => k_is)
    (case c_A_write_page => k_is)
    (case k_A_write_page => k_is)
    (case a_A_new_key => k_is)
    (case i_A_new_key => k_is)
    (case l_A_new_key => k_is)
    (case c_A_new_key => k_is)
    (case k_A_new_key => k_is)
    (case a_A_ask_pad => k_is)
    (case i_A_ask_pad => k_is)
    (case l_A_ask_pad => k_is)
    (case c_A_ask_pad => k_is)
    (case k_A_ask_pad => k_is)
    (case a_no_link => k_is)
    (case l_no_link => k_is)
    (case c_no_link => k_is)
    (case k_no_link => k_is)
    (case a_empty_front => k_is)
    (case l_empty_front => k_is)
    (case c_empty_front => k_is)
    (case k_empty_front => k_is)
    (case a_empty_content => k_is)
    (case l_empty_content => k_is)
    (case c_empty_content => k_is)
    (case k_empty_content => k_is)
    (case a_root_link => k_is)
    (case l_root_link => k_is)
    (case c_root_link => k_is)
    (case k_root_link => k_is)
    (case a_front_with => k_is)
    (case l_front_with => k_is)
    (case c_front_with => k_is)
    (case k_front_with => k_is)
    (case a_child_copy => k_is)
    (case l_child_copy => k_is)
    (case c_child_copy => k_is)
    (case k_child_copy => k_is)
    (case a_child_link => k_is)
    (case l_child_link => k_is)
    (case c_child_link => k_is)
    (case k_child_link => k_is)
    (case a_content_of => k_is)
    (case l_content_of => k_is)
    (case c_content_of => k_is)
    (case k_content_of => k_is)
    (case a_with_child => k_is)
    (case l_with_child => k_is)
    (case c_with_child => k_is)
    (case k_with_child => k_is)
    (case a_leaf_content => k_is)
    (case l_leaf_content => k_is)
    (case c_leaf_content => k_is)
    (case k_leaf_content => k_is)
    (case a_leaf_data => k_is)
    (case l_leaf_data => k_is)
    (case c_leaf_data => k_is)
    (case k_leaf_data => k_is)
    (case a_way_to => k_is)
    (case l_way_to => k_is)
    (case c_way_to => k_is)
    (case k_way_to => k_is)
    (case a_side_of => k_is)
    (case l_side_of => k_is)
    (case c_side_of => k_is)
    (case k_side_of => k_is)
    (case a_page_of => k_is)
    (case l_page_of => k_is)
    (case c_page_of => k_is)
    (case k_page_of => k_is)
    (case a_other_copy => k_is)
    (case l_other_copy => k_is)
    (case c_other_copy => k_is)
    (case k_other_copy => k_is)
    (case a_read_node => k_is)
    (case l_read_node => k_is)
    (case c_read_node => k_is)
    (case k_read_node => k_is)
    (case a_copies_fit => k_is)
    (case l_copies_fit => k_is)
    (case c_copies_fit => k_is)
    (case k_copies_fit => k_is)
    (case a_go_way => k_is)
    (case l_go_way => k_is)
    (case c_go_way => k_is)
    (case k_go_way => k_is)
    (case a_leaf_missing => k_is)
    (case l_leaf_missing => k_is)
    (case c_leaf_missing => k_is)
    (case k_leaf_missing => k_is)
    (case a_new_keys => k_is)
    (case l_new_keys => k_is)
    (case c_new_keys => k_is)
    (case k_new_keys => k_is)
    (case a_write_node => k_is)
    (case l_write_node => k_is)
    (case c_write_node => k_is)
    (case k_write_node => k_is)
    (case a_renew => k_is)
    (case l_renew => k_is)
    (case c_renew => k_is)
    (case k_renew => k_is)
    (case a_staying => k_is)
    (case l_staying => k_is)
    (case c_staying => k_is)
    (case k_staying => k_is)
    (case a_do_clear => k_is)
    (case l_do_clear => k_is)
    (case c_do_clear => k_is)
    (case k_do_clear => k_is)
    (case a_do_get => k_is)
    (case l_do_get => k_is)
    (case c_do_get => k_is)
    (case k_do_get => k_is)
    (case a_do_put => k_is)
    (case l_do_put => k_is)
    (case c_do_put => k_is)
    (case k_do_put => k_is)
    (case a_do_forget => k_is)
    (case l_do_forget => k_is)
    (case c_do_forget => k_is)
    (case k_do_forget => k_is)
    (case a_M_init => k_is)
    (case i_M_init => k_is)
    (case l_M_init => k_is)
    (case c_M_init => k_is)
    (case k_M_init => k_is)
    (case a_M_set_front => k_is)
    (case i_M_set_front => k_is)
    (case l_M_set_front => k_is)
    (case c_M_set_front => k_is)
    (case k_M_set_front => k_is)
    (case a_M_set_page => k_is)
    (case i_M_set_page => k_is)
    (case l_M_set_page => k_is)
    (case c_M_set_page => k_is)
    (case k_M_set_page => k_is)
    (case a_row_at => k_is)
    (case l_row_at => k_is)
    (case c_row_at => k_is)
    (case k_row_at => k_is)
    (case a_read_call => k_is)
    (case l_read_call => k_is)
    (case c_read_call => k_is)
    (case k_read_call => k_is)
    (case a_read_calls => k_is)
    (case l_read_calls => k_is)
    (case c_read_calls => k_is)
    (case k_read_calls => k_is)
    (case a_slot_answer => k_is)
    (case l_slot_answer => k_is)
    (case c_slot_answer => k_is)
    (case k_slot_answer => k_is)
    (case a_call_answer => k_is)
    (case l_call_answer => k_is)
    (case c_call_answer => k_is)
    (case k_call_answer => k_is)
    (case a_answers => k_is)
    (case l_answers => k_is)
    (case c_answers => k_is)
    (case k_answers => k_is)
    (case pgCA => k_is)
    (case hdCA => k_is)
    (case poCA => k_is)
    (case saCA => k_is)
    (case mkCA => k_is)
    (case kcCA => k_is)
    (case pgCM => k_is)
    (case hdCM => k_is)
    (case poCM => k_is)
    (case saCM => k_is)
    (case mkCM => k_is)
    (case kcCM => k_is)
    (case n_medium => k_is)
    (case n_script => k_is)
    (case n_taken => k_is)
    (case n_many => k_is)
    (case n_asked => k_is)
    (case n_front => k_is)
    (case n_pages => k_is)
    (case z_len => k_is)
    (case z_range => k_is)
    (case z_list => k_is)
    (case g_KEY_BYTES => k_is)
    (case g_PAGE_BYTES => k_is)
    (case g_FRONT_BYTES => k_is)
    (case g_DATA_BYTES => k_is)
    (case g_COPIES_AT => k_is)
    (case g_ROOT_KEY_AT => k_is)
    (case g_LAST_SLOT => k_is)
    (case g_FIRST_LEAF => k_is)
    (case g_LEVELS => k_is)
    (case g_LAST_COPY => k_is)
    (case g_GONE_WRONG => k_is)
    (case g_NO_SLOT => k_is)
    (case g_NOT_THERE => k_is)
    (case g_PAGES => k_is)
    (case g_CLEAR => k_is)
    (case g_PUT => k_is)
    (case g_GET => k_is)
    (case g_FORGET => k_is)
    (case g_SET_FRONT => k_is)
    (case g_SET_PAGE => k_is)
  case S =>
    intro K H xs a hO hwi hask hx
    cases hx with
    | cons h1 h2 =>
      cases h2
      cases h1 with
      | lst hs ha =>
        have e := L2.ints_dw a.1 _ ha
        subst e
        have q : ((Codec.inLen 0 31000 a.1 && a.1.all (Codec.inInt 0 4294967295)) && true) = true := hwi
        rw [Bool.and_eq_true, Bool.and_eq_true] at q
        exact ⟨_, a.1, rfl, hs, (Codec.inNat_iff.mp q.1.1).2, hask, fun H' p hp => .lst (L2.SqL.of hp) (L2.dw_ints _)⟩
